import PyProof.Rows.All
import Wide.All
import OpenK.AllK
import Wide.FinOn
import HandS.ForMost
import HandS.Conv
import HandS.More
import HandS.Style
import KE.Datum
import KE.DatumMore
import KE.DatumOrd
import KE.SortData
import HandS.TupAny
import HandS.SortInts
import KE.KDictPairs
import KE.KDictCopyH
import PyProof.ReprLen
import HandS.Star
import HandS.IsInst
import HandS.TupLen
import KE.GoesEnum
import KE.KDictDisplayH
import HandS.Strs
import HandS.ForExc
import HandS.TryOnly
import HandS.WordsExc
import HandS.TupMul
import HandS.TupLe
import KE.KRevSl
import HandS.SetFor
import HandS.Text
import KE.GoesZip
import KE.GoesMore
import KE.GoesEnumKw
import HandS.Zip
import KE.DataFind
import PySem.Challenge.RW_shelledlots_k61_road_sums
import HandS.DictTup
import HandS.DictSubView0
set_option Elab.async false
set_option linter.all false
set_option maxRecDepth 100000
set_option maxHeartbeats 4000000
/-! DL: expressions and statements over plain data. A slot holds data (frozen), a list of one's own, or the source. -/
namespace DL
open PySem L2
abbrev D := PyData

/-! ### data in a frozen heap -/
/-- a dict whose keys are tuples of ints -/
def dctD (kvs : List (List Int × D)) : D := .dict (kvs.map fun p => (.tuple (p.1.map .int), p.2))
/-- a tuple whose object is known to have no dict of its own -/
def ft (ds : List D) : D := .dict [(.none, .tuple ds)]
mutual
inductive Rp (F : Hp) : V → D → Prop
  | non : Rp F V.non .none
  | bl (b) : Rp F (V.bl b) (.bool b)
  | int (i) : Rp F (V.int i) (PyData.int i)
  | str (x) : Rp F (V.str x) (PyData.str x)
  | tup {a xs ds} : F a = some (.tup xs) → RpA F xs ds → Rp F (V.ref a) (.tuple ds)
  | lst {a xs ds} : F a = some (.lst xs) → RpA F xs ds → Rp F (V.ref a) (.list ds)
  | dct {a ws kvs} : F a = some (.dT ws) → RpK F ws kvs → Rp F (V.ref a) (dctD kvs)
  | ftup {a o xs ds} : F a = some (.frz o (.tup xs)) → o.dict = none → RpA F xs ds → Rp F (V.ref a) (ft ds)
inductive RpA (F : Hp) : List V → List D → Prop
  | nil : RpA F [] []
  | cons {v d vs ds} : Rp F v d → RpA F vs ds → RpA F (v :: vs) (d :: ds)
inductive RpK (F : Hp) : List (List Key × V) → List (List Int × D) → Prop
  | nil : RpK F [] []
  | cons {k v d ws kvs} : Rp F v d → RpK F ws kvs → RpK F ((k.map Sum.inl, v) :: ws) ((k, d) :: kvs)
end
def Ex (H H' : Hp) : Prop := ∀ a o, H a = some o → H' a = some o
theorem Ex.refl (H : Hp) : Ex H H := fun _ _ h => h
theorem Ex.trans {H H1 H2 : Hp} (a : Ex H H1) (b : Ex H1 H2) : Ex H H2 := fun x o h => b x o (a x o h)
theorem Ex.new {H : Hp} {p : Addr} {o : HO} (h : H p = none) : Ex H (upd H p o) := fun a u e => by
  rw [upd_ne (ne_of_none e h)]
  exact e
theorem Ex.upd2 {F H : Hp} {p : Addr} {o : HO} (h : Ex F H) (n : F p = none) : Ex F (upd H p o) := fun a u e => by
  rw [upd_ne (ne_of_none e n)]
  exact h a u e
theorem Ex.back {H H' : Hp} {p : Addr} (e : Ex H H') (h : H' p = none) : H p = none := by
  cases h1 : H p with
  | none => rfl
  | some o =>
    rw [e p o h1] at h
    cases h
mutual
theorem Rp.ex {F F' : Hp} (k : Ex F F') : ∀ {v : V} {d : D}, Rp F v d → Rp F' v d
  | _, _, .non => .non
  | _, _, .bl b => .bl b
  | _, _, .int i => .int i
  | _, _, .str x => .str x
  | _, _, .tup h r => .tup (k _ _ h) (RpA.ex k r)
  | _, _, .lst h r => .lst (k _ _ h) (RpA.ex k r)
  | _, _, .dct h r => .dct (k _ _ h) (RpK.ex k r)
  | _, _, .ftup h n r => .ftup (k _ _ h) n (RpA.ex k r)
theorem RpA.ex {F F' : Hp} (k : Ex F F') : ∀ {vs : List V} {ds : List D}, RpA F vs ds → RpA F' vs ds
  | _, _, .nil => .nil
  | _, _, .cons r t => .cons (Rp.ex k r) (RpA.ex k t)
theorem RpK.ex {F F' : Hp} (k : Ex F F') : ∀ {vs : List (List Key × V)} {ds : List (List Int × D)}, RpK F vs ds → RpK F' vs ds
  | _, _, .nil => .nil
  | _, _, .cons r t => .cons (Rp.ex k r) (RpK.ex k t)
end
theorem RpA.length {F : Hp} : ∀ {vs : List V} {ds : List D}, RpA F vs ds → vs.length = ds.length
  | _, _, .nil => rfl
  | _, _, .cons _ t => by rw [List.length_cons, List.length_cons, RpA.length t]
theorem RpA.get {F : Hp} : ∀ {vs : List V} {ds : List D} {i : Nat} {v : V}, RpA F vs ds → vs[i]? = some v → ∃ d, ds[i]? = some d ∧ Rp F v d
  | _, _, _, _, .nil, e => by simp at e
  | _, _, 0, _, .cons r _, e => by simp at e; subst e; exact ⟨_, rfl, r⟩
  | _, _, i + 1, v, .cons _ t, e => by
    obtain ⟨d, h1, h2⟩ := RpA.get (i := i) (v := v) t (by simpa using e)
    exact ⟨d, by simpa using h1, h2⟩
theorem RpA.get' {F : Hp} : ∀ {vs : List V} {ds : List D} {i : Nat} {d : D}, RpA F vs ds → ds[i]? = some d → ∃ v, vs[i]? = some v ∧ Rp F v d
  | _, _, _, _, .nil, e => by simp at e
  | _, _, 0, _, .cons r _, e => by simp at e; subst e; exact ⟨_, rfl, r⟩
  | _, _, i + 1, v, .cons _ t, e => by
    obtain ⟨d, h1, h2⟩ := RpA.get' (i := i) (d := v) t (by simpa using e)
    exact ⟨d, by simpa using h1, h2⟩
theorem RpA.append {F : Hp} : ∀ {vs ws : List V} {ds es : List D}, RpA F vs ds → RpA F ws es → RpA F (vs ++ ws) (ds ++ es)
  | _, _, _, _, .nil, s => s
  | _, _, _, _, .cons r t, s => .cons r (RpA.append t s)
theorem RpA.take {F : Hp} : ∀ {vs : List V} {ds : List D} (n : Nat), RpA F vs ds → RpA F (vs.take n) (ds.take n)
  | _, _, 0, _ => .nil
  | _, _, _ + 1, .nil => .nil
  | _, _, n + 1, .cons r t => .cons r (RpA.take n t)
theorem RpA.drop {F : Hp} : ∀ {vs : List V} {ds : List D} (n : Nat), RpA F vs ds → RpA F (vs.drop n) (ds.drop n)
  | _, _, 0, r => r
  | _, _, _ + 1, .nil => .nil
  | _, _, n + 1, .cons _ t => RpA.drop n t
theorem RpA.set {F : Hp} {v : V} {d : D} (r : Rp F v d) : ∀ {vs : List V} {ds : List D} (n : Nat), RpA F vs ds → RpA F (vs.set n v) (ds.set n d)
  | _, _, _, .nil => .nil
  | _, _, 0, .cons _ t => .cons r t
  | _, _, n + 1, .cons q t => .cons q (RpA.set r n t)
theorem RpA.one {F : Hp} {v : V} {d : D} (r : Rp F v d) : RpA F [v] [d] := .cons r .nil
theorem RpA.erase {F : Hp} : ∀ {vs : List V} {ds : List D} (n : Nat), RpA F vs ds → RpA F (vs.eraseIdx n) (ds.eraseIdx n)
  | _, _, _, .nil => .nil
  | _, _, 0, .cons _ t => t
  | _, _, n + 1, .cons q t => .cons q (RpA.erase n t)
theorem RpA.ints {F : Hp} : ∀ (ns : List Int), RpA F (ns.map V.int) (ns.map PyData.int)
  | [] => .nil
  | n :: ns => .cons (.int n) (RpA.ints ns)
theorem RpA.ints_of {F : Hp} : ∀ {ns : List Int} {vs : List V}, RpA F vs (ns.map PyData.int) → vs = ns.map V.int
  | [], _, h => by cases h; rfl
  | n :: ns, _, h => by
    cases h with
    | cons r t =>
      cases r
      rw [RpA.ints_of t]; rfl
/- frozen data read in the machine heap -/
mutual
theorem Rp.reads {P : Program} {w : World} {F H : Hp} {h : Heap} (k : Ex F H) (ok : HOk P w H h) : ∀ {v : V} {d : D} {u : Value}, Rp F v d → RelV v u → d.plain = true → ∃ as, Reads h u d as
  | _, _, _, .non, e, _ => by cases e; exact ⟨_, .none⟩
  | _, _, _, .bl b, e, _ => by cases e; exact ⟨_, .bool b⟩
  | _, _, _, .int i, e, _ => by obtain ⟨t, rfl⟩ := e; exact ⟨_, .int i t⟩
  | _, _, _, .str x, e, _ => by obtain ⟨t, rfl⟩ := e; exact ⟨_, .str x t⟩
  | _, _, _, .tup q r, e, hp => by
    cases e
    obtain ⟨_, its, rv, o, ho, hc, n, hd⟩ := ok _ _ (k _ _ q)
    obtain ⟨as, hr⟩ := RpA.reads k ok r rv (by simpa only [PyData.plain] using hp)
    exact ⟨_, .tuple ho hc hd (by simpa using hr)⟩
  | _, _, _, .lst q r, e, hp => by
    cases e
    obtain ⟨_, its, n, rv, ho⟩ := ok _ _ (k _ _ q)
    obtain ⟨as, hr⟩ := RpA.reads k ok r rv (by simpa only [PyData.plain] using hp)
    exact ⟨_, .list ho rfl rfl (by simpa using hr)⟩
  | _, _, _, .dct q r, e, hp => by
    unfold dctD at hp
    simp only [PyData.plain] at hp
    cases hp
  | _, _, _, .ftup q n r, e, hp => by
    unfold ft at hp
    simp only [PyData.plain] at hp
    cases hp
theorem RpA.reads {P : Program} {w : World} {F H : Hp} {h : Heap} (k : Ex F H) (ok : HOk P w H h) : ∀ {vs : List V} {ds : List D} {us : List Value}, RpA F vs ds → Vals vs us → PyData.plainAll ds = true → ∃ as, ReadsAll h us ds as
  | _, _, _, .nil, e, _ => by cases e; exact ⟨_, .nil⟩
  | _, _, _, .cons r t, e, hp => by
    cases e with
    | cons e1 e2 =>
      rw [PyData.plainAll, Bool.and_eq_true] at hp
      obtain ⟨as, h1⟩ := Rp.reads k ok r e1 hp.1
      obtain ⟨bs, h2⟩ := RpA.reads k ok t e2 hp.2
      exact ⟨_, .cons h1 h2⟩
end

/-! ### contexts, slots -/
/-- B: what must stand as it stands; F0: what was frozen at the entry; sr: the source's dict and its list, where the def may turn it -/
structure C where
  B : Hp
  F0 : Hp
  sr : Option (Addr × Addr)
def SrcOk (H : Hp) (p : Addr × Addr) : Prop := ∃ (cells : List Int) (left mixed turn : Int),
  H p.1 = some (.dK [(.inr "cells", .ref p.2), (.inr "left", .int left), (.inr "mixed", .int mixed), (.inr "turn", .int turn)]) ∧ H p.2 = some (.lst (cells.map V.int))
structure Fin (c : C) (F H : Hp) : Prop where
  f0 : Ex c.F0 F
  fh : Ex F H
  bh : Ex c.B H
  bf : ∀ a o, c.B a = some o → F a = c.F0 a ∨ ∃ xs, o = .tup xs
  src : ∀ p, c.sr = some p → SrcOk H p ∧ F p.1 = none ∧ F p.2 = none ∧ c.B p.1 = none ∧ c.B p.2 = none
/-- what one may hold alone: a list, a dict with keys that are tuples of ints -/
inductive OB where
  | l (ds : List D)
  | d (kvs : List (List Int × D))
def OBR (F : Hp) : HO → OB → Prop
  | .lst vs, .l ds => RpA F vs ds
  | .dT ws, .d kvs => RpK F ws kvs
  | _, _ => False
def obD : OB → D
  | .l ds => .list ds
  | .d kvs => dctD kvs
theorem OBR.ex {F F' : Hp} (k : Ex F F') : ∀ {h : HO} {o : OB}, OBR F h o → OBR F' h o := fun {h o} r => by
  cases h <;> cases o <;> first
    | exact RpA.ex k (show RpA F _ _ from r)
    | exact RpK.ex k (show RpK F _ _ from r)
    | exact False.elim r
theorem OBR.rp {F : Hp} {a : Addr} {h : HO} {o : OB} (r : OBR F h o) (e : F a = some h) : Rp F (V.ref a) (obD o) := by
  cases h <;> cases o <;> first
    | exact .lst e (show RpA F _ _ from r)
    | exact .dct e (show RpK F _ _ from r)
    | exact False.elim r
theorem OBR.mut {F : Hp} {h : HO} {o : OB} (r : OBR F h o) : Mut (some h) := by
  cases h <;> cases o <;> first | exact True.intro | exact False.elim r
inductive Sl where
  | emp
  | val (d : D)
  | ob (o : OB)
  | src
  | rf (a : Addr)
abbrev Sl.own (ds : List D) : Sl := .ob (.l ds)
def SlR (c : C) (F H : Hp) : Option V → Sl → Prop
  | _, .emp => True
  | x, .val d => ∃ v, x = some v ∧ Rp F v d
  | x, .ob o => ∃ a h, x = some (.ref a) ∧ H a = some h ∧ OBR F h o ∧ F a = none ∧ c.B a = none ∧ ∀ p, c.sr = some p → a ≠ p.1 ∧ a ≠ p.2
  | x, .src => ∃ p, c.sr = some p ∧ x = some (.ref p.1)
  | x, .rf a => x = some (.ref a)
structure EvD (c : C) (S : List Sl) (F : Hp) (σ : St) (H : Hp) : Prop where
  fin : Fin c F H
  len : σ.length = S.length
  sl : ∀ (i : Nat) s, S[i]? = some s → ∃ x, σ[i]? = some x ∧ SlR c F H x s
  ds : ∀ (i j : Nat) xs ys a, S[i]? = some (.ob xs) → S[j]? = some (.ob ys) → σ[i]? = some (some (.ref a)) → σ[j]? = some (some (.ref a)) → i = j
theorem SrcOk.ex {H H' : Hp} {p : Addr × Addr} (k : Ex H H') (h : SrcOk H p) : SrcOk H' p := by
  obtain ⟨cs, l, m, t, h1, h2⟩ := h
  exact ⟨cs, l, m, t, k _ _ h1, k _ _ h2⟩
theorem SlR.ex {c : C} {F H F' H' : Hp} (kF : Ex F F') (kH : Ex H H') (kn : ∀ a o, H a = some o → F a = none → F' a = none) : ∀ {x : Option V} {s : Sl}, SlR c F H x s → SlR c F' H' x s
  | _, .emp, _ => trivial
  | _, .val d, ⟨v, e, r⟩ => ⟨v, e, r.ex kF⟩
  | _, .ob o, ⟨a, vs, e, h, r, n, b, q⟩ => ⟨a, vs, e, kH _ _ h, r.ex kF, kn _ _ h n, b, q⟩
  | _, .src, ⟨p, e, q⟩ => ⟨p, e, q⟩
  | _, .rf _, e => e
/-- nothing old changed: new frozen things, perhaps -/
theorem EvD.ex {c : C} {S : List Sl} {F F' : Hp} {σ : St} {H H' : Hp} (E : EvD c S F σ H) (kF : Ex F F') (kH : Ex H H') (fh : Ex F' H') (kn : ∀ a o, H a = some o → F a = none → F' a = none) : EvD c S F' σ H' := by
  refine ⟨⟨E.fin.f0.trans kF, fh, E.fin.bh.trans kH, fun a o e => ?_, fun p e => ?_⟩, E.len, fun i s e => ?_, E.ds⟩
  · have h1 := E.fin.bh a o e
    rcases E.fin.bf a o e with h2 | h2
    · refine .inl ?_
      cases q : F a with
      | some u =>
        rw [kF a u q, ← h2, q]
      | none => rw [kn a o h1 q, ← h2, q]
    · exact .inr h2
  · obtain ⟨s, n1, n2, b1, b2⟩ := E.fin.src p e
    obtain ⟨cs, l, m, t, h1, h2⟩ := id s
    exact ⟨s.ex kH, kn _ _ h1 n1, kn _ _ h2 n2, b1, b2⟩
  · obtain ⟨x, e1, r⟩ := E.sl i s e
    exact ⟨x, e1, r.ex kF kH kn⟩
/-- a new object is laid, not frozen -/
theorem EvD.laid {c : C} {S : List Sl} {F : Hp} {σ : St} {H : Hp} {p : Addr} {o : HO} (E : EvD c S F σ H) (n : H p = none) : EvD c S F σ (upd H p o) :=
  E.ex (Ex.refl F) (Ex.new n) (E.fin.fh.trans (Ex.new n)) fun _ _ _ h => h
/-- a new object is laid and frozen -/
theorem EvD.froz {c : C} {S : List Sl} {F : Hp} {σ : St} {H : Hp} {p : Addr} {o : HO} (E : EvD c S F σ H) (n : H p = none) : EvD c S (upd F p o) σ (upd H p o) := by
  have nF : F p = none := E.fin.fh.back n
  refine E.ex (Ex.new nF) (Ex.new n) (fun a u e => ?_) fun a u e h => ?_
  · by_cases q : a = p
    · subst q; rw [upd_same] at e ⊢; exact e
    · rw [upd_ne q] at e ⊢; exact E.fin.fh a u e
  · rw [upd_ne (ne_of_none e n)]; exact h
/-- an object of ours, in no slot, not of the source, is frozen as it stands -/
theorem EvD.freeze {c : C} {S : List Sl} {F : Hp} {σ : St} {H : Hp} {p : Addr} {o : HO} (E : EvD c S F σ H) (h : H p = some o) (n : F p = none) (b : c.B p = none) (ns : ∀ q, c.sr = some q → p ≠ q.1 ∧ p ≠ q.2)
    (no : ∀ (i : Nat) xs, S[i]? = some (.ob xs) → σ[i]? ≠ some (some (.ref p))) : EvD c S (upd F p o) σ H := by
  have fh : Ex (upd F p o) H := fun a u e => by
    by_cases q : a = p
    · subst q; rw [upd_same] at e; cases e; exact h
    · rw [upd_ne q] at e; exact E.fin.fh a u e
  refine ⟨⟨E.fin.f0.trans (Ex.new n), fh, E.fin.bh, fun a u e => ?_, fun q e => ?_⟩, E.len, fun i s e => ?_, E.ds⟩
  · have hne : a ≠ p := ne_of_none e b
    rw [upd_ne hne]; exact E.fin.bf a u e
  · obtain ⟨s, n1, n2, b1, b2⟩ := E.fin.src q e
    obtain ⟨m1, m2⟩ := ns q e
    exact ⟨s, by rw [upd_ne m1.symm]; exact n1, by rw [upd_ne m2.symm]; exact n2, b1, b2⟩
  · obtain ⟨x, e1, r⟩ := E.sl i s e
    refine ⟨x, e1, ?_⟩
    cases s with
    | emp => trivial
    | val d =>
      obtain ⟨v, e2, r⟩ := r
      exact ⟨v, e2, r.ex (Ex.new n)⟩
    | src => exact r
    | rf _ => exact r
    | ob o' =>
      obtain ⟨a, vs, e2, h1, r1, n1, b1, q1⟩ := r
      subst e2
      have hne : a ≠ p := fun z => no i _ e (by rw [e1, z])
      exact ⟨a, vs, rfl, h1, r1.ex (Ex.new n), by rw [upd_ne hne]; exact n1, b1, q1⟩
theorem not_mut_tup {xs : List V} : ¬ Mut (some (.tup xs)) := fun h => h
/-- a tuple that stands is frozen -/
theorem EvD.freezeT {c : C} {S : List Sl} {F : Hp} {σ : St} {H : Hp} {p : Addr} {xs : List V} (E : EvD c S F σ H) (h : H p = some (.tup xs)) (n : F p = none) : EvD c S (upd F p (.tup xs)) σ H := by
  have fh : Ex (upd F p (.tup xs)) H := fun a u e => by
    by_cases q : a = p
    · subst q; rw [upd_same] at e; cases e; exact h
    · rw [upd_ne q] at e; exact E.fin.fh a u e
  refine ⟨⟨E.fin.f0.trans (Ex.new n), fh, E.fin.bh, fun a u e => ?_, fun q e => ?_⟩, E.len, fun i s e => ?_, E.ds⟩
  · by_cases hne : a = p
    · subst hne
      have h2 := E.fin.bh a u e
      rw [h] at h2
      cases h2
      exact .inr ⟨_, rfl⟩
    · rw [upd_ne hne]; exact E.fin.bf a u e
  · obtain ⟨s, n1, n2, b1, b2⟩ := E.fin.src q e
    obtain ⟨cs, l, m, t, h1, h2⟩ := id s
    have m1 : p ≠ q.1 := ne_of h h1 (fun z => nomatch z)
    have m2 : p ≠ q.2 := ne_of h h2 (fun z => nomatch z)
    exact ⟨s, by rw [upd_ne m1.symm]; exact n1, by rw [upd_ne m2.symm]; exact n2, b1, b2⟩
  · obtain ⟨x, e1, r⟩ := E.sl i s e
    refine ⟨x, e1, ?_⟩
    cases s with
    | emp => trivial
    | val d =>
      obtain ⟨v, e2, r⟩ := r
      exact ⟨v, e2, r.ex (Ex.new n)⟩
    | src => exact r
    | rf _ => exact r
    | ob o' =>
      obtain ⟨a, vs, e2, h1, r1, n1, b1, q1⟩ := r
      subst e2
      have hne : a ≠ p := fun z => by
        have m := r1.mut
        rw [z, h] at h1
        cases h1
        exact m
      exact ⟨a, vs, rfl, h1, r1.ex (Ex.new n), by rw [upd_ne hne]; exact n1, b1, q1⟩
/-- a slot gets data -/
theorem EvD.set {c : C} {S : List Sl} {F : Hp} {σ : St} {H : Hp} {i : Nat} {v : V} {d : D} (E : EvD c S F σ H) (r : Rp F v d) : EvD c (S.set i (.val d)) F (σ.set i (some v)) H := by
  refine ⟨E.fin, by rw [List.length_set, List.length_set]; exact E.len, fun j s e => ?_, fun j k xs ys a e1 e2 e3 e4 => ?_⟩
  · by_cases hj : i = j
    · subst hj
      have hl : i < S.length := by
        have := (List.getElem?_eq_some_iff.mp e).1
        rw [List.length_set] at this; exact this
      rw [List.getElem?_set_self hl] at e
      cases e
      exact ⟨some v, List.getElem?_set_self (by rw [E.len]; exact hl), v, rfl, r⟩
    · rw [List.getElem?_set_ne hj] at e ⊢
      exact E.sl j s e
  · have hj : i ≠ j := fun z => by
      subst z
      have hl : i < S.length := by
        have := (List.getElem?_eq_some_iff.mp e1).1
        rw [List.length_set] at this; exact this
      rw [List.getElem?_set_self hl] at e1; cases e1
    have hk : i ≠ k := fun z => by
      subst z
      have hl : i < S.length := by
        have := (List.getElem?_eq_some_iff.mp e2).1
        rw [List.length_set] at this; exact this
      rw [List.getElem?_set_self hl] at e2; cases e2
    rw [List.getElem?_set_ne hj] at e1 e3
    rw [List.getElem?_set_ne hk] at e2 e4
    exact E.ds j k xs ys a e1 e2 e3 e4
/-- a slot gets a new list of its own -/
theorem EvD.setOwn {c : C} {S : List Sl} {F : Hp} {σ : St} {H : Hp} {i : Nat} {a : Addr} {vs : HO} {ds : OB} (E : EvD c S F σ H) (h : H a = some vs) (r : OBR F vs ds) (n : F a = none) (b : c.B a = none) (ns : ∀ p, c.sr = some p → a ≠ p.1 ∧ a ≠ p.2)
    (no : ∀ (j : Nat) xs, S[j]? = some (.ob xs) → σ[j]? ≠ some (some (.ref a))) : EvD c (S.set i (.ob ds)) F (σ.set i (some (.ref a))) H := by
  refine ⟨E.fin, by rw [List.length_set, List.length_set]; exact E.len, fun j s e => ?_, fun j k xs ys a' e1 e2 e3 e4 => ?_⟩
  · by_cases hj : i = j
    · subst hj
      have hl : i < S.length := by
        have := (List.getElem?_eq_some_iff.mp e).1
        rw [List.length_set] at this; exact this
      rw [List.getElem?_set_self hl] at e
      cases e
      exact ⟨some (.ref a), List.getElem?_set_self (by rw [E.len]; exact hl), a, vs, rfl, h, r, n, b, ns⟩
    · rw [List.getElem?_set_ne hj] at e ⊢
      exact E.sl j s e
  · by_cases hj : i = j
    · by_cases hk : i = k
      · rw [← hj, hk]
      · subst hj
        rw [List.getElem?_set_ne hk] at e2 e4
        have hl : i < σ.length := by
          have := (List.getElem?_eq_some_iff.mp e3).1
          rw [List.length_set] at this; exact this
        rw [List.getElem?_set_self hl] at e3
        cases e3
        exact absurd e4 (no k ys e2)
    · rw [List.getElem?_set_ne hj] at e1 e3
      by_cases hk : i = k
      · subst hk
        have hl : i < σ.length := by
          have := (List.getElem?_eq_some_iff.mp e4).1
          rw [List.length_set] at this; exact this
        rw [List.getElem?_set_self hl] at e4
        cases e4
        exact absurd e3 (no j xs e1)
      · rw [List.getElem?_set_ne hk] at e2 e4
        exact E.ds j k xs ys a' e1 e2 e3 e4
/-- the own list of a slot is written -/
theorem EvD.write {c : C} {S : List Sl} {F : Hp} {σ : St} {H : Hp} {i : Nat} {a : Addr} {xs ds : OB} {vs : HO} (E : EvD c S F σ H) (e : S[i]? = some (.ob xs)) (es : σ[i]? = some (some (.ref a))) (r : OBR F vs ds) :
    EvD c (S.set i (.ob ds)) F σ (upd H a vs) := by
  obtain ⟨x, e1, a', vs', e2, h, r', n, b, q⟩ := E.sl i _ e
  rw [es] at e1; cases e1; cases e2
  have hl : i < S.length := (List.getElem?_eq_some_iff.mp e).1
  refine ⟨⟨E.fin.f0, E.fin.fh.upd2 n, E.fin.bh.upd2 b, E.fin.bf, fun p ep => ?_⟩, by rw [List.length_set]; exact E.len, fun j s ej => ?_, fun j k xs' ys' a' e1 e2 e3 e4 => ?_⟩
  · obtain ⟨⟨cs, l, m, t, h1, h2⟩, n1, n2, b1, b2⟩ := E.fin.src p ep
    exact ⟨⟨cs, l, m, t, by rw [upd_ne (q p ep).1.symm]; exact h1, by rw [upd_ne (q p ep).2.symm]; exact h2⟩, n1, n2, b1, b2⟩
  · by_cases hj : i = j
    · subst hj
      rw [List.getElem?_set_self hl] at ej
      cases ej
      exact ⟨_, es, a, vs, rfl, upd_same, r, n, b, q⟩
    · rw [List.getElem?_set_ne hj] at ej
      obtain ⟨x, e1, rr⟩ := E.sl j s ej
      refine ⟨x, e1, ?_⟩
      cases s with
      | emp => trivial
      | val d => exact rr
      | src => exact rr
      | rf _ => exact rr
      | ob ds' =>
        obtain ⟨a2, vs2, e2, h2, r2, n2, b2, q2⟩ := rr
        subst e2
        have : a2 ≠ a := fun z => hj (E.ds i j _ _ a e ej es (by rw [e1, z]))
        exact ⟨a2, vs2, rfl, by rw [upd_ne this]; exact h2, r2, n2, b2, q2⟩
  · have own : ∀ {j : Nat} {ys : OB}, (S.set i (.ob ds))[j]? = some (.ob ys) → ∃ zs, S[j]? = some (.ob zs) := fun {j ys} z => by
      by_cases hj : i = j
      · subst hj; exact ⟨_, e⟩
      · rw [List.getElem?_set_ne hj] at z; exact ⟨_, z⟩
    obtain ⟨z1, f1⟩ := own e1
    obtain ⟨z2, f2⟩ := own e2
    exact E.ds j k _ _ _ f1 f2 e3 e4
/-- a slot's own list is frozen -/
theorem EvD.freezeAt {c : C} {S : List Sl} {F : Hp} {σ : St} {H : Hp} {i : Nat} {xs : OB} (E : EvD c S F σ H) (e : S[i]? = some (.ob xs)) : ∃ F' v, Ex F F' ∧ σ[i]? = some (some v) ∧ Rp F' v (obD xs) ∧ EvD c (S.set i (.val (obD xs))) F' σ H := by
  obtain ⟨x, e1, a, vs, e2, h, r, n, b, q⟩ := E.sl i _ e
  subst e2
  have hl : i < S.length := (List.getElem?_eq_some_iff.mp e).1
  have hemp : EvD c (S.set i .emp) F σ H := by
    refine ⟨E.fin, by rw [List.length_set]; exact E.len, fun j s ej => ?_, fun j k xs' ys' a' f1 f2 f3 f4 => ?_⟩
    · by_cases hj : i = j
      · subst hj
        rw [List.getElem?_set_self hl] at ej; cases ej
        exact ⟨_, e1, trivial⟩
      · rw [List.getElem?_set_ne hj] at ej; exact E.sl j s ej
    · have own : ∀ {j : Nat} {ys : OB}, (S.set i .emp)[j]? = some (.ob ys) → S[j]? = some (.ob ys) := fun {j ys} z => by
        by_cases hj : i = j
        · subst hj; rw [List.getElem?_set_self hl] at z; cases z
        · rw [List.getElem?_set_ne hj] at z; exact z
      exact E.ds j k _ _ _ (own f1) (own f2) f3 f4
  have hf : EvD c (S.set i .emp) (upd F a vs) σ H := hemp.freeze h n b (fun p ep => q p ep) fun j ys ej ea => ?_
  · refine ⟨upd F a vs, .ref a, Ex.new n, e1, (r.ex (Ex.new n)).rp upd_same, ?_⟩
    refine ⟨hf.fin, by rw [List.length_set]; exact E.len, fun j s ej => ?_, fun j k xs' ys' a' f1 f2 f3 f4 => ?_⟩
    · by_cases hj : i = j
      · subst hj
        rw [List.getElem?_set_self hl] at ej; cases ej
        exact ⟨_, e1, _, rfl, (r.ex (Ex.new n)).rp upd_same⟩
      · rw [List.getElem?_set_ne hj] at ej
        exact hf.sl j s (by rw [List.getElem?_set_ne hj]; exact ej)
    · have own : ∀ {j : Nat} {ys : OB}, (S.set i (.val (obD xs)))[j]? = some (.ob ys) → S[j]? = some (.ob ys) := fun {j ys} z => by
        by_cases hj : i = j
        · subst hj; rw [List.getElem?_set_self hl] at z; cases z
        · rw [List.getElem?_set_ne hj] at z; exact z
      exact E.ds j k _ _ _ (own f1) (own f2) f3 f4
  · by_cases hj : i = j
    · subst hj; rw [List.getElem?_set_self hl] at ej; cases ej
    · rw [List.getElem?_set_ne hj] at ej
      exact hj (E.ds i j _ _ a e ej e1 ea)
/-- a slot is forgotten -/
theorem EvD.wipe1 {c : C} {S : List Sl} {F : Hp} {σ : St} {H : Hp} {i : Nat} (E : EvD c S F σ H) : EvD c (S.set i .emp) F (σ.set i none) H := by
  have own : ∀ {j : Nat} {ys : OB}, (S.set i .emp)[j]? = some (.ob ys) → i ≠ j ∧ S[j]? = some (.ob ys) := fun {j ys} z => by
    by_cases hj : i = j
    · subst hj
      by_cases hl : i < S.length
      · rw [List.getElem?_set_self hl] at z; cases z
      · rw [List.getElem?_eq_none (by rw [List.length_set]; omega)] at z; cases z
    · rw [List.getElem?_set_ne hj] at z; exact ⟨hj, z⟩
  refine ⟨E.fin, by rw [List.length_set, List.length_set]; exact E.len, fun j s ej => ?_, fun j k xs' ys' a' f1 f2 f3 f4 => ?_⟩
  · by_cases hj : i = j
    · subst hj
      have hl : i < S.length := by
        have := (List.getElem?_eq_some_iff.mp ej).1
        rw [List.length_set] at this; exact this
      rw [List.getElem?_set_self hl] at ej; cases ej
      exact ⟨none, List.getElem?_set_self (by rw [E.len]; exact hl), trivial⟩
    · rw [List.getElem?_set_ne hj] at ej ⊢; exact E.sl j s ej
  · obtain ⟨n1, g1⟩ := own f1
    obtain ⟨n2, g2⟩ := own f2
    rw [List.getElem?_set_ne n1] at f3
    rw [List.getElem?_set_ne n2] at f4
    exact E.ds j k _ _ _ g1 g2 f3 f4
def wipeS (S : List Sl) : List Nat → List Sl
  | [] => S
  | v :: vs => (wipeS S vs).set v .emp
theorem EvD.wipe {c : C} {S : List Sl} {F : Hp} {σ : St} {H : Hp} (E : EvD c S F σ H) : ∀ vs : List Nat, EvD c (wipeS S vs) F (L2.wipe σ vs) H
  | [] => E
  | _ :: vs => (E.wipe vs).wipe1
end DL

/-! DL: judgements over slots, the rules that lead through. -/
namespace DL
open PySem L2

/-! ### the machine's own readings -/
section
variable {X : Cx}
def tE (X : Cx) (e : Expr) : TE := fun σ H Q => ∀ pins s, Inv X pins σ H s → wpAny (model X.prog X.w) X.A (eval e X.env) (EP X pins σ Q) X.xe s
def tT (X : Cx) (e : Expr) : TT := fun σ H Q => ∀ pins s, Inv X pins σ H s → wpAny (model X.prog X.w) X.A (isTrue e X.env (eval e X.env)) (TP X pins σ Q) X.xe s
def tA (X : Cx) (es : List Expr) : TA := fun σ H Q => ∀ pos pins s, Inv X pins σ H s → wpAny (model X.prog X.w) X.A (spliced (backTo pos (starEach es X.env))) (AP X pins σ Q) X.xe s
def tS (X : Cx) (st : Stmt) : TS := fun D σ H => ∀ pins s, Inv X pins σ H s → wpAny (model X.prog X.w) X.A (exec st X.env) (SP X pins D) X.xe s
def tSs (X : Cx) (st : List Stmt) : TS := fun D σ H => ∀ pins s, Inv X pins σ H s → wpAny (model X.prog X.w) X.A (execs st X.env) (SP X pins D) X.xe s
def tG (X : Cx) (target : Expr) : TG := fun v σ H Q => ∀ pins s u, Inv X pins σ H s → RelV v u → wpAny (model X.prog X.w) X.A (assign target X.env u) (fun _ s' => ∃ σ' H', Inv X pins σ' H' s' ∧ Q σ' H') X.xe s
def tI (X : Cx) (tg iter : Expr) : TI := fun σ H R => ∀ pins s, Inv X pins σ H s → wpAny (model X.prog X.w) X.A (eval iter X.env) (fun v s1 => wpAny (model X.prog X.w) X.A (pyIter v) (PIE X pins σ tg R) X.xe s1) X.xe s
theorem pe_tE {e : Expr} : PE X e (tE X e) := ⟨fun pins s _ _ _ I h => h pins s I⟩
theorem pt_tT {e : Expr} : PT X e (tT X e) := ⟨fun pins s _ _ _ I h => h pins s I⟩
theorem pa_tA {es : List Expr} : PA X es (tA X es) := ⟨fun pos pins s _ _ _ I h => h pos pins s I⟩
theorem ps_tS {st : Stmt} : PS X st (tS X st) := ⟨fun pins s _ _ _ I h => h pins s I⟩
theorem pss_tSs {st : List Stmt} : PSs X st (tSs X st) := ⟨fun pins s _ _ _ I h => h pins s I⟩
theorem pg_tG {tg : Expr} : PG X tg (tG X tg) := ⟨fun pins s _ _ _ u _ I r h => h pins s u I r⟩
theorem pi_tI {tg iter : Expr} : PI X tg iter (tI X tg iter) := ⟨fun pins s _ _ _ I h => h pins s I⟩
theorem of_pe {e : Expr} {t : TE} {σ : St} {H : Hp} {Q : VK} (h : PE X e t) (q : t σ H Q) : tE X e σ H Q := fun pins s I => h.run pins s σ H Q I q
theorem of_pt {e : Expr} {t : TT} {σ : St} {H : Hp} {Q : Bool → Hp → Prop} (h : PT X e t) (q : t σ H Q) : tT X e σ H Q := fun pins s I => h.run pins s σ H Q I q
theorem of_pa {es : List Expr} {t : TA} {σ : St} {H : Hp} {Q : List V → Hp → Prop} (h : PA X es t) (q : t σ H Q) : tA X es σ H Q := fun pos pins s I => h.run pos pins s σ H Q I q
theorem of_ps {st : Stmt} {t : TS} {σ : St} {H : Hp} {D : Ends} (h : PS X st t) (q : t D σ H) : tS X st D σ H := fun pins s I => h.run pins s σ H D I q
theorem of_pss {st : List Stmt} {t : TS} {σ : St} {H : Hp} {D : Ends} (h : PSs X st t) (q : t D σ H) : tSs X st D σ H := fun pins s I => h.run pins s σ H D I q
theorem of_pg {tg : Expr} {t : TG} {v : V} {σ : St} {H : Hp} {Q : St → Hp → Prop} (h : PG X tg t) (q : t v σ H Q) : tG X tg v σ H Q := fun pins s u I r => h.run pins s σ H v u Q I r q
theorem of_pi {tg iter : Expr} {t : TI} {σ : St} {H : Hp} {R : It → Hp → Prop} (h : PI X tg iter t) (q : t σ H R) : tI X tg iter σ H R := fun pins s I => h.run pins s σ H R I q
end

/-! ### judgements -/
inductive Ar where
  | d (d : D)
  | src
def ArR (c : C) (F : Hp) (v : V) : Ar → Prop
  | .d d => Rp F v d
  | .src => ∃ p, c.sr = some p ∧ v = .ref p.1
inductive ArA (c : C) (F : Hp) : List V → List Ar → Prop
  | nil : ArA c F [] []
  | cons {v a vs as} : ArR c F v a → ArA c F vs as → ArA c F (v :: vs) (a :: as)
theorem ArR.ex {c : C} {F F' : Hp} {v : V} (k : Ex F F') : ∀ {a : Ar}, ArR c F v a → ArR c F' v a
  | .d _, h => Rp.ex k h
  | .src, h => h
theorem ArA.ex {c : C} {F F' : Hp} (k : Ex F F') {vs : List V} {as : List Ar} (h : ArA c F vs as) : ArA c F' vs as := by
  induction h with
  | nil => exact .nil
  | cons r _ ih => exact .cons (r.ex k) ih
theorem ArA.length {c : C} {F : Hp} {vs : List V} {as : List Ar} (h : ArA c F vs as) : vs.length = as.length := by
  induction h with
  | nil => rfl
  | cons r _ ih => rw [List.length_cons, List.length_cons, ih]
theorem ArA.data {c : C} {F : Hp} : ∀ {vs : List V} {ds : List D}, ArA c F vs (ds.map Ar.d) → RpA F vs ds
  | _, [], h => by cases h; exact .nil
  | _, d :: ds, h => by
    cases h with
    | cons r t => exact .cons r (ArA.data t)

def C.hold (c : C) (Dl : Addr) (o : HO) : C := ⟨upd c.B Dl o, c.F0, c.sr⟩
/-- what is known of where a judgement stands; it holds of a part of it, too -/
structure SR where
  q : C → Prop
  st : ∀ c Dl o, c.B Dl = none → q c → q (c.hold Dl o)
/-- a def's own place, and parts of it -/
def srL (c0 : C) : SR := ⟨fun c => c.sr = c0.sr ∧ c.F0 = c0.F0 ∧ Ex c0.B c.B, fun c Dl o n ⟨a, b, e⟩ => ⟨a, b, e.trans (Ex.new n)⟩⟩
theorem srL_refl (c0 : C) : (srL c0).q c0 := ⟨rfl, rfl, Ex.refl _⟩
theorem srL_fin {c0 c : C} {F H : Hp} (h : (srL c0).q c) (f : Fin c F H) : Fin c0 F H := by
  obtain ⟨a, b, e⟩ := h
  refine ⟨by rw [← b]; exact f.f0, f.fh, e.trans f.bh, fun x o ex => ?_, fun p ep => ?_⟩
  · rw [← b]; exact f.bf x o (e x o ex)
  · obtain ⟨s, n1, n2, b1, b2⟩ := f.src p (a.trans ep)
    exact ⟨s, n1, n2, e.back b1, e.back b2⟩
/-- what follows a new list -/
def NewL (c : C) (S' : List Sl) (F' H' : Hp) (σ : St) (p : Addr) (o : OB) : Prop :=
  ∃ h, EvD c S' F' σ H' ∧ H' p = some h ∧ OBR F' h o ∧ F' p = none ∧ c.B p = none ∧ (∀ q, c.sr = some q → p ≠ q.1 ∧ p ≠ q.2) ∧ ∀ (j : Nat) xs, S'[j]? = some (.ob xs) → σ[j]? ≠ some (some (.ref p))
def JE (X : Cx) (r : SR) (e : Expr) (S : List Sl) (K : D → List Sl → Prop) : Prop :=
  ∀ (c : C) F σ H, r.q c → EvD c S F σ H → ∀ Q : VK, (∀ v d F' H' S', K d S' → EvD c S' F' σ H' → Ex F F' → Rp F' v d → Q v H') → tE X e σ H Q
/-- a new object -/
def JO (X : Cx) (r : SR) (e : Expr) (S : List Sl) (K : OB → List Sl → Prop) : Prop :=
  ∀ (c : C) F σ H, r.q c → EvD c S F σ H → ∀ Q : VK, (∀ p o F' H' S', K o S' → NewL c S' F' H' σ p o → Ex F F' → Q (.ref p) H') → tE X e σ H Q
def JN (X : Cx) (r : SR) (e : Expr) (S : List Sl) (K : List D → List Sl → Prop) : Prop :=
  ∀ (c : C) F σ H, r.q c → EvD c S F σ H → ∀ Q : VK, (∀ p ds F' H' S', K ds S' → NewL c S' F' H' σ p (.l ds) → Ex F F' → Q (.ref p) H') → tE X e σ H Q
def JT (X : Cx) (r : SR) (e : Expr) (S : List Sl) (K : Bool → List Sl → Prop) : Prop :=
  ∀ (c : C) F σ H, r.q c → EvD c S F σ H → ∀ Q : Bool → Hp → Prop, (∀ b F' H' S', K b S' → EvD c S' F' σ H' → Ex F F' → Q b H') → tT X e σ H Q
def JA (X : Cx) (r : SR) (es : List Expr) (S : List Sl) (K : List Ar → List Sl → Prop) : Prop :=
  ∀ (c : C) F σ H, r.q c → EvD c S F σ H → ∀ Q : List V → Hp → Prop, (∀ vs as F' H' S', K as S' → EvD c S' F' σ H' → Ex F F' → ArA c F' vs as → Q vs H') → tA X es σ H Q
structure DE where
  nx : List Sl → Prop
  rt : D → Prop
  bk : List Sl → Prop := fun _ => False
  ct : List Sl → Prop := fun _ => False
structure EndsR (c : C) (F : Hp) (E : DE) (G : Ends) : Prop where
  nx : ∀ F' σ' H' S', E.nx S' → EvD c S' F' σ' H' → Ex F F' → G.nx σ' H'
  rt : ∀ v d F' H', E.rt d → Fin c F' H' → Rp F' v d → G.rt v H'
  bk : ∀ F' σ' H' S', E.bk S' → EvD c S' F' σ' H' → Ex F F' → G.bk σ' H'
  ct : ∀ F' σ' H' S', E.ct S' → EvD c S' F' σ' H' → Ex F F' → G.ct σ' H'
def JS (X : Cx) (r : SR) (st : Stmt) (S : List Sl) (E : DE) : Prop :=
  ∀ (c : C) F σ H, r.q c → EvD c S F σ H → ∀ G : Ends, EndsR c F E G → tS X st G σ H
def JSs (X : Cx) (r : SR) (st : List Stmt) (S : List Sl) (E : DE) : Prop :=
  ∀ (c : C) F σ H, r.q c → EvD c S F σ H → ∀ G : Ends, EndsR c F E G → tSs X st G σ H
/-- a target; ts: the slots that it may store -/
def JG (X : Cx) (r : SR) (tg : Expr) (ts : List Nat) (d : D) (S : List Sl) (K : List Sl → Prop) : Prop :=
  ∀ (c : C) F σ H v, r.q c → EvD c S F σ H → Rp F v d → ∀ Q : St → Hp → Prop, (∀ F' σ' H' S', K S' → EvD c S' F' σ' H' → Ex F F' → (∀ j, j ∉ ts → σ'[j]? = σ[j]?) ∧ σ'.length = σ.length → Q σ' H') → tG X tg v σ H Q
/-- a walk over data -/
structure ItD (J : It) (B F : Hp) (ds : List D) : Prop where
  stop : ∀ i H, Ex B H → Ex F H → ds.length ≤ i → J.stop i H
  go : ∀ i H, Ex B H → Ex F H → i < ds.length → J.go i H
  yld : ∀ i H x H', Ex B H → Ex F H → J.yld i H x H' → i < ds.length → (H' = H ∧ ∃ d, ds[i]? = some d ∧ Rp F x d) ∨ (∃ T xs es, x = .ref T ∧ H T = none ∧ H' = upd H T (.tup xs) ∧ RpA F xs es ∧ ds[i]? = some (.tuple es)) ∨
    ∃ T xs es, x = .ref T ∧ H T = some (.tup xs) ∧ H' = H ∧ RpA F xs es ∧ ds[i]? = some (.tuple es)
/-- .. where it stands -/
def JIw (wi : TI) (c : C) (F : Hp) (σ : St) (H : Hp) (K : List D → List Sl → Prop) : Prop :=
  ∀ R : It → Hp → Prop, (∀ J ds F' H' S', K ds S' → EvD c S' F' σ H' → Ex F F' → ItD J c.B F' ds → R J H') → wi σ H R
def JI (X : Cx) (r : SR) (tg iter : Expr) (S : List Sl) (K : List D → List Sl → Prop) : Prop :=
  ∀ (c : C) F σ H, r.q c → EvD c S F σ H → ∀ R : It → Hp → Prop, (∀ J ds F' H' S', K ds S' → EvD c S' F' σ H' → Ex F F' → ItD J c.B F' ds → R J H') → tI X tg iter σ H R

section
variable {X : Cx} {r : SR} {S : List Sl}
theorem EndsR.ex {c : C} {F F' : Hp} {E : DE} {G : Ends} (h : EndsR c F E G) (k : Ex F F') : EndsR c F' E G :=
  ⟨fun _ _ _ _ a b e => h.nx _ _ _ _ a b (k.trans e), h.rt, fun _ _ _ _ a b e => h.bk _ _ _ _ a b (k.trans e), fun _ _ _ _ a b e => h.ct _ _ _ _ a b (k.trans e)⟩
theorem JE.mono {e : Expr} {K K' : D → List Sl → Prop} (h : JE X r e S K) (k : ∀ d S', K d S' → K' d S') : JE X r e S K' :=
  fun c F σ H hr E Q q => h c F σ H hr E Q fun v d F' H' S' a => q v d F' H' S' (k d S' a)
theorem JT.mono {e : Expr} {K K' : Bool → List Sl → Prop} (h : JT X r e S K) (k : ∀ d S', K d S' → K' d S') : JT X r e S K' :=
  fun c F σ H hr E Q q => h c F σ H hr E Q fun d F' H' S' a => q d F' H' S' (k d S' a)
theorem JN.mono {e : Expr} {K K' : List D → List Sl → Prop} (h : JN X r e S K) (k : ∀ d S', K d S' → K' d S') : JN X r e S K' :=
  fun c F σ H hr E Q q => h c F σ H hr E Q fun v d F' H' S' a => q v d F' H' S' (k d S' a)
theorem JSs.mono {st : List Stmt} {E E' : DE} (h : JSs X r st S E) (h1 : ∀ S, E.nx S → E'.nx S) (h2 : ∀ d, E.rt d → E'.rt d) (h3 : ∀ S, E.bk S → E'.bk S) (h4 : ∀ S, E.ct S → E'.ct S) : JSs X r st S E' :=
  fun c F σ H hr Ev G g => h c F σ H hr Ev G ⟨fun _ _ _ _ a => g.nx _ _ _ _ (h1 _ a), fun _ _ _ _ a => g.rt _ _ _ _ (h2 _ a), fun _ _ _ _ a => g.bk _ _ _ _ (h3 _ a), fun _ _ _ _ a => g.ct _ _ _ _ (h4 _ a)⟩

theorem JO.mono {e : Expr} {K K' : OB → List Sl → Prop} (h : JO X r e S K) (k : ∀ d S', K d S' → K' d S') : JO X r e S K' :=
  fun c F σ H hr E Q q => h c F σ H hr E Q fun v d F' H' S' a => q v d F' H' S' (k d S' a)
theorem JO.jn {e : Expr} {K : List D → List Sl → Prop} (h : JO X r e S fun o S' => ∃ ds, o = .l ds ∧ K ds S') : JN X r e S K :=
  fun c F σ H hr E Q q => h c F σ H hr E Q fun v d F' H' S' ⟨ds, e, a⟩ n k => by subst e; exact q v ds F' H' S' a n k
theorem JN.jo {e : Expr} {K : OB → List Sl → Prop} (h : JN X r e S fun ds S' => K (.l ds) S') : JO X r e S K :=
  fun c F σ H hr E Q q => h c F σ H hr E Q fun v ds F' H' S' a n k => q v _ F' H' S' a n k
/-- a new object is data like any other -/
theorem NewL.froz {c : C} {S' : List Sl} {F' H' : Hp} {σ : St} {p : Addr} {o : OB} (h : NewL c S' F' H' σ p o) : ∃ F2, EvD c S' F2 σ H' ∧ Ex F' F2 ∧ Rp F2 (.ref p) (obD o) := by
  obtain ⟨vs, E, hp, hv, n, b, q, no⟩ := h
  exact ⟨upd F' p vs, E.freeze hp n b q no, Ex.new n, (hv.ex (Ex.new n)).rp upd_same⟩
theorem JO.je {e : Expr} {K : D → List Sl → Prop} (h : JO X r e S (fun o S' => K (obD o) S')) : JE X r e S K :=
  fun c F σ H hr E Q q => h c F σ H hr E Q fun p ds F' H' S' a n k => by
    obtain ⟨F2, E2, k2, rp⟩ := n.froz
    exact q _ _ F2 H' S' a E2 (k.trans k2) rp
theorem JN.je {e : Expr} {K : D → List Sl → Prop} (h : JN X r e S (fun ds S' => K (.list ds) S')) : JE X r e S K := (JN.jo (K := fun o S' => K (obD o) S') h).je

/-! ### names, constants -/
theorem je_var {K : D → List Sl → Prop} {x : Str} {pos : Pos} (i : Nat) {d : D} (hN : X.N[i]? = some x) (hv : Vis X.env.scope x) (hd : (x == ("__debug__" : Str)) = false) (hcd : (x == ("__classdict__" : Str)) = false)
    (e : S[i]? = some (.val d)) (k : K d S) : JE X r (.Name x pos) S K := fun c F σ H hr E Q q => by
  obtain ⟨y, e1, v, e2, rp⟩ := E.sl i _ e
  subst e2
  exact of_pe (pe_var hN hv hd hcd) ⟨v, e1, q v d F H S k E (Ex.refl F) rp⟩
/-- an object of one's own, frozen by the reading -/
theorem je_own {K : D → List Sl → Prop} {x : Str} {pos : Pos} (i : Nat) {xs : OB} (hN : X.N[i]? = some x) (hv : Vis X.env.scope x) (hd : (x == ("__debug__" : Str)) = false) (hcd : (x == ("__classdict__" : Str)) = false)
    (e : S[i]? = some (.ob xs)) (k : K (obD xs) (S.set i (.val (obD xs)))) : JE X r (.Name x pos) S K := fun c F σ H hr E Q q => by
  obtain ⟨F', v, kF, e1, rp, E'⟩ := E.freezeAt e
  exact of_pe (pe_var hN hv hd hcd) ⟨v, e1, q v _ F' H _ k E' kF rp⟩
theorem je_int {K : D → List Sl → Prop} {i j pos} (k : K (.int i) S) : JE X r (.Constant (.int i) j pos) S K := fun c F σ H _ E Q q => of_pe pe_int (q _ _ F H S k E (Ex.refl F) (.int i))
theorem je_bl {K : D → List Sl → Prop} {i j pos} (k : K (.bool i) S) : JE X r (.Constant (.bool i) j pos) S K := fun c F σ H _ E Q q => of_pe pe_bl (q _ _ F H S k E (Ex.refl F) (.bl i))
theorem je_non {K : D → List Sl → Prop} {j pos} (k : K .none S) : JE X r (.Constant .none j pos) S K := fun c F σ H _ E Q q => of_pe pe_non (q _ _ F H S k E (Ex.refl F) .non)
theorem je_str {K : D → List Sl → Prop} {x j pos} (k : K (.str x) S) : JE X r (.Constant (.str x) j pos) S K := fun c F σ H _ E Q q => of_pe pe_str (q _ _ F H S k E (Ex.refl F) (.str x))

/-! ### operators -/
structure Grow (F H F' H' : Hp) : Prop where
  kF : Ex F F'
  kH : Ex H H'
  fh : Ex F' H'
  kn : ∀ a o, H a = some o → F a = none → F' a = none
theorem Grow.refl {F H : Hp} (k : Ex F H) : Grow F H F H := ⟨Ex.refl F, Ex.refl H, k, fun _ _ _ h => h⟩
theorem Grow.new {F H : Hp} (k : Ex F H) {p : Addr} {o : HO} (n : H p = none) : Grow F H (upd F p o) (upd H p o) := by
  have nF : F p = none := k.back n
  refine ⟨Ex.new nF, Ex.new n, fun a u e => ?_, fun a u e h => ?_⟩
  · by_cases q : a = p
    · subst q; rw [upd_same] at e ⊢; exact e
    · rw [upd_ne q] at e ⊢; exact k a u e
  · rw [upd_ne (ne_of_none e n)]; exact h
theorem EvD.grow {c : C} {F F' : Hp} {σ : St} {H H' : Hp} (E : EvD c S F σ H) (g : Grow F H F' H') : EvD c S F' σ H' := E.ex g.kF g.kH g.fh g.kn
/-- a two-place operation on data -/
def OpD (rr : R2) (d1 d2 : D) (K : D → Prop) : Prop :=
  ∀ F H v1 v2, Ex F H → Rp F v1 d1 → Rp F v2 d2 → ∀ Q : VK, (∀ v d F' H', K d → Grow F H F' H' → Rp F' v d → Q v H') → rr v1 v2 H Q
def UnD (rr : V → Hp → VK → Prop) (d1 : D) (K : D → Prop) : Prop :=
  ∀ F H v1, Ex F H → Rp F v1 d1 → ∀ Q : VK, (∀ v d F' H', K d → Grow F H F' H' → Rp F' v d → Q v H') → rr v1 H Q
def CallD (rr : List V → Hp → VK → Prop) (ds : List D) (K : D → Prop) : Prop :=
  ∀ F H vs, Ex F H → RpA F vs ds → ∀ Q : VK, (∀ v d F' H', K d → Grow F H F' H' → Rp F' v d → Q v H') → rr vs H Q
/-- a call that gives a new list -/
def CallN (rr : List V → Hp → VK → Prop) (ds : List D) (K : List D → Prop) : Prop :=
  ∀ F H vs, Ex F H → RpA F vs ds → ∀ Q : VK, (∀ p ws es, K es → H p = none → RpA F ws es → Q (.ref p) (upd H p (.lst ws))) → rr vs H Q
theorem je_op {K : D → List Sl → Prop} {a b : Expr} {op : Operator} {pos : Pos} {rr : R2} (ho : OpR X (binaryOp op) rr) (h : JE X r a S fun d1 S1 => JE X r b S1 fun d2 S2 => OpD rr d1 d2 fun d => K d S2) : JE X r (.BinOp a op b pos) S K :=
  fun c F σ H hr E Q q => of_pe (pe_op ho pe_tE pe_tE) (h c F σ H hr E _ fun v1 d1 F1 H1 S1 h1 E1 k1 r1 => h1 c F1 σ H1 hr E1 _ fun v2 d2 F2 H2 S2 h2 E2 k2 r2 =>
    h2 F2 H2 v1 v2 E2.fin.fh (r1.ex k2) r2 Q fun v d F3 H3 kd g rp => q v d F3 H3 S2 kd (E2.grow g) ((k1.trans k2).trans g.kF) rp)
theorem je_cmp {K : D → List Sl → Prop} {a b : Expr} {op : CmpOp} {pos : Pos} {rr : R2} (ho : OpR X (compareOp op) rr) (hm : behindInMarks op b = false) (h : JE X r a S fun d1 S1 => JE X r b S1 fun d2 S2 => OpD rr d1 d2 fun d => K d S2) : JE X r (.Compare a [op] [b] pos) S K :=
  fun c F σ H hr E Q q => of_pe (pe_cmpR ho pe_tE pe_tE hm) (h c F σ H hr E _ fun v1 d1 F1 H1 S1 h1 E1 k1 r1 => h1 c F1 σ H1 hr E1 _ fun v2 d2 F2 H2 S2 h2 E2 k2 r2 =>
    h2 F2 H2 v1 v2 E2.fin.fh (r1.ex k2) r2 Q fun v d F3 H3 kd g rp => q v d F3 H3 S2 kd (E2.grow g) ((k1.trans k2).trans g.kF) rp)
theorem je_ix {K : D → List Sl → Prop} {a b : Expr} {pos : Pos} {rr : R2} (ho : IxR X rr) (hs : PlainIx b) (h : JE X r a S fun d1 S1 => JE X r b S1 fun d2 S2 => OpD rr d1 d2 fun d => K d S2) : JE X r (.Subscript a b pos) S K :=
  fun c F σ H hr E Q q => of_pe (pe_ix ho pe_tE pe_tE hs) (h c F σ H hr E _ fun v1 d1 F1 H1 S1 h1 E1 k1 r1 => h1 c F1 σ H1 hr E1 _ fun v2 d2 F2 H2 S2 h2 E2 k2 r2 =>
    h2 F2 H2 v1 v2 E2.fin.fh (r1.ex k2) r2 Q fun v d F3 H3 kd g rp => q v d F3 H3 S2 kd (E2.grow g) ((k1.trans k2).trans g.kF) rp)
theorem je_un {K : D → List Sl → Prop} {a : Expr} {op : UnaryOp} {pos : Pos} {rr : V → Hp → VK → Prop} (ho : UnR X (unaryOp op) rr) (h : JE X r a S fun d1 S1 => UnD rr d1 fun d => K d S1) : JE X r (.UnaryOp op a pos) S K :=
  fun c F σ H hr E Q q => of_pe (pe_un ho pe_tE) (h c F σ H hr E _ fun v1 d1 F1 H1 S1 h1 E1 k1 r1 => h1 F1 H1 v1 E1.fin.fh r1 Q fun v d F3 H3 kd g rp => q v d F3 H3 S1 kd (E1.grow g) (k1.trans g.kF) rp)
/-- a test that is a value -/
theorem jt_val {K : Bool → List Sl → Prop} {e : Expr} (he : ∀ whole, isTrue e X.env whole = (do let v ← whole; standAt e.pos; holding [v] (truthy v))) (h : JE X r e S fun d S' => ∃ b, d = .bool b ∧ K b S') : JT X r e S K :=
  fun c F σ H hr E Q q => of_pt (pt_val pe_tE he) (h c F σ H hr E _ fun v d F1 H1 S1 h1 E1 k1 r1 => by
    obtain ⟨b, rfl, kb⟩ := h1
    cases r1
    exact ⟨b, rfl, q b F1 H1 S1 kb E1 k1⟩)
theorem jt_cmp {K : Bool → List Sl → Prop} {a b : Expr} {op : CmpOp} {pos : Pos} {rr : R2} (ho : OpR X (compareOp op) rr) (hm : behindInMarks op b = false) (h : JE X r a S fun d1 S1 => JE X r b S1 fun d2 S2 => OpD rr d1 d2 fun d => ∃ b, d = .bool b ∧ K b S2) : JT X r (.Compare a [op] [b] pos) S K :=
  fun c F σ H hr E Q q => of_pt (pt_cmpR ho pe_tE pe_tE hm) (h c F σ H hr E _ fun v1 d1 F1 H1 S1 h1 E1 k1 r1 => h1 c F1 σ H1 hr E1 _ fun v2 d2 F2 H2 S2 h2 E2 k2 r2 =>
    h2 F2 H2 v1 v2 E2.fin.fh (r1.ex k2) r2 _ fun v d F3 H3 kd g rp => by
      obtain ⟨b, rfl, kb⟩ := kd
      cases rp
      exact ⟨b, rfl, q b F3 H3 S2 kb (E2.grow g) ((k1.trans k2).trans g.kF)⟩)
/-- a < b < c -/
theorem je_chain {K : D → List Sl → Prop} {a b c' : Expr} {op op' : CmpOp} {pos : Pos} {rr rr' : R2} (ho : OpR X (compareOp op) rr) (ho' : OpR X (compareOp op') rr') (hp : PE X (.Compare a [op, op'] [b, c'] pos) (tChain rr rr' (tE X a) (tE X b) (tE X c')))
    (h : JE X r a S fun d1 S1 => JE X r b S1 fun d2 S2 => OpD rr d1 d2 fun d => ∃ k, d = .bool k ∧ if k = true then JE X r c' S2 fun d3 S3 => OpD rr' d2 d3 fun d => K d S3 else K (.bool false) S2) : JE X r (.Compare a [op, op'] [b, c'] pos) S K :=
  fun c F σ H hr E Q q => of_pe hp (h c F σ H hr E _ fun v1 d1 F1 H1 S1 h1 E1 k1 r1 => h1 c F1 σ H1 hr E1 _ fun v2 d2 F2 H2 S2 h2 E2 k2 r2 =>
    h2 F2 H2 v1 v2 E2.fin.fh (r1.ex k2) r2 _ fun v d F3 H3 kd g rp => by
      obtain ⟨b, rfl, kb⟩ := kd
      cases rp
      refine ⟨b, rfl, ?_⟩
      cases b with
      | true =>
        rw [if_pos rfl] at kb ⊢
        exact kb c F3 σ H3 hr (E2.grow g) _ fun v4 d4 F4 H4 S4 h4 E4 k4 r4 => h4 F4 H4 v2 v4 E4.fin.fh ((r2.ex g.kF).ex k4) r4 Q fun v5 d5 F5 H5 kd5 g5 rp5 =>
          q v5 d5 F5 H5 S4 kd5 (E4.grow g5) ((((k1.trans k2).trans g.kF).trans k4).trans g5.kF) rp5
      | false =>
        rw [if_neg Bool.false_ne_true] at kb ⊢
        exact q _ _ F3 H3 S2 kb (E2.grow g) ((k1.trans k2).trans g.kF) (.bl false))

/-! ### and, or, not, if -/
theorem je_one {K : D → List Sl → Prop} {op : BoolOp} {a : Expr} {pos : Pos} (h : JE X r a S K) : JE X r (.BoolOp op [a] pos) S K := fun c F σ H hr E Q q => of_pe (pe_one pe_tE) (h c F σ H hr E Q q)
theorem je_and {K : D → List Sl → Prop} {a b : Expr} {rest : List Expr} {pos : Pos} (h : JE X r a S fun d S1 => ∃ k, d = .bool k ∧ if k = true then JE X r (.BoolOp .And (b :: rest) pos) S1 K else K (.bool false) S1) : JE X r (.BoolOp .And (a :: b :: rest) pos) S K :=
  fun c F σ H hr E Q q => of_pe (pe_and pe_tE pe_tE) (h c F σ H hr E _ fun v d F1 H1 S1 h1 E1 k1 r1 => by
    obtain ⟨b, rfl, kb⟩ := h1
    cases r1
    refine ⟨b, rfl, ?_⟩
    cases b with
    | true =>
      rw [if_pos rfl] at kb ⊢
      exact kb c F1 σ H1 hr E1 Q fun v d F' H' S' a e k => q v d F' H' S' a e (k1.trans k)
    | false =>
      rw [if_neg Bool.false_ne_true] at kb ⊢
      exact q _ _ F1 H1 S1 kb E1 k1 (.bl false))
theorem je_or {K : D → List Sl → Prop} {a b : Expr} {rest : List Expr} {pos : Pos} (h : JE X r a S fun d S1 => ∃ k, d = .bool k ∧ if k = true then K (.bool true) S1 else JE X r (.BoolOp .Or (b :: rest) pos) S1 K) : JE X r (.BoolOp .Or (a :: b :: rest) pos) S K :=
  fun c F σ H hr E Q q => of_pe (pe_or pe_tE pe_tE) (h c F σ H hr E _ fun v d F1 H1 S1 h1 E1 k1 r1 => by
    obtain ⟨b, rfl, kb⟩ := h1
    cases r1
    refine ⟨b, rfl, ?_⟩
    cases b with
    | false =>
      rw [if_neg Bool.false_ne_true] at kb ⊢
      exact kb c F1 σ H1 hr E1 Q fun v d F' H' S' a e k => q v d F' H' S' a e (k1.trans k)
    | true =>
      rw [if_pos rfl] at kb ⊢
      exact q _ _ F1 H1 S1 kb E1 k1 (.bl true))
theorem je_not {K : D → List Sl → Prop} {a : Expr} {pos : Pos} (h : JE X r a S fun d S1 => ∃ k, d = .bool k ∧ K (.bool (!k)) S1) : JE X r (.UnaryOp .Not a pos) S K :=
  fun c F σ H hr E Q q => of_pe (pe_not pe_tE) (h c F σ H hr E _ fun v d F1 H1 S1 h1 E1 k1 r1 => by
    obtain ⟨b, rfl, kb⟩ := h1
    cases r1
    exact ⟨b, rfl, q _ _ F1 H1 S1 kb E1 k1 (.bl _)⟩)
theorem jt_not {K : Bool → List Sl → Prop} {a : Expr} {pos : Pos} (h : JT X r a S fun k S1 => K (!k) S1) : JT X r (.UnaryOp .Not a pos) S K :=
  fun c F σ H hr E Q q => of_pt (pt_not pt_tT) (h c F σ H hr E _ fun b F1 H1 S1 h1 E1 k1 => q (!b) F1 H1 S1 h1 E1 k1)
/-- a test of and, or: whatever its whole is -/
def JW (X : Cx) (r : SR) (e : Expr) (S : List Sl) (K : Bool → List Sl → Prop) : Prop :=
  ∀ (c : C) F σ H, r.q c → EvD c S F σ H → ∀ Q : Bool → Hp → Prop, (∀ b F' H' S', K b S' → EvD c S' F' σ H' → Ex F F' → Q b H') → ∀ whole pins s, Inv X pins σ H s → wpAny (model X.prog X.w) X.A (isTrue e X.env whole) (TP X pins σ Q) X.xe s
theorem JW.jt {e : Expr} {K : Bool → List Sl → Prop} (h : JW X r e S K) : JT X r e S K := fun c F σ H hr E Q q pins s I => h c F σ H hr E Q q _ pins s I
def tW (X : Cx) (e : Expr) : TT := fun σ H Q => ∀ whole pins s, Inv X pins σ H s → wpAny (model X.prog X.w) X.A (isTrue e X.env whole) (TP X pins σ Q) X.xe s
theorem pw_tW {e : Expr} : PW X e (tW X e) := ⟨fun wh pins s _ _ _ I h => h wh pins s I⟩
theorem jw_and1 {K : Bool → List Sl → Prop} {a : Expr} {pos : Pos} (h : JT X r a S K) : JW X r (.BoolOp .And [a] pos) S K := fun c F σ H hr E Q q wh pins s I => (pw_and1 pt_tT).run wh pins s σ H Q I (h c F σ H hr E Q q)
theorem jw_or1 {K : Bool → List Sl → Prop} {a : Expr} {pos : Pos} (h : JT X r a S K) : JW X r (.BoolOp .Or [a] pos) S K := fun c F σ H hr E Q q wh pins s I => (pw_or1 pt_tT).run wh pins s σ H Q I (h c F σ H hr E Q q)
theorem jw_and {K : Bool → List Sl → Prop} {a b : Expr} {rest : List Expr} {pos : Pos} (h : JT X r a S fun k S1 => if k = true then JW X r (.BoolOp .And (b :: rest) pos) S1 K else K false S1) : JW X r (.BoolOp .And (a :: b :: rest) pos) S K :=
  fun c F σ H hr E Q q wh pins s I => (pw_and pt_tT pw_tW).run wh pins s σ H Q I (h c F σ H hr E _ fun b F1 H1 S1 h1 E1 k1 => by
    cases b with
    | true =>
      rw [if_pos rfl] at h1 ⊢
      exact h1 c F1 σ H1 hr E1 Q fun b F' H' S' a e k => q b F' H' S' a e (k1.trans k)
    | false =>
      rw [if_neg Bool.false_ne_true] at h1 ⊢
      exact q _ F1 H1 S1 h1 E1 k1)
theorem jw_or {K : Bool → List Sl → Prop} {a b : Expr} {rest : List Expr} {pos : Pos} (h : JT X r a S fun k S1 => if k = true then K true S1 else JW X r (.BoolOp .Or (b :: rest) pos) S1 K) : JW X r (.BoolOp .Or (a :: b :: rest) pos) S K :=
  fun c F σ H hr E Q q wh pins s I => (pw_or pt_tT pw_tW).run wh pins s σ H Q I (h c F σ H hr E _ fun b F1 H1 S1 h1 E1 k1 => by
    cases b with
    | false =>
      rw [if_neg Bool.false_ne_true] at h1 ⊢
      exact h1 c F1 σ H1 hr E1 Q fun b F' H' S' a e k => q b F' H' S' a e (k1.trans k)
    | true =>
      rw [if_pos rfl] at h1 ⊢
      exact q _ F1 H1 S1 h1 E1 k1)
theorem je_ife {K : D → List Sl → Prop} {t a b : Expr} {pos : Pos} (h : JT X r t S fun k S1 => if k = true then JE X r a S1 K else JE X r b S1 K) : JE X r (.IfExp t a b pos) S K :=
  fun c F σ H hr E Q q => of_pe (pe_ifExp pt_tT pe_tE pe_tE) (h c F σ H hr E _ fun b F1 H1 S1 h1 E1 k1 => by
    cases b with
    | true =>
      rw [if_pos rfl] at h1 ⊢
      exact h1 c F1 σ H1 hr E1 Q fun v d F' H' S' a e k => q v d F' H' S' a e (k1.trans k)
    | false =>
      rw [if_neg Bool.false_ne_true] at h1 ⊢
      exact h1 c F1 σ H1 hr E1 Q fun v d F' H' S' a e k => q v d F' H' S' a e (k1.trans k))

/-! ### arguments, displays, calls -/
theorem ja_nil {K : List Ar → List Sl → Prop} (k : K [] S) : JA X r [] S K := fun c F σ H _ E Q q => of_pa pa_nil (q [] [] F H S k E (Ex.refl F) .nil)
theorem ja_cons {K : List Ar → List Sl → Prop} {e : Expr} {es : List Expr} (hs : starEach (e :: es) X.env = (false, eval e X.env) :: starEach es X.env) (h : JE X r e S fun d S1 => JA X r es S1 fun as S2 => K (.d d :: as) S2) : JA X r (e :: es) S K :=
  fun c F σ H hr E Q q => of_pa (pa_cons pe_tE pa_tA hs) (h c F σ H hr E _ fun v d F1 H1 S1 h1 E1 k1 r1 => h1 c F1 σ H1 hr E1 _ fun vs as F2 H2 S2 h2 E2 k2 r2 =>
    q (v :: vs) _ F2 H2 S2 h2 E2 (k1.trans k2) (.cons (show ArR c F2 v (.d d) from r1.ex k2) r2))
/-- the source handed on -/
theorem ja_src {K : List Ar → List Sl → Prop} {x : Str} {p : Pos} {es : List Expr} (i : Nat) (hN : X.N[i]? = some x) (hv : Vis X.env.scope x) (hd : (x == ("__debug__" : Str)) = false) (hcd : (x == ("__classdict__" : Str)) = false)
    (hs : starEach (.Name x p :: es) X.env = (false, eval (.Name x p) X.env) :: starEach es X.env) (e : S[i]? = some .src) (h : JA X r es S fun as S2 => K (.src :: as) S2) : JA X r (.Name x p :: es) S K :=
  fun c F σ H hr E Q q => by
    obtain ⟨y, e1, w, ew, e2⟩ := E.sl i _ e
    subst e2
    exact of_pa (pa_cons (pe_var hN hv hd hcd) pa_tA hs) ⟨.ref w.1, e1, h c F σ H hr E _ fun vs as F2 H2 S2 h2 E2 k2 r2 => q _ _ F2 H2 S2 h2 E2 k2 (.cons (show ArR c F2 _ .src from ⟨w, ew, rfl⟩) r2)⟩
def dats : List Ar → Option (List D)
  | [] => some []
  | .d d :: as => (dats as).map (d :: ·)
  | .src :: _ => none
theorem ArA.dats {c : C} {F : Hp} {vs : List V} {as : List Ar} (h : ArA c F vs as) : ∀ {ds : List D}, DL.dats as = some ds → RpA F vs ds := by
  induction h with
  | nil => intro ds e; cases e; exact .nil
  | @cons v a vs as rr t ih =>
    intro ds e
    cases a with
    | src => cases e
    | d d =>
      unfold DL.dats at e
      cases q : DL.dats as with
      | none => rw [q] at e; cases e
      | some es =>
        rw [q] at e
        cases e
        exact .cons rr (ih q)
theorem je_tup {K : D → List Sl → Prop} {es : List Expr} {x1} {pos : Pos} (h : JA X r es S fun as S1 => ∃ ds, dats as = some ds ∧ ds.length ≤ sizeLine ∧ K (.tuple ds) S1) : JE X r (.Tuple es x1 pos) S K :=
  fun c F σ H hr E Q q => of_pe (pe_tup pa_tA) (h c F σ H hr E _ fun vs as F1 H1 S1 h1 E1 k1 r1 => by
    obtain ⟨ds, e, hl, kd⟩ := h1
    have rp := r1.dats e
    refine ⟨by rw [rp.length]; exact hl, fun p n => ?_⟩
    have g := Grow.new E1.fin.fh (o := .tup vs) n
    exact q _ _ _ _ S1 kd (E1.grow g) (k1.trans g.kF) (.tup upd_same (rp.ex g.kF)))
theorem newL_ob {c : C} {F H : Hp} {σ : St} {p : Addr} {h : HO} {o : OB} (E : EvD c S F σ H) (n : H p = none) (rp : OBR F h o) : NewL c S F (upd H p h) σ p o := by
  refine ⟨h, E.laid n, upd_same, rp, E.fin.fh.back n, E.fin.bh.back n, fun q eq => ?_, fun j xs ej ea => ?_⟩
  · obtain ⟨⟨cs, l, m, t, h1, h2⟩, _⟩ := E.fin.src q eq
    exact ⟨(ne_of_none h1 n).symm, (ne_of_none h2 n).symm⟩
  · obtain ⟨x, e1, a, ws, e2, h1, _⟩ := E.sl j _ ej
    rw [ea] at e1; cases e1; cases e2
    rw [h1] at n; cases n
theorem newL_of {c : C} {F H : Hp} {σ : St} {p : Addr} {vs : List V} {ds : List D} (E : EvD c S F σ H) (n : H p = none) (rp : RpA F vs ds) : NewL c S F (upd H p (.lst vs)) σ p (.l ds) := newL_ob (h := .lst vs) E n rp
theorem jn_lst {K : List D → List Sl → Prop} {es : List Expr} {pos : Pos} (h : JA X r es S fun as S1 => ∃ ds, dats as = some ds ∧ ds.length ≤ sizeLine ∧ K ds S1) : JN X r (.List es pos) S K :=
  fun c F σ H hr E Q q => of_pe (pe_lst pa_tA) (h c F σ H hr E _ fun vs as F1 H1 S1 h1 E1 k1 r1 => by
    obtain ⟨ds, e, hl, kd⟩ := h1
    have rp := r1.dats e
    refine ⟨by rw [rp.length]; exact hl, fun p n => ?_⟩
    exact q _ _ _ _ S1 kd (newL_of E1 n rp) k1)
theorem je_callB {K : D → List Sl → Prop} {x : Str} {id : String} {e : Expr} {es : List Expr} {p pos : Pos} {rr : List V → Hp → VK → Prop} (hc : CallR X (.builtin id) rr) (hg : Gl X x) (hm : X.mg x = none) (hv : bootBuiltins x = some (.builtin id)) (hn : x ≠ "__name__") (hdb : (x == ("__debug__" : Str)) = false)
    (hp : PE X (.Call (.Name x p) (e :: es) [] pos) (tCB rr (tA X (e :: es)))) (h : JA X r (e :: es) S fun as S1 => ∃ ds, dats as = some ds ∧ CallD rr ds fun d => K d S1) : JE X r (.Call (.Name x p) (e :: es) [] pos) S K :=
  fun c F σ H hr E Q q => of_pe hp (h c F σ H hr E _ fun vs as F1 H1 S1 h1 E1 k1 r1 => by
    obtain ⟨ds, e, kd⟩ := h1
    exact kd F1 H1 vs E1.fin.fh (r1.dats e) Q fun v d F2 H2 kd2 g rp => q v d F2 H2 S1 kd2 (E1.grow g) (k1.trans g.kF) rp)
/-- any call of a value that the layer reads by the arguments alone -/
theorem je_callP {K : D → List Sl → Prop} {e : Expr} {es : List Expr} {rr : List V → Hp → VK → Prop} (hp : PE X e (tCB rr (tA X es))) (h : JA X r es S fun as S1 => ∃ ds, dats as = some ds ∧ CallD rr ds fun d => K d S1) : JE X r e S K :=
  fun c F σ H hr E Q q => of_pe hp (h c F σ H hr E _ fun vs as F1 H1 S1 h1 E1 k1 r1 => by
    obtain ⟨ds, e, kd⟩ := h1
    exact kd F1 H1 vs E1.fin.fh (r1.dats e) Q fun v d F2 H2 kd2 g rp => q v d F2 H2 S1 kd2 (E1.grow g) (k1.trans g.kF) rp)
theorem jn_callP {K : List D → List Sl → Prop} {e : Expr} {es : List Expr} {rr : List V → Hp → VK → Prop} (hp : PE X e (tCB rr (tA X es))) (h : JA X r es S fun as S1 => ∃ ds, dats as = some ds ∧ CallN rr ds fun d => K d S1) : JN X r e S K :=
  fun c F σ H hr E Q q => of_pe hp (h c F σ H hr E _ fun vs as F1 H1 S1 h1 E1 k1 r1 => by
    obtain ⟨ds, e, kd⟩ := h1
    exact kd F1 H1 vs E1.fin.fh (r1.dats e) Q fun p ws es ke n rp => q p es F1 _ S1 ke (newL_of E1 n rp) k1)

/-- a promise over data -/
def SpD (φ : List Ar → (D → Prop) → Prop) : Sp := fun vs H Q _ => ∃ (c : C) (as : List Ar) (K : D → Prop), Fin c c.F0 H ∧ ArA c c.F0 vs as ∧ φ as K ∧ ∀ v d F' H', K d → Fin c F' H' → Rp F' v d → Q v H'
theorem sp_call {φ : List Ar → (D → Prop) → Prop} {c : C} {F : Hp} {σ : St} {H : Hp} {vs : List V} {as : List Ar} {Q : VK} {XE : XK} {K : D → Prop} (E : EvD c S F σ H) (ra : ArA c F vs as) (h : φ as K)
    (q : ∀ v d F' H', K d → EvD c S F' σ H' → Ex F F' → Rp F' v d → Q v H') : SpD φ vs H Q XE := by
  have ns : ∀ a, (∃ p, c.sr = some p ∧ (a = p.1 ∨ a = p.2)) → F a = none ∧ c.B a = none := fun a ⟨p, ep, z⟩ => by
    obtain ⟨_, n1, n2, b1, b2⟩ := E.fin.src p ep
    rcases z with z | z <;> subst z
    · exact ⟨n1, b1⟩
    · exact ⟨n2, b2⟩
  let B' : Hp := fun a => match c.sr with
    | none => H a
    | some p => if a = p.1 ∨ a = p.2 then none else H a
  have hB : ∀ a o, B' a = some o → H a = some o := fun a o e => by
    show H a = some o
    cases hs : c.sr with
    | none => simp only [B', hs] at e; exact e
    | some p =>
      simp only [B', hs] at e
      by_cases z : a = p.1 ∨ a = p.2
      · rw [if_pos z] at e; cases e
      · rw [if_neg z] at e; exact e
  have hB2 : ∀ a, (∀ p, c.sr = some p → a ≠ p.1 ∧ a ≠ p.2) → B' a = H a := fun a z => by
    cases hs : c.sr with
    | none => simp only [B', hs]
    | some p =>
      obtain ⟨z1, z2⟩ := z p hs
      simp only [B', hs]
      rw [if_neg (by intro q; rcases q with q | q; exact z1 q; exact z2 q)]
  refine ⟨⟨B', F, c.sr⟩, as, K, ⟨Ex.refl F, E.fin.fh, hB, fun _ _ _ => .inl rfl, fun p ep => ?_⟩, ?_, h, fun v d F' H' kd fn rp => ?_⟩
  · obtain ⟨s, n1, n2, b1, b2⟩ := E.fin.src p ep
    have ep' : c.sr = some p := ep
    refine ⟨s, n1, n2, ?_, ?_⟩
    · show B' p.1 = none
      simp [B', ep']
    · show B' p.2 = none
      simp [B', ep']
  · clear q h
    induction ra with
    | nil => exact .nil
    | cons rr _ ih =>
      refine .cons ?_ ih
      revert rr
      cases ‹Ar› with
      | d d => exact fun z => z
      | src => exact fun z => z
  · have kF : Ex F F' := fn.f0
    refine q v d F' H' kd ?_ kF rp
    have hk : ∀ a o, (∀ p, c.sr = some p → a ≠ p.1 ∧ a ≠ p.2) → H a = some o → H' a = some o ∧ (F' a = F a ∨ ∃ xs, o = .tup xs) := fun a o z e => by
      have e' : B' a = some o := by rw [hB2 a z]; exact e
      exact ⟨fn.bh a o e', fn.bf a o e'⟩
    have hcB : ∀ a o, c.B a = some o → (∀ p, c.sr = some p → a ≠ p.1 ∧ a ≠ p.2) := fun a o e p ep => by
      obtain ⟨_, _, _, b1, b2⟩ := E.fin.src p ep
      exact ⟨fun z => (by rw [z, b1] at e; cases e), fun z => (by rw [z, b2] at e; cases e)⟩
    refine ⟨⟨E.fin.f0.trans kF, fn.fh, fun a o e => (hk a o (hcB a o e) (E.fin.bh a o e)).1, fun a o e => ((hk a o (hcB a o e) (E.fin.bh a o e)).2).elim (fun z => (E.fin.bf a o e).elim (fun y => .inl (z.trans y)) .inr) .inr, fun p ep => ?_⟩, E.len, fun i s e => ?_, E.ds⟩
    · obtain ⟨s, n1, n2, _, _⟩ := fn.src p ep
      obtain ⟨_, _, _, b1, b2⟩ := E.fin.src p ep
      exact ⟨s, n1, n2, b1, b2⟩
    · obtain ⟨x, e1, rr⟩ := E.sl i s e
      refine ⟨x, e1, ?_⟩
      cases s with
      | emp => trivial
      | src => exact rr
      | rf _ => exact rr
      | val d =>
        obtain ⟨v, e2, rr⟩ := rr
        exact ⟨v, e2, rr.ex kF⟩
      | ob ds =>
        obtain ⟨a, ws, e2, h1, r1, n1, b1, q1⟩ := rr
        have za : ∀ p, c.sr = some p → a ≠ p.1 ∧ a ≠ p.2 := q1
        obtain ⟨g1, g2⟩ := hk a _ za h1
        rcases g2 with g2 | ⟨xs, g2⟩
        · exact ⟨a, ws, e2, g1, r1.ex kF, by rw [g2]; exact n1, b1, q1⟩
        · have m := r1.mut
          rw [g2] at m
          exact m.elim
section
variable {k : Nat} {f : Addr} {fd : FuncData} {ps : List Str} {x : Str} {p pos : Pos} {e : Expr} {es : List Expr} {K : D → List Sl → Prop} {φ : List Ar → (D → Prop) → Prop}
theorem je_call (F : FnOk X.prog X.w X.K X.mg X.base CX0 k f fd ps (SpD φ)) (hr : Room k X.A) (hg : Gl X x) (hm : X.mg x = some (.ref f)) (hk : PySem.W.keepIn X.K (.ref f) = true) (hb : Binds X.K fd ps []) (hdb : (x == ("__debug__" : Str)) = false)
    (hp : ∀ {tt : TA}, PA X (e :: es) tt → PE X (.Call (.Name x p) (e :: es) [] pos) (tCall (SpD φ) [] E0 tt))
    (h : JA X r (e :: es) S fun as S1 => φ as fun d => K d S1) : JE X r (.Call (.Name x p) (e :: es) [] pos) S K :=
  fun c F σ H hr E Q q => of_pe (hp pa_tA) (h c F σ H hr E _ fun vs as F1 H1 S1 h1 E1 k1 r1 => by
    rw [List.append_nil]
    exact sp_call E1 r1 h1 fun v d F2 H2 kd E2 k2 rp => q v d F2 H2 S1 kd E2 (k1.trans k2) rp)
end
end
end DL

/-! DL: statements, targets, loops, comprehensions, a def by its body. -/
namespace DL
open PySem L2
section
variable {X : Cx} {r : SR} {S : List Sl}

/-! ### statements -/
theorem obr_l {F : Hp} {h : HO} {ds : List D} (r : OBR F h (.l ds)) : ∃ vs, h = .lst vs ∧ RpA F vs ds := by
  cases h <;> first
    | exact ⟨_, rfl, r⟩
    | exact False.elim r
theorem obr_d {F : Hp} {h : HO} {kvs : List (List Int × D)} (r : OBR F h (.d kvs)) : ∃ ws, h = .dT ws ∧ RpK F ws kvs := by
  cases h <;> first
    | exact ⟨_, rfl, r⟩
    | exact False.elim r
theorem jss_nil {E : DE} (k : E.nx S) : JSs X r [] S E := fun c F σ H _ Ev G g => of_pss pss_nil (g.nx F σ H S k Ev (Ex.refl F))
theorem jss_cons {st : Stmt} {rest : List Stmt} {E : DE} (h : JS X r st S { E with nx := fun S1 => JSs X r rest S1 E }) : JSs X r (st :: rest) S E :=
  fun c F σ H hr Ev G g => of_pss (pss_cons ps_tS pss_tSs) (h c F σ H hr Ev { G with nx := tSs X rest G } ⟨fun F' σ' H' S' a E' k => a c F' σ' H' hr E' G (g.ex k), g.rt, g.bk, g.ct⟩)
theorem js_ret {e : Expr} {pos : Pos} {E : DE} (h : JE X r e S fun d _ => E.rt d) : JS X r (.Return (some e) pos) S E :=
  fun c F σ H hr Ev G g => of_ps (ps_ret pe_tE) (h c F σ H hr Ev _ fun v d F1 H1 S1 h1 E1 k1 r1 => g.rt v d F1 H1 h1 E1.fin r1)
theorem js_set {x : Str} {e : Expr} {pos pos' : Pos} {E : DE} (i : Nat) (hN : X.N.Nodup) (hi : X.N[i]? = some x) (hx : Loc X.env.scope x) (hs : swapsWith e (some (.Name x pos')) pos.line X.env = pure false) (hf : X.fn x = true ∨ X.env.scope.names.lookup x = some .local)
    (h : JE X r e S fun d S1 => E.nx (S1.set i (.val d))) : JS X r (.Assign [.Name x pos'] e pos) S E :=
  fun c F σ H hr Ev G g => of_ps (ps_set hN hi hx pe_tE hs hf) (h c F σ H hr Ev _ fun v d F1 H1 S1 h1 E1 k1 r1 => g.nx F1 _ H1 _ h1 (E1.set r1) k1)
theorem js_setN {x : Str} {e : Expr} {pos pos' : Pos} {E : DE} (i : Nat) (hN : X.N.Nodup) (hi : X.N[i]? = some x) (hx : Loc X.env.scope x) (hs : swapsWith e (some (.Name x pos')) pos.line X.env = pure false) (hf : X.fn x = true ∨ X.env.scope.names.lookup x = some .local)
    (h : JN X r e S fun ds S1 => E.nx (S1.set i (.own ds))) : JS X r (.Assign [.Name x pos'] e pos) S E :=
  fun c F σ H hr Ev G g => of_ps (ps_set hN hi hx pe_tE hs hf) (h c F σ H hr Ev _ fun p ds F1 H1 S1 h1 n k1 => by
    obtain ⟨vs, E1, hp, hv, nF, b, q, no⟩ := n
    exact g.nx F1 _ H1 _ h1 (E1.setOwn hp hv nF b q no) k1)
theorem js_setO {x : Str} {e : Expr} {pos pos' : Pos} {E : DE} (i : Nat) (hN : X.N.Nodup) (hi : X.N[i]? = some x) (hx : Loc X.env.scope x) (hs : swapsWith e (some (.Name x pos')) pos.line X.env = pure false) (hf : X.fn x = true ∨ X.env.scope.names.lookup x = some .local)
    (h : JO X r e S fun o S1 => E.nx (S1.set i (.ob o))) : JS X r (.Assign [.Name x pos'] e pos) S E :=
  fun c F σ H hr Ev G g => of_ps (ps_set hN hi hx pe_tE hs hf) (h c F σ H hr Ev _ fun p ds F1 H1 S1 h1 n k1 => by
    obtain ⟨vs, E1, hp, hv, nF, b, q, no⟩ := n
    exact g.nx F1 _ H1 _ h1 (E1.setOwn hp hv nF b q no) k1)
/-- x = [..], stored before the iterator is let go; PS: the rule of the layer -/
theorem js_setP {st : Stmt} {E : DE} (i : Nat) {te : TE} (hp : PS X st (tAsg te (gName i))) (hx : ∀ c F σ H, r.q c → EvD c S F σ H → ∀ Q : VK, (∀ p ds F' H' S', E.nx (S'.set i (.own ds)) → NewL c S' F' H' σ p (.l ds) → Ex F F' → Q (.ref p) H') → te σ H Q) : JS X r st S E :=
  fun c F σ H hr Ev G g => of_ps hp (hx c F σ H hr Ev _ fun p ds F1 H1 S1 h1 n k1 => by
    obtain ⟨vs, E1, hp, hv, nF, b, q, no⟩ := n
    exact g.nx F1 _ H1 _ h1 (E1.setOwn hp hv nF b q no) k1)
theorem js_expr {e : Expr} {pos : Pos} {E : DE} (hs : swapsWith e none pos.line X.env = pure false) (h : JE X r e S fun _ S1 => E.nx S1) : JS X r (.Expr e pos) S E :=
  fun c F σ H hr Ev G g => of_ps (ps_expr pe_tE hs) (h c F σ H hr Ev _ fun v d F1 H1 S1 h1 E1 k1 r1 => g.nx F1 _ H1 _ h1 E1 k1)
theorem js_if {t : Expr} {a b : List Stmt} {pos : Pos} {E : DE} (h : JT X r t S fun k S1 => if k = true then JSs X r a S1 E else JSs X r b S1 E) : JS X r (.If t a b pos) S E :=
  fun c F σ H hr Ev G g => of_ps (ps_if pt_tT pss_tSs pss_tSs) (h c F σ H hr Ev _ fun k F1 H1 S1 h1 E1 k1 => by
    cases k with
    | true =>
      rw [if_pos rfl] at h1 ⊢
      exact h1 c F1 σ H1 hr E1 G (g.ex k1)
    | false =>
      rw [if_neg Bool.false_ne_true] at h1 ⊢
      exact h1 c F1 σ H1 hr E1 G (g.ex k1))
theorem js_asg {tg e : Expr} {pos : Pos} {E : DE} (ts : List Nat) (hs : swapsWithSole [tg] e pos.line X.env = pure false) (hw : swappedStores [tg] e X.env = pure none) (h1 : (assignEach [tg] X.env).map (·.2) = [assign tg X.env])
    (h : JE X r e S fun d S1 => JG X r tg ts d S1 E.nx) : JS X r (.Assign [tg] e pos) S E :=
  fun c F σ H hr Ev G g => of_ps (ps_asg pe_tE pg_tG hs hw h1) (h c F σ H hr Ev _ fun v d F1 H1 S1 h1 E1 k1 r1 => h1 c F1 σ H1 v hr E1 r1 _ fun F2 σ2 H2 S2 h2 E2 k2 _ => g.nx F2 σ2 H2 S2 h2 E2 (k1.trans k2))
theorem js_append {e : Expr} {x : Str} {p apos cpos pos : Pos} {E : DE} (i : Nat) {rr : V → List V → Hp → VK → Prop} (hp : PS X (.Expr (.Call (.Attribute (.Name x p) "append" apos) [e] [] cpos) pos) (tDrop (tBM X.K "list" rAppend (tVar i) (tCons (tE X e) tNil))))
    (h : JE X r e S fun d S1 => ∃ xs, S1[i]? = some (.own xs) ∧ xs.length < sizeLine ∧ E.nx (S1.set i (.own (xs ++ [d])))) {xs0 : List D} (h0 : S[i]? = some (.own xs0)) : JS X r (.Expr (.Call (.Attribute (.Name x p) "append" apos) [e] [] cpos) pos) S E :=
  fun c F σ H hr Ev G g => of_ps hp (by
    obtain ⟨y, e1, a, hh, e2, ha, rv, nF, nb, q0⟩ := Ev.sl i _ h0
    subst e2
    obtain ⟨vs, rfl, rv⟩ := obr_l rv
    refine ⟨.ref a, e1, .inl ⟨rfl, _, .inl (.inl ha)⟩, h c F σ H hr Ev _ fun v d F1 H1 S1 h1 E1 k1 r1 => ?_⟩
    obtain ⟨xs, e3, hl, kx⟩ := h1
    obtain ⟨y, e1', a', hh', e2', ha', rv', _⟩ := E1.sl i _ e3
    rw [e1] at e1'; cases e1'; cases e2'
    obtain ⟨vs', rfl, rv'⟩ := obr_l rv'
    exact ⟨a, vs', v, rfl, rfl, ha', by rw [rv'.length]; exact hl, g.nx F1 σ _ _ kx (E1.write (vs := .lst (vs' ++ [v])) (ds := .l (xs ++ [d])) e3 e1 (rv'.append (.one r1))) k1⟩)

/-! ### targets -/
theorem jg_name {x : Str} {pos : Pos} {d : D} {K : List Sl → Prop} (i : Nat) (hN : X.N.Nodup) (hi : X.N[i]? = some x) (hx : Loc X.env.scope x) (hf : X.fn x = true ∨ X.env.scope.names.lookup x = some .local) (h : K (S.set i (.val d))) : JG X r (.Name x pos) [i] d S K :=
  fun c F σ H v hr E rv Q q => of_pg (pg_name hN hi hx hf) (q F _ H _ h (E.set rv) (Ex.refl F) ⟨fun j hj => (by
    rw [List.getElem?_set_ne]
    intro z; exact hj (by rw [z]; exact List.mem_singleton.mpr rfl)), List.length_set⟩)
/-- several targets -/
def JGs (X : Cx) (r : SR) (tgs : List Expr) (ts : List Nat) (ds : List D) (S : List Sl) (K : List Sl → Prop) : Prop :=
  ∀ (c : C) F σ H vs, r.q c → EvD c S F σ H → RpA F vs ds → ∀ Q : St → Hp → Prop, (∀ F' σ' H' S', K S' → EvD c S' F' σ' H' → Ex F F' → (∀ j, j ∉ ts → σ'[j]? = σ[j]?) ∧ σ'.length = σ.length → Q σ' H') → ∀ pins s us, Inv X pins σ H s → Vals vs us →
    wpAny (model X.prog X.w) X.A (assignInOrder ((assignEach tgs X.env).map (·.2)) us) (fun _ s' => ∃ σ' H', Inv X pins σ' H' s' ∧ Q σ' H') X.xe s
theorem jgs_nil {K : List Sl → Prop} (h : K S) : JGs X r [] [] [] S K := fun c F σ H vs hr E rv Q q pins s us I rl => by
  cases rv
  exact pgs_nil.run pins s σ H [] us Q I rl ⟨rfl, q F σ H S h E (Ex.refl F) ⟨fun _ _ => rfl, rfl⟩⟩
def tGs (X : Cx) (tgs : List Expr) : TGs := fun vs σ H Q => ∀ pins s us, Inv X pins σ H s → Vals vs us → wpAny (model X.prog X.w) X.A (assignInOrder ((assignEach tgs X.env).map (·.2)) us) (fun _ s' => ∃ σ' H', Inv X pins σ' H' s' ∧ Q σ' H') X.xe s
theorem pgs_tGs {tgs : List Expr} : PGs X tgs (tGs X tgs) := ⟨fun pins s _ _ _ us _ I r h => h pins s us I r⟩
theorem jgs_cons {e : Expr} {es : List Expr} {ts us : List Nat} {d : D} {ds : List D} {K : List Sl → Prop} (hs : (assignEach (e :: es) X.env).map (·.2) = assign e X.env :: (assignEach es X.env).map (·.2))
    (h : JG X r e ts d S fun S1 => JGs X r es us ds S1 K) : JGs X r (e :: es) (ts ++ us) (d :: ds) S K := fun c F σ H vs hr E rv Q q pins s ws I rl => by
  cases rv with
  | cons r1 r2 =>
    refine (pgs_cons pg_tG pgs_tGs hs).run pins s σ H _ ws Q I rl ⟨_, _, rfl, h c F σ H _ hr E r1 _ fun F1 σ1 H1 S1 h1 E1 k1 z1 => ?_⟩
    exact h1 c F1 σ1 H1 _ hr E1 (r2.ex k1) Q fun F2 σ2 H2 S2 h2 E2 k2 z2 => q F2 σ2 H2 S2 h2 E2 (k1.trans k2) ⟨fun j hj => (by
      rw [z2.1 j fun z => hj (List.mem_append_right _ z), z1.1 j fun z => hj (List.mem_append_left _ z)]), z2.2.trans z1.2⟩
theorem jg_tup {es : List Expr} {k : Nat} {pos : Pos} {ts : List Nat} {ds : List D} {K : List Sl → Prop} (hc : X.calm = true) (hn : (assignEach es X.env).length = ds.length) (hst : (assignEach es X.env).findIdx? (·.1) = none)
    (h : JGs X r es ts ds S K) : JG X r (.Tuple es k pos) ts (.tuple ds) S K := fun c F σ H v hr E rv Q q => by
  cases rv with
  | tup ha hv => exact of_pg (pg_tup (n := ds.length) hc pgs_tGs hn hst) ⟨_, _, rfl, .inl (.inl (E.fin.fh _ _ ha)), hv.length, h c F σ H _ hr E hv Q q⟩

/-! ### what is walked -/
theorem itl_d {K : PySem.W.Frag} {B F : Hp} {a : Addr} {vs : List V} {ds : List D} (h : F a = some (.lst vs)) (rv : RpA F vs ds) : ItD (Itl K a) B F ds :=
  ⟨fun i H kb k hi => ⟨vs, .inl (.inl (k _ _ h)), by rw [rv.length]; exact hi⟩,
   fun i H kb k hi => by
    obtain ⟨v, e, _⟩ := rv.get' (i := i) (List.getElem?_eq_getElem hi)
    exact ⟨vs, v, .inl (.inl (k _ _ h)), e⟩,
   fun i H x H' kb k y hi => by
    obtain ⟨e, f⟩ := y
    obtain ⟨d, e1, e2⟩ := rv.get (f vs (.inl (.inl (k _ _ h))))
    exact .inl ⟨e, d, e1, e2⟩⟩
theorem itt_d {K : PySem.W.Frag} {B F : Hp} {a : Addr} {vs : List V} {ds : List D} (h : F a = some (.tup vs)) (rv : RpA F vs ds) : ItD (Itt K a) B F ds :=
  ⟨fun i H kb k hi => ⟨vs, .inl (.inl (k _ _ h)), by rw [rv.length]; exact hi⟩,
   fun i H kb k hi => by
    obtain ⟨v, e, _⟩ := rv.get' (i := i) (List.getElem?_eq_getElem hi)
    exact ⟨vs, v, .inl (.inl (k _ _ h)), e⟩,
   fun i H x H' kb k y hi => by
    obtain ⟨e, f⟩ := y
    obtain ⟨d, e1, e2⟩ := rv.get (f vs (.inl (.inl (k _ _ h))))
    exact .inl ⟨e, d, e1, e2⟩⟩
def rangeD (lo : Int) (n : Nat) : List D := (List.range n).map fun i => .int (lo + (i : Nat))
theorem rangeD_length (lo : Int) (n : Nat) : (rangeD lo n).length = n := by unfold rangeD; rw [List.length_map, List.length_range]
theorem rangeD_get {lo : Int} {n i : Nat} (h : i < n) : (rangeD lo n)[i]? = some (.int (lo + (i : Nat))) := by
  unfold rangeD
  rw [List.getElem?_map, List.getElem?_range h]
  rfl
theorem itr_d {B F : Hp} {lo : Int} {n : Nat} : ItD (Itr lo n) B F (rangeD lo n) :=
  ⟨fun i H kb k hi => by rw [rangeD_length] at hi; exact hi, fun i H kb k hi => by rw [rangeD_length] at hi; exact hi,
   fun i H x H' kb k y hi => by
    obtain ⟨e, rfl⟩ := y
    rw [rangeD_length] at hi
    exact .inl ⟨e, _, rangeD_get hi, .int _⟩⟩
def enumD (ds : List D) : List D := (List.range ds.length).map fun i => .tuple [.int (i : Nat), ds.getD i .none]
theorem ite_d {K : PySem.W.Frag} {B F : Hp} {a : Addr} {vs : List V} {ds : List D} (h : F a = some (.lst vs)) (rv : RpA F vs ds) : ItD (Ite K a) B F (enumD ds) := by
  have hl : (enumD ds).length = ds.length := by unfold enumD; rw [List.length_map, List.length_range]
  refine ⟨fun i H kb k hi => ⟨vs, .inl (.inl (k _ _ h)), by rw [rv.length, ← hl]; exact hi⟩, fun i H kb k hi => ?_, fun i H x H' kb k y hi => ?_⟩
  · obtain ⟨v, e, _⟩ := rv.get' (i := i) (List.getElem?_eq_getElem (by rw [← hl]; exact hi))
    exact ⟨vs, v, .inl (.inl (k _ _ h)), e⟩
  · obtain ⟨T, z, e1, e2, e3, f⟩ := y
    obtain ⟨d, g1, g2⟩ := rv.get (f vs (.inl (.inl (k _ _ h))))
    refine .inr (.inl ⟨T, _, [.int (i : Nat), d], e1, e2, e3, .cons (.int _) (.one g2), ?_⟩)
    unfold enumD
    rw [List.getElem?_map, List.getElem?_range (by rw [← hl]; exact hi)]
    show some (PyData.tuple [.int (i : Nat), ds.getD i .none]) = _
    rw [List.getD_eq_getElem?_getD, g1]
    rfl
theorem ji_list {tg e : Expr} {K : List D → List Sl → Prop} (h : JE X r e S fun d S1 => ∃ ds, d = .list ds ∧ K ds S1) : JI X r tg e S K :=
  fun c F σ H hr E R q => of_pi (pi_list pe_tE) (h c F σ H hr E _ fun v d F1 H1 S1 h1 E1 k1 r1 => by
    obtain ⟨ds, rfl, kd⟩ := h1
    cases r1 with
    | lst ha hv => exact ⟨_, rfl, ⟨_, .inl (.inl (E1.fin.fh _ _ ha))⟩, q _ ds F1 H1 S1 kd E1 k1 (itl_d ha hv)⟩)
theorem ji_tup {tg e : Expr} {K : List D → List Sl → Prop} (h : JE X r e S fun d S1 => ∃ ds, d = .tuple ds ∧ K ds S1) : JI X r tg e S K :=
  fun c F σ H hr E R q => of_pi (pi_tup pe_tE) (h c F σ H hr E _ fun v d F1 H1 S1 h1 E1 k1 r1 => by
    obtain ⟨ds, rfl, kd⟩ := h1
    cases r1 with
    | tup ha hv => exact ⟨_, rfl, ⟨_, .inl (.inl (E1.fin.fh _ _ ha))⟩, q _ ds F1 H1 S1 kd E1 k1 (itt_d ha hv)⟩)
theorem ji_range1 {tg a : Expr} {p pos : Pos} {K : List D → List Sl → Prop} (hg : Gl X "range") (hm : X.mg "range" = none) (hs : starEach [a] X.env = [(false, eval a X.env)])
    (h : JA X r [a] S fun as S1 => ∃ n : Int, as = [.d (.int n)] ∧ -(2 ^ 62) ≤ n ∧ n < 2 ^ 62 ∧ K (rangeD 0 n.toNat) S1) : JI X r tg (.Call (.Name "range" p) [a] [] pos) S K :=
  fun c F σ H hr E R q => of_pi (pi_range1 hg hm pa_tA hs) (h c F σ H hr E _ fun vs as F1 H1 S1 h1 E1 k1 r1 => by
    obtain ⟨n, rfl, b1, b2, kd⟩ := h1
    cases r1 with
    | cons x t =>
      cases t
      cases x
      exact ⟨n, rfl, b1, b2, q _ _ F1 H1 S1 kd E1 k1 itr_d⟩)
theorem ji_range2 {tg a b : Expr} {p pos : Pos} {K : List D → List Sl → Prop} (hg : Gl X "range") (hm : X.mg "range" = none) (hs : starEach [a, b] X.env = [(false, eval a X.env), (false, eval b X.env)]) (hs2 : starEach [b] X.env = [(false, eval b X.env)])
    (h : JA X r [a, b] S fun as S1 => ∃ i j : Int, as = [.d (.int i), .d (.int j)] ∧ (-(2 ^ 62) ≤ i ∧ i < 2 ^ 62 ∧ -(2 ^ 62) ≤ j ∧ j < 2 ^ 62) ∧ K (rangeD i (j - i).toNat) S1) : JI X r tg (.Call (.Name "range" p) [a, b] [] pos) S K :=
  fun c F σ H hr E R q => of_pi (pi_range2 hg hm pa_tA hs hs2) (h c F σ H hr E _ fun vs as F1 H1 S1 h1 E1 k1 r1 => by
    obtain ⟨i, j, rfl, b, kd⟩ := h1
    cases r1 with
    | cons x t =>
      cases t with
      | cons y t =>
        cases t
        cases x
        cases y
        exact ⟨i, j, rfl, b, q _ _ F1 H1 S1 kd E1 k1 itr_d⟩)
theorem ji_enum {e : Expr} {p pos tpos : Pos} {elts : List Expr} {kk : Nat} {K : List D → List Sl → Prop} (hg : Gl X "enumerate") (hm : X.mg "enumerate" = none) (hs : starEach [e] X.env = [(false, eval e X.env)])
    (h : JA X r [e] S fun as S1 => ∃ ds, as = [.d (.list ds)] ∧ K (enumD ds) S1) : JI X r (.Tuple elts kk tpos) (.Call (.Name "enumerate" p) [e] [] pos) S K :=
  fun c F σ H hr E R q => of_pi (pi_enum hg hm pa_tA hs) (h c F σ H hr E _ fun vs as F1 H1 S1 h1 E1 k1 r1 => by
    obtain ⟨ds, rfl, kd⟩ := h1
    cases r1 with
    | cons x t =>
      cases t
      cases x with
      | lst ha hv => exact ⟨_, _, rfl, .inl (.inl (E1.fin.fh _ _ ha)), q _ _ F1 H1 S1 kd E1 k1 (ite_d ha hv)⟩)
/-- what a walk yields is data -/
theorem ItD.next {c : C} {J : It} {B F F' : Hp} {ds : List D} {i : Nat} {x : V} {σ : St} {H H' : Hp} (w : ItD J B F ds) (kb : Ex B c.B) (k : Ex F F') (E : EvD c S F' σ H) (hi : i < ds.length) (y : J.yld i H x H') :
    ∃ d F2, ds[i]? = some d ∧ Ex F' F2 ∧ Rp F2 x d ∧ EvD c S F2 σ H' := by
  rcases w.yld i H x H' (kb.trans E.fin.bh) (k.trans E.fin.fh) y hi with ⟨rfl, d, e, rp⟩ | ⟨T, xs, es, rfl, n, rfl, rp, e⟩ | ⟨T, xs, es, rfl, hT, rfl, rp, e⟩
  · exact ⟨d, F', e, Ex.refl _, rp.ex k, E⟩
  · have g := Grow.new E.fin.fh (o := .tup xs) n
    exact ⟨_, _, e, g.kF, .tup upd_same (rp.ex (k.trans g.kF)), E.grow g⟩
  · cases q : F' T with
    | none => exact ⟨_, _, e, Ex.new q, .tup upd_same (rp.ex (k.trans (Ex.new q))), E.freezeT hT q⟩
    | some u =>
      have h2 := E.fin.fh _ _ q
      rw [hT] at h2
      cases h2
      exact ⟨_, F', e, Ex.refl _, .tup q (rp.ex k), E⟩

/-! ### for -/
theorem js_for {tg iter : Expr} {body : List Stmt} {pos : Pos} {E : DE} (ts : List Nat) (hp : PassesOwn (model X.prog X.w) X.A X.env X.xe) (hc : X.calm = true) (hs : ∀ x, foldedSetIterable iter X.env x = pure x)
    (h : JI X r tg iter S fun ds S1 => ∃ I : Nat → List Sl → Prop, I 0 S1 ∧ (∀ i d S', ds[i]? = some d → I i S' → JG X r tg ts d S' fun S2 => JSs X r body S2 { nx := I (i + 1), rt := E.rt, ct := I (i + 1), bk := E.nx }) ∧ ∀ S', I ds.length S' → E.nx S') :
    JS X r (.For tg iter body [] pos) S E :=
  fun c F σ H hr Ev G g => of_ps (ps_for hp hc pi_tI pg_tG pss_tSs hs) (h c F σ H hr Ev _ fun J ds F1 H1 S1 h1 E1 k1 w => by
    obtain ⟨I, i0, step, fin⟩ := h1
    refine ⟨fun i m σ H => m = ds.length - i ∧ i ≤ ds.length ∧ ∃ S' F', I i S' ∧ EvD c S' F' σ H ∧ Ex F1 F', ⟨ds.length, by omega, Nat.zero_le _, S1, F1, i0, E1, Ex.refl _⟩, fun i m σ H hw => ?_⟩
    obtain ⟨rfl, hi, S', F', hI, E', k'⟩ := hw
    by_cases hlt : i < ds.length
    · refine .inr ⟨w.go i H E'.fin.bh (k'.trans E'.fin.fh) hlt, fun σ' H' => ∃ S2 F2, I (i + 1) S2 ∧ EvD c S2 F2 σ' H' ∧ Ex F1 F2, fun σ' H' ⟨S2, F2, a, b, d⟩ => ⟨ds.length - (i + 1), by omega, rfl, hlt, S2, F2, a, b, d⟩, fun x H' y => ?_⟩
      obtain ⟨d, F2, ed, k2, rp, E2⟩ := w.next (Ex.refl _) k' E' hlt y
      refine step i d S' ed hI c F2 σ H' x hr E2 rp _ fun F3 σ3 H3 S3 h3 E3 k3 _ => ?_
      refine h3 c F3 σ3 H3 hr E3 _ ⟨fun F4 σ4 H4 S4 a E4 k4 => ⟨S4, F4, a, E4, ((k'.trans k2).trans k3).trans k4⟩, g.rt, fun F4 σ4 H4 S4 a E4 k4 => g.nx F4 σ4 H4 S4 a E4 ((((k1.trans k').trans k2).trans k3).trans k4),
        fun F4 σ4 H4 S4 a E4 k4 => ⟨S4, F4, a, E4, ((k'.trans k2).trans k3).trans k4⟩⟩
    · have e : i = ds.length := by omega
      subst e
      exact .inl ⟨w.stop _ H E'.fin.bh (k'.trans E'.fin.fh) (Nat.le_refl _), g.nx F' σ H S' (fin S' hI) E' (k1.trans k')⟩)
theorem js_while {t : Expr} {body : List Stmt} {pos : Pos} {E : DE} (hp : PassesOwn (model X.prog X.w) X.A X.env X.xe) (I : Nat → List Sl → Prop) (m0 : Nat) (i0 : I m0 S)
    (step : ∀ m S', I m S' → JT X r t S' fun b S1 => if b = true then JSs X r body S1 { nx := fun S2 => ∃ m', m' < m ∧ I m' S2, rt := E.rt, ct := fun S2 => ∃ m', m' < m ∧ I m' S2, bk := E.nx } else E.nx S1) :
    JS X r (.While t body [] pos) S E :=
  fun c F σ H hr Ev G g => of_ps (ps_while hp pt_tT pss_tSs) (by
    refine ⟨fun m σ H => ∃ S' F', I m S' ∧ EvD c S' F' σ H ∧ Ex F F', ⟨m0, S, F, i0, Ev, Ex.refl _⟩, fun m σ H hw => ?_⟩
    obtain ⟨S', F', hI, E', k'⟩ := hw
    refine step m S' hI c F' σ H hr E' _ fun b F1 H1 S1 h1 E1 k1 => ?_
    cases b with
    | true =>
      rw [if_pos rfl] at h1 ⊢
      have hn : ∀ F2 σ2 H2 S2, (∃ m', m' < m ∧ I m' S2) → EvD c S2 F2 σ2 H2 → Ex F1 F2 → ∃ m', m' < m ∧ ∃ S' F', I m' S' ∧ EvD c S' F' σ2 H2 ∧ Ex F F' := fun F2 σ2 H2 S2 ⟨m', hm, i'⟩ E2 k2 => ⟨m', hm, S2, F2, i', E2, (k'.trans k1).trans k2⟩
      refine ⟨fun σ2 H2 => ∃ m', m' < m ∧ ∃ S' F', I m' S' ∧ EvD c S' F' σ2 H2 ∧ Ex F F', fun _ _ z => z, ?_⟩
      exact h1 c F1 σ H1 hr E1 _ ⟨hn, g.rt, fun F2 σ2 H2 S2 a E2 k2 => g.nx F2 σ2 H2 S2 a E2 ((k'.trans k1).trans k2), hn⟩
    | false =>
      rw [if_neg Bool.false_ne_true] at h1 ⊢
      exact g.nx F1 σ H1 S1 h1 E1 (k'.trans k1))

/-! ### comprehensions -/
/-- in a comprehension's block -/
def Blk (X : Cx) (scope : Scope) (P : Cx → Prop) : Prop := ∀ (s : Shared) (H : Hp) (C : Addr) (cl : List (Str × Addr)) (fp : List Addr), P (X.blk s H scope (compEnvC scope cl C X.env) fp)
def tEb (X : Cx) (scope : Scope) (e : Expr) : TE := fun σ H Q => Blk X scope fun Y => tE Y e σ H Q
def tTsb (X : Cx) (scope : Scope) (ifs : List Expr) : TT := fun σ H Q => Blk X scope fun Y => ∀ pins s, Inv Y pins σ H s → wpAny (model Y.prog Y.w) Y.A (forIn ifs true fun c r => if r = true then do let ok ← isTrue c Y.env (eval c Y.env); pure (ForInStep.yield ok) else pure (ForInStep.yield r)) (TP Y pins σ Q) Y.xe s
def tGb (X : Cx) (scope : Scope) (tg : Expr) : TG := fun v σ H Q => Blk X scope fun Y => tG Y tg v σ H Q
/-- the slots vs as in S, the others as in T -/
def mrg (vs : List Nat) (S T : List Sl) : List Sl := vs.foldr (fun j U => U.set j (S.getD j .emp)) T
theorem mrg_length (vs : List Nat) (S T : List Sl) : (mrg vs S T).length = T.length := by
  induction vs with
  | nil => rfl
  | cons v vs ih => show ((mrg vs S T).set v _).length = _; rw [List.length_set, ih]
theorem mrg_out {S T : List Sl} {j : Nat} : ∀ {vs : List Nat}, j ∉ vs → (mrg vs S T)[j]? = T[j]?
  | [], _ => rfl
  | v :: vs, h => by
    show ((mrg vs S T).set v _)[j]? = _
    rw [List.getElem?_set_ne fun z => h (by rw [z]; exact List.mem_cons_self), mrg_out fun z => h (List.mem_cons_of_mem _ z)]
theorem mrg_in {S T : List Sl} {j : Nat} (hl : S.length = T.length) (hj : j < S.length) : ∀ {vs : List Nat}, j ∈ vs → (mrg vs S T)[j]? = S[j]?
  | v :: vs, h => by
    show ((mrg vs S T).set v _)[j]? = _
    by_cases hv : v = j
    · subst hv
      rw [List.getElem?_set_self (by rw [mrg_length, ← hl]; exact hj), List.getD_eq_getElem?_getD, List.getElem?_eq_getElem hj]
      rfl
    · rw [List.getElem?_set_ne hv]
      exact mrg_in hl hj ((List.mem_cons.mp h).resolve_left (Ne.symm hv))
theorem wipe_in {σ : St} {j : Nat} : ∀ {vs : List Nat}, j ∈ vs → j < σ.length → (L2.wipe σ vs)[j]? = some none
  | v :: vs, h, hj => by
    show ((L2.wipe σ vs).set v none)[j]? = _
    by_cases hv : v = j
    · subst hv
      rw [List.getElem?_set_self (by rw [wipe_length]; exact hj)]
    · rw [List.getElem?_set_ne hv]
      exact wipe_in ((List.mem_cons.mp h).resolve_left (Ne.symm hv)) hj
theorem wipe_same {σ σ2 : St} {vs ts : List Nat} (hl : σ2.length = σ.length) (hts : ∀ j ∈ ts, j ∈ vs) (h : ∀ j, j ∉ ts → σ2[j]? = (L2.wipe σ vs)[j]?) : L2.wipe σ2 vs = L2.wipe σ vs := by
  refine List.ext_getElem? fun j => ?_
  by_cases hj : j ∈ vs
  · by_cases hlt : j < σ.length
    · rw [wipe_in hj hlt, wipe_in hj (by rw [hl]; exact hlt)]
    · rw [List.getElem?_eq_none (by rw [wipe_length]; omega), List.getElem?_eq_none (by rw [wipe_length]; omega)]
  · rw [wipe_out hj, wipe_out hj, h j fun z => hj (hts j z), wipe_out hj]
/-- out of a block: the block's own slots are as they were -/
theorem EvD.out {c : C} {S' S4 : List Sl} {F F4 : Hp} {σ σ2 : St} {H H4 : Hp} {vs : List Nat} (E : EvD c S' F σ H) (E4 : EvD c S4 F4 σ2 H4) (k : Ex F F4) (hw : L2.wipe σ2 vs = L2.wipe σ vs) (hv : ∀ j ∈ vs, ∀ xs, S'[j]? ≠ some (.ob xs)) : EvD c (mrg vs S' S4) F4 σ H4 := by
  have hlen : σ2.length = σ.length := by rw [← wipe_length σ2 vs, hw, wipe_length]
  have hS : S'.length = S4.length := by rw [← E.len, ← E4.len, hlen]
  have same : ∀ j, j ∉ vs → σ2[j]? = σ[j]? := fun j hj => by rw [← wipe_out hj, hw, wipe_out hj]
  have own : ∀ {j : Nat} {xs : OB}, (mrg vs S' S4)[j]? = some (.ob xs) → j ∉ vs ∧ S4[j]? = some (.ob xs) := fun {j xs} e => by
    by_cases hj : j ∈ vs
    · by_cases hlt : j < S'.length
      · rw [mrg_in hS hlt hj] at e
        exact absurd e (hv j hj xs)
      · rw [List.getElem?_eq_none (by rw [mrg_length]; omega)] at e; cases e
    · rw [mrg_out hj] at e; exact ⟨hj, e⟩
  refine ⟨E4.fin, by rw [mrg_length, ← E4.len, hlen], fun j s e => ?_, fun j1 j2 xs ys a e1 e2 e3 e4 => ?_⟩
  · by_cases hj : j ∈ vs
    · by_cases hlt : j < S'.length
      · rw [mrg_in hS hlt hj] at e
        obtain ⟨x, e1, rr⟩ := E.sl j s e
        refine ⟨x, e1, ?_⟩
        cases s with
        | emp => trivial
        | val d =>
          obtain ⟨v, e2, rp⟩ := rr
          exact ⟨v, e2, rp.ex k⟩
        | ob ds => exact absurd e (hv j hj ds)
        | src => exact rr
        | rf _ => exact rr
      · rw [List.getElem?_eq_none (by rw [mrg_length]; omega)] at e; cases e
    · rw [mrg_out hj] at e
      obtain ⟨x, e1, rr⟩ := E4.sl j s e
      exact ⟨x, by rw [← same j hj]; exact e1, rr⟩
  · obtain ⟨n1, f1⟩ := own e1
    obtain ⟨n2, f2⟩ := own e2
    exact E4.ds j1 j2 xs ys a f1 f2 (by rw [same _ n1]; exact e3) (by rw [same _ n2]; exact e4)
/-- an object of ours, in no slot, is written -/
theorem EvD.put {c : C} {F : Hp} {σ : St} {H : Hp} {Dl : Addr} {o2 : HO} (E : EvD c S F σ H) (nF : F Dl = none) (nB : c.B Dl = none) (ns : ∀ q, c.sr = some q → Dl ≠ q.1 ∧ Dl ≠ q.2) (no : ∀ (j : Nat) xs, S[j]? = some (.ob xs) → σ[j]? ≠ some (some (.ref Dl))) : EvD c S F σ (upd H Dl o2) := by
  refine ⟨⟨E.fin.f0, E.fin.fh.upd2 nF, E.fin.bh.upd2 nB, E.fin.bf, fun p ep => ?_⟩, E.len, fun i s e => ?_, E.ds⟩
  · obtain ⟨⟨cs, l, m, t, h1, h2⟩, n1, n2, b1, b2⟩ := E.fin.src p ep
    obtain ⟨m1, m2⟩ := ns p ep
    exact ⟨⟨cs, l, m, t, by rw [upd_ne m1.symm]; exact h1, by rw [upd_ne m2.symm]; exact h2⟩, n1, n2, b1, b2⟩
  · obtain ⟨x, e1, rr⟩ := E.sl i s e
    refine ⟨x, e1, ?_⟩
    cases s with
    | emp => trivial
    | val d => exact rr
    | src => exact rr
    | rf _ => exact rr
    | ob ds =>
      obtain ⟨a, us, e2, h1, r1, n1, b1, q1⟩ := rr
      subst e2
      have hne : a ≠ Dl := fun z => no i _ e (by rw [e1, z])
      exact ⟨a, us, rfl, by rw [upd_ne hne]; exact h1, r1, n1, b1, q1⟩
/-- a slot is put aside -/
theorem EvD.hide {c : C} {F : Hp} {σ : St} {H : Hp} {i : Nat} (E : EvD c S F σ H) (hl : i < S.length) : EvD c (S.set i .emp) F σ H := by
  refine ⟨E.fin, by rw [List.length_set]; exact E.len, fun j s ej => ?_, fun j k xs' ys' a' f1 f2 f3 f4 => ?_⟩
  · by_cases hj : i = j
    · subst hj
      rw [List.getElem?_set_self hl] at ej; cases ej
      obtain ⟨x, e1⟩ : ∃ x, σ[i]? = some x := ⟨σ[i]'(by rw [E.len]; exact hl), List.getElem?_eq_getElem _⟩
      exact ⟨x, e1, trivial⟩
    · rw [List.getElem?_set_ne hj] at ej; exact E.sl j s ej
  · have own : ∀ {j : Nat} {ys : OB}, (S.set i .emp)[j]? = some (.ob ys) → S[j]? = some (.ob ys) := fun {j ys} z => by
      by_cases hj : i = j
      · subst hj; rw [List.getElem?_set_self hl] at z; cases z
      · rw [List.getElem?_set_ne hj] at z; exact z
    exact E.ds j k _ _ _ (own f1) (own f2) f3 f4
/-- the new list is kept by everything -/
theorem EvD.hold {c : C} {F : Hp} {σ : St} {H : Hp} {Dl : Addr} {vs : HO} (E : EvD c S F σ H) (h : H Dl = some vs) (nF : F Dl = none) (ns : ∀ q, c.sr = some q → Dl ≠ q.1 ∧ Dl ≠ q.2) (no : ∀ (j : Nat) xs, S[j]? = some (.ob xs) → σ[j]? ≠ some (some (.ref Dl))) : EvD (c.hold Dl vs) S F σ H := by
  refine ⟨⟨E.fin.f0, E.fin.fh, fun a o e => ?_, fun a o e => ?_, fun p ep => ?_⟩, E.len, fun i s e => ?_, E.ds⟩
  · have e : upd c.B Dl vs a = some o := e
    by_cases q : a = Dl
    · subst q; rw [upd_same] at e; cases e; exact h
    · rw [upd_ne q] at e; exact E.fin.bh a o e
  · have e : upd c.B Dl vs a = some o := e
    show F a = c.F0 a ∨ _
    by_cases q : a = Dl
    · subst q
      exact .inl (by rw [nF, E.fin.f0.back nF])
    · rw [upd_ne q] at e; exact E.fin.bf a o e
  · obtain ⟨s, n1, n2, b1, b2⟩ := E.fin.src p ep
    have m1 : p.1 ≠ Dl := (ns p ep).1.symm
    refine ⟨s, n1, n2, ?_, ?_⟩
    · show upd c.B Dl vs p.1 = none
      rw [upd_ne m1]; exact b1
    · show upd c.B Dl vs p.2 = none
      rw [upd_ne (ns p ep).2.symm]; exact b2
  · obtain ⟨x, e1, rr⟩ := E.sl i s e
    refine ⟨x, e1, ?_⟩
    cases s with
    | emp => trivial
    | val d => exact rr
    | src => exact rr
    | rf _ => exact rr
    | ob ds =>
      obtain ⟨a, ws, e2, h1, r1, n1, b1, q1⟩ := rr
      subst e2
      have hne : a ≠ Dl := fun z => no i _ e (by rw [e1, z])
      exact ⟨a, ws, rfl, h1, r1, n1, by show upd c.B Dl vs a = none; rw [upd_ne hne]; exact b1, q1⟩
theorem EvD.unhold {c : C} {F : Hp} {σ : St} {H : Hp} {Dl : Addr} {vs : HO} (hm : ∀ xs, vs ≠ .tup xs) (E : EvD (c.hold Dl vs) S F σ H) (b : c.B Dl = none) (b0 : c.F0 Dl = none) :
    EvD c S F σ H ∧ H Dl = some vs ∧ F Dl = none ∧ (∀ q, c.sr = some q → Dl ≠ q.1 ∧ Dl ≠ q.2) ∧ ∀ (j : Nat) xs, S[j]? = some (.ob xs) → σ[j]? ≠ some (some (.ref Dl)) := by
  have eB : ∀ a o, c.B a = some o → (c.hold Dl vs).B a = some o := fun a o e => by
    show upd c.B Dl vs a = some o
    rw [upd_ne (ne_of_none e b)]; exact e
  have hD : (c.hold Dl vs).B Dl = some vs := upd_same
  have hH := E.fin.bh _ _ hD
  have hF : F Dl = none := by
    rcases E.fin.bf _ _ hD with z | ⟨xs, z⟩
    · rw [z]; exact b0
    · exact absurd z (hm xs)
  have src : ∀ q, c.sr = some q → SrcOk H q ∧ F q.1 = none ∧ F q.2 = none ∧ c.B q.1 = none ∧ c.B q.2 = none ∧ Dl ≠ q.1 ∧ Dl ≠ q.2 := fun q eq => by
    obtain ⟨s, n1, n2, b1, b2⟩ := E.fin.src q eq
    have m1 : Dl ≠ q.1 := fun z => by rw [← z, hD] at b1; cases b1
    have m2 : Dl ≠ q.2 := fun z => by rw [← z, hD] at b2; cases b2
    have b1' : upd c.B Dl vs q.1 = none := b1
    have b2' : upd c.B Dl vs q.2 = none := b2
    rw [upd_ne m1.symm] at b1'
    rw [upd_ne m2.symm] at b2'
    exact ⟨s, n1, n2, b1', b2', m1, m2⟩
  have unb : ∀ a, (c.hold Dl vs).B a = none → c.B a = none ∧ a ≠ Dl := fun a e => by
    have ne : a ≠ Dl := fun z => by rw [z, hD] at e; cases e
    have e : upd c.B Dl vs a = none := e
    rw [upd_ne ne] at e
    exact ⟨e, ne⟩
  refine ⟨⟨⟨E.fin.f0, E.fin.fh, fun a o e => E.fin.bh a o (eB a o e), fun a o e => E.fin.bf a o (eB a o e), fun q eq => ?_⟩, E.len, fun i s e => ?_, E.ds⟩, hH, hF, fun q eq => ?_, fun j xs ej ea => ?_⟩
  · obtain ⟨s, n1, n2, b1, b2, _⟩ := src q eq
    exact ⟨s, n1, n2, b1, b2⟩
  · obtain ⟨x, e1, rr⟩ := E.sl i s e
    refine ⟨x, e1, ?_⟩
    cases s with
    | emp => trivial
    | val d => exact rr
    | src => exact rr
    | rf _ => exact rr
    | ob ds =>
      obtain ⟨a, ws, e2, h1, r1, n1, b1, q1⟩ := rr
      exact ⟨a, ws, e2, h1, r1, n1, (unb a b1).1, q1⟩
  · obtain ⟨_, _, _, _, _, m1, m2⟩ := src q eq
    exact ⟨m1, m2⟩
  · obtain ⟨x, e1, a, ws, e2, h1, r1, n1, b1, q1⟩ := E.sl j _ ej
    rw [ea] at e1; cases e1; cases e2
    exact (unb _ b1).2 rfl
theorem pg_tGb {scope : Scope} {tg : Expr} (s : Shared) (H : Hp) (C : Addr) (cl : List (Str × Addr)) (fp : List Addr) : PG (X.blk s H scope (compEnvC scope cl C X.env) fp) tg (tGb X scope tg) := ⟨fun pins s' σ H' v u Q I rv h => h s H C cl fp pins s' u I rv⟩
theorem pe_tEb {scope : Scope} {e : Expr} (s : Shared) (H : Hp) (C : Addr) (cl : List (Str × Addr)) (fp : List Addr) : PE (X.blk s H scope (compEnvC scope cl C X.env) fp) e (tEb X scope e) := ⟨fun pins s' σ H' Q I h => h s H C cl fp pins s' I⟩
theorem pts_tTsb {scope : Scope} {ifs : List Expr} (s : Shared) (H : Hp) (C : Addr) (cl : List (Str × Addr)) (fp : List Addr) : PTs (X.blk s H scope (compEnvC scope cl C X.env) fp) ifs (tTsb X scope ifs) := ⟨fun pins s' σ H' Q I h => h s H C cl fp pins s' I⟩
/-- no test, one test -/
def JTs (X : Cx) (r : SR) (ifs : List Expr) (S : List Sl) (K : Bool → List Sl → Prop) : Prop := match ifs with
  | [] => K true S
  | [t] => JT X r t S K
  | _ => False
theorem jts_run {c : C} {F : Hp} {σ : St} {H : Hp} {ifs : List Expr} {K : Bool → List Sl → Prop} (hr : r.q c) (E : EvD c S F σ H) (Q : Bool → Hp → Prop) (h : JTs X r ifs S K) (q : ∀ b F' H' S', K b S' → EvD c S' F' σ H' → Ex F F' → Q b H') :
    ∀ pins s, Inv X pins σ H s → wpAny (model X.prog X.w) X.A (forIn ifs true fun c r => if r = true then do let ok ← isTrue c X.env (eval c X.env); pure (ForInStep.yield ok) else pure (ForInStep.yield r)) (TP X pins σ Q) X.xe s := fun pins s I => by
  match ifs, h with
  | [], h => exact pts_nil.run pins s σ H Q I (q true F H S h E (Ex.refl F))
  | [t], h =>
    have h : JT X r t S K := h
    exact (pts_one pt_tT).run pins s σ H Q I (h c F σ H hr E Q q)
/-- the turn of a comprehension, in its block -/
def LcTurn (X : Cx) (r : SR) (scope : Scope) (tg elt : Expr) (ifs : List Expr) (vs ts : List Nat) (d : D) (S : List Sl) (KY : D → List Sl → Prop) (KN : List Sl → Prop) : Prop :=
  Blk X scope fun Y => JG Y r tg ts d (wipeS S vs) fun S2 => Blk X scope fun Y => JTs Y r ifs S2 fun b S3 => if b = true then Blk X scope fun Y => JE Y r elt S3 fun y S4 => KY y (mrg vs S S4) else KN (mrg vs S S3)
theorem lc_runc {wi : TI} {elt tg : Expr} {ifs : List Expr} {scope : Scope} {own : List (Str × Nat)} (ts : List Nat) {K : List D → List Sl → Prop} (hts : ∀ j ∈ ts, j ∈ own.map (·.2))
    (c : C) (F : Hp) (σ : St) (H : Hp) (hr : r.q c) (Q : VK) (q : ∀ p ds F' H' S', K ds S' → NewL c S' F' H' σ p (.l ds) → Ex F F' → Q (.ref p) H')
    (h : JIw wi c F σ H fun ds S1 => ∃ I : Nat → List D → List Sl → Prop, I 0 [] S1 ∧ (∀ i acc S', I i acc S' → i ≤ ds.length → acc.length < sizeLine ∧ ∀ j ∈ own.map (·.2), ∀ xs, S'[j]? ≠ some (.ob xs)) ∧
      (∀ i d acc S', ds[i]? = some d → I i acc S' → LcTurn X r scope tg elt ifs (own.map (·.2)) ts d S' (fun y S4 => I (i + 1) (acc ++ [y]) S4) fun S4 => I (i + 1) acc S4) ∧ ∀ acc S', I ds.length acc S' → K acc S') :
    tLc wi (tGb X scope tg) (tTsb X scope ifs) (tEb X scope elt) (own.map (·.2)) σ H Q := by
  refine h _ fun J ds F1 H1 S1 h1 E1 k1 w => ?_
  · have kB : ∀ {Dl : Addr} {o : HO}, c.B Dl = none → Ex c.B (c.hold Dl o).B := fun nB => Ex.new nB
    obtain ⟨I, i0, side, step, fin⟩ := h1
    intro Dl nD
    have nF1 : F1 Dl = none := E1.fin.fh.back nD
    have nB : c.B Dl = none := E1.fin.bh.back nD
    have nF0 : c.F0 Dl = none := E1.fin.f0.back nF1
    obtain ⟨vs0, E2, hD, rv0, _, _, q2, no2⟩ := newL_of (p := Dl) (vs := []) (ds := []) E1 nD .nil
    refine ⟨fun i m H => m = ds.length - i ∧ i ≤ ds.length ∧ ∃ S' F' acc vacc, I i acc S' ∧ EvD (c.hold Dl (.lst vacc)) S' F' σ H ∧ RpA F' vacc acc ∧ Ex F1 F', ⟨ds.length, by omega, Nat.zero_le _, S1, F1, [], [], i0, E2.hold upd_same nF1 q2 no2, .nil, Ex.refl _⟩, fun i m H hw => ?_⟩
    obtain ⟨rfl, hi, S', F', acc, vacc, hI, E', rv, k'⟩ := hw
    obtain ⟨hacc, hside⟩ := side i acc S' hI hi
    by_cases hlt : i < ds.length
    · refine .inr ⟨w.go i H ((kB nB).trans E'.fin.bh) (k'.trans E'.fin.fh) hlt, fun H' => ∃ S2 F2 acc2 vacc2, I (i + 1) acc2 S2 ∧ EvD (c.hold Dl (.lst vacc2)) S2 F2 σ H' ∧ RpA F2 vacc2 acc2 ∧ Ex F1 F2, fun H' ⟨S2, F2, a2, v2, a, b, d, e⟩ => ⟨ds.length - (i + 1), by omega, rfl, hlt, S2, F2, a2, v2, a, b, d, e⟩, fun x H' y => ?_⟩
      obtain ⟨d, F2, ed, k2, rp, E2⟩ := w.next (kB nB) k' E' hlt y
      have turn := step i d acc S' ed hI
      intro s0 H0 C cl fp
      refine turn s0 H0 C cl fp (c.hold Dl (.lst vacc)) F2 _ H' x (r.st _ _ _ nB hr) (E2.wipe _) rp _ fun F3 σ3 H3 S3 h3 E3 k3 z3 => ?_
      have hw3 : L2.wipe σ3 (own.map (·.2)) = L2.wipe σ (own.map (·.2)) := wipe_same (z3.2.trans (wipe_length _ _)) hts z3.1
      refine ⟨hw3, fun s1 H1' C1 cl1 fp1 => jts_run (c := c.hold Dl (.lst vacc)) (r.st _ _ _ nB hr) E3 _ (h3 s1 H1' C1 cl1 fp1) fun b F4 H4 S4 h4 E4 k4 => ?_⟩
      cases b with
      | false =>
        rw [if_neg Bool.false_ne_true] at h4 ⊢
        exact ⟨_, F4, acc, vacc, h4, E2.out E4 (k3.trans k4) hw3 hside, rv.ex ((k2.trans k3).trans k4), ((k'.trans k2).trans k3).trans k4⟩
      | true =>
        rw [if_pos rfl] at h4 ⊢
        intro s2 H2' C2 cl2 fp2
        refine h4 s2 H2' C2 cl2 fp2 (c.hold Dl (.lst vacc)) F4 σ3 H4 (r.st _ _ _ nB hr) E4 _ fun v y F5 H5 S5 h5 E5 k5 r5 => ?_
        have E6 := E2.out E5 ((k3.trans k4).trans k5) hw3 hside
        obtain ⟨E7, h7, f7, s7, o7⟩ := E6.unhold (vs := .lst vacc) (fun _ z => nomatch z) nB nF0
        refine ⟨vacc, h7, by rw [rv.length]; exact hacc, ?_⟩
        have kk : Ex F' F5 := ((k2.trans k3).trans k4).trans k5
        have rv' := (rv.ex kk).append (.one r5)
        refine ⟨_, F5, acc ++ [y], vacc ++ [v], h5, ?_, rv', k'.trans kk⟩
        exact (E7.put f7 nB s7 o7).hold upd_same f7 s7 o7
    · have e : i = ds.length := by omega
      subst e
      obtain ⟨E7, h7, f7, s7, o7⟩ := E'.unhold (vs := .lst vacc) (fun _ z => nomatch z) nB nF0
      exact .inl ⟨w.stop _ H ((kB nB).trans E'.fin.bh) (k'.trans E'.fin.fh) (Nat.le_refl _), q Dl acc F' H S' (fin acc S' hI) ⟨.lst vacc, E7, h7, rv, f7, nB, s7, o7⟩ (k1.trans k')⟩
theorem lc_run {elt tg iter : Expr} {ifs : List Expr} {scope : Scope} {own : List (Str × Nat)} (ts : List Nat) {K : List D → List Sl → Prop} (hts : ∀ j ∈ ts, j ∈ own.map (·.2))
    (h : JI X r tg iter S fun ds S1 => ∃ I : Nat → List D → List Sl → Prop, I 0 [] S1 ∧ (∀ i acc S', I i acc S' → i ≤ ds.length → acc.length < sizeLine ∧ ∀ j ∈ own.map (·.2), ∀ xs, S'[j]? ≠ some (.ob xs)) ∧
      (∀ i d acc S', ds[i]? = some d → I i acc S' → LcTurn X r scope tg elt ifs (own.map (·.2)) ts d S' (fun y S4 => I (i + 1) (acc ++ [y]) S4) fun S4 => I (i + 1) acc S4) ∧ ∀ acc S', I ds.length acc S' → K acc S') :
    ∀ (c : C) F σ H, r.q c → EvD c S F σ H → ∀ Q : VK, (∀ p ds F' H' S', K ds S' → NewL c S' F' H' σ p (.l ds) → Ex F F' → Q (.ref p) H') → tLc (tI X tg iter) (tGb X scope tg) (tTsb X scope ifs) (tEb X scope elt) (own.map (·.2)) σ H Q :=
  fun c F σ H hr E Q q => lc_runc ts hts c F σ H hr Q q (h c F σ H hr E)
theorem jn_lc {elt tg iter : Expr} {ifs : List Expr} {scope : Scope} {pos : Pos} (own : List (Str × Nat)) (ts : List Nat) {K : List D → List Sl → Prop} (hc : X.calm = true) (hN : X.N.Nodup) (ok : BlkOk X.N X.env.scope scope own) (hs : ∀ x, foldedSetIterable iter X.env x = pure x) (hts : ∀ j ∈ ts, j ∈ own.map (·.2))
    (h : JI X r tg iter S fun ds S1 => ∃ I : Nat → List D → List Sl → Prop, I 0 [] S1 ∧ (∀ i acc S', I i acc S' → i ≤ ds.length → acc.length < sizeLine ∧ ∀ j ∈ own.map (·.2), ∀ xs, S'[j]? ≠ some (.ob xs)) ∧
      (∀ i d acc S', ds[i]? = some d → I i acc S' → LcTurn X r scope tg elt ifs (own.map (·.2)) ts d S' (fun y S4 => I (i + 1) (acc ++ [y]) S4) fun S4 => I (i + 1) acc S4) ∧ ∀ acc S', I ds.length acc S' → K acc S') :
    JN X r (.ListComp elt [⟨tg, iter, ifs, 0⟩] scope pos) S K := fun c F σ H hr E Q q =>
  of_pe (pe_lc hc hN pi_tI ok pg_tGb pts_tTsb pe_tEb hs) (lc_run ts hts h c F σ H hr E Q q)
end
end DL

/-! DL: operations on data; a def by its body. -/
namespace DL
open PySem L2

/-! ### == and in, of data -/
def rEqD (X : Cx) : R2 := fun x y H Q => ∃ F d1 d2, Ex F H ∧ Rp F x d1 ∧ Rp F y d2 ∧ d1.plain = true ∧ d2.plain = true ∧ X.A.units + min d1.depth d2.depth < cLine ∧ Q (.bl (PyData.eqv d1 d2)) H
def rNeD (X : Cx) : R2 := fun x y H Q => ∃ F d1 d2, Ex F H ∧ Rp F x d1 ∧ Rp F y d2 ∧ d1.plain = true ∧ d2.plain = true ∧ X.A.units + min d1.depth d2.depth < cLine ∧ Q (.bl (!PyData.eqv d1 d2)) H
section
variable {X : Cx}
theorem op_eqD : OpR X (compareOp .Eq) (rEqD X) := by
  intro pins s σ H x y v u Q I rx ry h
  obtain ⟨F, d1, d2, k, r1, r2, p1, p2, hu, q⟩ := h
  obtain ⟨as, h1⟩ := r1.reads k I.hok rx p1
  obtain ⟨bs, h2⟩ := r2.reads k I.hok ry p2
  exact PySem.SeqAt.eq_plain h1 h2 p1 p2 hu ⟨.bl _, H, I, rfl, q⟩
theorem op_neD : OpR X (compareOp .NotEq) (rNeD X) := by
  intro pins s σ H x y v u Q I rx ry h
  obtain ⟨F, d1, d2, k, r1, r2, p1, p2, hu, q⟩ := h
  obtain ⟨as, h1⟩ := r1.reads k I.hok rx p1
  obtain ⟨bs, h2⟩ := r2.reads k I.hok ry p2
  exact PySem.SeqAt.ne_plain h1 h2 p1 p2 hu ⟨.bl _, H, I, rfl, q⟩
/-- x in c, c a list or a tuple -/
def rInD (X : Cx) (neg : Bool) : R2 := fun x y H Q => ∃ F d xs, Ex F H ∧ Rp F x d ∧ (Rp F y (.list xs) ∨ Rp F y (.tuple xs)) ∧ d.plain = true ∧ PyData.plainAll xs = true ∧ X.A.units + 1 + min (PyData.depthAll xs) d.depth < cLine ∧
  Q (.bl (if neg = true then !(xs.any fun z => PyData.eqv z d) else xs.any fun z => PyData.eqv z d)) H
theorem op_inD : OpR X (compareOp .In) (rInD X false) := by
  intro pins s σ H x y v u Q I rx ry h
  obtain ⟨F, d, xs, k, r1, r2, p1, p2, hu, q⟩ := h
  obtain ⟨as, h1⟩ := r1.reads k I.hok rx p1
  rcases r2 with r2 | r2
  · obtain ⟨bs, h2⟩ := r2.reads k I.hok ry (by simpa only [PyData.plain] using p2)
    exact PySem.SeqAt.in_list_data h2 h1 p2 p1 hu ⟨.bl _, H, I, rfl, q⟩
  · obtain ⟨bs, h2⟩ := r2.reads k I.hok ry (by simpa only [PyData.plain] using p2)
    exact PySem.SeqAt.in_tuple_data h2 h1 p2 p1 hu ⟨.bl _, H, I, rfl, q⟩
theorem op_notInD : OpR X (compareOp .NotIn) (rInD X true) := by
  intro pins s σ H x y v u Q I rx ry h
  obtain ⟨F, d, xs, k, r1, r2, p1, p2, hu, q⟩ := h
  obtain ⟨as, h1⟩ := r1.reads k I.hok rx p1
  rcases r2 with r2 | r2
  · obtain ⟨bs, h2⟩ := r2.reads k I.hok ry (by simpa only [PyData.plain] using p2)
    exact PySem.SeqAt.notIn_list_data h2 h1 p2 p1 hu ⟨.bl _, H, I, rfl, q⟩
  · obtain ⟨bs, h2⟩ := r2.reads k I.hok ry (by simpa only [PyData.plain] using p2)
    exact PySem.SeqAt.notIn_tuple_data h2 h1 p2 p1 hu ⟨.bl _, H, I, rfl, q⟩
theorem units_le {k : Nat} (hr : Room k X.A) {n : Nat} (h : n ≤ 60) : X.A.units + 1 + n < cLine := by have := hr.units; omega
/-- typed data: == -/
theorem od_eq {α : Type} [DecidableEq α] [PySem.W.Datum α] {k : Nat} (hr : Room k X.A) {x y : α} {K : D → Prop} (hd : PySem.W.Datum.depth α ≤ 60) (h : K (.bool (decide (x = y)))) : OpD (rEqD X) (PySem.W.Datum.toD x) (PySem.W.Datum.toD y) K :=
  fun F H v1 v2 kF r1 r2 Q q => ⟨F, _, _, kF, r1, r2, PySem.W.Datum.plain x, PySem.W.Datum.plain y, (by
    have := units_le hr (Nat.le_trans (PySem.W.Datum.depth_le x) hd); have := Nat.min_le_left (PySem.W.Datum.toD x).depth (PySem.W.Datum.toD y).depth; omega), q _ _ F H (by rw [PySem.W.Datum.eqv]; exact h) (Grow.refl kF) (.bl _)⟩
theorem od_ne {α : Type} [DecidableEq α] [PySem.W.Datum α] {k : Nat} (hr : Room k X.A) {x y : α} {K : D → Prop} (hd : PySem.W.Datum.depth α ≤ 60) (h : K (.bool (!decide (x = y)))) : OpD (rNeD X) (PySem.W.Datum.toD x) (PySem.W.Datum.toD y) K :=
  fun F H v1 v2 kF r1 r2 Q q => ⟨F, _, _, kF, r1, r2, PySem.W.Datum.plain x, PySem.W.Datum.plain y, (by
    have := units_le hr (Nat.le_trans (PySem.W.Datum.depth_le x) hd); have := Nat.min_le_left (PySem.W.Datum.toD x).depth (PySem.W.Datum.toD y).depth; omega), q _ _ F H (by rw [PySem.W.Datum.eqv]; exact h) (Grow.refl kF) (.bl _)⟩
theorem in_typed {α : Type} [DecidableEq α] [PySem.W.Datum α] {k : Nat} (hr : Room k X.A) {x : α} {xs : List α} (hd : PySem.W.Datum.depth α ≤ 60) : X.A.units + 1 + min (PyData.depthAll (xs.map PySem.W.Datum.toD)) (PySem.W.Datum.toD x).depth < cLine := by
  have := units_le hr (Nat.le_trans (PySem.W.Datum.depth_le x) hd)
  have := Nat.min_le_right (PyData.depthAll (xs.map PySem.W.Datum.toD)) (PySem.W.Datum.toD x).depth
  omega
theorem od_inT {α : Type} [DecidableEq α] [PySem.W.Datum α] {k : Nat} (hr : Room k X.A) {x : α} {xs : List α} {K : D → Prop} (hd : PySem.W.Datum.depth α ≤ 60) (h : K (.bool (decide (x ∈ xs)))) : OpD (rInD X false) (PySem.W.Datum.toD x) (.tuple (xs.map PySem.W.Datum.toD)) K :=
  fun F H v1 v2 kF r1 r2 Q q => ⟨F, _, _, kF, r1, .inr r2, PySem.W.Datum.plain x, PySem.W.plainAll_map xs, in_typed hr hd, q _ _ F H (by rw [if_neg Bool.false_ne_true, PySem.W.any_datum]; exact h) (Grow.refl kF) (.bl _)⟩
theorem od_inL {α : Type} [DecidableEq α] [PySem.W.Datum α] {k : Nat} (hr : Room k X.A) {x : α} {xs : List α} {K : D → Prop} (hd : PySem.W.Datum.depth α ≤ 60) (h : K (.bool (decide (x ∈ xs)))) : OpD (rInD X false) (PySem.W.Datum.toD x) (.list (xs.map PySem.W.Datum.toD)) K :=
  fun F H v1 v2 kF r1 r2 Q q => ⟨F, _, _, kF, r1, .inl r2, PySem.W.Datum.plain x, PySem.W.plainAll_map xs, in_typed hr hd, q _ _ F H (by rw [if_neg Bool.false_ne_true, PySem.W.any_datum]; exact h) (Grow.refl kF) (.bl _)⟩
theorem od_niT {α : Type} [DecidableEq α] [PySem.W.Datum α] {k : Nat} (hr : Room k X.A) {x : α} {xs : List α} {K : D → Prop} (hd : PySem.W.Datum.depth α ≤ 60) (h : K (.bool (!decide (x ∈ xs)))) : OpD (rInD X true) (PySem.W.Datum.toD x) (.tuple (xs.map PySem.W.Datum.toD)) K :=
  fun F H v1 v2 kF r1 r2 Q q => ⟨F, _, _, kF, r1, .inr r2, PySem.W.Datum.plain x, PySem.W.plainAll_map xs, in_typed hr hd, q _ _ F H (by rw [if_pos rfl, PySem.W.any_datum]; exact h) (Grow.refl kF) (.bl _)⟩
theorem od_niL {α : Type} [DecidableEq α] [PySem.W.Datum α] {k : Nat} (hr : Room k X.A) {x : α} {xs : List α} {K : D → Prop} (hd : PySem.W.Datum.depth α ≤ 60) (h : K (.bool (!decide (x ∈ xs)))) : OpD (rInD X true) (PySem.W.Datum.toD x) (.list (xs.map PySem.W.Datum.toD)) K :=
  fun F H v1 v2 kF r1 r2 Q q => ⟨F, _, _, kF, r1, .inl r2, PySem.W.Datum.plain x, PySem.W.plainAll_map xs, in_typed hr hd, q _ _ F H (by rw [if_pos rfl, PySem.W.any_datum]; exact h) (Grow.refl kF) (.bl _)⟩

/-! ### ints -/
theorem od_I0 {g : Int → Int → Int} {i j : Int} {K : D → Prop} (h : K (.int (g i j))) : OpD (rI0 fun i j => .int (g i j)) (.int i) (.int j) K := fun F H v1 v2 kF r1 r2 Q q => by
  cases r1
  cases r2
  exact ⟨i, j, rfl, rfl, q _ _ F H h (Grow.refl kF) (.int _)⟩
theorem od_B0 {g : Int → Int → Bool} {i j : Int} {K : D → Prop} (h : K (.bool (g i j))) : OpD (rI0 fun i j => .bl (g i j)) (.int i) (.int j) K := fun F H v1 v2 kF r1 r2 Q q => by
  cases r1
  cases r2
  exact ⟨i, j, rfl, rfl, q _ _ F H h (Grow.refl kF) (.bl _)⟩
theorem od_I {C : Int → Int → Prop} {g : Int → Int → Int} {i j : Int} {K : D → Prop} (hc : C i j) (h : K (.int (g i j))) : OpD (rI C fun i j => .int (g i j)) (.int i) (.int j) K := fun F H v1 v2 kF r1 r2 Q q => by
  cases r1
  cases r2
  exact ⟨i, j, rfl, rfl, hc, q _ _ F H h (Grow.refl kF) (.int _)⟩
theorem ud_neg {i : Int} {K : D → Prop} (h : K (.int (-i))) : UnD (rU fun i => .int (-i)) (.int i) K := fun F H v1 kF r1 Q q => by
  cases r1
  exact ⟨i, rfl, q _ _ F H h (Grow.refl kF) (.int _)⟩
def isNone : D → Bool
  | .none => true
  | _ => false
theorem isN_data {F : Hp} {v : V} {d : D} (r : Rp F v d) : decide (v = V.non) = isNone d := by
  cases r <;> simp [isNone, dctD, ft]
theorem od_isN {d : D} {K : D → Prop} (h : K (.bool (isNone d))) : OpD (fun x y H Q => y = .non ∧ Q (.bl (decide (x = .non))) H) d .none K := fun F H v1 v2 kF r1 r2 Q q => by
  cases r2
  exact ⟨rfl, q _ _ F H h (Grow.refl kF) (by rw [isN_data r1]; exact .bl _)⟩
theorem od_notN {d : D} {K : D → Prop} (h : K (.bool (!isNone d))) : OpD (fun x y H Q => y = .non ∧ Q (.bl (!decide (x = .non))) H) d .none K := fun F H v1 v2 kF r1 r2 Q q => by
  cases r2
  exact ⟨rfl, q _ _ F H h (Grow.refl kF) (by rw [isN_data r1]; exact .bl _)⟩

/-! ### items, slices, lists and tuples joined -/
theorem atI_rp {F : Hp} {vs : List V} {ds : List D} (rv : RpA F vs ds) {i : Int} {d : D} (h : atI ds i = some d) : ∃ v, atI vs i = some v ∧ Rp F v d := by
  unfold atI at h ⊢
  rw [rv.length]
  cases e : ixN ds.length i with
  | none => rw [e] at h; cases h
  | some j =>
    rw [e] at h
    exact rv.get' h
theorem od_ixT {K0 : PySem.W.Frag} {ds : List D} {i : Int} {d : D} {K : D → Prop} (h : atI ds i = some d) (k : K d) : OpD (rIxT K0) (.tuple ds) (.int i) K := fun F H v1 v2 kF r1 r2 Q q => by
  cases r2
  cases r1 with
  | tup ha rv =>
    obtain ⟨v, e, rp⟩ := atI_rp rv h
    exact ⟨_, _, i, v, rfl, rfl, .inl (.inl (kF _ _ ha)), e, q v d F H k (Grow.refl kF) rp⟩
theorem od_ixL {K0 : PySem.W.Frag} {ds : List D} {i : Int} {d : D} {K : D → Prop} (h : atI ds i = some d) (k : K d) : OpD (rIxL K0) (.list ds) (.int i) K := fun F H v1 v2 kF r1 r2 Q q => by
  cases r2
  cases r1 with
  | lst ha rv =>
    obtain ⟨v, e, rp⟩ := atI_rp rv h
    exact ⟨_, _, i, v, rfl, rfl, .inl (.inl (kF _ _ ha)), e, q v d F H k (Grow.refl kF) rp⟩
def cutD (xs : List D) (lo hi : Option Int) : List D := (xs.drop (HT.sIx xs.length 0 lo)).take (HT.sIx xs.length xs.length hi - HT.sIx xs.length 0 lo)
theorem cut_rp {F : Hp} {vs : List V} {ds : List D} (rv : RpA F vs ds) (lo hi : Option Int) : RpA F (cutV vs lo hi) (cutD ds lo hi) := by
  unfold cutV cutD
  rw [rv.length]
  exact (rv.drop _).take _
def PtD (X : Cx) (r : SR) (S : List Sl) (e : Option Expr) (K : Option Int → List Sl → Prop) : Prop := match e with
  | none => K none S
  | some e => JE X r e S fun d S1 => ∃ i, d = .int i ∧ K (some i) S1
variable {r : SR} {S : List Sl}
def tO (X : Cx) (e : Option Expr) : TO := match e with
  | none => tNoPart
  | some e => tPart (tE X e)
theorem po_tO {e : Option Expr} : PO X e (tO X e) := match e with
  | none => po_none
  | some _ => po_some pe_tE
theorem ptd_run {e : Option Expr} {K : Option Int → List Sl → Prop} {c : C} {F : Hp} {σ : St} {H : Hp} (hr : r.q c) (E : EvD c S F σ H) (h : PtD X r S e K) (Q : Option Int → Hp → Prop) (q : ∀ o F' H' S', K o S' → EvD c S' F' σ H' → Ex F F' → Q o H') : tO X e σ H Q := by
  cases e with
  | none => exact q none F H S h E (Ex.refl F)
  | some e =>
    refine h c F σ H hr E _ fun v d F1 H1 S1 h1 E1 k1 r1 => ?_
    obtain ⟨i, rfl, kd⟩ := h1
    cases r1
    exact ⟨i, rfl, q (some i) F1 H1 S1 kd E1 k1⟩
/-- t[lo:hi] of a tuple -/
theorem je_cutT {K : D → List Sl → Prop} {e : Expr} {lo hi : Option Expr} {p2 pos : Pos} (h : JE X r e S fun d S1 => PtD X r S1 lo fun l S2 => PtD X r S2 hi fun u S3 => ∃ ds, d = .tuple ds ∧ K (.tuple (cutD ds l u)) S3) : JE X r (.Subscript e (.Slice lo hi none p2) pos) S K :=
  fun c F σ H hr E Q q => of_pe (pe_slice sl_tupA pe_tE po_tO po_tO) (h c F σ H hr E _ fun v d F1 H1 S1 h1 E1 k1 r1 => ptd_run hr E1 h1 _ fun l F2 H2 S2 h2 E2 k2 => ptd_run hr E2 h2 _ fun u F3 H3 S3 h3 E3 k3 => by
    obtain ⟨ds, rfl, kd⟩ := h3
    cases r1.ex (k2.trans k3) with
    | @tup a vs _ ha rv =>
      refine ⟨_, vs, rfl, .inl (.inl (E3.fin.fh _ _ ha)), fun w => ?_, fun _ p n => ?_⟩
      · have e : cutD ds l u = ds := by
          unfold cutD
          rw [rv.length] at w
          rw [w.1, w.2, List.drop_zero, Nat.sub_zero, List.take_length]
        rw [e] at kd
        exact q _ _ F3 H3 S3 kd E3 ((k1.trans k2).trans k3) (.tup ha rv)
      · have g := Grow.new E3.fin.fh (o := .tup (cutV vs l u)) n
        exact q _ _ _ _ S3 kd (E3.grow g) (((k1.trans k2).trans k3).trans g.kF) (.tup upd_same ((cut_rp rv l u).ex g.kF)))
/-- xs[lo:hi] of a list -/
theorem jn_cutL {K : List D → List Sl → Prop} {e : Expr} {lo hi : Option Expr} {p2 pos : Pos} (h : JE X r e S fun d S1 => PtD X r S1 lo fun l S2 => PtD X r S2 hi fun u S3 => ∃ ds, d = .list ds ∧ K (cutD ds l u) S3) : JN X r (.Subscript e (.Slice lo hi none p2) pos) S K :=
  fun c F σ H hr E Q q => of_pe (pe_slice sl_list pe_tE po_tO po_tO) (h c F σ H hr E _ fun v d F1 H1 S1 h1 E1 k1 r1 => ptd_run hr E1 h1 _ fun l F2 H2 S2 h2 E2 k2 => ptd_run hr E2 h2 _ fun u F3 H3 S3 h3 E3 k3 => by
    obtain ⟨ds, rfl, kd⟩ := h3
    cases r1.ex (k2.trans k3) with
    | @lst a vs _ ha rv => exact ⟨_, vs, rfl, .inl (.inl (E3.fin.fh _ _ ha)), fun p n => q p _ F3 _ S3 kd (newL_of E3 n (cut_rp rv l u)) ((k1.trans k2).trans k3)⟩)
theorem od_catT {K0 : PySem.W.Frag} {xs ys : List D} {K : D → Prop} (hl : xs.length + ys.length ≤ sizeLine) (k : K (.tuple (xs ++ ys))) : OpD (rCatA K0) (.tuple xs) (.tuple ys) K := fun F H v1 v2 kF r1 r2 Q q => by
  cases r1 with
  | @tup a vs _ ha rv =>
    cases r2 with
    | @tup b ws _ hb rw' =>
      refine ⟨a, b, vs, ws, rfl, rfl, .inl (.inl (kF _ _ ha)), .inl (.inl (kF _ _ hb)), by rw [rv.length, rw'.length]; exact hl, fun e => ?_, fun _ e => ?_, fun _ _ p n => ?_⟩
      · subst e; cases rv
        exact q _ _ F H k (Grow.refl kF) (.tup hb rw')
      · subst e; cases rw'
        rw [List.append_nil] at k
        exact q _ _ F H k (Grow.refl kF) (.tup ha rv)
      · have g := Grow.new kF (o := .tup (vs ++ ws)) n
        exact q _ _ _ _ k g (.tup upd_same ((rv.append rw').ex g.kF))
/-- xs + ys of lists: a new list -/
theorem jn_cat {K : List D → List Sl → Prop} {a b : Expr} {pos : Pos} (h : JE X r a S fun d1 S1 => JE X r b S1 fun d2 S2 => ∃ xs ys, d1 = .list xs ∧ d2 = .list ys ∧ xs.length + ys.length ≤ sizeLine ∧ K (xs ++ ys) S2) : JN X r (.BinOp a .Add b pos) S K :=
  fun c F σ H hr E Q q => of_pe (pe_op op_cat pe_tE pe_tE) (h c F σ H hr E _ fun v1 d1 F1 H1 S1 h1 E1 k1 r1 => h1 c F1 σ H1 hr E1 _ fun v2 d2 F2 H2 S2 h2 E2 k2 r2 => by
    obtain ⟨xs, ys, rfl, rfl, hl, kd⟩ := h2
    cases r1.ex k2 with
    | @lst a vs _ ha rv =>
      cases r2 with
      | @lst b ws _ hb rw' => exact ⟨a, b, vs, ws, rfl, rfl, E2.fin.fh _ _ ha, E2.fin.fh _ _ hb, by rw [rv.length, rw'.length]; exact hl, fun p n => q p _ F2 _ S2 kd (newL_of E2 n (rv.append rw')) (k1.trans k2)⟩)

/-! ### calls of built-ins -/
theorem cd_lenT {K0 : PySem.W.Frag} {xs : List D} {K : D → Prop} (k : K (.int (xs.length : Nat))) : CallD (fun vs H Q => ∃ p ys, vs = [.ref p] ∧ (SqL K0 H p ys ∨ SqT K0 H p ys) ∧ Q (.int ys.length) H) [.tuple xs] K := fun F H vs kF rv Q q => by
  cases rv with
  | cons r1 t =>
    cases t
    cases r1 with
    | @tup a ws _ ha rv => exact ⟨a, ws, rfl, .inr (.inl (.inl (kF _ _ ha))), q _ _ F H (by rw [← rv.length] at k; exact k) (Grow.refl kF) (.int _)⟩
theorem cd_lenL {K0 : PySem.W.Frag} {xs : List D} {K : D → Prop} (k : K (.int (xs.length : Nat))) : CallD (fun vs H Q => ∃ p ys, vs = [.ref p] ∧ (SqL K0 H p ys ∨ SqT K0 H p ys) ∧ Q (.int ys.length) H) [.list xs] K := fun F H vs kF rv Q q => by
  cases rv with
  | cons r1 t =>
    cases t
    cases r1 with
    | @lst a ws _ ha rv => exact ⟨a, ws, rfl, .inl (.inl (.inl (kF _ _ ha))), q _ _ F H (by rw [← rv.length] at k; exact k) (Grow.refl kF) (.int _)⟩
theorem RpA.bools {F : Hp} : ∀ {bs : List Bool} {vs : List V}, RpA F vs (bs.map PyData.bool) → vs = bs.map V.bl
  | [], _, h => by cases h; rfl
  | b :: bs, _, h => by
    cases h with
    | cons r t =>
      cases r
      rw [RpA.bools t]; rfl
theorem cd_all {K0 : PySem.W.Frag} {bs : List Bool} {K : D → Prop} (k : K (.bool (bs.all id))) : CallD (rAll K0) [.list (bs.map .bool)] K := fun F H vs kF rv Q q => by
  cases rv with
  | cons r1 t =>
    cases t
    cases r1 with
    | @lst a ws _ ha rv =>
      have e := rv.bools
      subst e
      exact ⟨a, bs, rfl, .inl (.inl (kF _ _ ha)), q _ _ F H k (Grow.refl kF) (.bl _)⟩
theorem cd_any {K0 : PySem.W.Frag} {bs : List Bool} {K : D → Prop} (k : K (.bool (bs.any id))) : CallD (rAny K0) [.list (bs.map .bool)] K := fun F H vs kF rv Q q => by
  cases rv with
  | cons r1 t =>
    cases t
    cases r1 with
    | @lst a ws _ ha rv =>
      have e := rv.bools
      subst e
      exact ⟨a, bs, rfl, .inl (.inl (kF _ _ ha)), q _ _ F H k (Grow.refl kF) (.bl _)⟩
/-- tuple(list) -/
theorem je_tupL {K : D → List Sl → Prop} {a : Expr} {p pos : Pos} (hg : Gl X "tuple") (hm : X.mg "tuple" = none) (na : starEach [a] X.env = (false, eval a X.env) :: starEach [] X.env) (h : JE X r a S fun d S1 => ∃ xs, d = .list xs ∧ K (.tuple xs) S1) : JE X r (.Call (.Name "tuple" p) [a] [] pos) S K :=
  fun c F σ H hr E Q q => of_pe (pe_tupleOf hg hm pe_tE na) (h c F σ H hr E _ fun v d F1 H1 S1 h1 E1 k1 r1 => by
    obtain ⟨xs, rfl, kd⟩ := h1
    cases r1 with
    | @lst a ws _ ha rv =>
      refine .inl ⟨a, ws, rfl, .inl (.inl (E1.fin.fh _ _ ha)), fun p n => ?_⟩
      have g := Grow.new E1.fin.fh (o := .tup ws) n
      exact q _ _ _ _ S1 kd (E1.grow g) (k1.trans g.kF) (.tup upd_same (rv.ex g.kF)))
theorem rg_rp {F : Hp} (a b : Int) : RpA F (rgV a b) (rangeD a (b - a).toNat) := by
  unfold rgV rangeD
  generalize List.range (b - a).toNat = l
  induction l with
  | nil => exact .nil
  | cons x l ih => exact .cons (.int _) ih
theorem jn_listRg1 {K : List D → List Sl → Prop} {a : Expr} {p p2 pos pos2 : Pos} (hc : X.calm = true) (hg : Gl X "list") (hm : X.mg "list" = none) (hg2 : Gl X "range") (hm2 : X.mg "range" = none) (na : starEach [a] X.env = (false, eval a X.env) :: starEach [] X.env)
    (ne : starEach [.Call (.Name "range" p2) [a] [] pos2] X.env = (false, eval (.Call (.Name "range" p2) [a] [] pos2) X.env) :: starEach [] X.env)
    (h : JE X r a S fun d S1 => ∃ n : Int, d = .int n ∧ RgOk 0 n ∧ K (rangeD 0 n.toNat) S1) : JN X r (.Call (.Name "list" p) [.Call (.Name "range" p2) [a] [] pos2] [] pos) S K :=
  fun c F σ H hr E Q q => of_pe (pe_listRg hc hg hm (prg_1 hg2 hm2 pe_tE na) ne) (h c F σ H hr E _ fun v d F1 H1 S1 h1 E1 k1 r1 => by
    obtain ⟨n, rfl, hb, kd⟩ := h1
    cases r1
    refine ⟨n, rfl, hb, fun p n' => q p _ F1 _ S1 kd (newL_of E1 n' ?_) k1⟩
    have := rg_rp (F := F1) 0 n
    rw [Int.sub_zero] at this
    exact this)
theorem je_tupRg1 {K : D → List Sl → Prop} {a : Expr} {p p2 pos pos2 : Pos} (hc : X.calm = true) (hg : Gl X "tuple") (hm : X.mg "tuple" = none) (hg2 : Gl X "range") (hm2 : X.mg "range" = none) (na : starEach [a] X.env = (false, eval a X.env) :: starEach [] X.env)
    (ne : starEach [.Call (.Name "range" p2) [a] [] pos2] X.env = (false, eval (.Call (.Name "range" p2) [a] [] pos2) X.env) :: starEach [] X.env)
    (h : JE X r a S fun d S1 => ∃ n : Int, d = .int n ∧ RgOk 0 n ∧ K (.tuple (rangeD 0 n.toNat)) S1) : JE X r (.Call (.Name "tuple" p) [.Call (.Name "range" p2) [a] [] pos2] [] pos) S K :=
  fun c F σ H hr E Q q => of_pe (pe_tupRg hc hg hm (prg_1 hg2 hm2 pe_tE na) ne) (h c F σ H hr E _ fun v d F1 H1 S1 h1 E1 k1 r1 => by
    obtain ⟨n, rfl, hb, kd⟩ := h1
    cases r1
    refine ⟨n, rfl, hb, fun p n' => ?_⟩
    have rv := rg_rp (F := F1) 0 n
    rw [Int.sub_zero] at rv
    have g := Grow.new E1.fin.fh (o := .tup (rgV 0 n)) n'
    exact q _ _ _ _ S1 kd (E1.grow g) (k1.trans g.kF) (.tup upd_same (rv.ex g.kF)))
/-- list(xs) -/
theorem cn_list {K0 : PySem.W.Frag} {xs : List D} {K : List D → Prop} {d : D} (hd : d = .list xs ∨ d = .tuple xs) (k : K xs) : CallN (fun vs H Q => ∃ p ys, vs = [.ref p] ∧ (SqL K0 H p ys ∨ SqT K0 H p ys) ∧ ∀ l, H l = none → Q (.ref l) (upd H l (.lst ys))) [d] K := fun F H vs kF rv Q q => by
  rcases hd with rfl | rfl
  all_goals
    cases rv with
    | cons r1 t =>
      cases t
      first
        | (cases r1 with
          | @lst a ws _ ha rv => exact ⟨a, ws, rfl, .inl (.inl (.inl (kF _ _ ha))), fun l n => q l ws xs k n rv⟩)
        | (cases r1 with
          | @tup a ws _ ha rv => exact ⟨a, ws, rfl, .inr (.inl (.inl (kF _ _ ha))), fun l n => q l ws xs k n rv⟩)
/-- repr -/
def rRepr (X : Cx) : List V → Hp → VK → Prop := fun vs H Q => ∃ F x d, vs = [x] ∧ Ex F H ∧ Rp F x d ∧ d.plain = true ∧ d.showable = true ∧ d.hasDict = false ∧ X.A.units + (d.depth + 1) < cLine ∧ d.shown.length ≤ sizeLine ∧ Q (.str d.shown) H
theorem call_repr (hg : X.A.guards = some []) : CallR X (.builtin "repr") (rRepr X) := by
  intro pins s σ H xs us Q I rr h
  obtain ⟨F, x, d, rfl, k, rp, hpl, hs, hd, hu, hz, q⟩ := h
  obtain ⟨u, rfl, rx⟩ := vals1 rr
  cases rp with
  | non =>
    cases rx
    exact PySem.P.repr_of_none ⟨.str _, H, I.tok _, ⟨_, rfl⟩, by simpa only [PyData.shown] using q⟩
  | bl b =>
    cases rx
    exact PySem.P.repr_of_bool ⟨.str _, H, I.tok _, ⟨_, rfl⟩, by simpa only [PyData.shown] using q⟩
  | int i =>
    obtain ⟨t, rfl⟩ := rx
    exact PySem.P.repr_of_int (by simpa only [PyData.showable, decide_eq_true_eq] using hs) ⟨.str _, H, I.tok _, ⟨_, rfl⟩, by simpa only [PyData.shown] using q⟩
  | str x =>
    obtain ⟨t, rfl⟩ := rx
    exact PySem.P.repr_of_str ⟨.str _, H, I.tok _, ⟨_, rfl⟩, by simpa only [PyData.shown] using q⟩ (by simpa only [PyData.shown] using hz)
  | @tup a ws ds ha rv =>
    cases rx
    obtain ⟨as, hr⟩ := (Rp.tup ha rv).reads k I.hok rfl hpl
    exact repr_of_reads' hr hs (fun e => by rw [hd] at e; cases e) hg hu (fun _ _ e => e) (fun h' u tk hk => ⟨.str _, H, I.kept hk, ⟨_, rfl⟩, q⟩) hz
  | @lst a ws ds ha rv =>
    cases rx
    obtain ⟨as, hr⟩ := (Rp.lst ha rv).reads k I.hok rfl hpl
    exact repr_of_reads' hr hs (fun e => by rw [hd] at e; cases e) hg hu (fun _ _ e => e) (fun h' u tk hk => ⟨.str _, H, I.kept hk, ⟨_, rfl⟩, q⟩) hz
  | dct ha rv => unfold dctD at hpl; simp only [PyData.plain] at hpl; cases hpl
  | ftup ha n rv => unfold ft at hpl; simp only [PyData.plain] at hpl; cases hpl
end

/-! ### a def by its body -/
def Ar.sl : Ar → Sl
  | Ar.d x => .val x
  | Ar.src => .src
def startS (N : List Str) (as : List Ar) : List Sl := as.map Ar.sl ++ List.replicate (N.length - as.length) .emp
theorem env_start {c : C} {H : Hp} {vs : List V} {as : List Ar} {N : List Str} (fn : Fin c c.F0 H) (ra : ArA c c.F0 vs as) : EvD c (startS N as) c.F0 (L2.start N vs) H := by
  have hl := ra.length
  refine ⟨fn, ?_, fun i s e => ?_, fun i j xs ys a e1 e2 _ _ => ?_⟩
  · unfold L2.start startS
    simp [hl]
  · unfold startS at e
    unfold L2.start
    by_cases hi : i < as.length
    · rw [List.getElem?_append_left (by rw [List.length_map]; exact hi)] at e
      rw [List.getElem?_append_left (by rw [List.length_map, hl]; exact hi)]
      clear hl fn
      induction ra generalizing i with
      | nil => simp at hi
      | @cons v a vs as rr t ih =>
        cases i with
        | zero =>
          simp at e
          subst e
          refine ⟨some v, by simp, ?_⟩
          cases a with
          | d d => exact ⟨v, rfl, rr⟩
          | src =>
            obtain ⟨p, e1, e2⟩ := rr
            exact ⟨p, e1, by rw [e2]⟩
        | succ i =>
          obtain ⟨x, e1, e2⟩ := ih i (by simpa using e) (by simpa using hi)
          exact ⟨x, by simpa using e1, e2⟩
    · rw [List.getElem?_append_right (by rw [List.length_map]; omega)] at e
      rw [List.getElem?_append_right (by rw [List.length_map, hl]; omega)]
      rw [List.length_map] at e ⊢
      rw [hl]
      have := (List.getElem?_eq_some_iff.mp e).1
      rw [List.length_replicate] at this
      rw [List.getElem?_replicate_of_lt this] at e
      cases e
      exact ⟨none, by rw [List.getElem?_replicate_of_lt this], trivial⟩
  · have no : ∀ {i : Nat} {xs : OB}, (startS N as)[i]? ≠ some (.ob xs) := fun {i xs} e => by
      have hm := List.mem_of_getElem? e
      unfold startS at hm
      rcases List.mem_append.mp hm with hm | hm
      · obtain ⟨a, _, e⟩ := List.mem_map.mp hm
        cases a <;> cases e
      · have := List.eq_of_mem_replicate hm
        cases this
    exact absurd e1 no
section
variable {P : Program} {w : World} {K : PySem.W.Frag} {mg : Str → Option Value} {base : Heap}
theorem fn_D {x qual : Str} {st : Stmt} {f : Addr} {fd : FuncData} {N ps : List Str} {k : Nat} {φ : List Ar → (D → Prop) → Prop} (F : Fun K x qual st f fd) (Sc : FnScope N ps (defScope st)) (len : ∀ as Kd, φ as Kd → as.length = ps.length)
    (hbody : ∀ (as : List Ar) (Kd : D → Prop) (r : SR) (cdv : Value) (A : Around) (outer : List PySem.Env) (s : Shared) (H : Hp) (E : XK), Room k (A.deeper (PyProof.Rows.envOfC qual (defScope st) s.heap.objs.size f cdv)) → φ as Kd →
      JSs (cxOf CX0 P w K mg base N qual (defScope st) f cdv A outer s H E).nox r (defBody st) (startS N as) { nx := fun _ => Kd .none, rt := Kd }) : FnOk P w K mg base CX0 (k + 1) f fd ps (SpD φ) := by
  refine F.ok Sc (fun vs H Q E h => ?_) (fun cdv A outer s H vs Q E hr h => ?_)
  · obtain ⟨c, as, Kd, fn, ra, hφ, _⟩ := h
    rw [ra.length]; exact len as Kd hφ
  · obtain ⟨c, as, Kd, fn, ra, hφ, q⟩ := h
    refine ⟨_, pss_tSs, hbody as Kd (srL c) cdv A outer s H E hr hφ c c.F0 _ H (srL_refl c) (env_start fn ra) _ ⟨fun F' σ' H' S' a E' k' => q .non .none F' H' a E'.fin .non, fun v d F' H' a fn' rp => q v d F' H' a fn' rp, fun _ _ _ _ a => a.elim, fun _ _ _ _ a => a.elim⟩⟩
end
end DL

/-! DL: comprehensions that change nothing. -/
namespace DL
open PySem L2
section
variable {X : Cx} {r : SR} {S : List Sl}
/-- a turn that changes nothing: the test's answer p, the element y -/
def LcPure (X : Cx) (r : SR) (scope : Scope) (tg elt : Expr) (ifs : List Expr) (vs ts : List Nat) (d : D) (S : List Sl) (p : Bool) (y : D) : Prop :=
  Blk X scope fun Y => JG Y r tg ts d (wipeS S vs) fun S2 => Blk X scope fun Y => JTs Y r ifs S2 fun b S3 => b = p ∧ (p = false → mrg vs S S3 = S) ∧ (p = true → Blk X scope fun Y => JE Y r elt S3 fun z S4 => z = y ∧ mrg vs S S4 = S)
theorem JG.mono {tg : Expr} {ts : List Nat} {d : D} {K K' : List Sl → Prop} (h : JG X r tg ts d S K) (k : ∀ S', K S' → K' S') : JG X r tg ts d S K' :=
  fun c F σ H v hr E rv Q q => h c F σ H v hr E rv Q fun F' σ' H' S' a => q F' σ' H' S' (k S' a)
theorem JI.mono {tg iter : Expr} {K K' : List D → List Sl → Prop} (h : JI X r tg iter S K) (k : ∀ ds S', K ds S' → K' ds S') : JI X r tg iter S K' :=
  fun c F σ H hr E R q => h c F σ H hr E R fun J ds F' H' S' a => q J ds F' H' S' (k ds S' a)
theorem JTs.mono {ifs : List Expr} {K K' : Bool → List Sl → Prop} (h : JTs X r ifs S K) (k : ∀ b S', K b S' → K' b S') : JTs X r ifs S K' := by
  match ifs, h with
  | [], h => exact k true S h
  | [t], h => exact JT.mono (X := X) (r := r) (S := S) (K := K) (K' := K') h k
/-- the items as data, what becomes of them -/
def LcAll (X : Cx) (r : SR) (scope : Scope) (tg elt : Expr) (ifs : List Expr) (vs ts : List Nat) (ds : List D) (S : List Sl) (K : List D → Prop) : Prop :=
  ∃ (α : Type) (as : List α) (enc : α → D) (p : α → Bool) (g : α → D), ds = as.map enc ∧ as.length ≤ 1000000 ∧ (∀ a ∈ as, LcPure X r scope tg elt ifs vs ts (enc a) S (p a) (g a)) ∧ K ((as.filter p).map g)
theorem lc_pure {scope : Scope} {tg elt : Expr} {ifs : List Expr} {vs ts : List Nat} {ds : List D} {K : List D → List Sl → Prop} (hv : ∀ j ∈ vs, ∀ xs, S[j]? ≠ some (.ob xs)) (h : LcAll X r scope tg elt ifs vs ts ds S fun zs => K zs S) :
    ∃ I : Nat → List D → List Sl → Prop, I 0 [] S ∧ (∀ i acc S', I i acc S' → i ≤ ds.length → acc.length < sizeLine ∧ ∀ j ∈ vs, ∀ xs, S'[j]? ≠ some (.ob xs)) ∧
      (∀ i d acc S', ds[i]? = some d → I i acc S' → LcTurn X r scope tg elt ifs vs ts d S' (fun y S4 => I (i + 1) (acc ++ [y]) S4) fun S4 => I (i + 1) acc S4) ∧ ∀ acc S', I ds.length acc S' → K acc S' := by
  obtain ⟨α, as, enc, p, g, rfl, hl, turn, fin⟩ := h
  refine ⟨fun i acc S' => S' = S ∧ acc = ((as.take i).filter p).map g, ⟨rfl, rfl⟩, fun i acc S' hI hi => ?_, fun i d acc S' hd hI => ?_, fun acc S' hI => ?_⟩
  · obtain ⟨rfl, rfl⟩ := hI
    refine ⟨?_, hv⟩
    rw [List.length_map]
    refine Nat.lt_of_le_of_lt (List.length_filter_le _ _) ?_
    rw [List.length_take]
    have : sizeLine = 16777216 := sizeLine_eq
    have := Nat.min_le_right i as.length
    omega
  · obtain ⟨rfl, rfl⟩ := hI
    rw [List.getElem?_map] at hd
    cases ha : as[i]? with
    | none => rw [ha] at hd; cases hd
    | some a =>
      rw [ha] at hd
      cases hd
      have t := turn a (List.mem_of_getElem? ha)
      have tk : as.take (i + 1) = as.take i ++ [a] := by rw [List.take_add_one, ha]; rfl
      intro s H C cl fp
      refine (t s H C cl fp).mono fun S2 t2 s1 H1 C1 cl1 fp1 => (t2 s1 H1 C1 cl1 fp1).mono fun b S3 t3 => ?_
      obtain ⟨rfl, t3, t4⟩ := t3
      cases hp : p a with
      | false =>
        rw [if_neg Bool.false_ne_true]
        refine ⟨t3 hp, ?_⟩
        rw [tk, List.filter_append, List.map_append]
        simp [hp]
      | true =>
        rw [if_pos rfl]
        intro s2 H2 C2 cl2 fp2
        refine (t4 hp s2 H2 C2 cl2 fp2).mono fun z S4 t5 => ?_
        obtain ⟨rfl, t5⟩ := t5
        refine ⟨t5, ?_⟩
        rw [tk, List.filter_append, List.map_append]
        simp [hp]
  · obtain ⟨rfl, rfl⟩ := hI
    rw [List.length_map, List.take_length]
    exact fin
theorem jn_lcP {elt tg iter : Expr} {ifs : List Expr} {scope : Scope} {pos : Pos} (own : List (Str × Nat)) (ts : List Nat) {K : List D → List Sl → Prop} (hc : X.calm = true) (hN : X.N.Nodup) (ok : BlkOk X.N X.env.scope scope own) (hs : ∀ x, foldedSetIterable iter X.env x = pure x) (hts : ∀ j ∈ ts, j ∈ own.map (·.2))
    (h : JI X r tg iter S fun ds S1 => (∀ j ∈ own.map (·.2), ∀ xs, S1[j]? ≠ some (.ob xs)) ∧ LcAll X r scope tg elt ifs (own.map (·.2)) ts ds S1 fun zs => K zs S1) : JN X r (.ListComp elt [⟨tg, iter, ifs, 0⟩] scope pos) S K :=
  jn_lc own ts hc hN ok hs hts (h.mono fun ds S1 h => lc_pure h.1 h.2)
end
end DL

/-! DL: the rules in short, for steps of a proof. -/
namespace DL
open PySem L2
section
variable {X : Cx} {r : SR} {S : List Sl}
theorem ifb {b : Bool} {A B : Prop} (h1 : b = true → A) (h2 : b = false → B) : if b = true then A else B := by
  cases b with
  | true => rw [if_pos rfl]; exact h1 rfl
  | false => rw [if_neg Bool.false_ne_true]; exact h2 rfl
theorem ift {b : Bool} {A B : Prop} (h : b = true) (h1 : A) : if b = true then A else B := by rw [if_pos h]; exact h1
theorem iff' {b : Bool} {A B : Prop} (h : b = false) (h1 : B) : if b = true then A else B := by rw [if_neg (by rw [h]; exact Bool.false_ne_true)]; exact h1
theorem jv {K : D → List Sl → Prop} {x : Str} {pos : Pos} (i : Nat) {d : D} (k : K d S) (e : S[i]? = some (.val d) := by rfl) (hN : X.N[i]? = some x := by rfl) (hv : Vis X.env.scope x := by first | exact Or.inl rfl | exact Or.inr (Or.inl rfl) | exact Or.inr (Or.inr rfl)) (hd : (x == ("__debug__" : Str)) = false := by decide) (hcd : (x == ("__classdict__" : Str)) = false := by decide) :
    JE X r (.Name x pos) S K := je_var i hN hv hd hcd e k
theorem jo {K : D → List Sl → Prop} {x : Str} {pos : Pos} (i : Nat) {xs : List D} (k : K (.list xs) (S.set i (.val (.list xs)))) (e : S[i]? = some (.ob (.l xs)) := by rfl) (hN : X.N[i]? = some x := by rfl) (hv : Vis X.env.scope x := by first | exact Or.inl rfl | exact Or.inr (Or.inl rfl) | exact Or.inr (Or.inr rfl)) (hd : (x == ("__debug__" : Str)) = false := by decide) (hcd : (x == ("__classdict__" : Str)) = false := by decide) :
    JE X r (.Name x pos) S K := je_own i hN hv hd hcd e k
theorem joO {K : D → List Sl → Prop} {x : Str} {pos : Pos} (i : Nat) {xs : OB} (k : K (obD xs) (S.set i (.val (obD xs)))) (e : S[i]? = some (.ob xs) := by rfl) (hN : X.N[i]? = some x := by rfl) (hv : Vis X.env.scope x := by first | exact Or.inl rfl | exact Or.inr (Or.inl rfl) | exact Or.inr (Or.inr rfl)) (hd : (x == ("__debug__" : Str)) = false := by decide) (hcd : (x == ("__classdict__" : Str)) = false := by decide) :
    JE X r (.Name x pos) S K := je_own i hN hv hd hcd e k
theorem jA {K : List Ar → List Sl → Prop} {e : Expr} {es : List Expr} (h : JE X r e S fun d S1 => JA X r es S1 fun as S2 => K (.d d :: as) S2) (hs : starEach (e :: es) X.env = (false, eval e X.env) :: starEach es X.env := by rfl) : JA X r (e :: es) S K := ja_cons hs h
theorem jA0 {K : List Ar → List Sl → Prop} (k : K [] S) : JA X r [] S K := ja_nil k
theorem jAs {K : List Ar → List Sl → Prop} {x : Str} {p : Pos} {es : List Expr} (i : Nat) (h : JA X r es S fun as S2 => K (.src :: as) S2) (e : S[i]? = some .src := by rfl) (hN : X.N[i]? = some x := by rfl) (hv : Vis X.env.scope x := by first | exact Or.inl rfl | exact Or.inr (Or.inl rfl) | exact Or.inr (Or.inr rfl)) (hd : (x == ("__debug__" : Str)) = false := by decide) (hcd : (x == ("__classdict__" : Str)) = false := by decide)
    (hs : starEach (.Name x p :: es) X.env = (false, eval (.Name x p) X.env) :: starEach es X.env := by rfl) : JA X r (.Name x p :: es) S K := ja_src i hN hv hd hcd hs e h
theorem jret {e : Expr} {pos : Pos} {E : DE} (h : JE X r e S fun d _ => E.rt d) : JSs X r [.Return (some e) pos] S E := jss_cons (js_ret h)
theorem jset {x : Str} {e : Expr} {pos pos' : Pos} {E : DE} {rest : List Stmt} (i : Nat) (h : JE X r e S fun d S1 => JSs X r rest (S1.set i (.val d)) E) (hN : X.N.Nodup := by assumption) (hi : X.N[i]? = some x := by rfl) (hx : Loc X.env.scope x := by first | exact Or.inl rfl | exact Or.inr rfl) (hs : swapsWith e (some (.Name x pos')) pos.line X.env = pure false := by rfl) (hf : X.fn x = true ∨ X.env.scope.names.lookup x = some .local := by first | exact .inl rfl | exact .inr rfl) :
    JSs X r (.Assign [.Name x pos'] e pos :: rest) S E := jss_cons (js_set i hN hi hx hs hf h)
theorem jsetN {x : Str} {e : Expr} {pos pos' : Pos} {E : DE} {rest : List Stmt} (i : Nat) (h : JN X r e S fun ds S1 => JSs X r rest (S1.set i (.own ds)) E) (hN : X.N.Nodup := by assumption) (hi : X.N[i]? = some x := by rfl) (hx : Loc X.env.scope x := by first | exact Or.inl rfl | exact Or.inr rfl) (hs : swapsWith e (some (.Name x pos')) pos.line X.env = pure false := by rfl) (hf : X.fn x = true ∨ X.env.scope.names.lookup x = some .local := by first | exact .inl rfl | exact .inr rfl) :
    JSs X r (.Assign [.Name x pos'] e pos :: rest) S E := jss_cons (js_setN i hN hi hx hs hf h)
theorem jsetO {x : Str} {e : Expr} {pos pos' : Pos} {E : DE} {rest : List Stmt} (i : Nat) (h : JO X r e S fun o S1 => JSs X r rest (S1.set i (.ob o)) E) (hN : X.N.Nodup := by assumption) (hi : X.N[i]? = some x := by rfl) (hx : Loc X.env.scope x := by first | exact Or.inl rfl | exact Or.inr rfl) (hs : swapsWith e (some (.Name x pos')) pos.line X.env = pure false := by rfl) (hf : X.fn x = true ∨ X.env.scope.names.lookup x = some .local := by first | exact .inl rfl | exact .inr rfl) :
    JSs X r (.Assign [.Name x pos'] e pos :: rest) S E := jss_cons (js_setO i hN hi hx hs hf h)
theorem jif {t : Expr} {a b rest : List Stmt} {pos : Pos} {E : DE} (h : JT X r t S fun k S1 => if k = true then JSs X r a S1 { E with nx := fun S2 => JSs X r rest S2 E } else JSs X r b S1 { E with nx := fun S2 => JSs X r rest S2 E }) : JSs X r (.If t a b pos :: rest) S E := jss_cons (js_if h)
theorem jexpr {e : Expr} {pos : Pos} {rest : List Stmt} {E : DE} (h : JE X r e S fun _ S1 => JSs X r rest S1 E) (hs : swapsWith e none pos.line X.env = pure false := by rfl) : JSs X r (.Expr e pos :: rest) S E := jss_cons (js_expr hs h)
theorem jasg {tg e : Expr} {pos : Pos} {rest : List Stmt} {E : DE} (ts : List Nat) (h : JE X r e S fun d S1 => JG X r tg ts d S1 fun S2 => JSs X r rest S2 E) (hs : swapsWithSole [tg] e pos.line X.env = pure false := by rfl) (hw : swappedStores [tg] e X.env = pure none := by rfl) (h1 : (assignEach [tg] X.env).map (·.2) = [assign tg X.env] := by rfl) :
    JSs X r (.Assign [tg] e pos :: rest) S E := jss_cons (js_asg ts hs hw h1 h)
theorem jg {x : Str} {pos : Pos} {d : D} {K : List Sl → Prop} (i : Nat) (h : K (S.set i (.val d))) (hN : X.N.Nodup := by assumption) (hi : X.N[i]? = some x := by rfl) (hx : Loc X.env.scope x := by first | exact Or.inl rfl | exact Or.inr rfl) (hf : X.fn x = true ∨ X.env.scope.names.lookup x = some .local := by first | exact .inl rfl | exact .inr rfl) :
    JG X r (.Name x pos) [i] d S K := jg_name i hN hi hx hf h
theorem jgT {es : List Expr} {k : Nat} {pos : Pos} {ts : List Nat} {ds : List D} {K : List Sl → Prop} (h : JGs X r es ts ds S K) (hc : X.calm = true := by rfl) (hn : (assignEach es X.env).length = ds.length := by rfl) (hst : (assignEach es X.env).findIdx? (·.1) = none := by rfl) : JG X r (.Tuple es k pos) ts (.tuple ds) S K := jg_tup hc hn hst h
theorem jgs {e : Expr} {es : List Expr} {ts us : List Nat} {d : D} {ds : List D} {K : List Sl → Prop} (h : JG X r e ts d S fun S1 => JGs X r es us ds S1 K) (hs : (assignEach (e :: es) X.env).map (·.2) = assign e X.env :: (assignEach es X.env).map (·.2) := by rfl) : JGs X r (e :: es) (ts ++ us) (d :: ds) S K := jgs_cons hs h
theorem jcmp {K : D → List Sl → Prop} {a b : Expr} {op : CmpOp} {pos : Pos} {rr : R2} (ho : OpR X (compareOp op) rr) (h : JE X r a S fun d1 S1 => JE X r b S1 fun d2 S2 => OpD rr d1 d2 fun d => K d S2) (hm : behindInMarks op b = false := by first | exact nomark _ | rfl) : JE X r (.Compare a [op] [b] pos) S K := je_cmp ho hm h
theorem jtcmp {K : Bool → List Sl → Prop} {a b : Expr} {op : CmpOp} {pos : Pos} {rr : R2} (ho : OpR X (compareOp op) rr) (h : JE X r a S fun d1 S1 => JE X r b S1 fun d2 S2 => OpD rr d1 d2 fun d => ∃ b, d = .bool b ∧ K b S2) (hm : behindInMarks op b = false := by first | exact nomark _ | rfl) : JT X r (.Compare a [op] [b] pos) S K := jt_cmp ho hm h
theorem jtval {K : Bool → List Sl → Prop} {e : Expr} (h : JE X r e S fun d S' => ∃ b, d = .bool b ∧ K b S') (he : ∀ whole, isTrue e X.env whole = (do let v ← whole; standAt e.pos; holding [v] (truthy v)) := by intro _; rfl) : JT X r e S K := jt_val he h
theorem jix {K : D → List Sl → Prop} {a b : Expr} {pos : Pos} {rr : R2} (ho : IxR X rr) (h : JE X r a S fun d1 S1 => JE X r b S1 fun d2 S2 => OpD rr d1 d2 fun d => K d S2) (hs : PlainIx b := by exact fun _ _ => rfl) : JE X r (.Subscript a b pos) S K := je_ix ho hs h
theorem jfor {tg iter : Expr} {body rest : List Stmt} {pos : Pos} {E : DE} (ts : List Nat) (h : JI X r tg iter S fun ds S1 => ∃ I : Nat → List Sl → Prop, I 0 S1 ∧ (∀ i d S', ds[i]? = some d → I i S' → JG X r tg ts d S' fun S2 => JSs X r body S2 { nx := I (i + 1), rt := E.rt, ct := I (i + 1), bk := fun S3 => JSs X r rest S3 E }) ∧ ∀ S', I ds.length S' → JSs X r rest S' E)
    (hp : PassesOwn (model X.prog X.w) X.A X.env X.xe := by exact PassesOwn.never) (hc : X.calm = true := by rfl) (hs : ∀ x, foldedSetIterable iter X.env x = pure x := by intro _; rfl) : JSs X r (.For tg iter body [] pos :: rest) S E := jss_cons (js_for ts hp hc hs h)
theorem jwhile {t : Expr} {body rest : List Stmt} {pos : Pos} {E : DE} (I : Nat → List Sl → Prop) (m0 : Nat) (i0 : I m0 S)
    (step : ∀ m S', I m S' → JT X r t S' fun b S1 => if b = true then JSs X r body S1 { nx := fun S2 => ∃ m', m' < m ∧ I m' S2, rt := E.rt, ct := fun S2 => ∃ m', m' < m ∧ I m' S2, bk := fun S3 => JSs X r rest S3 E } else JSs X r rest S1 E)
    (hp : PassesOwn (model X.prog X.w) X.A X.env X.xe := by exact PassesOwn.never) : JSs X r (.While t body [] pos :: rest) S E := jss_cons (js_while hp I m0 i0 step)
theorem jlc {elt tg iter : Expr} {ifs : List Expr} {scope : Scope} {pos : Pos} (own : List (Str × Nat)) (ts : List Nat) {K : List D → List Sl → Prop}
    (h : JI X r tg iter S fun ds S1 => (∀ j ∈ own.map (·.2), ∀ xs, S1[j]? ≠ some (.ob xs)) ∧ LcAll X r scope tg elt ifs (own.map (·.2)) ts ds S1 fun zs => K zs S1)
    (hc : X.calm = true := by rfl) (hN : X.N.Nodup := by assumption) (ok : BlkOk X.N X.env.scope scope own := by exact blkOk_by rfl) (hs : ∀ x, foldedSetIterable iter X.env x = pure x := by intro _; rfl) (hts : ∀ j ∈ ts, j ∈ own.map (·.2) := by decide) : JN X r (.ListComp elt [⟨tg, iter, ifs, 0⟩] scope pos) S K := jn_lcP own ts hc hN ok hs hts h
theorem jtuple {K : D → List Sl → Prop} {a : Expr} {p pos : Pos} (hm : X.mg "tuple" = none) (h : JE X r a S fun d S1 => ∃ xs, d = .list xs ∧ K (.tuple xs) S1) (hg : Gl X "tuple" := by rfl) (na : starEach [a] X.env = (false, eval a X.env) :: starEach [] X.env := by rfl) : JE X r (.Call (.Name "tuple" p) [a] [] pos) S K := je_tupL hg hm na h
/-- tuple of a new list -/
theorem jtupN {K : D → List Sl → Prop} {a : Expr} {p pos : Pos} (hm : X.mg "tuple" = none) (h : JN X r a S fun xs S1 => K (.tuple xs) S1) (hg : Gl X "tuple" := by rfl) (na : starEach [a] X.env = (false, eval a X.env) :: starEach [] X.env := by rfl) : JE X r (.Call (.Name "tuple" p) [a] [] pos) S K := je_tupL hg hm na (h.mono fun xs S1 k => ⟨xs, rfl, k⟩).je
theorem jrange1 {tg a : Expr} {p pos : Pos} {K : List D → List Sl → Prop} (hm : X.mg "range" = none) (h : JE X r a S fun d S1 => ∃ n : Int, d = .int n ∧ -(2 ^ 62) ≤ n ∧ n < 2 ^ 62 ∧ K (rangeD 0 n.toNat) S1) (hg : Gl X "range" := by rfl) (hs : starEach [a] X.env = [(false, eval a X.env)] := by rfl) : JI X r tg (.Call (.Name "range" p) [a] [] pos) S K :=
  ji_range1 hg hm hs (ja_cons hs (h.mono fun d S1 ⟨n, e, b1, b2, k⟩ => ja_nil ⟨n, by rw [e], b1, b2, k⟩))
theorem jrange2 {tg a b : Expr} {p pos : Pos} {K : List D → List Sl → Prop} (hm : X.mg "range" = none) (h : JE X r a S fun d1 S1 => JE X r b S1 fun d2 S2 => ∃ i j : Int, d1 = .int i ∧ d2 = .int j ∧ (-(2 ^ 62) ≤ i ∧ i < 2 ^ 62 ∧ -(2 ^ 62) ≤ j ∧ j < 2 ^ 62) ∧ K (rangeD i (j - i).toNat) S2) (hg : Gl X "range" := by rfl) (hs : starEach [a, b] X.env = [(false, eval a X.env), (false, eval b X.env)] := by rfl) (hs2 : starEach [b] X.env = [(false, eval b X.env)] := by rfl) : JI X r tg (.Call (.Name "range" p) [a, b] [] pos) S K :=
  ji_range2 hg hm hs hs2 (ja_cons (by rw [hs, hs2]) (h.mono fun d S1 h => ja_cons hs2 (h.mono fun d2 S2 ⟨i, j, e1, e2, b, k⟩ => ja_nil ⟨i, j, by rw [e1, e2], b, k⟩)))
theorem jenum {e : Expr} {p pos tpos : Pos} {elts : List Expr} {kk : Nat} {K : List D → List Sl → Prop} (hm : X.mg "enumerate" = none) (h : JE X r e S fun d S1 => ∃ ds, d = .list ds ∧ K (enumD ds) S1) (hg : Gl X "enumerate" := by rfl) (hs : starEach [e] X.env = [(false, eval e X.env)] := by rfl) : JI X r (.Tuple elts kk tpos) (.Call (.Name "enumerate" p) [e] [] pos) S K :=
  ji_enum hg hm hs (ja_cons hs (h.mono fun d S1 ⟨ds, e, k⟩ => ja_nil ⟨ds, by rw [e], k⟩))
/-- a built-in function, a built-in type, called -/
theorem jB {K : D → List Sl → Prop} {x : Str} {id : String} {e : Expr} {es : List Expr} {p pos : Pos} {rr : List V → Hp → VK → Prop} (hc : CallR X (.builtin id) rr) (hm : X.mg x = none) (h : JA X r (e :: es) S fun as S1 => ∃ ds, dats as = some ds ∧ CallD rr ds fun d => K d S1)
    (hg : Gl X x := by rfl) (hv : bootBuiltins x = some (.builtin id) := by decide +kernel) (hn : x ≠ "__name__" := by decide) (hdb : (x == ("__debug__" : Str)) = false := by decide) (he : starEach (e :: es) X.env = (false, eval e X.env) :: starEach es X.env := by rfl) (hpl : (backTo pos (starEach es X.env)).any (·.1) = false := by rfl) :
    JE X r (.Call (.Name x p) (e :: es) [] pos) S K := je_callP (pe_callB hc hg hm hv pa_tA hn hdb he hpl) h
theorem jTy {K : D → List Sl → Prop} {x : Str} {T : String} {e : Expr} {es : List Expr} {p pos : Pos} {rr : List V → Hp → VK → Prop} (hc : CallR X (.type T) rr) (hm : X.mg x = none) (h : JA X r (e :: es) S fun as S1 => ∃ ds, dats as = some ds ∧ CallD rr ds fun d => K d S1)
    (hg : Gl X x := by rfl) (hv : bootBuiltins x = some (.type T) := by decide +kernel) (hn : x ≠ "__name__" := by decide) (hdb : (x == ("__debug__" : Str)) = false := by decide) (he : starEach (e :: es) X.env = (false, eval e X.env) :: starEach es X.env := by rfl) (hpl : (backTo pos (starEach es X.env)).any (·.1) = false := by rfl) :
    JE X r (.Call (.Name x p) (e :: es) [] pos) S K := je_callP (pe_callTy hc hg hm hv pa_tA hn hdb he hpl) h
theorem jnB {K : List D → List Sl → Prop} {x : Str} {id : String} {e : Expr} {es : List Expr} {p pos : Pos} {rr : List V → Hp → VK → Prop} (hc : CallR X (.builtin id) rr) (hm : X.mg x = none) (h : JA X r (e :: es) S fun as S1 => ∃ ds, dats as = some ds ∧ CallN rr ds fun d => K d S1)
    (hg : Gl X x := by rfl) (hv : bootBuiltins x = some (.builtin id) := by decide +kernel) (hn : x ≠ "__name__" := by decide) (hdb : (x == ("__debug__" : Str)) = false := by decide) (he : starEach (e :: es) X.env = (false, eval e X.env) :: starEach es X.env := by rfl) (hpl : (backTo pos (starEach es X.env)).any (·.1) = false := by rfl) :
    JN X r (.Call (.Name x p) (e :: es) [] pos) S K := jn_callP (pe_callB hc hg hm hv pa_tA hn hdb he hpl) h
theorem jnTy {K : List D → List Sl → Prop} {x : Str} {T : String} {e : Expr} {es : List Expr} {p pos : Pos} {rr : List V → Hp → VK → Prop} (hc : CallR X (.type T) rr) (hm : X.mg x = none) (h : JA X r (e :: es) S fun as S1 => ∃ ds, dats as = some ds ∧ CallN rr ds fun d => K d S1)
    (hg : Gl X x := by rfl) (hv : bootBuiltins x = some (.type T) := by decide +kernel) (hn : x ≠ "__name__" := by decide) (hdb : (x == ("__debug__" : Str)) = false := by decide) (he : starEach (e :: es) X.env = (false, eval e X.env) :: starEach es X.env := by rfl) (hpl : (backTo pos (starEach es X.env)).any (·.1) = false := by rfl) :
    JN X r (.Call (.Name x p) (e :: es) [] pos) S K := jn_callP (pe_callTy hc hg hm hv pa_tA hn hdb he hpl) h
theorem ja1 {e : Expr} {K : List Ar → List Sl → Prop} (h : JE X r e S fun d S1 => K [.d d] S1) (hs : starEach [e] X.env = (false, eval e X.env) :: starEach [] X.env := by rfl) : JA X r [e] S K := ja_cons hs (h.mono fun _ _ k => ja_nil k)
theorem jlen {K : D → List Sl → Prop} {a : Expr} {p pos : Pos} (hm : X.mg "len" = none) (h : JE X r a S fun d S1 => ∃ xs, (d = .list xs ∨ d = .tuple xs) ∧ K (.int (xs.length : Nat)) S1) (hg : Gl X "len" := by rfl) (hs : starEach [a] X.env = (false, eval a X.env) :: starEach [] X.env := by rfl) : JE X r (.Call (.Name "len" p) [a] [] pos) S K :=
  jB call_len_seq hm (ja1 (h.mono fun d S1 ⟨xs, e, k⟩ => ⟨[d], rfl, by rcases e with rfl | rfl; exact cd_lenL k; exact cd_lenT k⟩) hs) hg PySem.boot_len (by decide) (by decide) hs rfl
theorem jall {K : D → List Sl → Prop} {a : Expr} {p pos : Pos} (hc : X.calm = true) (hm : X.mg "all" = none) (h : JN X r a S fun ds S1 => ∃ bs : List Bool, ds = bs.map .bool ∧ K (.bool (bs.all id)) S1) (hg : Gl X "all" := by rfl) (hs : starEach [a] X.env = (false, eval a X.env) :: starEach [] X.env := by rfl) : JE X r (.Call (.Name "all" p) [a] [] pos) S K :=
  jB (cr_all hc) hm (ja1 (JN.je (h.mono fun ds S1 ⟨bs, e, k⟩ => ⟨[.list ds], rfl, by rw [e]; exact cd_all k⟩)) hs) hg (by decide +kernel) (by decide) (by decide) hs rfl

/-- a def of the text: where it stands -/
structure Dn (K : PySem.W.Frag) (mg : Str → Option Value) (x : Str) (st : Stmt) (ps : List Str) (f : Addr) (fd : FuncData) : Prop where
  F : Fun K x x st f fd
  g : mg x = some (.ref f)
  b : Binds K fd ps []
theorem jcall {K0 : D → List Sl → Prop} {k k' : Nat} {f : Addr} {fd : FuncData} {ps : List Str} {x : Str} {st : Stmt} {p pos : Pos} {e : Expr} {es : List Expr} {φ : List Ar → (D → Prop) → Prop} (hr : Room k' X.A) (N : Dn X.K X.mg x st ps f fd) (F : FnOk X.prog X.w X.K X.mg X.base CX0 k f fd ps (SpD φ))
    (h : JA X r (e :: es) S fun as S1 => φ as fun d => K0 d S1) (hk : k ≤ k' := by decide) (hg : Gl X x := by rfl) (hdb : (x == ("__debug__" : Str)) = false := by decide)
    (he : starEach (e :: es) X.env = (false, eval e X.env) :: starEach es X.env := by rfl) (hpl : (backTo pos (starEach es X.env)).any (·.1) = false := by rfl) : JE X r (.Call (.Name x p) (e :: es) [] pos) S K0 :=
  je_call F (hr.mono hk) hg N.g N.F.kp N.b hdb (fun ha => pe_call F (hr.mono hk) hg N.g N.F.kp N.b .nil pass0 ha hdb he hpl) h
end
end DL

/-! DL: data that is nice; comprehensions in short. -/
namespace DL
open PySem L2
/-! ### nice data -/
structure Nice (n : Nat) (d : D) : Prop where
  pl : d.plain = true
  dp : d.depth ≤ n
theorem Nice.mono {m n : Nat} {d : D} (h : Nice m d) (k : m ≤ n) : Nice n d := ⟨h.pl, Nat.le_trans h.dp k⟩
theorem nice_int {n : Nat} (i : Int) : Nice n (.int i) := ⟨rfl, Nat.zero_le _⟩
theorem nice_bool {n : Nat} (b : Bool) : Nice n (.bool b) := ⟨rfl, Nat.zero_le _⟩
theorem nice_str {n : Nat} (b : Str) : Nice n (.str b) := ⟨rfl, Nat.zero_le _⟩
theorem nice_none {n : Nat} : Nice n .none := ⟨rfl, Nat.zero_le _⟩
theorem plainAll_of : ∀ {ds : List D}, (∀ d ∈ ds, d.plain = true) → PyData.plainAll ds = true
  | [], _ => rfl
  | d :: ds, h => by
    rw [PyData.plainAll, h d List.mem_cons_self, plainAll_of fun x hx => h x (List.mem_cons_of_mem _ hx)]
    rfl
theorem depthAll_of {n : Nat} : ∀ {ds : List D}, (∀ d ∈ ds, d.depth ≤ n) → PyData.depthAll ds ≤ n
  | [], _ => Nat.zero_le _
  | d :: ds, h => by
    rw [PyData.depthAll]
    exact Nat.max_le.mpr ⟨h d List.mem_cons_self, depthAll_of fun x hx => h x (List.mem_cons_of_mem _ hx)⟩
theorem nice_list {n : Nat} {ds : List D} (h : ∀ d ∈ ds, Nice n d) : Nice (n + 1) (.list ds) := ⟨by simp only [PyData.plain]; exact plainAll_of fun d hd => (h d hd).pl, by simp only [PyData.depth]; exact Nat.succ_le_succ (depthAll_of fun d hd => (h d hd).dp)⟩
theorem nice_tup {n : Nat} {ds : List D} (h : ∀ d ∈ ds, Nice n d) : Nice (n + 1) (.tuple ds) := ⟨by simp only [PyData.plain]; exact plainAll_of fun d hd => (h d hd).pl, by simp only [PyData.depth]; exact Nat.succ_le_succ (depthAll_of fun d hd => (h d hd).dp)⟩
theorem nice_map {α : Type} {n : Nat} {f : α → D} {l : List α} (h : ∀ a, Nice n (f a)) : ∀ d ∈ l.map f, Nice n d := fun d hd => by
  obtain ⟨a, _, rfl⟩ := List.mem_map.mp hd
  exact h a
theorem nice_cons {n : Nat} {d : D} {ds : List D} (h : Nice n d) (t : ∀ d ∈ ds, Nice n d) : ∀ x ∈ d :: ds, Nice n x := fun x hx => by
  rcases List.mem_cons.mp hx with rfl | hx
  · exact h
  · exact t x hx
theorem nice_nil {n : Nat} : ∀ x ∈ ([] : List D), Nice n x := fun _ h => by cases h
section
variable {X : Cx} {r : SR} {S : List Sl}
theorem od_eqG {k : Nat} (hr : Room k X.A) {d1 d2 : D} {K : D → Prop} (h1 : Nice 50 d1) (h2 : Nice 50 d2) (h : K (.bool (PyData.eqv d1 d2))) : OpD (rEqD X) d1 d2 K :=
  fun F H v1 v2 kF r1 r2 Q q => ⟨F, _, _, kF, r1, r2, h1.pl, h2.pl, (by
    have := units_le hr (Nat.le_trans h1.dp (by decide : 50 ≤ 60)); have := Nat.min_le_left d1.depth d2.depth; omega), q _ _ F H h (Grow.refl kF) (.bl _)⟩
theorem od_neG {k : Nat} (hr : Room k X.A) {d1 d2 : D} {K : D → Prop} (h1 : Nice 50 d1) (h2 : Nice 50 d2) (h : K (.bool (!PyData.eqv d1 d2))) : OpD (rNeD X) d1 d2 K :=
  fun F H v1 v2 kF r1 r2 Q q => ⟨F, _, _, kF, r1, r2, h1.pl, h2.pl, (by
    have := units_le hr (Nat.le_trans h1.dp (by decide : 50 ≤ 60)); have := Nat.min_le_left d1.depth d2.depth; omega), q _ _ F H h (Grow.refl kF) (.bl _)⟩
theorem eqv_nil (zs : List D) : PyData.eqv (.list zs) (.list []) = zs.isEmpty := by
  cases zs <;> simp [PyData.eqv, PyData.eqvAll]
theorem eqv_nilT (zs : List D) : PyData.eqv (.tuple zs) (.tuple []) = zs.isEmpty := by
  cases zs <;> simp [PyData.eqv, PyData.eqvAll]
theorem eqv_int (i j : Int) : PyData.eqv (.int i) (.int j) = decide (i = j) := PySem.W.Datum.eqv (α := Int) i j
theorem eqv_bool (i j : Bool) : PyData.eqv (.bool i) (.bool j) = decide (i = j) := PySem.W.Datum.eqv (α := Bool) i j
theorem eqv_str (i j : Str) : PyData.eqv (.str i) (.str j) = decide (i = j) := PySem.W.Datum.eqv (α := Str) i j
theorem eqv_self {n : Nat} {d : D} (h : Nice n d) : PyData.eqv d d = true := PySem.SeqAt.eqv_refl_plain d h.pl
/-- [..] == [], as a test and as a value; [..] != [] -/
theorem od_eqNil {k : Nat} (hr : Room k X.A) {zs : List D} {K : D → Prop} (h1 : ∀ d ∈ zs, Nice 49 d) (h : K (.bool zs.isEmpty)) : OpD (rEqD X) (.list zs) (.list []) K := od_eqG hr (nice_list h1) (nice_list nice_nil) (by rw [eqv_nil]; exact h)
theorem od_neNil {k : Nat} (hr : Room k X.A) {zs : List D} {K : D → Prop} (h1 : ∀ d ∈ zs, Nice 49 d) (h : K (.bool (!zs.isEmpty))) : OpD (rNeD X) (.list zs) (.list []) K := od_neG hr (nice_list h1) (nice_list nice_nil) (by rw [eqv_nil]; exact h)

/-! ### comprehensions in short -/
def noOwn (vs : List Nat) (S : List Sl) : Bool := vs.all fun j => match S[j]? with
  | some (.ob _) => false
  | _ => true
theorem noOwn_of {vs : List Nat} (h : noOwn vs S = true) : ∀ j ∈ vs, ∀ xs, S[j]? ≠ some (.ob xs) := fun j hj xs e => by
  have := List.all_eq_true.mp h j hj
  rw [e] at this
  cases this
theorem rangeD0 (m : Nat) : rangeD 0 m = (List.range m).map fun (i : Nat) => PyData.int (i : Int) := by
  unfold rangeD
  simp
/-- the clause's condition, without a test -/
theorem lp0 {scope : Scope} {x : Str} {pos : Pos} {elt : Expr} {vs : List Nat} {d y : D} (i : Nat) (h : Blk X scope fun Y => JE Y r elt ((wipeS S vs).set i (.val d)) fun z S4 => z = y ∧ mrg vs S S4 = S) (hN : X.N.Nodup := by assumption) (hi : X.N[i]? = some x := by rfl)
    (hx : ∀ (s : Shared) (H : Hp) (C : Addr) (cl : List (Str × Addr)) (fp : List Addr), Loc (X.blk s H scope (compEnvC scope cl C X.env) fp).env.scope x := by intro _ _ _ _ _; first | exact Or.inl rfl | exact Or.inr rfl)
    (hf : ∀ (s : Shared) (H : Hp) (C : Addr) (cl : List (Str × Addr)) (fp : List Addr), (X.blk s H scope (compEnvC scope cl C X.env) fp).fn x = true ∨ (X.blk s H scope (compEnvC scope cl C X.env) fp).env.scope.names.lookup x = some .local := by intro _ _ _ _ _; first | exact Or.inl rfl | exact Or.inr rfl) :
    LcPure X r scope (.Name x pos) elt [] vs [i] d S true y := fun s H C cl fp => jg_name i hN hi (hx s H C cl fp) (hf s H C cl fp) fun _ _ _ _ _ => ⟨rfl, fun z => (by cases z), fun _ => h⟩
/-- .. with a test -/
theorem lp1 {scope : Scope} {x : Str} {pos : Pos} {elt t : Expr} {vs : List Nat} {d y : D} {p : Bool} (i : Nat) (h : Blk X scope fun Y => JT Y r t ((wipeS S vs).set i (.val d)) fun b S3 => b = p ∧ (p = false → mrg vs S S3 = S) ∧ (p = true → Blk X scope fun Y => JE Y r elt S3 fun z S4 => z = y ∧ mrg vs S S4 = S)) (hN : X.N.Nodup := by assumption) (hi : X.N[i]? = some x := by rfl)
    (hx : ∀ (s : Shared) (H : Hp) (C : Addr) (cl : List (Str × Addr)) (fp : List Addr), Loc (X.blk s H scope (compEnvC scope cl C X.env) fp).env.scope x := by intro _ _ _ _ _; first | exact Or.inl rfl | exact Or.inr rfl)
    (hf : ∀ (s : Shared) (H : Hp) (C : Addr) (cl : List (Str × Addr)) (fp : List Addr), (X.blk s H scope (compEnvC scope cl C X.env) fp).fn x = true ∨ (X.blk s H scope (compEnvC scope cl C X.env) fp).env.scope.names.lookup x = some .local := by intro _ _ _ _ _; first | exact Or.inl rfl | exact Or.inr rfl) :
    LcPure X r scope (.Name x pos) elt [t] vs [i] d S p y := fun s H C cl fp => jg_name i hN hi (hx s H C cl fp) (hf s H C cl fp) fun s1 H1 C1 cl1 fp1 => h s1 H1 C1 cl1 fp1
/-- .. with two targets and a test -/
theorem lp1P {scope : Scope} {x1 x2 : Str} {p1 p2 pos : Pos} {kk : Nat} {elt t : Expr} {vs : List Nat} {d1 d2 y : D} {p : Bool} (i j : Nat) (h : Blk X scope fun Y => JT Y r t (((wipeS S vs).set i (.val d1)).set j (.val d2)) fun b S3 => b = p ∧ (p = false → mrg vs S S3 = S) ∧ (p = true → Blk X scope fun Y => JE Y r elt S3 fun z S4 => z = y ∧ mrg vs S S4 = S)) (hc : X.calm = true := by rfl) (hN : X.N.Nodup := by assumption) (hi : X.N[i]? = some x1 := by rfl) (hj : X.N[j]? = some x2 := by rfl)
    (hx : ∀ (s : Shared) (H : Hp) (C : Addr) (cl : List (Str × Addr)) (fp : List Addr), Loc (X.blk s H scope (compEnvC scope cl C X.env) fp).env.scope x1 ∧ Loc (X.blk s H scope (compEnvC scope cl C X.env) fp).env.scope x2 := by intro _ _ _ _ _; exact ⟨by first | exact Or.inl rfl | exact Or.inr rfl, by first | exact Or.inl rfl | exact Or.inr rfl⟩)
    (hf : ∀ (s : Shared) (H : Hp) (C : Addr) (cl : List (Str × Addr)) (fp : List Addr), ((X.blk s H scope (compEnvC scope cl C X.env) fp).fn x1 = true ∨ (X.blk s H scope (compEnvC scope cl C X.env) fp).env.scope.names.lookup x1 = some .local) ∧ ((X.blk s H scope (compEnvC scope cl C X.env) fp).fn x2 = true ∨ (X.blk s H scope (compEnvC scope cl C X.env) fp).env.scope.names.lookup x2 = some .local) := by intro _ _ _ _ _; exact ⟨by first | exact Or.inl rfl | exact Or.inr rfl, by first | exact Or.inl rfl | exact Or.inr rfl⟩) :
    LcPure X r scope (.Tuple [.Name x1 p1, .Name x2 p2] kk pos) elt [t] vs [i, j] (.tuple [d1, d2]) S p y := fun s H C cl fp => by
  refine jg_tup (X := X.blk s H scope (compEnvC scope cl C X.env) fp) hc rfl rfl (ts := [i, j]) ?_
  refine jgs_cons (ts := [i]) (us := [j]) rfl ?_
  refine jg_name i hN hi (hx s H C cl fp).1 (hf s H C cl fp).1 ?_
  refine jgs_cons (ts := [j]) (us := []) rfl ?_
  refine jg_name j hN hj (hx s H C cl fp).2 (hf s H C cl fp).2 ?_
  refine jgs_nil ?_
  exact fun s1 H1 C1 cl1 fp1 => h s1 H1 C1 cl1 fp1
theorem lp0P {scope : Scope} {x1 x2 : Str} {p1 p2 pos : Pos} {kk : Nat} {elt : Expr} {vs : List Nat} {d1 d2 y : D} (i j : Nat) (h : Blk X scope fun Y => JE Y r elt (((wipeS S vs).set i (.val d1)).set j (.val d2)) fun z S4 => z = y ∧ mrg vs S S4 = S) (hc : X.calm = true := by rfl) (hN : X.N.Nodup := by assumption) (hi : X.N[i]? = some x1 := by rfl) (hj : X.N[j]? = some x2 := by rfl)
    (hx : ∀ (s : Shared) (H : Hp) (C : Addr) (cl : List (Str × Addr)) (fp : List Addr), Loc (X.blk s H scope (compEnvC scope cl C X.env) fp).env.scope x1 ∧ Loc (X.blk s H scope (compEnvC scope cl C X.env) fp).env.scope x2 := by intro _ _ _ _ _; exact ⟨by first | exact Or.inl rfl | exact Or.inr rfl, by first | exact Or.inl rfl | exact Or.inr rfl⟩)
    (hf : ∀ (s : Shared) (H : Hp) (C : Addr) (cl : List (Str × Addr)) (fp : List Addr), ((X.blk s H scope (compEnvC scope cl C X.env) fp).fn x1 = true ∨ (X.blk s H scope (compEnvC scope cl C X.env) fp).env.scope.names.lookup x1 = some .local) ∧ ((X.blk s H scope (compEnvC scope cl C X.env) fp).fn x2 = true ∨ (X.blk s H scope (compEnvC scope cl C X.env) fp).env.scope.names.lookup x2 = some .local) := by intro _ _ _ _ _; exact ⟨by first | exact Or.inl rfl | exact Or.inr rfl, by first | exact Or.inl rfl | exact Or.inr rfl⟩) :
    LcPure X r scope (.Tuple [.Name x1 p1, .Name x2 p2] kk pos) elt [] vs [i, j] (.tuple [d1, d2]) S true y := fun s H C cl fp => by
  refine jg_tup (X := X.blk s H scope (compEnvC scope cl C X.env) fp) hc rfl rfl (ts := [i, j]) ?_
  refine jgs_cons (ts := [i]) (us := [j]) rfl ?_
  refine jg_name i hN hi (hx s H C cl fp).1 (hf s H C cl fp).1 ?_
  refine jgs_cons (ts := [j]) (us := []) rfl ?_
  refine jg_name j hN hj (hx s H C cl fp).2 (hf s H C cl fp).2 ?_
  refine jgs_nil ?_
  exact fun _ _ _ _ _ => ⟨rfl, fun z => (by cases z), fun _ => h⟩
/-- over range(n) -/
theorem lcR {scope : Scope} {tg elt : Expr} {ifs : List Expr} {vs ts : List Nat} {K : List D → Prop} {n : Int} {m : Nat} (p : Nat → Bool) (g : Nat → D) (turn : ∀ a, a < m → LcPure X r scope tg elt ifs vs ts (.int (a : Int)) S (p a) (g a)) (k : K (((List.range m).filter p).map g)) (e : n.toNat = m := by omega) (hm : m ≤ 1000000 := by omega) (hv : noOwn vs S = true := by rfl) :
    (∀ j ∈ vs, ∀ xs, S[j]? ≠ some (.ob xs)) ∧ LcAll X r scope tg elt ifs vs ts (rangeD 0 n.toNat) S K :=
  ⟨noOwn_of hv, Nat, List.range m, fun i => .int (i : Int), p, g, by rw [e, rangeD0], by rw [List.length_range]; exact hm, fun a ha => turn a (List.mem_range.mp ha), k⟩
/-- over items -/
theorem lcL {scope : Scope} {tg elt : Expr} {ifs : List Expr} {vs ts : List Nat} {K : List D → Prop} {α : Type} (as : List α) (enc : α → D) (p : α → Bool) (g : α → D) (turn : ∀ a ∈ as, LcPure X r scope tg elt ifs vs ts (enc a) S (p a) (g a)) (k : K ((as.filter p).map g)) (hl : as.length ≤ 1000000 := by omega) (hv : noOwn vs S = true := by rfl) :
    (∀ j ∈ vs, ∀ xs, S[j]? ≠ some (.ob xs)) ∧ LcAll X r scope tg elt ifs vs ts (as.map enc) S K :=
  ⟨noOwn_of hv, α, as, enc, p, g, rfl, hl, turn, k⟩
/-- y = [..] on one line, y a plain local name -/
theorem jsetLc {y : Str} {py : Pos} {elt tg iter : Expr} {ifs : List Expr} {scope : Scope} {pos spos : Pos} {rest : List Stmt} {E : DE} (i : Nat) (own : List (Str × Nat)) (ts : List Nat)
    (h : JI X r tg iter S fun ds S1 => (∀ j ∈ own.map (·.2), ∀ xs, S1[j]? ≠ some (.ob xs)) ∧ LcAll X r scope tg elt ifs (own.map (·.2)) ts ds S1 fun zs => JSs X r rest (S1.set i (.own zs)) E)
    (hc : X.calm = true := by rfl) (hN : X.N.Nodup := by assumption) (hy : X.N[i]? = some y := by rfl) (hyl : X.env.scope.names.lookup y = some .local := by rfl) (hsw : swapsWith (.ListComp elt [⟨tg, iter, ifs, 0⟩] scope pos) (some (.Name y py)) spos.line X.env = pure true := by exact sw_true rfl rfl rfl (by decide +kernel))
    (ok : BlkOk X.N X.env.scope scope own := by exact blkOk_by rfl) (hs : ∀ x, foldedSetIterable iter X.env x = pure x := by intro _; rfl) (hts : ∀ j ∈ ts, j ∈ own.map (·.2) := by decide) : JSs X r (.Assign [.Name y py] (.ListComp elt [⟨tg, iter, ifs, 0⟩] scope pos) spos :: rest) S E :=
  jss_cons (js_setP i (ps_setLc hc hN hy hyl hsw pi_tI ok pg_tGb pts_tTsb pe_tEb hs) (lc_run (K := fun zs S' => JSs X r rest (S'.set i (.own zs)) E) ts hts (h.mono fun ds S1 h => lc_pure h.1 h.2)))
/-- the iterables -/
theorem jiT {tg e : Expr} {K : List D → List Sl → Prop} (h : JE X r e S fun d S1 => ∃ ds, d = .tuple ds ∧ K ds S1) : JI X r tg e S K := ji_tup h
theorem jiL {tg e : Expr} {K : List D → List Sl → Prop} (h : JE X r e S fun d S1 => ∃ ds, d = .list ds ∧ K ds S1) : JI X r tg e S K := ji_list h
theorem jiN {tg e : Expr} {K : List D → List Sl → Prop} (h : JN X r e S K) : JI X r tg e S K := ji_list (JN.je (h.mono fun ds S1 k => ⟨ds, rfl, k⟩))
theorem filter_true {α : Type} (l : List α) : l.filter (fun _ => true) = l := by simp
theorem atI_nn {ds : List D} {i : Nat} {d : D} (h : ds[i]? = some d) : atI ds (i : Int) = some d := atI_nat h
end
end DL

/-! DL: the source of draws: its dict, its numbers. -/
namespace DL
open PySem L2
abbrev kC : Key := .inr "cells"
abbrev kL : Key := .inr "left"
abbrev kM : Key := .inr "mixed"
abbrev kT : Key := .inr "turn"
theorem nCL : ¬ kC = kL := by decide +kernel
theorem nCM : ¬ kC = kM := by decide +kernel
theorem nCT : ¬ kC = kT := by decide +kernel
theorem nLM : ¬ kL = kM := by decide +kernel
theorem nLT : ¬ kL = kT := by decide +kernel
theorem nMT : ¬ kM = kT := by decide +kernel
theorem nLC : ¬ kL = kC := by decide +kernel
theorem nMC : ¬ kM = kC := by decide +kernel
theorem nTC : ¬ kT = kC := by decide +kernel
theorem nML : ¬ kM = kL := by decide +kernel
theorem nTL : ¬ kT = kL := by decide +kernel
theorem nTM : ¬ kT = kM := by decide +kernel
def srcO (l : Addr) (a b c : Int) : HO := .dK [(kC, .ref l), (kL, .int a), (kM, .int b), (kT, .int c)]
section
variable (l : Addr) (a b c v : Int)
theorem gC : valV [(kC, V.ref l), (kL, .int a), (kM, .int b), (kT, .int c)] kC = some (.ref l) := by rw [valV_pos rfl]
theorem gL : valV [(kC, V.ref l), (kL, .int a), (kM, .int b), (kT, .int c)] kL = some (.int a) := by rw [valV_neg nCL, valV_pos rfl]
theorem gM : valV [(kC, V.ref l), (kL, .int a), (kM, .int b), (kT, .int c)] kM = some (.int b) := by rw [valV_neg nCM, valV_neg nLM, valV_pos rfl]
theorem gT : valV [(kC, V.ref l), (kL, .int a), (kM, .int b), (kT, .int c)] kT = some (.int c) := by rw [valV_neg nCT, valV_neg nLT, valV_neg nMT, valV_pos rfl]
theorem pL : putK [(kC, V.ref l), (kL, .int a), (kM, .int b), (kT, .int c)] kL (.int v) = [(kC, V.ref l), (kL, .int v), (kM, .int b), (kT, .int c)] := by
  unfold putK
  rw [if_pos (by simp)]
  simp only [List.map_cons, List.map_nil, if_neg nCL, if_neg nML, if_neg nTL, if_pos]
theorem pM : putK [(kC, V.ref l), (kL, .int a), (kM, .int b), (kT, .int c)] kM (.int v) = [(kC, V.ref l), (kL, .int a), (kM, .int v), (kT, .int c)] := by
  unfold putK
  rw [if_pos (by simp)]
  simp only [List.map_cons, List.map_nil, if_neg nCM, if_neg nLM, if_neg nTM, if_pos]
theorem pT : putK [(kC, V.ref l), (kL, .int a), (kM, .int b), (kT, .int c)] kT (.int v) = [(kC, V.ref l), (kL, .int a), (kM, .int b), (kT, .int v)] := by
  unfold putK
  rw [if_pos (by simp)]
  simp only [List.map_cons, List.map_nil, if_neg nCT, if_neg nLT, if_neg nMT, if_pos]
end
/-- the state of a draw: the source at p holds n cells; all else stands as at the entry -/
def At (p : Addr × Addr) (H0 H : Hp) (n : Nat) : Prop := (∃ (cells : List Int) (x y z : Int), cells.length = n ∧ H p.1 = some (srcO p.2 x y z) ∧ H p.2 = some (.lst (cells.map V.int))) ∧ ∀ q o, q ≠ p.1 → q ≠ p.2 → H0 q = some o → H q = some o
theorem At.ne {p : Addr × Addr} {H0 H : Hp} {n : Nat} (h : At p H0 H n) : p.2 ≠ p.1 := by
  obtain ⟨⟨cs, x, y, z, _, h1, h2⟩, _⟩ := h
  exact ne_of h2 h1 (by intro q; cases q)
theorem At.put {p : Addr × Addr} {H0 H : Hp} {n : Nat} (h : At p H0 H n) (x y z : Int) : At p H0 (upd H p.1 (srcO p.2 x y z)) n := by
  have hne := h.ne
  obtain ⟨⟨cs, _, _, _, e, h1, h2⟩, k⟩ := h
  exact ⟨⟨cs, x, y, z, e, upd_same, by rw [upd_ne hne]; exact h2⟩, fun q o n1 n2 e => by rw [upd_ne n1]; exact k q o n1 n2 e⟩
theorem At.pop {p : Addr × Addr} {H0 H : Hp} {n : Nat} {cs : List Int} {x y z : Int} (h : At p H0 H n) (h1 : H p.1 = some (srcO p.2 x y z)) : At p H0 (upd H p.2 (.lst (cs.map V.int))) cs.length := by
  have hne := h.ne
  obtain ⟨_, k⟩ := h
  exact ⟨⟨cs, x, y, z, rfl, by rw [upd_ne hne.symm]; exact h1, upd_same⟩, fun q o n1 n2 e => by rw [upd_ne n2]; exact k q o n1 n2 e⟩
theorem dgC {H : Hp} {a l : Addr} {x y z : Int} (h : H a = some (srcO l x y z)) : DGet H a (.str "cells") (some (.ref l)) := by have := DGet.k (k := kC) h; rw [gC] at this; exact this
theorem dgL {H : Hp} {a l : Addr} {x y z : Int} (h : H a = some (srcO l x y z)) : DGet H a (.str "left") (some (.int x)) := by have := DGet.k (k := kL) h; rw [gL] at this; exact this
theorem dgM {H : Hp} {a l : Addr} {x y z : Int} (h : H a = some (srcO l x y z)) : DGet H a (.str "mixed") (some (.int y)) := by have := DGet.k (k := kM) h; rw [gM] at this; exact this
theorem dgT {H : Hp} {a l : Addr} {x y z : Int} (h : H a = some (srcO l x y z)) : DGet H a (.str "turn") (some (.int z)) := by have := DGet.k (k := kT) h; rw [gT] at this; exact this
theorem dpL {H : Hp} {a l : Addr} {x y z : Int} (v : Int) (h : H a = some (srcO l x y z)) : DPut H a (.str "left") (.int v) (upd H a (srcO l v y z)) := by have := DPut.k (k := kL) (v := .int v) h (by show 4 < sizeLine; decide); rw [pL] at this; exact this
theorem dpM {H : Hp} {a l : Addr} {x y z : Int} (v : Int) (h : H a = some (srcO l x y z)) : DPut H a (.str "mixed") (.int v) (upd H a (srcO l x v z)) := by have := DPut.k (k := kM) (v := .int v) h (by show 4 < sizeLine; decide); rw [pM] at this; exact this
theorem dpT {H : Hp} {a l : Addr} {x y z : Int} (v : Int) (h : H a = some (srcO l x y z)) : DPut H a (.str "turn") (.int v) (upd H a (srcO l x y v)) := by have := DPut.k (k := kT) (v := .int v) h (by show 4 < sizeLine; decide); rw [pT] at this; exact this
theorem whl {c : TT} {tb : TS} {D : Ends} {σ : St} {H : Hp} (I : Nat → St → Hp → Prop) (m0 : Nat) (i0 : I m0 σ H) (exit : ∀ m σ H, I m σ H → D.nx σ H)
    (step : ∀ X : St → Hp → Prop, (∀ m σ H, I m σ H → X σ H) → ∀ m σ H, I m σ H → c σ H fun b H1 => if b = true then ∃ N : St → Hp → Prop, (∀ σ' H', N σ' H' → ∃ m', m' < m ∧ I m' σ' H') ∧ tb { D with nx := N, ct := N, bk := X } σ H1 else X σ H1) : tWhile c tb D σ H :=
  ⟨I, ⟨m0, i0⟩, fun m σ H h => step D.nx exit m σ H h⟩
theorem merge4 (l : Addr) (a b c : Int) : mergeK [] [(kC, V.ref l), (kL, .int a), (kM, .int b), (kT, .int c)] = [(kC, V.ref l), (kL, .int a), (kM, .int b), (kT, .int c)] := by
  have p1 : putK ([] : List (Key × V)) kC (.ref l) = [(kC, V.ref l)] := rfl
  have p2 : putK [(kC, V.ref l)] kL (.int a) = [(kC, V.ref l), (kL, .int a)] := by unfold putK; rw [if_neg (by simp only [List.any_cons, List.any_nil, decide_eq_false nCL, Bool.or_false]; decide)]; rfl
  have p3 : putK [(kC, V.ref l), (kL, .int a)] kM (.int b) = [(kC, V.ref l), (kL, .int a), (kM, .int b)] := by unfold putK; rw [if_neg (by simp only [List.any_cons, List.any_nil, decide_eq_false nCM, decide_eq_false nLM, Bool.or_false]; decide)]; rfl
  have p4 : putK [(kC, V.ref l), (kL, .int a), (kM, .int b)] kT (.int c) = [(kC, V.ref l), (kL, .int a), (kM, .int b), (kT, .int c)] := by unfold putK; rw [if_neg (by simp only [List.any_cons, List.any_nil, decide_eq_false nCT, decide_eq_false nLT, decide_eq_false nMT, Bool.or_false]; decide)]; rfl
  show putK (putK (putK (putK [] kC (.ref l)) kL (.int a)) kM (.int b)) kT (.int c) = _
  rw [p1, p2, p3, p4]
/-- what makes the source -/
def spSource (K : PySem.W.Frag) : Sp := fun vs H Q _ => ∃ (a : Addr) (ns : List Int), vs = [.ref a] ∧ SqL K H a (ns.map V.int) ∧ ns.length ≤ 1000 ∧ ∀ H' p, Same H H' → H p.1 = none → H p.2 = none → SrcOk H' p → Q (.ref p.1) H'
theorem same_upd {H : Hp} {p : Addr} {o : HO} (h : H p = none) : Same H (upd H p o) := fun b x e => by
  rw [upd_ne (ne_of_none e h)]
  exact e
theorem same_upd2 {H H' : Hp} {p : Addr} {o : HO} (s : Same H H') (h : H p = none) : Same H (upd H' p o) := fun b x e => by
  rw [upd_ne (ne_of_none e h)]
  exact s b x e
/-- what a draw gives -/
def φPick : List Ar → (D → Prop) → Prop := fun as Kd => ∃ many : Int, as = [.src, .d (.int many)] ∧ many < 1073741824 ∧ ∀ v : Int, 0 ≤ v → v < (if many > 1 then many else 1) → Kd (.int v)
end DL

/-! DL: dicts updated by dicts. -/
namespace DL
open PySem L2
section
variable {X : Cx}
/-- d.update(e), d and e two dicts, keys ints and texts -/
def rUpdK : V → List V → Hp → VK → Prop := fun x vs H Q => ∃ (a b : Addr) (kvs more : List (Key × V)), x = .ref a ∧ vs = [.ref b] ∧ a ≠ b ∧ H a = some (.dK kvs) ∧ H b = some (.dK more) ∧ kvs.length + more.length ≤ sizeLine ∧ Q .non (upd H a (.dK (mergeK kvs more)))
theorem mt_updK : MtR X "dict.update" rUpdK := by
  intro pins s σ H x vs v us Q I rx rv h
  obtain ⟨a, b, kvs, more, ex, ev, hne, ha, hb, hl, q⟩ := h
  subst ex
  subst ev
  obtain rfl : v = Value.ref a := rx
  obtain ⟨u, rfl, ru⟩ := rv.one
  obtain rfl : u = Value.ref b := ru
  obtain ⟨z1, d1, vs1, rel1, dd1⟩ := dk_of I.hok ha
  obtain ⟨z2, d2, vs2, rel2, dd2⟩ := dk_of I.hok hb
  refine call_meetsIn PySem.F.slot_dict_update dd1.typeIs PySem.F.entry_dict_update (PySem.F.args_dict_update_2 _ _) (meets_dict_update (mixKind X.prog X.w) a b hne d2) ⟨vs1, vs2, dd1, dd2, by rw [← rel1.length, ← rel2.length]; exact hl, fun h' dd' _ hs => ?_⟩
  have he : ∃ q, h'.get? a = some q := let ⟨q, _, _, hq, _⟩ := dd'; ⟨q, hq⟩
  have hlen : (mergeK kvs more).length ≤ sizeLine := Nat.le_trans (length_mergeK more kvs) hl
  exact ⟨.non, _, d_write (t' := s.toks) I (by rw [ha]; exact True.intro) hs he (dk_new hlen d1 (KV.merge rel2 rel1) dd'), rfl, q⟩
end
end DL

/-! DL: a list of dicts with int keys (closing pairs). -/
namespace DL
open PySem L2
def kvI (ks : List Int) : List (Key × V) := ks.map fun k => (Sum.inl k, V.int 0)
def mrgI (a b : List Int) : List Int := b.foldl (fun acc k => if k ∈ acc then acc else acc ++ [k]) a
theorem putK_kvI (a : List Int) (k : Int) : putK (kvI a) (Sum.inl k) (V.int 0) = kvI (if k ∈ a then a else a ++ [k]) := by
  unfold putK
  have e : ((kvI a).any fun kv => decide (kv.1 = (Sum.inl k : Key))) = decide (k ∈ a) := by
    unfold kvI
    rw [List.any_map]
    induction a with
    | nil => rfl
    | cons x a ih =>
      rw [List.any_cons, ih]
      by_cases h : x = k
      · subst h; simp
      · have : ¬ k = x := fun z => h z.symm
        simp [h, this]
  rw [e]
  by_cases h : k ∈ a
  · rw [if_pos (by simpa using h), if_pos h]
    unfold kvI
    rw [List.map_map]
    refine List.map_congr_left fun x hx => ?_
    by_cases e2 : x = k
    · subst e2; simp
    · simp [e2]
  · rw [if_neg (by simpa using h), if_neg h]
    unfold kvI
    rw [List.map_append]
    rfl
theorem mergeK_kvI : ∀ (b a : List Int), mergeK (kvI a) (kvI b) = kvI (mrgI a b)
  | [], _ => rfl
  | k :: b, a => by
    show mergeK (putK (kvI a) (Sum.inl k) (V.int 0)) (kvI b) = _
    rw [putK_kvI, mergeK_kvI b]
    rfl
theorem kvI_keys (ks : List Int) : (kvI ks).map (·.1) = ks.map Sum.inl := by
  unfold kvI
  rw [List.map_map]
  rfl
theorem mrgI_len : ∀ (b a : List Int), (mrgI a b).length ≤ a.length + b.length
  | [], a => Nat.le_refl _
  | k :: b, a => by
    have h := mrgI_len b (if k ∈ a then a else a ++ [k])
    show (mrgI (if k ∈ a then a else a ++ [k]) b).length ≤ _
    rw [List.length_cons]
    by_cases e : k ∈ a
    · rw [if_pos e] at h ⊢; omega
    · rw [if_neg e] at h ⊢
      rw [List.length_append, List.length_singleton] at h
      omega
theorem mem_mrgI {x : Int} : ∀ (b a : List Int), x ∈ mrgI a b ↔ x ∈ a ∨ x ∈ b
  | [], a => by show x ∈ a ↔ _; simp
  | k :: b, a => by
    show x ∈ mrgI (if k ∈ a then a else a ++ [k]) b ↔ _
    rw [mem_mrgI b]
    by_cases e : k ∈ a
    · rw [if_pos e, List.mem_cons]
      constructor
      · rintro (h | h)
        · exact .inl h
        · exact .inr (.inr h)
      · rintro (h | rfl | h)
        · exact .inl h
        · exact .inl e
        · exact .inr h
    · rw [if_neg e, List.mem_append, List.mem_singleton, List.mem_cons]
      constructor
      · rintro ((h | h) | h)
        · exact .inl h
        · exact .inr (.inl h)
        · exact .inr (.inr h)
      · rintro (h | h | h)
        · exact .inl (.inl h)
        · exact .inl (.inr h)
        · exact .inr h
theorem nodup_mrgI : ∀ (b a : List Int), a.Nodup → (mrgI a b).Nodup
  | [], _, h => h
  | k :: b, a, h => by
    show (mrgI (if k ∈ a then a else a ++ [k]) b).Nodup
    by_cases e : k ∈ a
    · rw [if_pos e]; exact nodup_mrgI b a h
    · rw [if_neg e]
      refine nodup_mrgI b _ ?_
      rw [List.nodup_append]
      refine ⟨h, by simp, fun x hx y hy => ?_⟩
      rw [List.mem_singleton.mp hy]
      intro z; rw [z] at hx; exact e hx
/-- one pair taken: what is under x is under y -/
def stepU (u : List (List Int)) (p : Nat × Nat) : List (List Int) := u.set p.2 (mrgI (u.getD p.2 []) (u.getD p.1 []))
def lapU (pairs : List (Nat × Nat)) (u : List (List Int)) : List (List Int) := pairs.foldl stepU u
def startU (n : Nat) : List (List Int) := (List.range n).map fun (y : Nat) => [(y : Int)]
def lapsU (pairs : List (Nat × Nat)) : Nat → List (List Int) → List (List Int)
  | 0, u => u
  | k + 1, u => lapU pairs (lapsU pairs k u)
def closedU (n : Nat) (pairs : List (Nat × Nat)) : List (List Int) := lapsU pairs n (startU n)
/-- the lots are of n things below n, none twice -/
def WfU (n : Nat) (u : List (List Int)) : Prop := u.length = n ∧ ∀ l ∈ u, l.Nodup ∧ ∀ x ∈ l, 0 ≤ x ∧ x < n
theorem nodup_len : ∀ {n : Nat} {l : List Int}, l.Nodup → (∀ x ∈ l, 0 ≤ x ∧ x < n) → l.length ≤ n
  | 0, l, _, hr => by
    cases l with
    | nil => exact Nat.le_refl _
    | cons x l => have := hr x List.mem_cons_self; omega
  | n + 1, l, hn, hr => by
    have h := nodup_len (n := n) (l := l.erase (n : Int)) (hn.erase _) fun x hx => by
      obtain ⟨h1, h2⟩ := (hn.mem_erase_iff).mp hx
      have := hr x h2
      omega
    have h2 := List.length_erase (a := (n : Int)) (l := l)
    by_cases e : (n : Int) ∈ l
    · rw [if_pos e] at h2; omega
    · rw [if_neg e] at h2; omega
theorem WfU.step {n : Nat} {u : List (List Int)} {p : Nat × Nat} (h : WfU n u) (h1 : p.1 < n) : WfU n (stepU u p) := by
  refine ⟨by unfold stepU; rw [List.length_set]; exact h.1, fun l hl => ?_⟩
  have get : ∀ i, (u.getD i []).Nodup ∧ ∀ x ∈ u.getD i [], 0 ≤ x ∧ x < n := fun i => by
    by_cases hi : i < u.length
    · rw [List.getD_eq_getElem?_getD, List.getElem?_eq_getElem hi]
      exact h.2 _ (List.getElem_mem hi)
    · rw [List.getD_eq_getElem?_getD, List.getElem?_eq_none (by omega)]
      exact ⟨List.nodup_nil, fun x hx => by cases hx⟩
  rcases List.mem_or_eq_of_mem_set hl with hl | rfl
  · exact h.2 l hl
  · refine ⟨nodup_mrgI _ _ (get p.2).1, fun x hx => ?_⟩
    rcases (mem_mrgI _ _).mp hx with hx | hx
    · exact (get p.2).2 x hx
    · exact (get p.1).2 x hx
theorem WfU.lap {n : Nat} : ∀ {pairs : List (Nat × Nat)} {u : List (List Int)}, WfU n u → (∀ p ∈ pairs, p.1 < n) → WfU n (lapU pairs u)
  | [], _, h, _ => h
  | p :: pairs, u, h, hp => WfU.lap (pairs := pairs) (h.step (hp p List.mem_cons_self)) fun q hq => hp q (List.mem_cons_of_mem _ hq)
theorem wfU_start (n : Nat) : WfU n (startU n) := by
  refine ⟨by unfold startU; rw [List.length_map, List.length_range], fun l hl => ?_⟩
  obtain ⟨y, hy, rfl⟩ := List.mem_map.mp hl
  have := List.mem_range.mp hy
  exact ⟨by simp, fun x hx => by rw [List.mem_singleton.mp hx]; omega⟩
theorem wfU_laps {n : Nat} {pairs : List (Nat × Nat)} {u : List (List Int)} (h : WfU n u) (hp : ∀ p ∈ pairs, p.1 < n) : ∀ k, WfU n (lapsU pairs k u)
  | 0 => h
  | k + 1 => (wfU_laps h hp k).lap hp
theorem wfU_at {n : Nat} {u : List (List Int)} (h : WfU n u) (i : Nat) : (u.getD i []).Nodup ∧ (∀ x ∈ u.getD i [], 0 ≤ x ∧ x < n) ∧ (u.getD i []).length ≤ n := by
  by_cases hi : i < u.length
  · rw [List.getD_eq_getElem?_getD, List.getElem?_eq_getElem hi]
    have := h.2 _ (List.getElem_mem hi)
    exact ⟨this.1, this.2, nodup_len this.1 this.2⟩
  · rw [List.getD_eq_getElem?_getD, List.getElem?_eq_none (by omega)]
    exact ⟨List.nodup_nil, fun x hx => (by cases hx), Nat.zero_le _⟩
/-! ### in the heap -/
/-- a list at u of dicts at ds, with keys us; all of it new behind H0 -/
structure UAt (H0 H : Hp) (u : Addr) (ds : List Addr) (us : List (List Int)) : Prop where
  same : Same H0 H
  nu : H0 u = none
  nd : ∀ d ∈ ds, H0 d = none
  dis : ds.Nodup
  unot : u ∉ ds
  len : ds.length = us.length
  lst : H u = some (.lst (ds.map V.ref))
  dk : ∀ (i : Nat) d k, ds[i]? = some d → us[i]? = some k → H d = some (.dK (kvI k))
/-- a new object, not ours -/
theorem UAt.new {H0 H : Hp} {u : Addr} {ds : List Addr} {us : List (List Int)} {p : Addr} {o : HO} (h : UAt H0 H u ds us) (n : H p = none) : UAt H0 (upd H p o) u ds us := by
  refine ⟨fun b x e => ?_, h.nu, h.nd, h.dis, h.unot, h.len, ?_, fun i d k e1 e2 => ?_⟩
  · have := h.same b x e
    rw [upd_ne (ne_of_none this n)]; exact this
  · rw [upd_ne (ne_of_none h.lst n)]; exact h.lst
  · have := h.dk i d k e1 e2
    rw [upd_ne (ne_of_none this n)]; exact this
/-- one of the dicts is changed -/
theorem UAt.upd {H0 H : Hp} {u : Addr} {ds : List Addr} {us : List (List Int)} {i : Nat} {d : Addr} {k : List Int} (h : UAt H0 H u ds us) (e : ds[i]? = some d) : UAt H0 (L2.upd H d (.dK (kvI k))) u ds (us.set i k) := by
  have hd : d ∈ ds := List.mem_of_getElem? e
  have hi : i < us.length := by rw [← h.len]; exact (List.getElem?_eq_some_iff.mp e).1
  refine ⟨fun b x e => ?_, h.nu, h.nd, h.dis, h.unot, by rw [List.length_set]; exact h.len, ?_, fun j d' k' e1 e2 => ?_⟩
  · rw [upd_ne (fun z => by rw [z, h.nd d hd] at e; cases e)]; exact h.same b x e
  · rw [upd_ne (fun z => h.unot (by rw [z]; exact hd))]; exact h.lst
  · by_cases hj : i = j
    · subst hj
      rw [e] at e1; cases e1
      rw [List.getElem?_set_self hi] at e2; cases e2
      exact upd_same
    · rw [List.getElem?_set_ne hj] at e2
      have hne : d' ≠ d := fun z => by
        subst z
        obtain ⟨l1, q1⟩ := List.getElem?_eq_some_iff.mp e
        obtain ⟨l2, q2⟩ := List.getElem?_eq_some_iff.mp e1
        exact hj ((List.getElem_inj h.dis).mp (q1.trans q2.symm))
      rw [upd_ne hne]; exact h.dk j d' k' e1 e2
/-- one dict more -/
theorem UAt.app {H0 H : Hp} {u : Addr} {ds : List Addr} {us : List (List Int)} {d : Addr} {k : List Int} (h : UAt H0 H u ds us) (n : H d = none) : UAt H0 (L2.upd (L2.upd H d (.dK (kvI k))) u (.lst ((ds ++ [d]).map V.ref))) u (ds ++ [d]) (us ++ [k]) := by
  have hne : d ≠ u := fun z => by rw [z, h.lst] at n; cases n
  have hnew : d ∉ ds := fun hd => by
    obtain ⟨i, hi, e⟩ := List.getElem_of_mem hd
    have e1 : ds[i]? = some d := by rw [List.getElem?_eq_getElem hi, e]
    have hi2 : i < us.length := by rw [← h.len]; exact hi
    have e2 : us[i]? = some us[i] := List.getElem?_eq_getElem hi2
    rw [h.dk i d _ e1 e2] at n; cases n
  have n0 : H0 d = none := h.same.free n
  refine ⟨fun b x e => ?_, h.nu, fun x hx => ?_, ?_, ?_, by rw [List.length_append, List.length_append, h.len]; rfl, upd_same, fun j d' k' e1 e2 => ?_⟩
  · rw [upd_ne (fun z => by rw [z, h.nu] at e; cases e), upd_ne (fun z => by rw [z, n0] at e; cases e)]
    exact h.same b x e
  · rcases List.mem_append.mp hx with hx | hx
    · exact h.nd x hx
    · rw [List.mem_singleton.mp hx]; exact n0
  · rw [List.nodup_append]
    refine ⟨h.dis, by simp, fun x hx y hy => ?_⟩
    rw [List.mem_singleton.mp hy]
    intro z; rw [z] at hx; exact hnew hx
  · intro hu
    rcases List.mem_append.mp hu with hu | hu
    · exact h.unot hu
    · exact hne (List.mem_singleton.mp hu).symm
  · by_cases hj : j < ds.length
    · rw [List.getElem?_append_left hj] at e1
      rw [List.getElem?_append_left (by rw [← h.len]; exact hj)] at e2
      have hd' : d' ∈ ds := List.mem_of_getElem? e1
      rw [upd_ne (fun z => h.unot (by rw [← z]; exact hd')), upd_ne (fun z => hnew (by rw [← z]; exact hd'))]
      exact h.dk j d' k' e1 e2
    · rw [List.getElem?_append_right (by omega)] at e1
      rw [List.getElem?_append_right (by rw [← h.len]; omega)] at e2
      have : j - ds.length = 0 := by
        have := (List.getElem?_eq_some_iff.mp e1).1
        simp at this; omega
      rw [this] at e1
      rw [← h.len, this] at e2
      cases e1
      cases e2
      rw [upd_ne hne]
      exact upd_same
theorem Fin.same {c : C} {F H H' : Hp} (h : Fin c F H) (s : Same H H') : Fin c F H' :=
  ⟨h.f0, fun a o e => s a o (h.fh a o e), fun a o e => s a o (h.bh a o e), h.bf, fun p ep => let ⟨x, r⟩ := h.src p ep; ⟨x.ex s, r⟩⟩
theorem Fin.upd {c : C} {F H : Hp} {p : Addr} {o : HO} (h : Fin c F H) (nF : F p = none) (nB : c.B p = none) (ns : ∀ q, c.sr = some q → p ≠ q.1 ∧ p ≠ q.2) : Fin c F (L2.upd H p o) := by
  refine ⟨h.f0, h.fh.upd2 nF, h.bh.upd2 nB, h.bf, fun q eq => ?_⟩
  obtain ⟨⟨cs, x, y, z, h1, h2⟩, r⟩ := h.src q eq
  obtain ⟨m1, m2⟩ := ns q eq
  exact ⟨⟨cs, x, y, z, by rw [upd_ne m1.symm]; exact h1, by rw [upd_ne m2.symm]; exact h2⟩, r⟩
theorem Fin.froz {c : C} {F H : Hp} {p : Addr} {o : HO} (h : Fin c F H) (n : H p = none) : Fin c (L2.upd F p o) (L2.upd H p o) := by
  have nF : F p = none := h.fh.back n
  have nB : c.B p = none := h.bh.back n
  have g := Grow.new h.fh (o := o) n
  refine ⟨h.f0.trans g.kF, g.fh, h.bh.trans g.kH, fun a u e => ?_, fun q eq => ?_⟩
  · rw [upd_ne (ne_of_none e nB)]; exact h.bf a u e
  · obtain ⟨⟨cs, x, y, z, h1, h2⟩, n1, n2, b1, b2⟩ := h.src q eq
    have m1 : q.1 ≠ p := ne_of_none h1 n
    have m2 : q.2 ≠ p := ne_of_none h2 n
    exact ⟨⟨cs, x, y, z, by rw [upd_ne m1]; exact h1, by rw [upd_ne m2]; exact h2⟩, by rw [upd_ne m1]; exact n1, by rw [upd_ne m2]; exact n2, b1, b2⟩
/-- an object that stands, not frozen, changes -/
theorem UAt.oth {H0 H : Hp} {u : Addr} {ds : List Addr} {us : List (List Int)} {p : Addr} {o : HO} (h : UAt H0 H u ds us) (n0 : H0 p = none) (nu : p ≠ u) (nd : p ∉ ds) : UAt H0 (L2.upd H p o) u ds us := by
  refine ⟨fun b x e => ?_, h.nu, h.nd, h.dis, h.unot, h.len, ?_, fun i d k e1 e2 => ?_⟩
  · rw [upd_ne (fun z => by rw [z, n0] at e; cases e)]; exact h.same b x e
  · rw [upd_ne nu.symm]; exact h.lst
  · have hd : d ∈ ds := List.mem_of_getElem? e1
    rw [upd_ne (fun z => nd (by rw [← z]; exact hd))]; exact h.dk i d k e1 e2
end DL

/-! DL: methods of a list of one's own: pop, len, append; list(..); a list built anew. -/
namespace DL
open PySem L2
section
variable {X : Cx} {r : SR} {S : List Sl}
/-- x.pop(i), x a list of one's own -/
theorem je_popO {K : D → List Sl → Prop} {x : Str} {p apos pos : Pos} {a : Expr} (i : Nat) {xs0 : List D} (h0 : S[i]? = some (.own xs0)) (hp : PE X (.Call (.Attribute (.Name x p) "pop" apos) [a] [] pos) (tBM X.K "list" rPopAt (tVar i) (tCons (tE X a) tNil)))
    (h : JE X r a S fun d S1 => ∃ (xs : List D) (k : Nat) (d' : D), d = .int k ∧ S1[i]? = some (.own xs) ∧ xs.length ≤ 1000000 ∧ xs[k]? = some d' ∧ K d' (S1.set i (.own (xs.eraseIdx k)))) :
    JE X r (.Call (.Attribute (.Name x p) "pop" apos) [a] [] pos) S K := fun c F σ H hr E Q q => of_pe hp (by
  obtain ⟨y, e1, l, hh, e2, ha, rv, nF, nb, q0⟩ := E.sl i _ h0
  subst e2
  obtain ⟨vs, rfl, rv⟩ := obr_l rv
  refine ⟨.ref l, e1, .inl ⟨rfl, _, .inl (.inl ha)⟩, h c F σ H hr E _ fun v d F1 H1 S1 h1 E1 k1 r1 => ?_⟩
  obtain ⟨xs, k, d', rfl, e3, hl, hk, kd⟩ := h1
  cases r1
  obtain ⟨y, e1', l', hh', e2', ha', rv', _⟩ := E1.sl i _ e3
  rw [e1] at e1'; cases e1'; cases e2'
  obtain ⟨vs', rfl, rv'⟩ := obr_l rv'
  obtain ⟨v, ev, rp⟩ := rv'.get' hk
  have hlt : k < xs.length := (List.getElem?_eq_some_iff.mp hk).1
  refine ⟨l, vs', (k : Int), k, v, rfl, rfl, ha', by omega, by omega, ?_, ev, ?_⟩
  · unfold seqIndex?
    have := rv'.length
    simp
    omega
  · exact q v d' F1 _ _ kd (E1.write (vs := .lst (vs'.eraseIdx k)) (ds := .l (xs.eraseIdx k)) e3 e1 (rv'.erase k)) k1 rp)
/-- len(x), x a list of one's own -/
theorem je_lenO {K : D → List Sl → Prop} {x : Str} {p p2 pos : Pos} (i : Nat) {xs : List D} (hm : X.mg "len" = none) (k : K (.int (xs.length : Nat)) S) (e : S[i]? = some (.own xs) := by rfl) (hg : Gl X "len" := by rfl) (hN : X.N[i]? = some x := by rfl) (hv : Vis X.env.scope x := by first | exact Or.inl rfl | exact Or.inr (Or.inl rfl) | exact Or.inr (Or.inr rfl)) (hd : (x == ("__debug__" : Str)) = false := by decide) (hcd : (x == ("__classdict__" : Str)) = false := by decide)
    (hs : starEach [.Name x p2] X.env = (false, eval (.Name x p2) X.env) :: starEach [] X.env := by rfl) :
    JE X r (.Call (.Name "len" p) [.Name x p2] [] pos) S K := fun c F σ H hr E Q q => of_pe (pe_callB call_len_seq hg hm PySem.boot_len (pa_cons (pe_var hN hv hd hcd) pa_nil hs) (by decide) (by decide) hs rfl) (by
  obtain ⟨y, e1, l, hh, e2, ha, rv, nF, nb, q0⟩ := E.sl i _ e
  subst e2
  obtain ⟨vs, rfl, rv⟩ := obr_l rv
  refine ⟨_, e1, l, vs, rfl, .inl (.inl (.inl ha)), ?_⟩
  rw [rv.length]
  exact q _ _ F H S k E (Ex.refl F) (.int _))
/-- list(x) -/
theorem jlist {K : List D → List Sl → Prop} {a : Expr} {p pos : Pos} (hm : X.mg "list" = none) (h : JE X r a S fun d S1 => ∃ xs, (d = .list xs ∨ d = .tuple xs) ∧ K xs S1) (hg : Gl X "list" := by rfl) (hs : starEach [a] X.env = (false, eval a X.env) :: starEach [] X.env := by rfl) : JN X r (.Call (.Name "list" p) [a] [] pos) S K :=
  jnTy call_list_of hm (ja1 (h.mono fun d S1 ⟨xs, e, k⟩ => ⟨[d], rfl, cn_list e k⟩) hs) hg (by decide +kernel) (by decide) (by decide) hs rfl
theorem jts_nil {K : Bool → List Sl → Prop} (h : K true S) : JTs X r [] S K := h
end
theorem perm_of_map {α β : Type} {f : α → β} {es : List β} {m : List β} (h : es.Perm m) : ∀ l : List α, m = l.map f → ∃ l' : List α, es = l'.map f ∧ l'.Perm l := by
  induction h with
  | nil => intro l e; exact ⟨[], rfl, by cases l with | nil => exact .nil | cons a l => cases e⟩
  | cons x _ ih =>
    intro l e
    cases l with
    | nil => cases e
    | cons a l =>
      injection e with e1 e2
      obtain ⟨l', rfl, p⟩ := ih l e2
      exact ⟨a :: l', by rw [e1]; rfl, p.cons a⟩
  | swap x y t =>
    intro l e
    match l, e with
    | a :: b :: l, e =>
      injection e with e1 e2
      injection e2 with e2 e3
      exact ⟨b :: a :: l, by rw [e1, e2, e3]; rfl, List.Perm.swap _ _ _⟩
  | trans _ _ ih1 ih2 =>
    intro l e
    obtain ⟨l1, e1, p1⟩ := ih2 l e
    obtain ⟨l2, e2, p2⟩ := ih1 l1 e1
    exact ⟨l2, e2, p2.trans p1⟩
theorem eraseIdx_perm {α : Type} : ∀ (l : List α) (j : Nat) (h : j < l.length), (l[j] :: l.eraseIdx j).Perm l
  | a :: l, 0, _ => List.Perm.refl _
  | a :: l, j + 1, h => by
    have h : j < l.length := Nat.lt_of_succ_lt_succ h
    show (l[j] :: a :: l.eraseIdx j).Perm (a :: l)
    exact (List.Perm.swap _ _ _).trans (List.Perm.cons _ (eraseIdx_perm l j h))
end DL

/-! DL: sorted(..) of a list of data. -/
namespace DL
open PySem L2
section
variable {X : Cx} {r : SR} {S : List Sl}
def rSortD (X : Cx) : List V → Hp → VK → Prop := fun vs H Q => ∃ F x ds, vs = [x] ∧ Ex F H ∧ Rp F x (.list ds) ∧ PyData.plainAll ds = true ∧ PySem.W.AllAlike ds ∧ PySem.W.Sortable ds ∧ (∀ d ∈ ds, X.A.units + 2 + d.depth < cLine) ∧
  ∀ p ws, RpA F ws (ds.mergeSort (PySem.W.dataLe false id)) → H p = none → Q (.ref p) (upd H p (.lst ws))
theorem each_of {P : Program} {w : World} {F H : Hp} {h : Heap} (k : Ex F H) (ok : HOk P w H h) : ∀ {vs : List V} {us : List Value} {ds : List D}, RpA F vs ds → Vals vs us → PyData.plainAll ds = true →
    PySem.W.EachIs (fun u (d : D) => ∃ v, RelV v u ∧ Rp F v d) us ds ∧ PySem.W.EachIs (fun u (d : D) => ∃ as, Reads h u (id d) as) us ds
  | _, _, _, .nil, e, _ => by cases e; exact ⟨.nil, .nil⟩
  | _, _, _, .cons r t, e, hp => by
    cases e with
    | cons e1 e2 =>
      rw [PyData.plainAll, Bool.and_eq_true] at hp
      obtain ⟨a, b⟩ := each_of k ok t e2 hp.2
      exact ⟨.cons ⟨_, e1, r⟩ a, .cons (Rp.reads k ok r e1 hp.1) b⟩
theorem of_each {F : Hp} : ∀ {us : List Value} {ds : List D}, PySem.W.EachIs (fun u (d : D) => ∃ v, RelV v u ∧ Rp F v d) us ds → ∃ vs, Vals vs us ∧ RpA F vs ds
  | _, _, .nil => ⟨[], .nil, .nil⟩
  | _, _, .cons ⟨v, e, r⟩ t => by
    obtain ⟨vs, a, b⟩ := of_each t
    exact ⟨v :: vs, .cons e a, .cons r b⟩
theorem call_sortD : CallR X (.builtin "sorted") (rSortD X) := by
  intro pins s σ H xs us Q I rr h
  obtain ⟨F, x, ds, rfl, k, rp, hpl, hal, hso, hu, q⟩ := h
  obtain ⟨u, rfl, rx⟩ := vals1 rr
  cases rp with
  | @lst a ws _ ha rv =>
    cases rx
    obtain ⟨z, its, n, rw', ho⟩ := I.hok _ _ (k _ _ ha)
    obtain ⟨e, er⟩ := each_of k I.hok rv rw' hpl
    have hz : ds.length ≤ sizeLine := by rw [← rv.length]; exact z
    refine PySem.W.sorted_data (bs := ds) (enc := id) (vs := its) (R := fun u (d : D) => ∃ v, RelV v u ∧ Rp F v d) ?_ e er (by rw [List.map_id]; exact hal) (by rw [List.map_id]; exact hso) hz hu ?_
    · exact ⟨_, ho, rfl, _, rfl⟩
    · intro out hl he
      obtain ⟨vs, v1, v2⟩ := of_each he
      obtain ⟨ep, he'⟩ := PyProof.Rows.sortedAll_at s.heap its out.toArray
      have hlen : vs.length ≤ sizeLine := by rw [v2.length, List.length_mergeSort]; exact hz
      exact ⟨.ref _, upd H (s.heap.objs.size + 1) (.lst vs), I.laid (t' := s.toks) (fun _ _ => PyProof.Rows.sortedAll_old) (Nat.le_succ _) ⟨hlen, out, ep, v1, he'⟩, rfl, q _ vs v2 (I.hok.fresh (Nat.le_succ _))⟩
theorem cn_sort {ds : List D} {K : List D → Prop} {k : Nat} (hr : Room k X.A) (h1 : ∀ d ∈ ds, Nice 50 d) (h2 : PySem.W.AllAlike ds) (h3 : PySem.W.Sortable ds) (kd : K (ds.mergeSort (PySem.W.dataLe false id))) : CallN (rSortD X) [.list ds] K := fun F H vs kF rv Q q => by
  cases rv with
  | cons r1 t =>
    cases t
    refine ⟨F, _, ds, rfl, kF, r1, plainAll_of fun d hd => (h1 d hd).pl, h2, h3, fun d hd => ?_, fun p ws rw n => q p ws _ kd n rw⟩
    have := (h1 d hd).dp
    have := hr.un
    omega
theorem jsorted {K : List D → List Sl → Prop} {a : Expr} {p pos : Pos} {k : Nat} (hr : Room k X.A) (hm : X.mg "sorted" = none) (h : JE X r a S fun d S1 => ∃ ds, d = .list ds ∧ (∀ d ∈ ds, Nice 50 d) ∧ PySem.W.AllAlike ds ∧ PySem.W.Sortable ds ∧ K (ds.mergeSort (PySem.W.dataLe false id)) S1) (hg : Gl X "sorted" := by rfl) (hs : starEach [a] X.env = (false, eval a X.env) :: starEach [] X.env := by rfl) : JN X r (.Call (.Name "sorted" p) [a] [] pos) S K :=
  jnB call_sortD hm (ja1 (h.mono fun d S1 ⟨ds, e, h1, h2, h3, k⟩ => ⟨[d], rfl, by rw [e]; exact cn_sort hr h1 h2 h3 k⟩) hs) hg (by decide +kernel) (by decide) (by decide) hs rfl
theorem sort_map {β : Type} {enc : β → D} {le : β → β → Bool} (e : PySem.W.dataLe false enc = le) (l : List β) : (l.map enc).mergeSort (PySem.W.dataLe false id) = (l.mergeSort le).map enc := by
  subst e
  exact (List.map_mergeSort (f := enc) (r := PySem.W.dataLe false enc) (s := PySem.W.dataLe false id) fun a _ b _ => rfl).symm
theorem alike_map {β : Type} {enc : β → D} {l : List β} (h : ∀ b b', PySem.W.alike (enc b) (enc b') = true) : PySem.W.AllAlike (l.map enc) := PySem.W.AllAlike.of h
/-- of ints -/
theorem jsortI {K : List D → List Sl → Prop} {a : Expr} {p pos : Pos} {k : Nat} (hr : Room k X.A) (hm : X.mg "sorted" = none) (h : JE X r a S fun d S1 => ∃ ns : List Int, d = .list (ns.map .int) ∧ ∀ ns' : List Int, ns'.Perm ns → ns'.Pairwise (· ≤ ·) → K (ns'.map .int) S1) (hg : Gl X "sorted" := by rfl) (hs : starEach [a] X.env = (false, eval a X.env) :: starEach [] X.env := by rfl) : JN X r (.Call (.Name "sorted" p) [a] [] pos) S K :=
  jsorted hr hm (h.mono fun d S1 ⟨ns, e, k⟩ => ⟨_, e, nice_map fun a => nice_int a, alike_map fun a b => by simp [PySem.W.alike], PySem.W.Sortable.others fun b => ⟨(by intro z; cases z), (by intro _ z; cases z)⟩, by
    rw [sort_map (PySem.W.dataLe_int fun b => b)]
    refine k _ (List.mergeSort_perm _ _) ?_
    have := List.pairwise_mergeSort (le := fun a b : Int => decide (a ≤ b)) (by intro a b c; simp; omega) (by intro a b; simp; omega) ns
    simpa using this⟩) hg hs
end
end DL

/-! DL: a, b = x, y; truth values without a trace; slices. -/
namespace DL
open PySem L2
section
variable {X : Cx} {r : SR} {S : List Sl}
/-- a, b = x, y: data -/
theorem jpar2 {x y : Str} {a b : Expr} {px py pt pos : Pos} {kt k2 pt2} {E : DE} {rest : List Stmt} (i j : Nat) (h : JE X r a S fun d1 S1 => JE X r b S1 fun d2 S2 => JSs X r rest ((S2.set i (.val d1)).set j (.val d2)) E)
    (hc : X.calm = true := by rfl) (hN : X.N.Nodup := by assumption) (hi : X.N[i]? = some x := by rfl) (hj : X.N[j]? = some y := by rfl) (hij : i ≠ j := by decide) (hx : X.env.scope.names.lookup x = some .local := by rfl) (hy : X.env.scope.names.lookup y = some .local := by rfl)
    (hw : swappedStores [.Tuple [.Name x px, .Name y py] kt pt] (.Tuple [a, b] k2 pt2) X.env = pure (some [x, y]) := by rfl) (hs : swapsWithSole [.Tuple [.Name x px, .Name y py] kt pt] (.Tuple [a, b] k2 pt2) pos.line X.env = pure false := by rfl)
    (s1 : starEach [a, b] X.env = (false, eval a X.env) :: starEach [b] X.env := by rfl) (s2 : starEach [b] X.env = (false, eval b X.env) :: starEach [] X.env := by rfl) :
    JSs X r (.Assign [.Tuple [.Name x px, .Name y py] kt pt] (.Tuple [a, b] k2 pt2) pos :: rest) S E := jss_cons fun c F σ H hr Ev G g =>
  of_ps (ps_par hc hN hi hj hij hx hy (pa_cons pe_tE (pa_cons pe_tE pa_nil s2) s1) hw hs) (h c F σ H hr Ev _ fun v d F1 H1 S1 h1 E1 k1 r1 => h1 c F1 σ H1 hr E1 _ fun v2 d2 F2 H2 S2 h2 E2 k2 r2 =>
    ⟨v, v2, rfl, g.nx F2 _ H2 _ h2 ((E2.set (r1.ex k2)).set r2) (k1.trans k2)⟩)
/-- a, b, c = x, y, z: data -/
theorem jpar3 {x y z : Str} {a b e : Expr} {px py pz pt pos : Pos} {kt k2 pt2} {E : DE} {rest : List Stmt} (i j l : Nat) (h : JE X r a S fun d1 S1 => JE X r b S1 fun d2 S2 => JE X r e S2 fun d3 S3 => JSs X r rest (((S3.set i (.val d1)).set j (.val d2)).set l (.val d3)) E)
    (hc : X.calm = true := by rfl) (hN : X.N.Nodup := by assumption) (hi : X.N[i]? = some x := by rfl) (hj : X.N[j]? = some y := by rfl) (hl : X.N[l]? = some z := by rfl) (hij : i ≠ j := by decide) (hil : i ≠ l := by decide) (hjl : j ≠ l := by decide) (hx : X.env.scope.names.lookup x = some .local := by rfl) (hy : X.env.scope.names.lookup y = some .local := by rfl) (hz : X.env.scope.names.lookup z = some .local := by rfl)
    (hw : swappedStores [.Tuple [.Name x px, .Name y py, .Name z pz] kt pt] (.Tuple [a, b, e] k2 pt2) X.env = pure (some [x, y, z]) := by rfl) (hs : swapsWithSole [.Tuple [.Name x px, .Name y py, .Name z pz] kt pt] (.Tuple [a, b, e] k2 pt2) pos.line X.env = pure false := by rfl)
    (s1 : starEach [a, b, e] X.env = (false, eval a X.env) :: starEach [b, e] X.env := by rfl) (s2 : starEach [b, e] X.env = (false, eval b X.env) :: starEach [e] X.env := by rfl) (s3 : starEach [e] X.env = (false, eval e X.env) :: starEach [] X.env := by rfl) :
    JSs X r (.Assign [.Tuple [.Name x px, .Name y py, .Name z pz] kt pt] (.Tuple [a, b, e] k2 pt2) pos :: rest) S E := jss_cons fun c F σ H hr Ev G g =>
  of_ps (ps_par3 hc hN hi hj hl hij hil hjl hx hy hz (pa_cons pe_tE (pa_cons pe_tE (pa_cons pe_tE pa_nil s3) s2) s1) hw hs) (h c F σ H hr Ev _ fun v d F1 H1 S1 h1 E1 k1 r1 => h1 c F1 σ H1 hr E1 _ fun v2 d2 F2 H2 S2 h2 E2 k2 r2 => h2 c F2 σ H2 hr E2 _ fun v3 d3 F3 H3 S3 h3 E3 k3 r3 =>
    ⟨v, v2, v3, rfl, g.nx F3 _ H3 _ h3 (((E3.set (r1.ex (k2.trans k3))).set (r2.ex k3)).set r3) ((k1.trans k2).trans k3)⟩)
/-- .. the last one a new list -/
theorem jpar3N {x y z : Str} {a b e : Expr} {px py pz pt pos : Pos} {kt k2 pt2} {E : DE} {rest : List Stmt} (i j l : Nat) (h : JE X r a S fun d1 S1 => JE X r b S1 fun d2 S2 => JN X r e S2 fun ds S3 => S3[i]? = some .emp ∧ S3[j]? = some .emp ∧ JSs X r rest (((S3.set i (.val d1)).set j (.val d2)).set l (.own ds)) E)
    (hc : X.calm = true := by rfl) (hN : X.N.Nodup := by assumption) (hi : X.N[i]? = some x := by rfl) (hj : X.N[j]? = some y := by rfl) (hl : X.N[l]? = some z := by rfl) (hij : i ≠ j := by decide) (hil : i ≠ l := by decide) (hjl : j ≠ l := by decide) (hx : X.env.scope.names.lookup x = some .local := by rfl) (hy : X.env.scope.names.lookup y = some .local := by rfl) (hz : X.env.scope.names.lookup z = some .local := by rfl)
    (hw : swappedStores [.Tuple [.Name x px, .Name y py, .Name z pz] kt pt] (.Tuple [a, b, e] k2 pt2) X.env = pure (some [x, y, z]) := by rfl) (hs : swapsWithSole [.Tuple [.Name x px, .Name y py, .Name z pz] kt pt] (.Tuple [a, b, e] k2 pt2) pos.line X.env = pure false := by rfl)
    (s1 : starEach [a, b, e] X.env = (false, eval a X.env) :: starEach [b, e] X.env := by rfl) (s2 : starEach [b, e] X.env = (false, eval b X.env) :: starEach [e] X.env := by rfl) (s3 : starEach [e] X.env = (false, eval e X.env) :: starEach [] X.env := by rfl) :
    JSs X r (.Assign [.Tuple [.Name x px, .Name y py, .Name z pz] kt pt] (.Tuple [a, b, e] k2 pt2) pos :: rest) S E := jss_cons fun c F σ H hr Ev G g =>
  of_ps (ps_par3 hc hN hi hj hl hij hil hjl hx hy hz (pa_cons pe_tE (pa_cons pe_tE (pa_cons pe_tE pa_nil s3) s2) s1) hw hs) (h c F σ H hr Ev _ fun v d F1 H1 S1 h1 E1 k1 r1 => h1 c F1 σ H1 hr E1 _ fun v2 d2 F2 H2 S2 h2 E2 k2 r2 => h2 c F2 σ H2 hr E2 _ fun p ds F3 H3 S3 h3 n k3 => by
    obtain ⟨hh, E3, hp, hv, nF, b, q, no⟩ := n
    obtain ⟨e1, e2, kk⟩ := h3
    have E4 := (E3.set (i := i) (r1.ex (k2.trans k3))).set (i := j) (r2.ex k3)
    refine ⟨v, v2, .ref p, rfl, g.nx F3 _ H3 _ kk (E4.setOwn hp hv nF b q fun m xs em => ?_) ((k1.trans k2).trans k3)⟩
    have hli : i < S3.length := (List.getElem?_eq_some_iff.mp e1).1
    have hlj : j < S3.length := (List.getElem?_eq_some_iff.mp e2).1
    by_cases hm : j = m
    · subst hm
      rw [List.getElem?_set_self (by rw [List.length_set]; exact hlj)] at em; cases em
    · rw [List.getElem?_set_ne hm] at em ⊢
      by_cases hm : i = m
      · subst hm
        rw [List.getElem?_set_self hli] at em; cases em
      · rw [List.getElem?_set_ne hm] at em ⊢
        exact no m xs em)
/-! ### a truth value, whichever; the slots as before -/
def JB (X : Cx) (r : SR) (e : Expr) (S : List Sl) : Prop := JE X r e S fun d S' => S' = S ∧ ∃ k : Bool, d = .bool k
def JBT (X : Cx) (r : SR) (e : Expr) (S : List Sl) : Prop := JT X r e S fun _ S' => S' = S
def JBW (X : Cx) (r : SR) (e : Expr) (S : List Sl) : Prop := JW X r e S fun _ S' => S' = S
theorem jb_one {op : BoolOp} {a : Expr} {pos : Pos} (h : JB X r a S) : JB X r (.BoolOp op [a] pos) S := je_one h
theorem jb_and {a b : Expr} {rest : List Expr} {pos : Pos} (h : JB X r a S) (h2 : JB X r (.BoolOp .And (b :: rest) pos) S) : JB X r (.BoolOp .And (a :: b :: rest) pos) S :=
  je_and (h.mono fun d S' ⟨e, k, ed⟩ => ⟨k, ed, by subst e; exact ifb (fun _ => h2) fun _ => ⟨rfl, false, rfl⟩⟩)
theorem jb_or {a b : Expr} {rest : List Expr} {pos : Pos} (h : JB X r a S) (h2 : JB X r (.BoolOp .Or (b :: rest) pos) S) : JB X r (.BoolOp .Or (a :: b :: rest) pos) S :=
  je_or (h.mono fun d S' ⟨e, k, ed⟩ => ⟨k, ed, by subst e; exact ifb (fun _ => ⟨rfl, true, rfl⟩) fun _ => h2⟩)
theorem jbw_and1 {a : Expr} {pos : Pos} (h : JBT X r a S) : JBW X r (.BoolOp .And [a] pos) S := jw_and1 h
theorem jbw_or1 {a : Expr} {pos : Pos} (h : JBT X r a S) : JBW X r (.BoolOp .Or [a] pos) S := jw_or1 h
theorem jbw_and {a b : Expr} {rest : List Expr} {pos : Pos} (h : JBT X r a S) (h2 : JBW X r (.BoolOp .And (b :: rest) pos) S) : JBW X r (.BoolOp .And (a :: b :: rest) pos) S :=
  jw_and (h.mono fun d S' e => by subst e; exact ifb (fun _ => h2) fun _ => rfl)
theorem jbw_or {a b : Expr} {rest : List Expr} {pos : Pos} (h : JBT X r a S) (h2 : JBW X r (.BoolOp .Or (b :: rest) pos) S) : JBW X r (.BoolOp .Or (a :: b :: rest) pos) S :=
  jw_or (h.mono fun d S' e => by subst e; exact ifb (fun _ => rfl) fun _ => h2)
theorem JBW.t {a : Expr} (h : JBW X r a S) : JBT X r a S := JW.jt h
/-- if, whichever way -/
theorem jifB {t : Expr} {a b rest : List Stmt} {pos : Pos} {E : DE} (h : JBT X r t S) (h1 : JSs X r a S { E with nx := fun S2 => JSs X r rest S2 E }) (h2 : JSs X r b S { E with nx := fun S2 => JSs X r rest S2 E }) : JSs X r (.If t a b pos :: rest) S E :=
  jif (h.mono fun k S' e => by subst e; exact ifb (fun _ => h1) fun _ => h2)
/-- if, never taken -/
theorem jifF {t : Expr} {a b rest : List Stmt} {pos : Pos} {E : DE} (h : JT X r t S fun k S' => k = false ∧ S' = S) (h2 : JSs X r b S { E with nx := fun S2 => JSs X r rest S2 E }) : JSs X r (.If t a b pos :: rest) S E :=
  jif (h.mono fun k S' ⟨e1, e2⟩ => by subst e1; subst e2; exact iff' rfl h2)
/-- .. and both ways meet -/
theorem jifM {N : List Sl → Prop} {t : Expr} {a b rest : List Stmt} {pos : Pos} {E : DE} (h : JBT X r t S) (h1 : JSs X r a S { E with nx := N }) (h2 : JSs X r b S { E with nx := N }) (h3 : ∀ S2, N S2 → JSs X r rest S2 E) : JSs X r (.If t a b pos :: rest) S E :=
  jifB h (h1.mono h3 (fun _ z => z) (fun _ z => z) (fun _ z => z)) (h2.mono h3 (fun _ z => z) (fun _ z => z) (fun _ z => z))
/-- x.append(e), x a list of one's own -/
theorem jappend {e : Expr} {x : Str} {p apos cpos pos : Pos} {E : DE} {rest : List Stmt} (i : Nat) (xs0 : List D)
    (h : JE X r e S fun d S1 => ∃ xs, S1[i]? = some (.own xs) ∧ xs.length < sizeLine ∧ JSs X r rest (S1.set i (.own (xs ++ [d]))) E) (h0 : S[i]? = some (.own xs0) := by rfl)
    (hp : PS X (.Expr (.Call (.Attribute (.Name x p) "append" apos) [e] [] cpos) pos) (tDrop (tBM X.K "list" rAppend (tVar i) (tCons (tE X e) tNil))) := by exact ps_expr (pe_bm PySem.F.plainAttrs_list PySem.F.slot_list_append PySem.F.type_list_append mt_append (pv _) (pa_cons pe_tE pa_nil))) :
    JSs X r (.Expr (.Call (.Attribute (.Name x p) "append" apos) [e] [] cpos) pos :: rest) S E := jss_cons (js_append (rr := fun _ _ _ _ => True) i hp h h0)
/-! ### small displays -/
theorem jtup0 {K : D → List Sl → Prop} {k : Nat} {pos : Pos} (h : K (.tuple []) S) : JE X r (.Tuple [] k pos) S K := je_tup (jA0 ⟨[], rfl, Nat.zero_le _, h⟩)
theorem jtup1 {K : D → List Sl → Prop} {a : Expr} {k : Nat} {pos : Pos} (h : JE X r a S fun d S1 => K (.tuple [d]) S1) (s1 : starEach [a] X.env = (false, eval a X.env) :: starEach [] X.env := by rfl) : JE X r (.Tuple [a] k pos) S K :=
  je_tup (ja1 (h.mono fun d S1 k => ⟨[d], rfl, by show 1 ≤ sizeLine; decide, k⟩) s1)
theorem jtup2 {K : D → List Sl → Prop} {a b : Expr} {k : Nat} {pos : Pos} (h : JE X r a S fun d1 S1 => JE X r b S1 fun d2 S2 => K (.tuple [d1, d2]) S2) (s1 : starEach [a, b] X.env = (false, eval a X.env) :: starEach [b] X.env := by rfl) (s2 : starEach [b] X.env = (false, eval b X.env) :: starEach [] X.env := by rfl) : JE X r (.Tuple [a, b] k pos) S K :=
  je_tup (jA (h.mono fun d1 S1 h2 => ja1 (h2.mono fun d2 S2 k => ⟨[d1, d2], rfl, by show 2 ≤ sizeLine; decide, k⟩) s2) s1)
theorem jlst1 {K : List D → List Sl → Prop} {a : Expr} {pos : Pos} (h : JE X r a S fun d S1 => K [d] S1) (s1 : starEach [a] X.env = (false, eval a X.env) :: starEach [] X.env := by rfl) : JN X r (.List [a] pos) S K :=
  jn_lst (ja1 (h.mono fun d S1 k => ⟨[d], rfl, by show 1 ≤ sizeLine; decide, k⟩) s1)
theorem jlst2 {K : List D → List Sl → Prop} {a b : Expr} {pos : Pos} (h : JE X r a S fun d1 S1 => JE X r b S1 fun d2 S2 => K [d1, d2] S2) (s1 : starEach [a, b] X.env = (false, eval a X.env) :: starEach [b] X.env := by rfl) (s2 : starEach [b] X.env = (false, eval b X.env) :: starEach [] X.env := by rfl) : JN X r (.List [a, b] pos) S K :=
  jn_lst (jA (h.mono fun d1 S1 h2 => ja1 (h2.mono fun d2 S2 k => ⟨[d1, d2], rfl, by show 2 ≤ sizeLine; decide, k⟩) s2) s1)
theorem jA2 {K : List Ar → List Sl → Prop} {a b : Expr} (h : JE X r a S fun d1 S1 => JE X r b S1 fun d2 S2 => K [.d d1, .d d2] S2) (s1 : starEach [a, b] X.env = (false, eval a X.env) :: starEach [b] X.env := by rfl) (s2 : starEach [b] X.env = (false, eval b X.env) :: starEach [] X.env := by rfl) : JA X r [a, b] S K :=
  jA (h.mono fun d1 S1 h2 => ja1 h2 s2) s1
/-! ### slices -/
theorem cutD_from (ds : List D) (k : Nat) : cutD ds (some (k : Int)) none = ds.drop k := by
  unfold cutD
  rw [HT.sIx_none, HT.sIx_nat]
  by_cases h : k ≤ ds.length
  · rw [Nat.min_eq_left h, List.take_of_length_le (by rw [List.length_drop]; exact Nat.le_refl _)]
  · have e : min k ds.length = ds.length := Nat.min_eq_right (by omega)
    rw [e, List.drop_of_length_le (Nat.le_refl _), List.drop_of_length_le (by omega), List.take_nil]
theorem cutD_to (ds : List D) (k : Nat) : cutD ds none (some (k : Int)) = ds.take k := by
  unfold cutD
  rw [HT.sIx_none, HT.sIx_nat, List.drop_zero, Nat.sub_zero]
  by_cases h : k ≤ ds.length
  · rw [Nat.min_eq_left h]
  · rw [Nat.min_eq_right (by omega), List.take_length, List.take_of_length_le (by omega)]
theorem cutD_last (ds : List D) : cutD ds none (some (-1)) = ds.dropLast := by
  unfold cutD
  rw [HT.sIx_none, List.drop_zero, Nat.sub_zero]
  have e : HT.sIx ds.length ds.length (some (-1)) = ds.length - 1 := by
    show (if (-1 : Int) < 0 then ((-1 : Int) + (ds.length : Int)).toNat else min (-1 : Int).toNat ds.length) = _
    rw [if_pos (by decide)]; omega
  rw [e, List.dropLast_eq_take]
theorem atI_last {ds : List D} {d : D} (h : ds.getLast? = some d) : atI ds (-1) = some d := by
  rw [List.getLast?_eq_getElem?] at h
  have hl := (List.getElem?_eq_some_iff.mp h).1
  unfold atI
  have e : ixN ds.length (-1) = some (ds.length - 1) := by
    unfold ixN
    rw [if_neg (by decide)]
    split
    · congr 1; omega
    · omega
  rw [e]
  exact h
end
end DL

/-! DL: dicts whose keys are tuples of ints. -/
namespace DL
open PySem L2
/-! ### the data -/
def putD (kvs : List (List Int × D)) (k : List Int) (d : D) : List (List Int × D) :=
  if (kvs.any fun kv => decide (kv.1 = k)) = true then kvs.map (fun kv => if kv.1 = k then (kv.1, d) else kv) else kvs ++ [(k, d)]
def mergeD (kvs more : List (List Int × D)) : List (List Int × D) := more.foldl (fun acc p => putD acc p.1 p.2) kvs
def entD (p : List Int × D) : D := .tuple [.tuple (p.1.map .int), p.2]
/-- keys alone, as a set -/
def uni {α : Type} [DecidableEq α] (a b : List α) : List α := b.foldl (fun acc k => if k ∈ acc then acc else acc ++ [k]) a
def kvL (ks : List (List Int)) : List (List Int × D) := ks.map fun k => (k, .int 0)
section
variable {α : Type} [DecidableEq α]
theorem mem_uni {x : α} : ∀ (b a : List α), x ∈ uni a b ↔ x ∈ a ∨ x ∈ b
  | [], a => by show x ∈ a ↔ _; simp
  | k :: b, a => by
    show x ∈ uni (if k ∈ a then a else a ++ [k]) b ↔ _
    rw [mem_uni b]
    by_cases e : k ∈ a
    · rw [if_pos e, List.mem_cons]
      constructor
      · rintro (h | h)
        · exact .inl h
        · exact .inr (.inr h)
      · rintro (h | rfl | h)
        · exact .inl h
        · exact .inl e
        · exact .inr h
    · rw [if_neg e, List.mem_append, List.mem_singleton, List.mem_cons, or_assoc]
theorem nodup_uni : ∀ (b a : List α), a.Nodup → (uni a b).Nodup
  | [], _, h => h
  | k :: b, a, h => by
    show (uni (if k ∈ a then a else a ++ [k]) b).Nodup
    by_cases e : k ∈ a
    · rw [if_pos e]; exact nodup_uni b a h
    · rw [if_neg e]
      refine nodup_uni b _ ?_
      rw [List.nodup_append]
      refine ⟨h, by simp, fun x hx y hy => ?_⟩
      rw [List.mem_singleton.mp hy]
      intro z; rw [z] at hx; exact e hx
theorem uni_len : ∀ (b a : List α), (uni a b).length ≤ a.length + b.length
  | [], a => Nat.le_refl _
  | k :: b, a => by
    have h := uni_len b (if k ∈ a then a else a ++ [k])
    show (uni (if k ∈ a then a else a ++ [k]) b).length ≤ _
    rw [List.length_cons]
    by_cases e : k ∈ a
    · rw [if_pos e] at h ⊢; omega
    · rw [if_neg e] at h ⊢
      rw [List.length_append, List.length_singleton] at h
      omega
end
theorem putD_kvL (a : List (List Int)) (k : List Int) : putD (kvL a) k (.int 0) = kvL (uni a [k]) := by
  unfold putD uni
  simp only [List.foldl_cons, List.foldl_nil]
  have e : ((kvL a).any fun kv => decide (kv.1 = k)) = decide (k ∈ a) := by
    unfold kvL
    rw [List.any_map]
    induction a with
    | nil => rfl
    | cons x a ih =>
      rw [List.any_cons, ih]
      by_cases h : x = k
      · subst h; simp
      · have : ¬ k = x := fun z => h z.symm
        simp [h, this]
  rw [e]
  by_cases h : k ∈ a
  · rw [if_pos (by simpa using h), if_pos h]
    unfold kvL
    rw [List.map_map]
    refine List.map_congr_left fun x hx => ?_
    by_cases e2 : x = k
    · subst e2; simp
    · simp [e2]
  · rw [if_neg (by simpa using h), if_neg h]
    unfold kvL
    rw [List.map_append]
    rfl
theorem mergeD_kvL : ∀ (b a : List (List Int)), mergeD (kvL a) (kvL b) = kvL (uni a b)
  | [], _ => rfl
  | k :: b, a => by
    show mergeD (putD (kvL a) k (.int 0)) (kvL b) = _
    rw [putD_kvL, mergeD_kvL b]
    rfl
theorem kvL_length (ks : List (List Int)) : (kvL ks).length = ks.length := by unfold kvL; rw [List.length_map]
theorem putD_len (kvs : List (List Int × D)) (k : List Int) (d : D) : (putD kvs k d).length ≤ kvs.length + 1 := by
  unfold putD
  split
  · rw [List.length_map]; omega
  · rw [List.length_append]; exact Nat.le_refl _
theorem mergeD_len : ∀ (more kvs : List (List Int × D)), (mergeD kvs more).length ≤ kvs.length + more.length
  | [], kvs => Nat.le_refl _
  | p :: more, kvs => by
    have := mergeD_len more (putD kvs p.1 p.2)
    have := putD_len kvs p.1 p.2
    show (mergeD (putD kvs p.1 p.2) more).length ≤ _
    rw [List.length_cons]
    omega
/-! ### its values -/
def kI (k : List Int) : List Key := k.map Sum.inl
theorem kI_inj {a b : List Int} (h : kI a = kI b) : a = b := by
  induction a generalizing b with
  | nil => cases b with
    | nil => rfl
    | cons y b => cases h
  | cons x a ih => cases b with
    | nil => cases h
    | cons y b =>
      have h : (Sum.inl x : Key) :: kI a = Sum.inl y :: kI b := h
      injection h with h1 h2
      injection h1 with h1
      rw [h1, ih h2]
theorem RpK.length {F : Hp} : ∀ {ws : List (List Key × V)} {kvs : List (List Int × D)}, RpK F ws kvs → ws.length = kvs.length
  | _, _, .nil => rfl
  | _, _, .cons _ t => by rw [List.length_cons, List.length_cons, RpK.length t]
theorem RpK.any {F : Hp} (k : List Int) : ∀ {ws : List (List Key × V)} {kvs : List (List Int × D)}, RpK F ws kvs → (ws.any fun kv => decide (kv.1 = kI k)) = kvs.any fun kv => decide (kv.1 = k)
  | _, _, .nil => rfl
  | _, _, .cons (k := k0) _ t => by
    rw [List.any_cons, List.any_cons, RpK.any k t]
    have e : decide (List.map Sum.inl k0 = kI k) = decide (k0 = k) := decide_eq_decide.mpr ⟨fun z => kI_inj z, fun z => by rw [z]; rfl⟩
    rw [e]
theorem RpK.repl {F : Hp} {v : V} {d : D} (k : List Int) (r : Rp F v d) : ∀ {ws : List (List Key × V)} {kvs : List (List Int × D)}, RpK F ws kvs → RpK F (ws.map fun kv => if kv.1 = kI k then (kv.1, v) else kv) (kvs.map fun kv => if kv.1 = k then (kv.1, d) else kv)
  | _, _, .nil => .nil
  | _, _, .cons (k := k0) r0 t => by
    rw [List.map_cons, List.map_cons]
    by_cases e : k0 = k
    · subst e
      rw [if_pos rfl, if_pos (show List.map Sum.inl k0 = kI k0 from rfl)]
      exact .cons r (RpK.repl k0 r t)
    · rw [if_neg e, if_neg (show ¬ (List.map Sum.inl k0 = kI k) from fun z => e (kI_inj z))]
      exact .cons r0 (RpK.repl k r t)
theorem RpK.snoc {F : Hp} {v : V} {d : D} (k : List Int) (r : Rp F v d) : ∀ {ws : List (List Key × V)} {kvs : List (List Int × D)}, RpK F ws kvs → RpK F (ws ++ [(kI k, v)]) (kvs ++ [(k, d)])
  | _, _, .nil => .cons r .nil
  | _, _, .cons r0 t => .cons r0 (RpK.snoc k r t)
theorem RpK.put {F : Hp} {v : V} {d : D} {k : List Int} {ws : List (List Key × V)} {kvs : List (List Int × D)} (h : RpK F ws kvs) (r : Rp F v d) : RpK F (putK ws (kI k) v) (putD kvs k d) := by
  unfold putK putD
  rw [h.any k]
  split
  · exact h.repl k r
  · exact h.snoc k r
def mergeT (ws more : List (List Key × V)) : List (List Key × V) := more.foldl (fun acc p => putK acc p.1 p.2) ws
theorem RpK.merge {F : Hp} : ∀ {ws2 : List (List Key × V)} {kvs2 : List (List Int × D)} {ws : List (List Key × V)} {kvs : List (List Int × D)}, RpK F ws2 kvs2 → RpK F ws kvs → RpK F (mergeT ws ws2) (mergeD kvs kvs2)
  | _, _, _, _, .nil, h => h
  | _, _, ws, kvs, .cons (k := k) (v := v) (d := d) (ws := ws2) (kvs := kvs2) r t, h => by
    show RpK F (mergeT (putK ws (kI k) v) ws2) (mergeD (putD kvs k d) kvs2)
    exact RpK.merge t (h.put (k := k) r)
theorem KT.merge {H : Hp} : ∀ {more : List (List Key × V)} {xs2 : List (List Key × Addr × Value)} {ws : List (List Key × V)} {xs : List (List Key × Addr × Value)}, KT H more xs2 → KT H ws xs → KT H (mergeT ws more) (storedAllH xs xs2)
  | _, _, _, _, .nil, h => h
  | (k, v) :: m2, (k', b, u) :: x2, ws, xs, .cons z t, h => by
    obtain ⟨e, hb, r⟩ := z
    simp only at e hb r
    subst e
    show KT H (mergeT (putK ws k v) m2) (storedAllH (storedH xs k b u) x2)
    exact KT.merge t (KT.put h k hb r)
/-! ### dict(xs) -/
section
variable {X : Cx}
theorem RpA.tupI {F : Hp} {k : List Int} {vs : List V} (r : RpA F vs (k.map .int)) : vs = (kI k).map kV := by
  rw [RpA.ints_of r]
  unfold kI
  rw [List.map_map]
  rfl
theorem ents_of {P : Program} {w : World} {F H : Hp} {h : Heap} (k : Ex F H) (ok : HOk P w H h) : ∀ {vs : List V} {us : List Value} {ps : List (List Int × D)}, RpA F vs (ps.map entD) → Vals vs us →
    ∃ (ts : List Addr) (xs : List (List Key × Addr × Value)) (ws : List (List Key × V)), us = ts.map Value.ref ∧ xs.length = ts.length ∧ RpK F ws ps ∧ KT H ws xs ∧ ∀ (j : Nat) x, xs[j]? = some x → ∃ t, ts[j]? = some t ∧ PairAt h t (.ref x.2.1) x.2.2
  | _, _, [], r, v => by
    cases r
    cases v
    exact ⟨[], [], [], rfl, rfl, .nil, .nil, fun j x e => by simp at e⟩
  | _, _, p :: ps, r, v => by
    rw [List.map_cons] at r
    cases r with
    | cons r1 rt =>
      cases v with
      | cons v1 vt =>
        obtain ⟨ts, xs, ws, e1, e2, e3, e4, e5⟩ := ents_of k ok rt vt
        cases r1 with
        | @tup t zs _ ht hz =>
          cases hz with
          | @cons z1 _ zs1 _ a1 at1 =>
            cases at1 with
            | @cons z2 _ zs2 _ a2 at2 =>
              cases at2
              cases a1 with
              | @tup b ys _ hb hy =>
                have ey := RpA.tupI hy
                subst ey
                cases v1
                obtain ⟨_, its, rv, hT⟩ := (show ObjOk P w H h t (.tup [.ref b, z2]) from ok _ _ (k _ _ ht))
                obtain ⟨u1, u2, ei, r1, r2⟩ := vals2 rv
                subst ei
                cases r1
                refine ⟨t :: ts, (kI p.1, b, u2) :: xs, (kI p.1, z2) :: ws, by rw [e1]; rfl, by rw [List.length_cons, List.length_cons, e2], .cons a2 e3, .cons ⟨rfl, k _ _ hb, r2⟩ e4, fun j x e => ?_⟩
                cases j with
                | zero =>
                  cases e
                  exact ⟨t, rfl, .inl hT⟩
                | succ j =>
                  obtain ⟨t', f1, f2⟩ := e5 j x (by simpa using e)
                  exact ⟨t', by simpa using f1, f2⟩
def rDictT : List V → Hp → VK → Prop := fun vs H Q => ∃ F x ps, vs = [x] ∧ Ex F H ∧ Rp F x (.list (ps.map entD)) ∧ ∀ p ws, RpK F ws (mergeD [] ps) → H p = none → Q (.ref p) (upd H p (.dT ws))
theorem call_dictT (hcalm : X.calm = true) (hu : X.A.units + 2 < cLine) : CallR X (.type "dict") rDictT := by
  intro pins s σ H xs us Q I rr h
  obtain ⟨F, x, ps, rfl, k, rp, q⟩ := h
  obtain ⟨u, rfl, rx⟩ := vals1 rr
  cases rp with
  | @lst a ws _ ha rv =>
    cases rx
    obtain ⟨z, its, n, rw', ho⟩ := (show ObjOk X.prog X.w H s.heap a (.lst ws) from I.hok _ _ (k _ _ ha))
    obtain ⟨ts, ys, w2, e1, e2, e3, e4, e5⟩ := ents_of k I.hok rv rw'
    subst e1
    have hz : ys.length ≤ sizeLine := by
      have := rw'.length
      rw [List.length_map] at this
      omega
    have hp : PairItems s.heap (ts.map Value.ref).toArray (fun j => ts.getD j 0) (ys.map fun y => (Value.ref y.2.1, y.2.2)) := by
      refine ⟨by simp [e2], fun j kk v e => ?_⟩
      rw [List.getElem?_map] at e
      cases ey : ys[j]? with
      | none => rw [ey] at e; cases e
      | some y =>
        rw [ey] at e
        cases e
        obtain ⟨t, f1, f2⟩ := e5 j y ey
        have g : ts.getD j 0 = t := by rw [List.getD_eq_getElem?_getD, f1]; rfl
        show (List.map Value.ref ts).toArray[j]? = some (Value.ref (ts.getD j 0)) ∧ PairAt s.heap (ts.getD j 0) _ _
        rw [g]
        exact ⟨by simp [f1], f2⟩
    refine call_dict_pairsH (knd := tupleKind (mixKind X.prog X.w)) (ps := ys) (PairArg.list a (ts.map Value.ref).toArray (fun j => ts.getD j 0) (ys.map fun y => (Value.ref y.2.1, y.2.2))) (I.ok.hd hcalm) hu ⟨⟨_, n, ho, rfl, rfl, rfl⟩, hp⟩ ⟨by rw [List.length_map], fun i key v hrel => ?_⟩ (fun h' hk y hy => ?_) (by rw [List.length_map]; exact hz) fun h' tk hd' hk => ?_
    · have hrel : (ys.map fun y => (Value.ref y.2.1, y.2.2))[i]? = some (key, v) := hrel
      rw [List.getElem?_map] at hrel
      cases ey : ys[i]? with
      | none => rw [ey] at hrel; cases hrel
      | some y =>
        rw [ey] at hrel
        cases hrel
        exact ⟨y.1, y.2.1, rfl, rfl⟩
    · have all : ∀ {l : List (List Key × V)} {m : List (List Key × Addr × Value)}, KT H l m → ∀ x ∈ m, H x.2.1 = some (.tup (x.1.map kV)) := by
        intro l m q
        induction q with
        | nil => intro x hx; exact nomatch hx
        | @cons p q ps qs hq t ih =>
          intro x hx
          rcases List.mem_cons.mp hx with e | hx
          · subst e; rw [← hq.1]; exact hq.2.1
          · exact ih x hx
      have hb := all e4 y hy
      obtain ⟨_, its, r, o, h1, h2, n, h3⟩ := (show ObjOk X.prog X.w H s.heap y.2.1 (.tup (y.1.map kV)) from I.hok _ _ hb)
      exact ⟨o, its.toArray, n, hk _ _ (Nat.ne_of_lt (Heap.lt_size h1)) (by simp) h1, h2, h3, by simpa using items_are r⟩
    · have hm : (s.heap.objs.size == sysModules) = false := beq_eq_false_iff_ne.mpr (Nat.ne_of_gt I.big)
      have hlen : (mergeT [] w2).length ≤ sizeLine := by
        rw [(RpK.merge (ws := []) (kvs := []) e3 .nil).length]
        refine Nat.le_trans (mergeD_len _ _) ?_
        rw [List.length_nil, Nat.zero_add, ← e3.length]
        have := Paired.length e4
        omega
      obtain ⟨o, es, ep, g1, g2, g3, g4, _, g5⟩ := hd'
      refine ⟨.ref s.heap.objs.size, upd H s.heap.objs.size (.dT (mergeT [] w2)), I.laid (t' := tk) (fun b o e => hk b o (by simp) e) (Nat.le_refl _) ⟨hlen, hm, _, (KT.merge e4 .nil).keeps fun b ys eb => ?_, o, es, ep, g1, g2, g3, g4, g5⟩, rfl, q _ _ (RpK.merge e3 .nil) (I.hok.fresh (Nat.le_refl _))⟩
      rw [upd_ne (ne_of_none eb (I.hok.fresh (Nat.le_refl _)))]
      exact eb
/-! ### d.update(e) -/
def rUpdT : V → List V → Hp → VK → Prop := fun x vs H Q => ∃ (a b : Addr) (kvs more : List (List Key × V)), x = .ref a ∧ vs = [.ref b] ∧ a ≠ b ∧ H a = some (.dT kvs) ∧ H b = some (.dT more) ∧ kvs ≠ [] ∧ kvs.length + more.length ≤ sizeLine ∧ Q .non (upd H a (.dT (mergeT kvs more)))
theorem length_mergeT : ∀ (more kvs : List (List Key × V)), (mergeT kvs more).length ≤ kvs.length + more.length
  | [], kvs => Nat.le_refl _
  | p :: more, kvs => by
    have := length_mergeT more (putK kvs p.1 p.2)
    have := length_putK kvs p.1 p.2
    show (mergeT (putK kvs p.1 p.2) more).length ≤ _
    rw [List.length_cons]
    omega
theorem mt_updT (hu : X.A.units + 2 < cLine) : MtR X "dict.update" rUpdT := by
  intro pins s σ H x vs v us Q I rx rv h
  obtain ⟨a, b, kvs, more, ex, ev, hne, ha, hb, h0, hl, q⟩ := h
  subst ex
  subst ev
  obtain rfl : v = Value.ref a := rx
  obtain ⟨u, rfl, ru⟩ := rv.one
  obtain rfl : u = Value.ref b := ru
  obtain ⟨z1, d1, xs1, rel1, dd1⟩ := dt_of I.hok ha
  obtain ⟨z2, d2, xs2, rel2, dd2⟩ := dt_of I.hok hb
  have l1 := Paired.length rel1
  have l2 := Paired.length rel2
  have hx : xs1 ≠ [] := fun z => by rw [z] at l1; exact h0 (List.length_eq_zero_iff.mp l1)
  refine call_update_dictH (knd := tupleKind (mixKind X.prog X.w)) (show X.A.units + 1 < cLine by omega) hne d2 dd1 dd2 (.inl hx) (by omega) fun h' dd' _ hs => ?_
  have he : ∃ q, h'.get? a = some q := let ⟨q, _, _, hq, _⟩ := dd'; ⟨q, hq⟩
  have hlen : (mergeT kvs more).length ≤ sizeLine := Nat.le_trans (length_mergeT more kvs) hl
  obtain ⟨o, es, ep, g1, g2, g3, g4, _, g5⟩ := dd'
  refine ⟨.non, _, d_write (t' := s.toks) (ob := .dT (mergeT kvs more)) I (by rw [ha]; exact True.intro) hs he ⟨hlen, d1, _, (KT.merge rel2 rel1).keeps fun c ys ec => ?_, o, es, ep, g1, g2, g3, g4, g5⟩, rfl, q⟩
  rw [upd_ne (ne_of ec ha (fun z => nomatch z))]
  exact ec
end
end DL

/-! DL: dicts with tuple keys as objects of one's own: dict(..), update, comprehensions over them. -/
namespace DL
open PySem L2
section
variable {X : Cx} {r : SR} {S : List Sl}
/-- dict([(k, v), ..]) -/
theorem jdict {K : OB → List Sl → Prop} {a : Expr} {p pos : Pos} {k : Nat} (hr : Room k X.A) (hm : X.mg "dict" = none) (h : JE X r a S fun d S1 => ∃ ps : List (List Int × D), d = .list (ps.map entD) ∧ K (.d (mergeD [] ps)) S1) (hc : X.calm = true := by rfl) (hg : Gl X "dict" := by rfl) (hs : starEach [a] X.env = (false, eval a X.env) :: starEach [] X.env := by rfl) :
    JO X r (.Call (.Name "dict" p) [a] [] pos) S K := fun c F σ H hr' E Q q =>
  of_pe (pe_callTy (call_dictT hc (by have := hr.un; omega)) hg hm (by decide +kernel) (pa_cons pe_tE pa_nil hs) (by decide) (by decide) hs rfl) (h c F σ H hr' E _ fun v d F1 H1 S1 h1 E1 k1 r1 => by
    obtain ⟨ps, rfl, kd⟩ := h1
    exact ⟨F1, v, ps, rfl, E1.fin.fh, r1, fun p ws rw' n => q p _ F1 _ S1 kd (newL_ob (h := .dT ws) (o := .d (mergeD [] ps)) E1 n rw') k1⟩)
theorem int_map_inj : ∀ {a b : List Int}, a.map PyData.int = b.map PyData.int → a = b
  | [], [], _ => rfl
  | [], _ :: _, e => by cases e
  | _ :: _, [], e => by cases e
  | x :: a, y :: b, e => by
    rw [List.map_cons, List.map_cons] at e
    injection e with e1 e2
    injection e1 with e1
    rw [e1, int_map_inj e2]
theorem dctD_inj : ∀ {a b : List (List Int × D)}, dctD a = dctD b → a = b := fun {a b} h => by
  unfold dctD at h
  injection h with h
  induction a generalizing b with
  | nil => cases b with
    | nil => rfl
    | cons y b => cases h
  | cons x a ih => cases b with
    | nil => cases h
    | cons y b =>
      rw [List.map_cons, List.map_cons] at h
      injection h with h1 h2
      injection h1 with h1 h3
      injection h1 with h1
      obtain ⟨x1, x2⟩ := x
      obtain ⟨y1, y2⟩ := y
      simp only at h1 h3
      rw [int_map_inj h1, h3, ih h2]
theorem dctD_ne_ft {kvs : List (List Int × D)} {ds : List D} (e : dctD kvs = ft ds) : False := by
  unfold dctD ft at e
  injection e with e
  cases kvs with
  | nil => cases e
  | cons p t =>
    rw [List.map_cons] at e
    injection e with e1 _
    have := congrArg Prod.fst e1
    cases this
theorem rp_dct {F : Hp} {v : V} {kvs : List (List Int × D)} (r : Rp F v (dctD kvs)) : ∃ a ws, v = .ref a ∧ F a = some (.dT ws) ∧ RpK F ws kvs := by
  generalize e : dctD kvs = d at r
  cases r with
  | dct ha rk =>
    have := dctD_inj e
    subst this
    exact ⟨_, _, rfl, ha, rk⟩
  | ftup => exact (dctD_ne_ft e).elim
  | _ => unfold dctD at e; cases e
/-- x.update(e), x a dict of one's own, not empty -/
theorem jupd {e : Expr} {x : Str} {p apos cpos pos : Pos} {E : DE} {rest : List Stmt} {k : Nat} (hr : Room k X.A) (i : Nat) (kvs0 : List (List Int × D))
    (h : JE X r e S fun d S1 => ∃ kvs more, d = dctD more ∧ S1[i]? = some (.ob (.d kvs)) ∧ kvs ≠ [] ∧ kvs.length + more.length ≤ sizeLine ∧ JSs X r rest (S1.set i (.ob (.d (mergeD kvs more)))) E) (h0 : S[i]? = some (.ob (.d kvs0)) := by rfl)
    (hp : ∀ {rr : V → List V → Hp → VK → Prop}, MtR X "dict.update" rr → PS X (.Expr (.Call (.Attribute (.Name x p) "update" apos) [e] [] cpos) pos) (tDrop (tBM X.K "dict" rr (tVar i) (tCons (tE X e) tNil))) := by exact fun hm => ps_expr (pe_bm PySem.F.plainAttrs_dict PySem.F.slot_dict_update PySem.F.type_dict_update hm (pv _) (pa_cons pe_tE pa_nil))) :
    JSs X r (.Expr (.Call (.Attribute (.Name x p) "update" apos) [e] [] cpos) pos :: rest) S E := jss_cons fun c F σ H hr' Ev G g => of_ps (hp (mt_updT (by have := hr.un; omega))) (by
  obtain ⟨y, e1, a, hh, e2, ha, rv, nF, nb, q0⟩ := Ev.sl i _ h0
  subst e2
  obtain ⟨vs, rfl, rv⟩ := obr_d rv
  refine ⟨.ref a, e1, .inr (.inr (.inl ⟨rfl, .inr ⟨_, ha⟩⟩)), h c F σ H hr' Ev _ fun v d F1 H1 S1 h1 E1 k1 r1 => ?_⟩
  obtain ⟨kvs, more, rfl, e3, hne, hl, kx⟩ := h1
  obtain ⟨y, e1', a', hh', e2', ha', rv', nF', _⟩ := E1.sl i _ e3
  rw [e1] at e1'; cases e1'; cases e2'
  obtain ⟨ws, rfl, rv'⟩ := obr_d rv'
  obtain ⟨b, ws2, rfl, hb, rk⟩ := rp_dct r1
  have hab : a ≠ b := fun z => by rw [z, hb] at nF'; cases nF'
  have hw0 : ws ≠ [] := fun z => by
    have := rv'.length
    rw [z] at this
    exact hne (List.length_eq_zero_iff.mp this.symm)
  exact ⟨a, b, ws, ws2, rfl, rfl, hab, ha', E1.fin.fh _ _ hb, hw0, by rw [rv'.length, rk.length]; exact hl, g.nx F1 σ _ _ kx (E1.write (vs := .dT (mergeT ws ws2)) (ds := .d (mergeD kvs more)) e3 e1 (RpK.merge rk rv')) k1⟩)
/-! ### over the keys -/
def keysD (kvs : List (List Int × D)) : List D := kvs.map fun p => .tuple (p.1.map .int)
theorem RpK.key {F : Hp} : ∀ {ws : List (List Key × V)} {kvs : List (List Int × D)} {i : Nat} {k : List Key} {v : V}, RpK F ws kvs → ws[i]? = some (k, v) → ∃ k0 d, kvs[i]? = some (k0, d) ∧ k = kI k0
  | _, _, _, _, _, .nil, e => by simp at e
  | _, _, 0, _, _, .cons _ _, e => by simp at e; exact ⟨_, _, rfl, e.1.symm⟩
  | _, _, i + 1, k, v, .cons _ t, e => by
    obtain ⟨k0, d, h1, h2⟩ := RpK.key (i := i) (k := k) (v := v) t (by simpa using e)
    exact ⟨k0, d, by simpa using h1, h2⟩
theorem RpA.kI {F : Hp} : ∀ k : List Int, RpA F ((DL.kI k).map kV) (k.map .int)
  | [] => .nil
  | x :: k => .cons (.int x) (RpA.kI k)
theorem itkt_d {B F : Hp} {d : Addr} {od : Obj} {ws : List (List Key × V)} {kvs : List (List Int × D)} (hb : B d = some (.frz od (.dT ws))) (rk : RpK F ws kvs) : ItD (Itkt d od ws) B F (keysD kvs) := by
  have hl : (keysD kvs).length = ws.length := by unfold keysD; rw [List.length_map, rk.length]
  refine ⟨fun i H kb k hi => ⟨kb _ _ hb, by omega⟩, fun i H kb k hi => ⟨kb _ _ hb, by omega⟩, fun i H x H' kb k y hi => ?_⟩
  obtain ⟨e, kk, v, q, h1, h2, h3⟩ := y
  obtain ⟨k0, d0, g1, g2⟩ := rk.key h1
  refine .inr (.inr ⟨q, _, k0.map .int, h2, h3, e, by rw [g2]; exact RpA.kI k0, ?_⟩)
  unfold keysD
  rw [List.getElem?_map, g1]
  rfl
/-- [.. for y in x], x a dict of one's own -/
theorem jn_lcK {elt tg : Expr} {ifs : List Expr} {scope : Scope} {x : Str} {px pos : Pos} (i : Nat) (own : List (Str × Nat)) (ts : List Nat) {K : List D → List Sl → Prop} {kvs : List (List Int × D)} (e : S[i]? = some (.ob (.d kvs)))
    (h : ∃ I : Nat → List D → List Sl → Prop, I 0 [] (S.set i .emp) ∧ (∀ j acc S', I j acc S' → j ≤ kvs.length → acc.length < sizeLine ∧ S'[i]? = some .emp ∧ ∀ j ∈ own.map (·.2), ∀ xs, S'[j]? ≠ some (.ob xs)) ∧
      (∀ j d acc S', (keysD kvs)[j]? = some d → I j acc S' → LcTurn X r scope tg elt ifs (own.map (·.2)) ts d S' (fun y S4 => I (j + 1) (acc ++ [y]) S4) fun S4 => I (j + 1) acc S4) ∧ ∀ acc S', I kvs.length acc S' → K acc (S'.set i (.ob (.d kvs))))
    (hc : X.calm = true := by rfl) (hN : X.N.Nodup := by assumption) (ok : BlkOk X.N X.env.scope scope own := by exact blkOk_by rfl) (hs : ∀ y, foldedSetIterable (.Name x px) X.env y = pure y := by intro _; rfl) (hts : ∀ j ∈ ts, j ∈ own.map (·.2) := by decide)
    (hNi : X.N[i]? = some x := by rfl) (hv : Vis X.env.scope x := by first | exact Or.inl rfl | exact Or.inr (Or.inl rfl) | exact Or.inr (Or.inr rfl)) (hd : (x == ("__debug__" : Str)) = false := by decide) (hcd : (x == ("__classdict__" : Str)) = false := by decide) :
    JN X r (.ListComp elt [⟨tg, .Name x px, ifs, 0⟩] scope pos) S K := fun c F σ H hr E Q q => by
  obtain ⟨y, e1, d, hh, e2, ha, rv, nF, nB, ns⟩ := E.sl i _ e
  subst e2
  obtain ⟨ws, rfl, rk⟩ := obr_d rv
  have hl : i < S.length := (List.getElem?_eq_some_iff.mp e).1
  have nF0 : c.F0 d = none := E.fin.f0.back nF
  have E0 := E.hide (i := i) hl
  have no : ∀ (j : Nat) xs, (S.set i .emp)[j]? = some (.ob xs) → σ[j]? ≠ some (some (.ref d)) := fun j xs ej ea => by
    by_cases hj : i = j
    · subst hj; rw [List.getElem?_set_self hl] at ej; cases ej
    · rw [List.getElem?_set_ne hj] at ej
      exact hj (E.ds i j _ _ d e ej e1 ea)
  have kl : (keysD kvs).length = kvs.length := by unfold keysD; rw [List.length_map]
  obtain ⟨I, i0, side, step, fin⟩ := h
  refine of_pe (pe_lock (pe_lc hc hN (pi_keys (pe_var hNi hv hd hcd)) ok pg_tGb pts_tTsb pe_tEb hs)) ⟨d, .dT ws, ha, True.intro, fun od => ?_⟩
  have E1 : EvD c (S.set i .emp) F σ (upd H d (.frz od (.dT ws))) := E0.put nF nB ns no
  have E2 := E1.hold upd_same nF ns no
  have run : JIw (iKeys (tVar i)) (c.hold d (.frz od (.dT ws))) F σ (upd H d (.frz od (.dT ws))) fun ds S' => (∃ I : Nat → List D → List Sl → Prop, I 0 [] S' ∧ (∀ i acc S', I i acc S' → i ≤ ds.length → acc.length < sizeLine ∧ ∀ j ∈ own.map (·.2), ∀ xs, S'[j]? ≠ some (.ob xs)) ∧
      (∀ i d acc S', ds[i]? = some d → I i acc S' → LcTurn X r scope tg elt ifs (own.map (·.2)) ts d S' (fun y S4 => I (i + 1) (acc ++ [y]) S4) fun S4 => I (i + 1) acc S4) ∧ ∀ acc S', I ds.length acc S' → (S'[i]? = some .emp ∧ K acc (S'.set i (.ob (.d kvs))))) := fun R k => by
    refine ⟨.ref d, e1, d, od, rfl, .inr ⟨ws, upd_same, k _ (keysD kvs) F _ _ ⟨I, i0, fun j acc S' hI hj => ?_, step, fun acc S' hI => ?_⟩ E2 (Ex.refl F) (itkt_d (show upd c.B d _ d = _ from upd_same) rk)⟩⟩
    · obtain ⟨s1, _, s2⟩ := side j acc S' hI (by omega)
      exact ⟨s1, s2⟩
    · rw [kl] at hI
      exact ⟨(side _ acc S' hI (Nat.le_refl _)).2.1, fin acc S' hI⟩
  refine lc_runc (r := r) (K := fun acc S' => S'[i]? = some .emp ∧ K acc (S'.set i (.ob (.d kvs)))) ts hts (c.hold d (.frz od (.dT ws))) F σ _ (r.st _ _ _ nB hr) _ (fun p ds F' H' S' kk n kF => ?_) run
  obtain ⟨e3, kk⟩ := kk
  obtain ⟨h9, E3, g1, g2, g3, g4, g5, g6⟩ := n
  have hpd : p ≠ d := fun z => by rw [z, show (c.hold d (.frz od (.dT ws))).B d = some _ from upd_same] at g4; cases g4
  obtain ⟨E4, f1, f2, f3, f4⟩ := E3.unhold (vs := .frz od (.dT ws)) (fun _ z => nomatch z) nB nF0
  have E5 : EvD c S' F' σ (upd H' d (.dT ws)) := E4.put f2 nB f3 f4
  have es : σ.set i (some (.ref d)) = σ := by
    apply List.ext_getElem?
    intro j
    by_cases hj : i = j
    · subst hj
      rw [List.getElem?_set_self (by rw [E.len]; exact hl), e1]
    · rw [List.getElem?_set_ne hj]
  have rk' : RpK F' ws kvs := rk.ex kF
  have E6 := E5.setOwn (i := i) (a := d) (vs := .dT ws) (ds := .d kvs) upd_same rk' f2 nB f3 f4
  rw [es] at E6
  refine ⟨f1, q p _ F' _ _ kk ⟨h9, E6, by rw [upd_ne hpd]; exact g1, g2, g3, ?_, g5, fun j xs ej ea => ?_⟩ kF⟩
  · have g4' : upd c.B d (.frz od (.dT ws)) p = none := g4
    rw [upd_ne hpd] at g4'; exact g4'
  · by_cases hj : i = j
    · subst hj
      rw [e1] at ea
      cases ea
      exact hpd rfl
    · rw [List.getElem?_set_ne hj] at ej
      exact g6 j xs ej ea
end
end DL

/-! DL: the end of a law whose def calls repr: run where no repr is under way. -/
namespace DL
open PySem L2 PySem.Spec PyProof.Rows
/-- the promise of a def, where no repr is under way -/
def FnG (P : Program) (w : World) (K : PySem.W.Frag) (mg : Str → Option Value) (base : Heap) (k : Nat) (f : Addr) (fd : FuncData) (ps : List Str) (sp : Sp) : Prop :=
  ∀ (A : Around) (outer : List Env) (s : Shared) (H : Hp) (args : Args) (us : List Value) (vs : List V) (Q : VK) (E : XK), A.guards = some [] → Room k A → Env0 P w K mg base A outer s H →
    BindsTo s fd args (ps.zip us) → Vals vs us → sp vs H Q E → codeAny (model P w) A (.call (.ref f) args) (CR CX0 outer P w H s Q E) s
section
variable {P : Program} {w : World} {K : PySem.W.Frag} {mg : Str → Option Value} {base : Heap}
theorem fnG_of {x qual : Str} {st : Stmt} {f : Addr} {fd : FuncData} {N ps : List Str} {k : Nat} {sp : Sp} (F : Fun K x qual st f fd) (Sc : FnScope N ps (defScope st)) (len : ∀ vs H Q E, sp vs H Q E → vs.length = ps.length)
    (hbody : ∀ (cdv : Value) (A : Around) (outer : List Env) (s : Shared) (H : Hp) (vs : List V) (Q : VK) (E : XK), A.guards = some [] → Room k (A.deeper (envOfC qual (defScope st) s.heap.objs.size f cdv)) → sp vs H Q E →
      ∃ t, PSs (cxOf CX0 P w K mg base N qual (defScope st) f cdv A outer s H E).nox (defBody st) t ∧ t { nx := fun _ H' => Q .non H', rt := Q } (start N vs) H) : FnG P w K mg base (k + 1) f fd ps sp := by
  obtain ⟨oc, od, kV, doc, pm, an, cdv, ct, osl, rfl, lk, hcd⟩ := F.ex
  intro A outer s H args us vs Q E hg hr e0 hb rv hsp
  obtain ⟨t, ht, hq⟩ := hbody cdv A outer s H vs Q E hg (hr.deeper _) hsp
  have hlen := len _ _ _ _ hsp
  have up : ∀ b o, base.get? b = some o → s.heap.get? b = some o := fun b o e => (e0.bs b o e).1
  have KX : K.In s.heap := e0.mod.kin.keeps up
  have kinds : ∀ y ∈ ps.zip us, (defScope st).names.lookup y.1 = some .local ∨ ((defScope st).names.lookup y.1 = some .cell ∧ ((cellsFrom (s.heap.objs.size + 1) (defScope st).names []).lookup y.1).isSome = true) := by
    rintro ⟨a, b⟩ hy
    exact (Sc.par a (List.of_mem_zip hy).1).elim .inl fun z => .inr ⟨z, PySem.W.cellsFrom_some _ _ _ (.inl z)⟩
  refine codeAny_call_function hr.depth (KX _ _ lk) rfl Sc.co Sc.gen rfl (PySem.W.codeRec_of KX hcd) (hb _ _ _ _ (wpAny_newFunctionEnv_cells Sc.kind kinds ?_))
  rintro env rfl s1 x
  refine ⟨(e0.mod.nolimit.keeps up).keeps x.toInCall.keep, codeAny_func (wpAny_mono (ht.nox.run [] s1 (start N vs) H _ (inv_start Sc hr.hd e0 hlen rv x) hq) ?_ fun e s' hs => ?_)⟩
  · intro fl s' hs
    cases fl with
    | brk => exact hs.elim fun _ z => z.elim fun _ z => z.2.elim
    | cont => exact hs.elim fun _ z => z.elim fun _ z => z.2.elim
    | next => obtain ⟨σ', H', J, q⟩ := hs; exact ⟨V.non, H', J.os, J.bare, J.base, J.hok, rfl, q⟩
    | ret u => obtain ⟨v, σ', H', J, r, q⟩ := hs; exact ⟨v, H', J.os, J.bare, J.base, J.hok, r, q⟩
  · exact hs
/-- the law's promise, at the heap behind the top -/
theorem law_atG {mb : Str → Option Value} {k : Nat} {fa a : Addr} {fd : FuncData} {x : Str} {sp : Sp} {t : Shared} {us : List Value} {ns : List Int} (KX : K.In t.heap) (gn : t.heap.Ns mainGlobals mg) (bn : t.heap.Ns builtinsNs mb) (bb : ∀ y : Str, y ≠ "__name__" → mb y = bootBuiltins y)
    (nl : t.heap.NoLimit) (ng : t.gens = #[]) (ha : t.heap.get? a = some { cls := .type "list", data := .seq us.toArray }) (hi : IntsAre us ns) (hl : ns.length ≤ sizeLine) (hr : Room k callerA) (F : ∀ base : Heap, K.In base → base.Ns mainGlobals mg → FnG P w K mg base k fa fd [x] sp)
    (bd : ∀ (s : Shared) (u : Value), BindsTo s fd ⟨[u], []⟩ [(x, u)]) (hsp : ∀ H : Hp, Only H → SqL K H a (ns.map V.int) → sp [.ref a] H (fun v _ => v = .bl true) fun _ _ _ => False) :
    codeAny (model P w) callerA (.call (.ref fa) ⟨[.ref a], []⟩) (fun r s' => r = .ok (.ret (.bool true)) ∧ OldK t.heap s'.heap ∧ s'.os = t.os ∧ AllBare s'.gens) t := by
  have rv := vals_ints hi
  have lenU := hi.length
  let ob : Obj := { cls := .type "list", data := .seq us.toArray }
  let H : Hp := fun b => if b = a ∧ K.lookup a = none then some (.frz ob (.lst (ns.map V.int))) else none
  have Hat : ∀ {b : Addr} {u : HO}, H b = some u → b = a ∧ K.lookup a = none ∧ u = .frz ob (.lst (ns.map V.int)) := fun {b u} e => by
    by_cases z : b = a ∧ K.lookup a = none
    · have e2 : H b = some (.frz ob (.lst (ns.map V.int))) := if_pos z
      rw [e2] at e; cases e; exact ⟨z.1, z.2, rfl⟩
    · have e2 : H b = none := if_neg z
      rw [e2] at e; cases e
  have only : Only H := fun b => by
    cases e : H b with
    | none => exact .inl rfl
    | some u => obtain ⟨_, _, z⟩ := Hat e; exact .inr ⟨_, _, by rw [z]⟩
  have sq : SqL K H a (ns.map V.int) := by
    by_cases z : K.lookup a = none
    · exact .inl (.inr ⟨ob, if_pos ⟨rfl, z⟩⟩)
    · obtain ⟨o, eo⟩ := Option.ne_none_iff_exists'.mp z
      have e := KX a o eo
      rw [ha] at e
      cases e
      exact .inr ⟨ob, us.toArray, _, eo, rfl, rfl, rfl, by rw [List.size_toArray, lenU]; exact hl, by simpa using rv⟩
  have ok : HOk P w H t.heap := fun b u e => by
    obtain ⟨rfl, _, rfl⟩ := Hat e
    exact ⟨ha, by rw [List.length_map]; exact hl, us, _, rv, ha⟩
  have stay : ∀ {b : Addr} {o : Obj}, t.heap.get? b = some o → b ≠ a ∨ K.lookup a ≠ none → (hidT t.heap H).get? b = some o := fun {b o} e z => hidT_get e (if_neg fun y => z.elim (fun q => q y.1) fun q => q y.2)
  have nsUp : ∀ {b : Addr} {m : Str → Option Value}, t.heap.Ns b m → (hidT t.heap H).Ns b m := fun {b m} ⟨o, es, ep, e, d, r⟩ => ⟨o, es, ep, stay e (.inl fun z => by
    subst z
    rw [ha] at e; cases e
    have d2 : Data.seq us.toArray _ = Data.dict es ep := d
    cases d2), d, r⟩
  have KH : K.In (hidT t.heap H) := fun b o e => stay (KX b o e) (by
    by_cases z : b = a
    · subst z; exact .inr (by rw [e]; simp)
    · exact .inl z)
  have md : Mod K mg (hidT t.heap H) := by
    obtain ⟨mc, c1, c2⟩ := nl
    exact ⟨KH, nsUp gn, ⟨mb, nsUp bn, bb⟩, mc, nsUp c1, c2⟩
  have e0 : Env0 P w K mg (hidT t.heap H) callerA [] t H := ⟨rfl, md, fun b o e => of_hidT e, Nat.le_of_eq (hidT_size _ _), trivial, fun b hb => (by cases hb), ok, .of_eq ng⟩
  refine codeAny_mono (F _ KH (nsUp gn) callerA [] t H ⟨[.ref a], []⟩ [.ref a] [.ref a] _ _ rfl hr e0 (bd t (.ref a)) (.cons rfl .nil) (hsp H only sq)) ?_
  rintro (e | fl) s' h
  · exact False.elim h
  · cases fl with
    | next => exact False.elim h
    | brk => exact False.elim h
    | cont => exact False.elim h
    | ret u =>
      obtain ⟨v, H', hos, hbare, un, hok', r', q⟩ := h
      subst q
      obtain rfl : u = Value.bool true := r'
      refine ⟨rfl, OldK.of_keep fun b o e => ?_, hos, hbare⟩
      cases eb : H b with
      | none => exact un.keep b o e eb (fun z => by cases z) (by simp)
      | some y =>
        obtain ⟨_, _, rfl⟩ := Hat eb
        have g2 := (hok' b _ (un.frzs b _ _ eb)).1
        rw [(ok b _ eb).1] at e; cases e
        exact g2
end
/-- the goal that k_head leaves -/
theorem walk_G {l : PySem.W.OpenLaw} {n k : Nat} {q : Program} {loose : List Str} {XP : (Str → Option Value) → Heap → Prop} {YP : World → Heap → Prop} {d : DefRec} {K : Params → PySem.W.Frag} {sp : PySem.W.Frag → Sp} {x : Str} (hn : l.most = some n) (hn2 : n ≤ sizeLine) (hdf : d.params.defaults = []) (hr : Room k callerA)
    (hY : ∀ (w : World) (h : Heap), YP w h → (K w.params).In h) (F : ∀ (w : World) (mg : Str → Option Value) (fa : Addr) (h : Heap), (K w.params).In h → h.Ns mainGlobals mg → mg d.name = some (.ref fa) → ∃ fd : FuncData, (∀ (s : Shared) (u : Value), BindsTo s fd ⟨[u], []⟩ [(x, u)]) ∧
      ∀ base : Heap, (K w.params).In base → base.Ns mainGlobals mg → FnG l.prog w (K w.params) mg base k fa fd [x] (sp (K w.params)))
    (hsp : ∀ (K : PySem.W.Frag) (H : Hp) (a : Addr) (ns : List Int), ns.length ≤ n → Only H → SqL K H a (ns.map V.int) → sp K [.ref a] H (fun v _ => v = .bl true) fun _ _ _ => False) : PySem.W.WalkO q loose XP YP l.row.toRowW d [] (fun f vs => PySem.call f vs) := by
  refine Att.attach_call hn hdf fun w s₀ t mg mb fa o pm cd doc a us ns G Y ho hd hcd hmg hobj hints hlen hg => ?_
  obtain ⟨fd, bd, hF⟩ := F w mg fa _ (hY w _ Y) G.T.g hmg
  exact law_atG (hY w _ Y) G.T.g G.T.b G.T.builtins G.T.nolimit hg hobj hints (Nat.le_trans hlen hn2) hr hF bd fun H hO hS => hsp (K w.params) H a ns hlen hO hS
end DL

/-! DL: data that can be told by repr. -/
namespace DL
open PySem L2
structure ShD (k w : Nat) (d : D) : Prop where
  ni : Nice k d
  sh : d.showable = true
  hd : d.hasDict = false
  lv : d.leavesShort 13 = true
  wt : d.weight ≤ w
theorem ShD.mono {k k' w w' : Nat} {d : D} (h : ShD k w d) (hk : k ≤ k') (hw : w ≤ w') : ShD k' w' d := ⟨h.ni.mono hk, h.sh, h.hd, h.lv, Nat.le_trans h.wt hw⟩
theorem log2_small {a : Nat} (h : a < 1000000) : a.log2 < 20 := by
  by_cases z : a = 0
  · subst z; decide
  · exact (Nat.log2_lt z).mpr (by omega)
theorem sh_int {k : Nat} {i : Int} (h : i.natAbs < 1000000) : ShD k 20 (.int i) := by
  refine ⟨nice_int i, ?_, rfl, ?_, ?_⟩
  · simp only [PyData.showable, decide_eq_true_eq]
    have := log2_small h
    omega
  · simp only [PyData.leavesShort, decide_eq_true_eq]
    exact PyData.shown_int_le (by omega)
  · simp only [PyData.weight]
    have := log2_small h
    split <;> omega
theorem sh_bool {k w : Nat} (b : Bool) : ShD k w (.bool b) := ⟨nice_bool b, rfl, rfl, rfl, Nat.zero_le _⟩
theorem sh_none {k w : Nat} : ShD k w .none := ⟨nice_none, rfl, rfl, rfl, Nat.zero_le _⟩
theorem showableAll_of : ∀ {ds : List D}, (∀ d ∈ ds, d.showable = true) → PyData.showableAll ds = true
  | [], _ => rfl
  | d :: ds, h => by
    rw [PyData.showableAll, h d List.mem_cons_self, showableAll_of fun x hx => h x (List.mem_cons_of_mem _ hx)]; rfl
theorem hasDictAll_of : ∀ {ds : List D}, (∀ d ∈ ds, d.hasDict = false) → PyData.hasDictAll ds = false
  | [], _ => rfl
  | d :: ds, h => by
    rw [PyData.hasDictAll, h d List.mem_cons_self, hasDictAll_of fun x hx => h x (List.mem_cons_of_mem _ hx)]; rfl
theorem leavesShortAll_of {B : Nat} : ∀ {ds : List D}, (∀ d ∈ ds, d.leavesShort B = true) → PyData.leavesShortAll B ds = true
  | [], _ => rfl
  | d :: ds, h => by
    rw [PyData.leavesShortAll, h d List.mem_cons_self, leavesShortAll_of fun x hx => h x (List.mem_cons_of_mem _ hx)]; rfl
theorem weightAll_of {w : Nat} : ∀ {ds : List D}, (∀ d ∈ ds, d.weight ≤ w) → PyData.weightAll ds ≤ ds.length * (w + 1)
  | [], _ => Nat.zero_le _
  | d :: ds, h => by
    have h1 := h d List.mem_cons_self
    have h2 := weightAll_of (ds := ds) fun x hx => h x (List.mem_cons_of_mem _ hx)
    rw [PyData.weightAll, List.length_cons, Nat.add_mul]
    omega
theorem sh_tup {k w : Nat} {ds : List D} (h : ∀ d ∈ ds, ShD k w d) : ShD (k + 1) (ds.length * (w + 1)) (.tuple ds) :=
  ⟨nice_tup fun d hd => (h d hd).ni, by simp only [PyData.showable]; exact showableAll_of fun d hd => (h d hd).sh, by simp only [PyData.hasDict]; exact hasDictAll_of fun d hd => (h d hd).hd, by simp only [PyData.leavesShort]; exact leavesShortAll_of fun d hd => (h d hd).lv, by simp only [PyData.weight]; exact weightAll_of fun d hd => (h d hd).wt⟩
theorem sh_list {k w : Nat} {ds : List D} (h : ∀ d ∈ ds, ShD k w d) : ShD (k + 1) (ds.length * (w + 1)) (.list ds) :=
  ⟨nice_list fun d hd => (h d hd).ni, by simp only [PyData.showable]; exact showableAll_of fun d hd => (h d hd).sh, by simp only [PyData.hasDict]; exact hasDictAll_of fun d hd => (h d hd).hd, by simp only [PyData.leavesShort]; exact leavesShortAll_of fun d hd => (h d hd).lv, by simp only [PyData.weight]; exact weightAll_of fun d hd => (h d hd).wt⟩
section
variable {X : Cx} {r : SR} {S : List Sl}
theorem cd_repr {k : Nat} (hr : Room k X.A) {d : D} {K : D → Prop} (h : ShD 40 (2 ^ 20) d) (kd : K (.str d.shown)) : CallD (rRepr X) [d] K := fun F H vs kF rv Q q => by
  cases rv with
  | cons r1 t =>
    cases t
    exact ⟨F, _, d, rfl, kF, r1, h.ni.pl, h.sh, h.hd, by have := h.ni.dp; have := hr.un; omega, PyData.shown_fits (B := 13) (by decide) (by decide) h.lv h.wt, q _ _ F H kd (Grow.refl kF) (.str _)⟩
theorem jrepr {K : D → List Sl → Prop} {a : Expr} {p pos : Pos} {k : Nat} (hg0 : X.A.guards = some []) (hr : Room k X.A) (hm : X.mg "repr" = none) (h : JE X r a S fun d S1 => ShD 40 (2 ^ 20) d ∧ K (.str d.shown) S1) (hg : Gl X "repr" := by rfl) (hs : starEach [a] X.env = (false, eval a X.env) :: starEach [] X.env := by rfl) : JE X r (.Call (.Name "repr" p) [a] [] pos) S K :=
  jB (call_repr hg0) hm (ja1 (h.mono fun d S1 ⟨h1, k⟩ => ⟨[d], rfl, cd_repr hr h1 k⟩) hs) hg (by decide +kernel) (by decide) (by decide) hs rfl
end
end DL

/-! DL: sorted(..) of tuples, some of them empty. -/
namespace DL
open PySem L2 PyProof.Rows PySem.W
section
variable {prog : Program} {w : World} {A : Around} {s : Shared}
/-- the call of tuple's own __lt__, as sorting makes it -/
theorem call_tup_lt {E : Value → Shared → Prop} {Q : Value → Shared → Prop} {l b : Addr} {items items2 : Array Value} {e r : Nat → Bool} (hl : s.heap.IsTuple l items) (hb : s.heap.IsTuple b items2)
    (he : ∀ j (h1 : j < items.size) (h2 : j < items2.size), SeqAt.EqAt A.in1 s items[j] items2[j] (e j)) (hr : ∀ j (h1 : j < items.size) (h2 : j < items2.size), e j = false → SeqAt.RcLt A.in1 s items[j] items2[j] (r j))
    (h : Q (.bool (SeqAt.firstLt e r (decide (items.size < items2.size)) (List.range (min items.size items2.size)))) s) : wpAny (model prog w) A (call (.builtin "tuple.__lt__") [.ref l, .ref b]) Q E s := by
  obtain ⟨⟨c1, d1, t1, s1⟩, h1, h2, n1, h3⟩ := id hl
  obtain ⟨⟨c2, d2, t2, s2⟩, k1, k2, n2, k3⟩ := id hb
  simp only at h2 h3 k2 k3
  subst h2 h3 k2 k3
  exact call_meets F.slot_tuple_lt ⟨_, h1, rfl⟩ F.entry_tuple_lt (F.args_tuple_lt_2 _ _) (SeqAt.tuple_ltAt l b items items2 n1 n2 d1 d2 s1 s2 e r) ⟨h1, k1, he, hr, h⟩
theorem oneLt_tups {xs ys : List PyData} {a b : Value} {as bs : List Addr} {E : Value → Shared → Prop} {Q : Bool → Shared → Prop} (ra : Reads s.heap a (.tuple xs) as) (rb : Reads s.heap b (.tuple ys) bs) (h : alikeAll xs ys = true)
    (hu : A.units + min (PyData.tuple xs).depth (PyData.tuple ys).depth < cLine) (hq : Q (dataLt (.tuple xs) (.tuple ys)) s) : wpAny (model prog w) A (oneLt' true a b) Q E s := by
  cases ra with
  | @tuple l o vs n _ as1 h1 h2 h3 h4 =>
    cases rb with
    | @tuple l2 o2 vs2 n2 _ bs1 k1 k2 k3 k4 =>
      have e1 : vs.size = xs.length := by simpa using SeqAt.ReadsAll.length _ _ _ h4
      have e2 : vs2.size = ys.length := by simpa using SeqAt.ReadsAll.length _ _ _ k4
      rw [dataLt_tuple, ← firstLt_toks xs ys h, ← e1, ← e2] at hq
      rw [oneLt'_eq]
      simp only [if_true]
      refine wpAny_bind (wpAny_cRoomFor (SeqAt.room_here hu) (wpAny_bind (wpAny_callSpecialIfBound?_slot (T := "tuple") ⟨_, h1, h2⟩ F.slot_tuple_lt (call_tup_lt (e := SeqAt.pairEq xs ys) (r := fun j => dataLt (xs.getD j .none) (ys.getD j .none)) ⟨_, h1, h2, _, h3⟩ ⟨_, k1, k2, _, k3⟩ (fun j j1 j2 => ?_) (fun j j1 j2 hj => ?_) (wpAny_truthy_bool hq)))))
      · exact eqAt_alikeAll xs ys A.in1 s vs.toList vs2.toList _ _ h4 k4 h (SeqAt.room_in hu) j (by simpa using j1) (by simpa using j2)
      · exact rcLt_alikeAll xs ys A.in1 s vs.toList vs2.toList _ _ h4 k4 h (SeqAt.room_in hu) j (by simpa using j1) (by simpa using j2) hj
/-- the first items of tuples, where they have any -/
theorem firsts_mapM {M : Model} {E : Value → Shared → Prop} : ∀ {vs : List Value} {ds : List PyData}, EachIs (fun v d => ∃ as, Reads s.heap v d as) vs ds → (∀ d ∈ ds, ∃ xs, d = .tuple xs) →
    ∃ fs : List (Option Value), EachIs (fun o d => ∃ xs, d = PyData.tuple xs ∧ o.isSome = !xs.isEmpty) fs ds ∧ ∀ {Q : List (Option Value) → Shared → Prop}, Q fs s → wpAny M A (vs.mapM firstOfTuple') Q E s
  | _, _, .nil, _ => ⟨[], .nil, fun {Q} h => by rw [List.mapM_nil]; exact wpAny_pure h⟩
  | _, _, .cons (a := v) (as := vs) (b := d) (bs := ds) ⟨as, r⟩ t, ht => by
    obtain ⟨fs, g1, g2⟩ := firsts_mapM (M := M) (E := E) t fun d hd => ht d (List.mem_cons_of_mem _ hd)
    obtain ⟨xs, rfl⟩ := ht d List.mem_cons_self
    cases r with
    | @tuple a o its n _ _ h1 h2 h3 h4 =>
      have hl : its.size = xs.length := by simpa using SeqAt.ReadsAll.length _ _ _ h4
      refine ⟨its[0]? :: fs, .cons ⟨xs, rfl, ?_⟩ g1, fun {Q} h => ?_⟩
      · cases xs with
        | nil =>
          rw [Array.getElem?_eq_none (by have h0 : its.size = 0 := hl; omega)]
          rfl
        | cons x xs =>
          rw [Array.getElem?_eq_getElem (by have h0 : its.size = xs.length + 1 := hl; omega)]
          rfl
      · rw [List.mapM_cons]
        refine wpAny_bind ?_
        rw [kas_first_eq]
        refine wpAny_bind (Looks.here (show Looks M s.heap (typeOf (.ref a)) o.cls from (Looks.ld h1).andThen .now) ?_)
        rw [h2, if_neg (by first | decide | simp)]
        exact wpAny_bind (listItems_at h1 h3 (wpAny_pure (wpAny_bind (g2 (Q := fun bs s' => wpAny M A (pure (its[0]? :: bs)) Q E s') (wpAny_pure h)))))
theorem each_len {α β : Type} {R : α → β → Prop} : ∀ {as : List α} {bs : List β}, EachIs R as bs → as.length = bs.length
  | _, _, .nil => rfl
  | _, _, .cons _ t => by rw [List.length_cons, List.length_cons, each_len t]
theorem each_all {fs : List (Option Value)} {ds : List PyData} (h : EachIs (fun o d => ∃ xs, d = PyData.tuple xs ∧ o.isSome = !xs.isEmpty) fs ds) (ha : fs.all (·.isSome) = true) : ∀ d ∈ ds, ∃ x r, d = PyData.tuple (x :: r) := by
  induction h with
  | nil => intro d hd; cases hd
  | @cons o d fs ds r t ih =>
    intro e he
    rw [List.all_cons, Bool.and_eq_true] at ha
    rcases List.mem_cons.mp he with rfl | he
    · obtain ⟨xs, rfl, h2⟩ := r
      rw [ha.1] at h2
      cases xs with
      | nil => cases h2
      | cons x xs => exact ⟨x, xs, rfl⟩
    · exact ih ha.2 e he
theorem sortsAt_tups {vs : List Value} {ds : List PyData} (e : EachIs (fun v d => ∃ as, Reads s.heap v d as) vs ds) (hal : AllAlike ds) (ht : ∀ d ∈ ds, ∃ xs, d = PyData.tuple xs) (hu : ∀ d, d ∈ ds → A.units + d.depth < cLine) : SortsAt prog w A s (dataKind s.heap ds) vs := by
  by_cases hne : ∀ d ∈ ds, ∃ x r, d = PyData.tuple (x :: r)
  · exact SortsAt.data e hal (.inl hne) hu
  have room : ∀ {d d' : PyData}, d ∈ ds → A.units + min d.depth d'.depth < cLine := fun {d d'} hd => Nat.lt_of_le_of_lt (Nat.add_le_add_left (Nat.min_le_left _ _) _) (hu d hd)
  refine ⟨fun v hv => ?_, ?_⟩
  · obtain ⟨d, hd, as, r⟩ := e.left v hv
    exact ⟨_, dataKind_some hal hd r⟩
  have both : ∀ f : Bool, ∀ (E : Value → Shared → Prop) (x y : Value) (a b : (dataKind s.heap ds).α) {Q : Bool → Shared → Prop}, (dataKind s.heap ds).keyOf x = some a → (dataKind s.heap ds).keyOf y = some b → Q ((dataKind s.heap ds).blt a b) s → wpAny (model prog w) A (oneLt' f x y) Q E s := by
    intro f E x y a b Q ha hb hq
    obtain ⟨d, as, hd, ra, rfl⟩ := dataKind_inv ha
    obtain ⟨d', as', hd', rb, rfl⟩ := dataKind_inv hb
    obtain ⟨xs, rfl⟩ := ht d hd
    obtain ⟨ys, rfl⟩ := ht d' hd'
    have al := hal _ hd _ hd'
    cases f with
    | false => exact oneLt_alike (fun z => by cases z) ra rb al (fun z => by cases z) (room hd) hq
    | true => exact oneLt_tups ra rb (by simpa [alike] using al) (room hd) hq
  cases ds with
  | nil => exact absurd (fun d hd => by cases hd) hne
  | cons d0 ds0 =>
    obtain ⟨xs0, e0⟩ := ht d0 List.mem_cons_self
    refine ⟨if xs0 = [] then oneType' else general', ?_, fun h2 E Q hq => ?_⟩
    · intro E x y a b Q ha hb hq
      by_cases z : xs0 = []
      · rw [if_pos z]
        exact both true E x y a b ha hb hq
      · rw [if_neg z]
        exact both false E x y a b ha hb hq
    · obtain ⟨fs, g1, g2⟩ := firsts_mapM (M := model prog w) (A := A) (E := E) e ht
      rw [keyKind'_eq, List.mapM_toArray, map_eq_pure_bind]
      refine wpAny_bind (wpAny_bind (g2 (wpAny_pure ?_)))
      have hall : fs.toArray.all (·.isSome) = false := by
        cases q : fs.toArray.all (·.isSome) with
        | false => rfl
        | true =>
          rw [List.all_toArray] at q
          exact absurd (each_all g1 q) hne
      rw [if_neg (by rw [hall]; exact Bool.false_ne_true)]
      cases g1 with
      | @cons o _ fs1 _ r t =>
        obtain ⟨xs, e1, h1⟩ := r
        rw [e0] at e1
        cases e1
        have hf : (((o :: fs1).toArray)[0]?.bind id) = o := by simp
        rw [hf]
        by_cases z : xs0 = []
        · rw [if_pos z] at hq
          subst z
          rw [if_neg (by rw [h1]; decide)]
          rw [oneTypeOnly'_eq, List.mapM_toArray, map_eq_pure_bind]
          have looks : ∀ v ∈ vs, Looks (model prog w) s.heap (typeOf v) (Value.type "tuple") := fun v hv => by
            obtain ⟨d, hd, as, r⟩ := e.left v hv
            obtain ⟨ys, rfl⟩ := ht d hd
            exact looks_reads r
          refine wpAny_bind (wpAny_bind (wpAny_bind (kas_mapM (r := Value.type "tuple") _ (fun v hv Q' hq => (looks v hv).here hq) (wpAny_pure ?_))))
          obtain ⟨v1, vr, rfl⟩ : ∃ v1 vr, vs = v1 :: vr := by
            cases vs with
            | nil => simp at h2
            | cons v1 vr => exact ⟨v1, vr, rfl⟩
          have hall2 : ((List.map (fun _ => Value.type "tuple") (v1 :: vr)).toArray.all fun x => x == Value.type "tuple") = true := by
            simp only [List.all_toArray, List.all_map, List.all_eq_true]
            intro _ _
            exact beq_self_eq_true _
          have h0 : (List.map (fun _ => Value.type "tuple") (v1 :: vr)).toArray[0]? = some (Value.type "tuple") := by simp
          rw [h0]
          simp only [hall2, if_true]
          exact wpAny_pure (wpAny_pure hq)
        · rw [if_neg z] at hq
          have hs : o.isSome = true := by
            rw [h1]
            cases xs0 with
            | nil => exact absurd rfl z
            | cons x xs => rfl
          rw [if_pos hs]
          exact wpAny_pure hq
end
end DL

/-! DL: tuples of ints in order; sorted(..) of them, of a dict's keys; a dict's get, in, store; isinstance, sum, stars. -/
namespace DL
open PySem L2
def tupI (l : List Int) : D := .tuple (l.map .int)
theorem tupI_inj {a b : List Int} (h : tupI a = tupI b) : a = b := int_map_inj (by unfold tupI at h; injection h)
theorem nice_tupI {n : Nat} (l : List Int) : Nice (n + 1) (tupI l) := nice_tup (nice_map fun i => nice_int i)
/-! ### the order -/
abbrev ltL : List Int → List Int → Bool := PySem.W.listLt (α := Int)
def leL (a b : List Int) : Bool := !ltL b a
theorem lt_tupI (a b : List Int) : PySem.W.dataLt (tupI a) (tupI b) = ltL a b := PySem.W.DatumOrd.lt_eq (α := PySem.W.Tup Int) ⟨a⟩ ⟨b⟩
theorem dataLe_tupI : PySem.W.dataLe false tupI = leL := by
  funext a b
  show (!PySem.W.dataLt (tupI b) (tupI a)) = _
  rw [lt_tupI]
  rfl
theorem ltL_nil (b : List Int) : ltL [] b = !b.isEmpty := by cases b <;> rfl
theorem ltL_cons (x y : Int) (a b : List Int) : ltL (x :: a) (y :: b) = if x = y then ltL a b else decide (x < y) := rfl
theorem ltL_irrefl : ∀ a : List Int, ltL a a = false
  | [] => rfl
  | x :: a => by rw [ltL_cons, if_pos rfl]; exact ltL_irrefl a
theorem ltL_tri : ∀ {a b : List Int}, ltL a b = false → ltL b a = false → a = b
  | [], [], _, _ => rfl
  | [], _ :: _, h, _ => by cases h
  | _ :: _, [], _, h => by cases h
  | x :: a, y :: b, h1, h2 => by
    rw [ltL_cons] at h1 h2
    by_cases e : x = y
    · subst e
      rw [if_pos rfl] at h1 h2
      rw [ltL_tri h1 h2]
    · rw [if_neg e] at h1
      rw [if_neg (fun z => e z.symm)] at h2
      have := of_decide_eq_false h1
      have := of_decide_eq_false h2
      omega
theorem ltL_trans : ∀ {a b c : List Int}, ltL a b = true → ltL b c = true → ltL a c = true
  | [], [], [], h, _ => by cases h
  | [], _ :: _, [], _, h2 => by cases h2
  | [], _, _ :: _, _, _ => rfl
  | _ :: _, [], _, h, _ => by cases h
  | _ :: _, _ :: _, [], _, h => by cases h
  | x :: a, y :: b, z :: c, h1, h2 => by
    rw [ltL_cons] at h1 h2 ⊢
    by_cases e1 : x = y
    · subst e1
      rw [if_pos rfl] at h1
      by_cases e2 : x = z
      · subst e2
        rw [if_pos rfl] at h2 ⊢
        exact ltL_trans h1 h2
      · rw [if_neg e2] at h2 ⊢
        exact h2
    · rw [if_neg e1] at h1
      have l1 := of_decide_eq_true h1
      by_cases e2 : y = z
      · subst e2
        rw [if_neg e1]
        exact h1
      · rw [if_neg e2] at h2
        have l2 := of_decide_eq_true h2
        rw [if_neg (by omega)]
        exact decide_eq_true (by omega)
theorem ltL_asymm {a b : List Int} (h : ltL a b = true) : ltL b a = false := by
  cases e : ltL b a with
  | false => rfl
  | true =>
    have := ltL_trans h e
    rw [ltL_irrefl] at this; cases this
theorem leL_trans (a b c : List Int) (h1 : leL a b = true) (h2 : leL b c = true) : leL a c = true := by
  unfold leL at *
  rw [Bool.not_eq_true'] at *
  cases e : ltL c a with
  | false => rfl
  | true =>
    cases e2 : ltL a b with
    | true =>
      have := ltL_trans e e2
      rw [h2] at this; cases this
    | false =>
      have := ltL_tri e2 h1
      subst this
      rw [e] at h2; cases h2
theorem leL_total (a b : List Int) : (leL a b || leL b a) = true := by
  unfold leL
  cases e : ltL b a with
  | false => rfl
  | true => rw [ltL_asymm e]; rfl
def sortL (ls : List (List Int)) : List (List Int) := ls.mergeSort leL
theorem sortL_perm (ls : List (List Int)) : (sortL ls).Perm ls := List.mergeSort_perm _ _
theorem sortL_le (ls : List (List Int)) : (sortL ls).Pairwise fun a b => leL a b = true := List.pairwise_mergeSort leL_trans leL_total ls
theorem sortL_lt {ls : List (List Int)} (nd : ls.Nodup) : (sortL ls).Pairwise fun a b => ltL a b = true := by
  have h1 := sortL_le ls
  have h2 : (sortL ls).Pairwise (· ≠ ·) := List.nodup_iff_pairwise_ne.mp ((sortL_perm ls).nodup_iff.mpr nd)
  refine (h1.and h2).imp fun {a b} ⟨x, y⟩ => ?_
  unfold leL at x
  rw [Bool.not_eq_true'] at x
  cases e : ltL a b with
  | true => rfl
  | false => exact absurd (ltL_tri e x) y
/-- two lists in this order, of the same members, are one -/
theorem sorted_one : ∀ {a b : List (List Int)}, (a.Pairwise fun x y => ltL x y = true) → (b.Pairwise fun x y => ltL x y = true) → (∀ x, x ∈ a ↔ x ∈ b) → a = b
  | [], [], _, _, _ => rfl
  | [], y :: b, _, _, h => by have := (h y).mpr List.mem_cons_self; cases this
  | x :: a, [], _, _, h => by have := (h x).mp List.mem_cons_self; cases this
  | x :: a, y :: b, h1, h2, h => by
    rw [List.pairwise_cons] at h1 h2
    have e : x = y := by
      rcases List.mem_cons.mp ((h x).mp List.mem_cons_self) with e | hx
      · exact e
      · rcases List.mem_cons.mp ((h y).mpr List.mem_cons_self) with e | hy
        · exact e.symm
        · have l1 := h2.1 x hx
          have l2 := h1.1 y hy
          rw [ltL_asymm l1] at l2; cases l2
    subst e
    refine congrArg _ (sorted_one h1.2 h2.2 fun z => ?_)
    have no : ∀ {l : List (List Int)}, (∀ a ∈ l, ltL x a = true) → x ∉ l := fun hl hx => by
      have := hl x hx
      rw [ltL_irrefl] at this; cases this
    constructor
    · intro hz
      rcases List.mem_cons.mp ((h z).mp (List.mem_cons_of_mem _ hz)) with e | hz2
      · subst e; exact absurd hz (no h1.1)
      · exact hz2
    · intro hz
      rcases List.mem_cons.mp ((h z).mpr (List.mem_cons_of_mem _ hz)) with e | hz2
      · subst e; exact absurd hz (no h2.1)
      · exact hz2
/-! ### sorted(..) -/
section
variable {X : Cx} {r : SR} {S : List Sl}
theorem alike_tupI (a b : List Int) : PySem.W.alike (tupI a) (tupI b) = true := by
  unfold tupI
  simp only [PySem.W.alike, PySem.W.alike_ints]
def rSortT (X : Cx) : List V → Hp → VK → Prop := fun vs H Q => ∃ F x ls, vs = [x] ∧ Ex F H ∧ Rp F x (.list (ls.map tupI)) ∧ X.A.units + 5 < cLine ∧ ∀ p ws, RpA F ws ((sortL ls).map tupI) → H p = none → Q (.ref p) (upd H p (.lst ws))
theorem depth_tupI (l : List Int) : (tupI l).depth = 1 := by
  unfold tupI
  simp only [PyData.depth, PySem.W.depth_ints]
theorem call_sortT : CallR X (.builtin "sorted") (rSortT X) := by
  intro pins s σ H xs us Q I rr h
  obtain ⟨F, x, ls, rfl, k, rp, hu, q⟩ := h
  obtain ⟨u, rfl, rx⟩ := vals1 rr
  cases rp with
  | @lst a ws _ ha rv =>
    cases rx
    obtain ⟨z, its, n, rw', ho⟩ := (show ObjOk X.prog X.w H s.heap a (.lst ws) from I.hok _ _ (k _ _ ha))
    obtain ⟨e, er⟩ := each_of k I.hok rv rw' (plainAll_of fun d hd => by obtain ⟨l, _, rfl⟩ := List.mem_map.mp hd; exact (nice_tupI (n := 1) l).pl)
    have hz : (ls.map tupI).length ≤ sizeLine := by rw [← rv.length]; exact z
    have hal : PySem.W.AllAlike (ls.map tupI) := PySem.W.AllAlike.of alike_tupI
    have ht : ∀ d ∈ ls.map tupI, ∃ xs, d = PyData.tuple xs := fun d hd => by
      obtain ⟨l, _, rfl⟩ := List.mem_map.mp hd
      exact ⟨_, rfl⟩
    have hd : ∀ d ∈ ls.map tupI, d.depth = 1 := fun d hd => by
      obtain ⟨l, _, rfl⟩ := List.mem_map.mp hd
      exact depth_tupI l
    have er' : PySem.W.EachIs (fun v d => ∃ as, Reads (PySem.W.sortingHeap (PySem.W.copyHeap s.heap its) (s.heap.objs.size + 1) its) v d as) its (ls.map tupI) := er.mono fun _ _ ⟨as, r⟩ => ⟨as, PyProof.Rows.Reads.keeps (fun _ _ => PySem.W.sorting_copy_old) r⟩
    refine PySem.W.sorted_vals (vs := its) ⟨_, ho, rfl, _, rfl⟩ (sortsAt_tups (s := { s with heap := PySem.W.sortingHeap (PySem.W.copyHeap s.heap its) (s.heap.objs.size + 1) its }) er' hal ht fun d h => by rw [hd d h]; show X.A.units + 1 + 1 + 1 < cLine; omega) (by rw [e.length]; exact hz) ?_
    have out := PySem.W.sortVals_data (enc := id) false e er' (by rw [List.map_id]; exact hal)
    rw [List.map_id, sort_map dataLe_tupI] at out
    obtain ⟨vs, v1, v2⟩ := of_each out
    obtain ⟨ep, he'⟩ := PyProof.Rows.sortedAll_at s.heap its (PySem.W.sortVals (PySem.W.dataKind (PySem.W.sortingHeap (PySem.W.copyHeap s.heap its) (s.heap.objs.size + 1) its) (ls.map tupI)) false its its).toArray
    have hlen : vs.length ≤ sizeLine := by
      rw [v2.length, List.length_map, List.length_mergeSort]
      rw [List.length_map] at hz; exact hz
    exact ⟨.ref _, upd H (s.heap.objs.size + 1) (.lst vs), I.laid (t' := s.toks) (fun _ _ => PyProof.Rows.sortedAll_old) (Nat.le_succ _) ⟨hlen, _, ep, v1, he'⟩, rfl, q _ vs v2 (I.hok.fresh (Nat.le_succ _))⟩
/-- sorted(xs), xs a list of tuples of ints -/
theorem jsortL {K : List D → List Sl → Prop} {a : Expr} {p pos : Pos} {k : Nat} (hr : Room k X.A) (hm : X.mg "sorted" = none) (h : JE X r a S fun d S1 => ∃ ls : List (List Int), d = .list (ls.map tupI) ∧ K ((sortL ls).map tupI) S1) (hg : Gl X "sorted" := by rfl) (hs : starEach [a] X.env = (false, eval a X.env) :: starEach [] X.env := by rfl) : JN X r (.Call (.Name "sorted" p) [a] [] pos) S K :=
  jnB call_sortT hm (ja1 (h.mono fun d S1 ⟨ls, e, kk⟩ => ⟨[d], rfl, by
    rw [e]
    intro F H vs kF rv Q q
    cases rv with
    | cons r1 t =>
      cases t
      exact ⟨F, _, ls, rfl, kF, r1, by have := hr.un; omega, fun p ws rw' n => q p ws _ kk n rw'⟩⟩) hs) hg (by decide +kernel) (by decide) (by decide) hs rfl
/-! ### a dict's keys -/
/-- tuples of ints that stand are frozen -/
theorem EvD.freezeAll {c : C} {σ : St} {H : Hp} : ∀ {bs : List Addr} {ks : List (List Int)} {F : Hp}, EvD c S F σ H → (∀ (i : Nat) b k, bs[i]? = some b → ks[i]? = some k → H b = some (.tup ((kI k).map kV))) → bs.length = ks.length →
    ∃ F', Ex F F' ∧ EvD c S F' σ H ∧ RpA F' (bs.map V.ref) (ks.map tupI)
  | [], [], F, E, _, _ => ⟨F, Ex.refl F, E, .nil⟩
  | [], _ :: _, _, _, _, h => by cases h
  | _ :: _, [], _, _, _, h => by cases h
  | b :: bs, k :: ks, F, E, h, hl => by
    have hb := h 0 b k rfl rfl
    obtain ⟨F1, k1, E1, e1⟩ : ∃ F1, Ex F F1 ∧ EvD c S F1 σ H ∧ F1 b = some (.tup ((kI k).map kV)) := by
      cases q : F b with
      | none => exact ⟨_, Ex.new q, E.freezeT hb q, upd_same⟩
      | some u =>
        have h2 := E.fin.fh _ _ q
        rw [hb] at h2; cases h2
        exact ⟨F, Ex.refl F, E, q⟩
    obtain ⟨F2, k2, E2, r2⟩ := EvD.freezeAll (bs := bs) (ks := ks) E1 (fun i b k e1 e2 => h (i + 1) b k (by simpa using e1) (by simpa using e2)) (by simpa using hl)
    exact ⟨F2, k1.trans k2, E2, .cons (.tup (k2 _ _ e1) (RpA.kI k)) r2⟩
theorem isKeys_at {H : Hp} {F : Hp} {ws : List (List Key × V)} {bs : List Addr} (hk : IsKeys H ws bs) : ∀ {kvs : List (List Int × D)}, RpK F ws kvs → bs.length = kvs.length ∧ ∀ (i : Nat) b k, bs[i]? = some b → (kvs.map (·.1))[i]? = some k → H b = some (.tup ((kI k).map kV)) := by
  unfold IsKeys at hk
  induction hk with
  | nil =>
    intro kvs rk
    cases rk
    exact ⟨rfl, fun i b k e => by simp at e⟩
  | @cons p b0 ws bs h t ih =>
    intro kvs rk
    cases rk with
    | @cons k0 v d _ kvs r rt =>
    obtain ⟨h1, h2⟩ := ih rt
    refine ⟨by rw [List.length_cons, List.length_cons, h1], fun i b k e1 e2 => ?_⟩
    cases i with
    | zero =>
      simp at e1 e2
      subst e1 e2
      exact h
    | succ i => exact h2 i b k (by simpa using e1) (by simpa using e2)
/-- list(x), x a dict of one's own -/
theorem jlistK {K : List D → List Sl → Prop} {x : Str} {px p pos : Pos} (i : Nat) {kvs : List (List Int × D)} (hc : X.calm = true) (hm : X.mg "list" = none) (k : K (keysD kvs) S) (e : S[i]? = some (.ob (.d kvs)) := by rfl) (hg : Gl X "list" := by rfl) (hN : X.N[i]? = some x := by rfl) (hv : Vis X.env.scope x := by first | exact Or.inl rfl | exact Or.inr (Or.inl rfl) | exact Or.inr (Or.inr rfl))
    (hd : (x == ("__debug__" : Str)) = false := by decide) (hcd : (x == ("__classdict__" : Str)) = false := by decide) (hs : starEach [.Name x px] X.env = (false, eval (.Name x px) X.env) :: starEach [] X.env := by rfl) : JN X r (.Call (.Name "list" p) [.Name x px] [] pos) S K := fun c F σ H hr E Q q =>
  of_pe (pe_callTy (call_list_dT hc) hg hm (by decide +kernel) (pa_cons (pe_var hN hv hd hcd) pa_nil hs) (by decide) (by decide) hs rfl) (by
    obtain ⟨y, e1, l, hh, e2, ha, rv, nF, nb, q0⟩ := E.sl i _ e
    subst e2
    obtain ⟨ws, rfl, rk⟩ := obr_d rv
    refine ⟨_, e1, l, ws, rfl, .inl ha, fun p bs n hk => ?_⟩
    obtain ⟨h1, h2⟩ := isKeys_at hk rk
    obtain ⟨F', k1, E', ra⟩ := E.freezeAll (bs := bs) (ks := kvs.map (·.1)) h2 (by rw [List.length_map]; exact h1)
    have ek : (kvs.map (·.1)).map tupI = keysD kvs := by unfold keysD; rw [List.map_map]; rfl
    rw [ek] at ra
    exact q p _ F' _ S k (newL_of E' n ra) k1)
/-- len(x), x a dict of one's own -/
theorem je_lenK {K : D → List Sl → Prop} {x : Str} {p p2 pos : Pos} (i : Nat) {kvs : List (List Int × D)} (hm : X.mg "len" = none) (k : K (.int (kvs.length : Nat)) S) (e : S[i]? = some (.ob (.d kvs)) := by rfl) (hg : Gl X "len" := by rfl) (hN : X.N[i]? = some x := by rfl) (hv : Vis X.env.scope x := by first | exact Or.inl rfl | exact Or.inr (Or.inl rfl) | exact Or.inr (Or.inr rfl)) (hd : (x == ("__debug__" : Str)) = false := by decide) (hcd : (x == ("__classdict__" : Str)) = false := by decide)
    (hs : starEach [.Name x p2] X.env = (false, eval (.Name x p2) X.env) :: starEach [] X.env := by rfl) : JE X r (.Call (.Name "len" p) [.Name x p2] [] pos) S K := fun c F σ H hr E Q q => of_pe (pe_callB call_len_dT hg hm PySem.boot_len (pa_cons (pe_var hN hv hd hcd) pa_nil hs) (by decide) (by decide) hs rfl) (by
  obtain ⟨y, e1, l, hh, e2, ha, rv, nF, nb, q0⟩ := E.sl i _ e
  subst e2
  obtain ⟨ws, rfl, rk⟩ := obr_d rv
  refine ⟨_, e1, l, ws, rfl, ha, ?_⟩
  rw [rk.length]
  exact q _ _ F H S k E (Ex.refl F) (.int _))
/-! ### what a dict holds -/
def valD (kvs : List (List Int × D)) (k : List Int) : Option D := (kvs.find? fun kv => decide (kv.1 = k)).map (·.2)
inductive RpO (F : Hp) : Option V → Option D → Prop
  | none : RpO F none none
  | some {v d} : Rp F v d → RpO F (some v) (some d)
theorem RpO.isSome {F : Hp} {v : Option V} {d : Option D} (h : RpO F v d) : v.isSome = d.isSome := by cases h <;> rfl
theorem RpK.val {F : Hp} (k : List Int) : ∀ {ws : List (List Key × V)} {kvs : List (List Int × D)}, RpK F ws kvs → RpO F (valV ws (kI k)) (valD kvs k)
  | _, _, .nil => .none
  | _, _, .cons (k := k0) (v := v) (d := d) (ws := ws) (kvs := kvs) r t => by
    by_cases e : k0 = k
    · have h1 : valV ((List.map Sum.inl k0, v) :: ws) (kI k) = some v := by
        subst e
        unfold valV
        rw [List.find?_cons_of_pos (by simpa using (show List.map Sum.inl k0 = kI k0 from rfl))]
        rfl
      have h2 : valD ((k0, d) :: kvs) k = some d := by
        unfold valD
        rw [List.find?_cons_of_pos (by simpa using e)]
        rfl
      rw [h1, h2]
      exact .some r
    · have h1 : valV ((List.map Sum.inl k0, v) :: ws) (kI k) = valV ws (kI k) := by
        unfold valV
        rw [List.find?_cons_of_neg (by simpa using (show ¬ (List.map Sum.inl k0 = kI k) from fun z => e (kI_inj z)))]
      have h2 : valD ((k0, d) :: kvs) k = valD kvs k := by
        unfold valD
        rw [List.find?_cons_of_neg (by simpa using e)]
      rw [h1, h2]
      exact RpK.val k t
theorem rp_tupI {F : Hp} {v : V} {k : List Int} (r : Rp F v (tupI k)) : ∃ b, v = .ref b ∧ F b = some (.tup ((kI k).map kV)) := by
  unfold tupI at r
  cases r with
  | @tup b ys _ hb hy =>
    have := RpA.tupI hy
    subst this
    exact ⟨b, rfl, hb⟩
theorem dget_of {F H : Hp} {v : V} {k : List Int} {a : Addr} {ws : List (List Key × V)} (kF : Ex F H) (r : Rp F v (tupI k)) (h : H a = some (.dT ws)) : DGet H a v (valV ws (kI k)) := by
  obtain ⟨b, rfl, hb⟩ := rp_tupI r
  exact DGet.t h (kF _ _ hb)
/-- a in b, b a dict -/
theorem jdin {K : D → List Sl → Prop} {a b : Expr} {pos : Pos} {k : Nat} (hr : Room k X.A) (h : JE X r a S fun d1 S1 => JE X r b S1 fun d2 S2 => ∃ ky kvs, d1 = tupI ky ∧ d2 = dctD kvs ∧ K (.bool (valD kvs ky).isSome) S2) (hm : behindInMarks .In b = false := by rfl) : JE X r (.Compare a [.In] [b] pos) S K :=
  fun c F σ H hr' E Q q => of_pe (pe_cmp (pc_din (by have := hr.un; omega) pe_tE pe_tE) hm) (h c F σ H hr' E _ fun v1 d1 F1 H1 S1 h1 E1 k1 r1 => h1 c F1 σ H1 hr' E1 _ fun v2 d2 F2 H2 S2 h2 E2 k2 r2 => by
    obtain ⟨ky, kvs, rfl, rfl, kk⟩ := h2
    obtain ⟨l, ws, rfl, hl, rk⟩ := rp_dct r2
    refine ⟨l, _, rfl, dget_of E2.fin.fh (r1.ex k2) (E2.fin.fh _ _ hl), ?_⟩
    rw [(rk.val ky).isSome]
    exact q _ _ F2 H2 S2 kk E2 (k1.trans k2) (.bl _))
theorem jtdnin {K : Bool → List Sl → Prop} {a b : Expr} {pos : Pos} {k : Nat} (hr : Room k X.A) (h : JE X r a S fun d1 S1 => JE X r b S1 fun d2 S2 => ∃ ky kvs, d1 = tupI ky ∧ d2 = dctD kvs ∧ K (!(valD kvs ky).isSome) S2) (hm : behindInMarks .NotIn b = false := by rfl) : JT X r (.Compare a [.NotIn] [b] pos) S K :=
  fun c F σ H hr' E Q q => of_pt (pt_cmp (pc_dnotin (by have := hr.un; omega) pe_tE pe_tE) hm) (h c F σ H hr' E _ fun v1 d1 F1 H1 S1 h1 E1 k1 r1 => h1 c F1 σ H1 hr' E1 _ fun v2 d2 F2 H2 S2 h2 E2 k2 r2 => by
    obtain ⟨ky, kvs, rfl, rfl, kk⟩ := h2
    obtain ⟨l, ws, rfl, hl, rk⟩ := rp_dct r2
    refine ⟨l, _, rfl, dget_of E2.fin.fh (r1.ex k2) (E2.fin.fh _ _ hl), ?_⟩
    rw [(rk.val ky).isSome]
    exact ⟨_, rfl, q _ F2 H2 S2 kk E2 (k1.trans k2)⟩)
/-- {} -/
theorem jemptyD {K : OB → List Sl → Prop} {pos : Pos} (k : K (.d []) S) : JO X r (.Dict [] [] pos) S K := fun c F σ H hr E Q q => of_pe pe_dnewT fun p n => q p _ F _ S k (newL_ob (h := .dT []) (o := .d []) E n .nil) (Ex.refl F)
end
end DL

/-! DL: get, store of dicts; stars; isinstance; sum; tuples compared. -/
namespace DL
open PySem L2
section
variable {X : Cx} {r : SR} {S : List Sl}
/-- x[k] = v, x a dict of one's own -/
theorem jdput {x : Str} {px pos pos' : Pos} {a b : Expr} {E : DE} {rest : List Stmt} {k : Nat} (hr : Room k X.A) (i : Nat) (o0 : OB) (h : JE X r b S fun d2 S1 => JE X r a S1 fun d1 S2 => ∃ ky kvs, d1 = tupI ky ∧ S2[i]? = some (.ob (.d kvs)) ∧ kvs.length < sizeLine ∧ JSs X r rest (S2.set i (.ob (.d (putD kvs ky d2)))) E)
    (h0 : S[i]? = some (.ob o0) := by rfl) (hN : X.N[i]? = some x := by rfl) (hv : Vis X.env.scope x := by first | exact Or.inl rfl | exact Or.inr (Or.inl rfl) | exact Or.inr (Or.inr rfl)) (hd : (x == ("__debug__" : Str)) = false := by decide) (hcd : (x == ("__classdict__" : Str)) = false := by decide)
    (hs : swapsWith b (some (.Subscript (.Name x px) a pos')) pos.line X.env = pure false := by rfl) : JSs X r (.Assign [.Subscript (.Name x px) a pos'] b pos :: rest) S E := jss_cons fun c F σ H hr' Ev G g =>
  of_ps (ps_dput (by have := hr.un; omega) (pe_var hN hv hd hcd) pe_tE pe_tE hs) (by
    obtain ⟨y, e1, l, hh, e2, ha, rv, nF, nb, q0⟩ := Ev.sl i _ h0
    subst e2
    refine h c F σ H hr' Ev _ fun v2 d2 F1 H1 S1 h1 E1 k1 r1 => ⟨.ref l, e1, h1 c F1 σ H1 hr' E1 _ fun v1 d1 F2 H2 S2 h2 E2 k2 r2 => ?_⟩
    obtain ⟨ky, kvs, rfl, es, hl, kk⟩ := h2
    obtain ⟨y, e1', l', hh', e2', ha', rv', _⟩ := E2.sl i _ es
    rw [e1] at e1'; cases e1'; cases e2'
    obtain ⟨ws, rfl, rk⟩ := obr_d rv'
    obtain ⟨b, rfl, hb⟩ := rp_tupI r2
    exact ⟨l, _, rfl, DPut.t ha' (E2.fin.fh _ _ hb) (by rw [rk.length]; exact hl), g.nx F2 σ _ _ kk (E2.write (vs := .dT (putK ws (kI ky) v2)) (ds := .d (putD kvs ky d2)) es e1 (rk.put (r1.ex k2))) (k1.trans k2)⟩)
/-- x.get(k, v), x a dict of one's own -/
theorem je_getO {K : D → List Sl → Prop} {x : Str} {px apos cpos : Pos} {a b : Expr} {k : Nat} (hr : Room k X.A) (i : Nat) (kvs0 : List (List Int × D)) (h : JE X r a S fun d1 S1 => JE X r b S1 fun d2 S2 => ∃ ky kvs, d1 = tupI ky ∧ S2[i]? = some (.ob (.d kvs)) ∧ K ((valD kvs ky).getD d2) S2)
    (h0 : S[i]? = some (.ob (.d kvs0)) := by rfl) (hN : X.N[i]? = some x := by rfl) (hv : Vis X.env.scope x := by first | exact Or.inl rfl | exact Or.inr (Or.inl rfl) | exact Or.inr (Or.inr rfl)) (hd : (x == ("__debug__" : Str)) = false := by decide) (hcd : (x == ("__classdict__" : Str)) = false := by decide)
    (m : M2 X (.Name x px) "get" apos a b cpos := by exact ⟨rfl, rfl, rfl, rfl⟩) : JE X r (.Call (.Attribute (.Name x px) "get" apos) [a, b] [] cpos) S K := fun c F σ H hr' E Q q =>
  of_pe (pe_dget2 (by have := hr.un; omega) (pe_var hN hv hd hcd) pe_tE pe_tE m) (by
    obtain ⟨y, e1, l, hh, e2, ha, rv, nF, nb, q0⟩ := E.sl i _ h0
    subst e2
    obtain ⟨ws0, rfl, rk0⟩ := obr_d rv
    refine ⟨.ref l, e1, l, rfl, .inr ⟨ws0, .inl ha⟩, h c F σ H hr' E _ fun v1 d1 F1 H1 S1 h1 E1 k1 r1 => h1 c F1 σ H1 hr' E1 _ fun v2 d2 F2 H2 S2 h2 E2 k2 r2 => ?_⟩
    obtain ⟨ky, kvs, rfl, es, kk⟩ := h2
    obtain ⟨y, e1', l', hh', e2', ha', rv', _⟩ := E2.sl i _ es
    rw [e1] at e1'; cases e1'; cases e2'
    obtain ⟨ws, rfl, rk⟩ := obr_d rv'
    refine ⟨_, dget_of E2.fin.fh (r1.ex k2) ha', ?_⟩
    have ro := rk.val ky
    generalize valV ws (kI ky) = ov at *
    generalize valD kvs ky = od at *
    cases ro with
    | none => exact q _ _ F2 H2 S2 kk E2 (k1.trans k2) r2
    | some r => exact q _ _ F2 H2 S2 kk E2 (k1.trans k2) r)
/-- d.get(k, v), d a dict -/
theorem je_getD {K : D → List Sl → Prop} {o a b : Expr} {apos cpos : Pos} {k : Nat} (hr : Room k X.A) (h : JE X r o S fun d0 S0 => ∃ kvs, d0 = dctD kvs ∧ JE X r a S0 fun d1 S1 => JE X r b S1 fun d2 S2 => ∃ ky, d1 = tupI ky ∧ K ((valD kvs ky).getD d2) S2)
    (m : M2 X o "get" apos a b cpos := by exact ⟨rfl, rfl, rfl, rfl⟩) : JE X r (.Call (.Attribute o "get" apos) [a, b] [] cpos) S K := fun c F σ H hr' E Q q =>
  of_pe (pe_dget2 (by have := hr.un; omega) pe_tE pe_tE pe_tE m) (h c F σ H hr' E _ fun v0 d0 F0 H0 S0 h0 E0 k0 r0 => by
    obtain ⟨kvs, rfl, h1⟩ := h0
    obtain ⟨l, ws, rfl, hl, rk⟩ := rp_dct r0
    refine ⟨l, rfl, .inr ⟨ws, .inl (E0.fin.fh _ _ hl)⟩, h1 c F0 σ H0 hr' E0 _ fun v1 d1 F1 H1 S1 h1 E1 k1 r1 => h1 c F1 σ H1 hr' E1 _ fun v2 d2 F2 H2 S2 h2 E2 k2 r2 => ?_⟩
    obtain ⟨ky, rfl, kk⟩ := h2
    refine ⟨_, dget_of E2.fin.fh (r1.ex k2) (E2.fin.fh _ _ (k2 _ _ (k1 _ _ hl))), ?_⟩
    have ro := (rk.ex (k1.trans k2)).val ky
    generalize valV ws (kI ky) = ov at *
    generalize valD kvs ky = od at *
    cases ro with
    | none => exact q _ _ F2 H2 S2 kk E2 ((k0.trans k1).trans k2) r2
    | some r => exact q _ _ F2 H2 S2 kk E2 ((k0.trans k1).trans k2) r)
/-- d[k], d a dict -/
theorem je_subD {K : D → List Sl → Prop} {o a : Expr} {pos : Pos} {k : Nat} (hr : Room k X.A) (h : JE X r o S fun d0 S0 => JE X r a S0 fun d1 S1 => ∃ ky kvs d, d0 = dctD kvs ∧ d1 = tupI ky ∧ valD kvs ky = some d ∧ K d S1) (hs : NoSl a := by exact fun _ _ => rfl) : JE X r (.Subscript o a pos) S K := fun c F σ H hr' E Q q =>
  of_pe (pe_dget (by have := hr.un; omega) pe_tE pe_tE hs) (h c F σ H hr' E _ fun v0 d0 F0 H0 S0 h0 E0 k0 r0 => h0 c F0 σ H0 hr' E0 _ fun v1 d1 F1 H1 S1 h1 E1 k1 r1 => by
    obtain ⟨ky, kvs, d, rfl, rfl, ed, kk⟩ := h1
    obtain ⟨l, ws, rfl, hl, rk⟩ := rp_dct r0
    have g := dget_of E1.fin.fh r1 (E1.fin.fh _ _ (k1 _ _ hl))
    have ro := (rk.ex k1).val ky
    rw [ed] at ro
    generalize valV ws (kI ky) = ov at *
    cases ro with
    | some r => exact ⟨l, _, rfl, g, q _ _ F1 H1 S1 kk E1 (k0.trans k1) r⟩)
/-! ### stars -/
theorem ArA.ofRp {c : C} {F : Hp} : ∀ {vs : List V} {ds : List D}, RpA F vs ds → ArA c F vs (ds.map Ar.d)
  | _, _, .nil => .nil
  | _, _, .cons r t => .cons (show ArR c F _ (.d _) from r) (ArA.ofRp t)
theorem ArA.app {c : C} {F : Hp} : ∀ {vs ws : List V} {as bs : List Ar}, ArA c F vs as → ArA c F ws bs → ArA c F (vs ++ ws) (as ++ bs)
  | _, _, _, _, .nil, h => h
  | _, _, _, _, .cons r t, h => .cons r (ArA.app t h)
theorem dats_map : ∀ ds : List D, dats (ds.map Ar.d) = some ds
  | [] => rfl
  | d :: ds => by rw [List.map_cons]; unfold dats; rw [dats_map ds]; rfl
theorem jA_star {K : List Ar → List Sl → Prop} {e : Expr} {p : Pos} {es : List Expr} (h : JE X r e S fun d S1 => ∃ ds, (d = .tuple ds ∨ d = .list ds) ∧ JA X r es S1 fun as S2 => K (ds.map Ar.d ++ as) S2) (hs : starEach (.Starred e p :: es) X.env = (true, eval e X.env) :: starEach es X.env := by rfl) : JA X r (.Starred e p :: es) S K := fun c F σ H hr E Q q =>
  of_pa (StX.pa_star pe_tE pa_tA hs) (h c F σ H hr E _ fun v d F1 H1 S1 h1 E1 k1 r1 => by
    obtain ⟨ds, ed, h2⟩ := h1
    rcases ed with rfl | rfl
    · cases r1 with
      | @tup a vs _ ha rv => exact ⟨a, vs, rfl, .inl (.inl (.inl (E1.fin.fh _ _ ha))), h2 c F1 σ H1 hr E1 _ fun ws as F2 H2 S2 h3 E2 k2 r2 => q _ _ F2 H2 S2 h3 E2 (k1.trans k2) (ArA.app (ArA.ofRp (rv.ex k2)) r2)⟩
    · cases r1 with
      | @lst a vs _ ha rv => exact ⟨a, vs, rfl, .inr (.inl (.inl (E1.fin.fh _ _ ha))), h2 c F1 σ H1 hr E1 _ fun ws as F2 H2 S2 h3 E2 k2 r2 => q _ _ F2 H2 S2 h3 E2 (k1.trans k2) (ArA.app (ArA.ofRp (rv.ex k2)) r2)⟩)
/-! ### isinstance -/
def tyD : D → String
  | .none => "NoneType"
  | .bool _ => "bool"
  | .int _ => "int"
  | .str _ => "str"
  | .list _ => "list"
  | .tuple _ => "tuple"
  | .dict ((.none, _) :: _) => "tuple"
  | .dict _ => "dict"
theorem tyD_dct (kvs : List (List Int × D)) : tyD (dctD kvs) = "dict" := by cases kvs <;> rfl
theorem rp_ty {K : PySem.W.Frag} {F H : Hp} {v : V} {d : D} (k : Ex F H) (r : Rp F v d) : TyX K H v (.type (tyD d)) := by
  cases r with
  | non => exact .base .non
  | bl b => exact .base (.bl b)
  | int i => exact .base (.int i)
  | str x => exact .base (.str x)
  | tup h _ => exact .base (.tup (k _ _ h))
  | lst h _ => exact .base (.lst (k _ _ h))
  | dct h _ => rw [tyD_dct]; exact .base (.dT (k _ _ h))
  | ftup h _ _ => exact .fTuple (k _ _ h)
theorem jisi {K : D → List Sl → Prop} {T : Str} {Tn : String} {e : Expr} {p p2 pos : Pos} (hm : X.mg "isinstance" = none) (hmT : X.mg T = none) (h : JE X r e S fun d S1 => ∃ b, kitB (tyD d) Tn = some b ∧ K (.bool b) S1) (hg : Gl X "isinstance" := by rfl) (hgT : Gl X T := by rfl) (hvT : bootBuiltins T = some (.type Tn) := by decide +kernel) (hnT : T ≠ "__name__" := by decide) (hdT : (T == ("__debug__" : Str)) = false := by decide)
    (s1 : starEach [e, .Name T p2] X.env = (false, eval e X.env) :: starEach [.Name T p2] X.env := by rfl) (s2 : starEach [.Name T p2] X.env = (false, eval (.Name T p2) X.env) :: starEach [] X.env := by rfl) (hpl : (backTo pos (starEach [.Name T p2] X.env)).any (·.1) = false := by rfl) :
    JE X r (.Call (.Name "isinstance" p) [e, .Name T p2] [] pos) S K := fun c F σ H hr E Q q =>
  of_pe (pe_callB call_isi hg hm (by decide +kernel) (pa_cons pe_tE (pa_cons (pe_bltn (v := .ty Tn) hgT hmT hvT rfl hnT hdT) pa_nil s2) s1) (by decide) (by decide) s1 hpl) (h c F σ H hr E _ fun v d F1 H1 S1 h1 E1 k1 r1 => by
    obtain ⟨b, e1, kk⟩ := h1
    exact ⟨v, .ty Tn, _, _, b, rfl, .ty Tn, rp_ty E1.fin.fh r1, kit_ty e1, q _ _ F1 H1 S1 kk E1 k1 (.bl b)⟩)
/-! ### sum -/
theorem jsum {K : D → List Sl → Prop} {a : Expr} {p pos : Pos} (hc : X.calm = true) (hm : X.mg "sum" = none) (h : JE X r a S fun d S1 => ∃ ns : List Int, d = .list (ns.map .int) ∧ K (.int ns.sum) S1) (hg : Gl X "sum" := by rfl) (hs : starEach [a] X.env = (false, eval a X.env) :: starEach [] X.env := by rfl) : JE X r (.Call (.Name "sum" p) [a] [] pos) S K :=
  jB (cr_sum hc) hm (ja1 (h.mono fun d S1 ⟨ns, e, kk⟩ => ⟨[d], rfl, by
    rw [e]
    intro F H vs kF rv Q q
    cases rv with
    | cons r1 t =>
      cases t
      cases r1 with
      | @lst a ws _ ha rw' =>
        have := RpA.ints_of rw'
        subst this
        exact ⟨a, ns, rfl, .inl (.inl (kF _ _ ha)), q _ _ F H kk (Grow.refl kF) (.int _)⟩⟩) hs) hg (by decide +kernel) (by decide) (by decide) hs rfl
/-! ### tuples of ints compared -/
def rLeTI (X : Cx) : R2 := fun x y H Q => ∃ F a b, Ex F H ∧ Rp F x (tupI a) ∧ Rp F y (tupI b) ∧ X.A.units + 1 < cLine ∧ Q (.bl (!ltL b a)) H
theorem op_leTI : OpR X (compareOp .LtE) (rLeTI X) := by
  intro pins s σ H x y v u Q I rx ry h
  obtain ⟨F, a, b, k, r1, r2, hu, q⟩ := h
  obtain ⟨as, h1⟩ := Rp.reads k I.hok r1 rx (nice_tupI (n := 1) a).pl
  obtain ⟨bs, h2⟩ := Rp.reads k I.hok r2 ry (nice_tupI (n := 1) b).pl
  exact PySem.W.le_datum (x := (⟨a⟩ : PySem.W.Tup Int)) (y := ⟨b⟩) ⟨as, h1⟩ ⟨bs, h2⟩ hu ⟨.bl _, H, I, rfl, q⟩
theorem od_leTI {k : Nat} (hr : Room k X.A) {a b : List Int} {K : D → Prop} (h : K (.bool (!ltL b a))) : OpD (rLeTI X) (tupI a) (tupI b) K := fun F H v1 v2 kF r1 r2 Q q => ⟨F, a, b, kF, r1, r2, by have := hr.un; omega, q _ _ F H h (Grow.refl kF) (.bl _)⟩
end
end DL

/-! DL: update of a dict that may be empty; hashes of tuples of ints. -/
namespace DL
open PySem L2
def hI (k : List Int) : Int := PySem.reduceHash (PySem.Builtin.Tuple.tupleHashOf (k.map PySem.hashInt))
theorem hash_kI (P : Program) (w : World) (k : List Int) : (tupleKind (mixKind P w)).hash (kI k) = hI k := by
  show PySem.tupleKeyHash _ _ = _
  unfold PySem.tupleKeyHash kI hI
  rw [List.map_map]
  rfl
theorem RpK.hash {F : Hp} (P : Program) (w : World) : ∀ {ws : List (List Key × V)} {kvs : List (List Int × D)}, RpK F ws kvs → (ws.map fun p => (tupleKind (mixKind P w)).hash p.1) = kvs.map fun p => hI p.1
  | _, _, .nil => rfl
  | _, _, .cons (k := k) _ t => by
    rw [List.map_cons, List.map_cons, RpK.hash P w t]
    exact congrArg (· :: _) (hash_kI P w k)
theorem KT.same {H : Hp} {α : Type} (f : List Key → α) : ∀ {more : List (List Key × V)} {xs : List (List Key × Addr × Value)}, KT H more xs → (xs.map fun x => f x.1) = more.map fun p => f p.1
  | _, _, .nil => rfl
  | _, _, .cons z t => by rw [List.map_cons, List.map_cons, KT.same f t, z.1]
section
variable {X : Cx} {r : SR} {S : List Sl}
def rUpdT2 (X : Cx) : V → List V → Hp → VK → Prop := fun x vs H Q => ∃ (a b : Addr) (kvs more : List (List Key × V)), x = .ref a ∧ vs = [.ref b] ∧ a ≠ b ∧ H a = some (.dT kvs) ∧ H b = some (.dT more) ∧
  (kvs ≠ [] ∨ (more.map fun p => (tupleKind (mixKind X.prog X.w)).hash p.1).Nodup) ∧ kvs.length + more.length ≤ sizeLine ∧ Q .non (upd H a (.dT (mergeT kvs more)))
theorem mt_updT2 (hu : X.A.units + 2 < cLine) : MtR X "dict.update" (rUpdT2 X) := by
  intro pins s σ H x vs v us Q I rx rv h
  obtain ⟨a, b, kvs, more, ex, ev, hne, ha, hb, h0, hl, q⟩ := h
  subst ex
  subst ev
  obtain rfl : v = Value.ref a := rx
  obtain ⟨u, rfl, ru⟩ := rv.one
  obtain rfl : u = Value.ref b := ru
  obtain ⟨z1, d1, xs1, rel1, dd1⟩ := dt_of I.hok ha
  obtain ⟨z2, d2, xs2, rel2, dd2⟩ := dt_of I.hok hb
  have l1 := Paired.length rel1
  have l2 := Paired.length rel2
  have hap : xs1 ≠ [] ∨ ((∀ x ∈ xs2, s.TypeIs (.ref x.2.1) "tuple") ∧ (xs2.map fun x => (tupleKind (mixKind X.prog X.w)).hash x.1).Nodup) := by
    rcases h0 with h0 | h0
    · exact .inl fun z => by rw [z] at l1; exact h0 (List.length_eq_zero_iff.mp l1)
    · refine .inr ⟨?_, by rw [KT.same _ rel2]; exact h0⟩
      have all : ∀ {l : List (List Key × V)} {m : List (List Key × Addr × Value)}, KT H l m → ∀ x ∈ m, H x.2.1 = some (.tup (x.1.map kV)) := by
        intro l m q
        induction q with
        | nil => intro x hx; exact nomatch hx
        | @cons p q ps qs hq t ih =>
          intro x hx
          rcases List.mem_cons.mp hx with e | hx
          · subst e; rw [← hq.1]; exact hq.2.1
          · exact ih x hx
      intro x hx
      obtain ⟨_, _, _, o, g1, g2, _⟩ := (show ObjOk X.prog X.w H s.heap x.2.1 (.tup (x.1.map kV)) from I.hok _ _ (all rel2 x hx))
      exact ⟨o, g1, g2⟩
  refine call_update_dictH (knd := tupleKind (mixKind X.prog X.w)) (show X.A.units + 1 < cLine by omega) hne d2 dd1 dd2 hap (by omega) fun h' dd' _ hs => ?_
  have he : ∃ q, h'.get? a = some q := let ⟨q, _, _, hq, _⟩ := dd'; ⟨q, hq⟩
  have hlen : (mergeT kvs more).length ≤ sizeLine := Nat.le_trans (length_mergeT more kvs) hl
  obtain ⟨o, es, ep, g1, g2, g3, g4, _, g5⟩ := dd'
  refine ⟨.non, _, d_write (t' := s.toks) (ob := .dT (mergeT kvs more)) I (by rw [ha]; exact True.intro) hs he ⟨hlen, d1, _, (KT.merge rel2 rel1).keeps fun c ys ec => ?_, o, es, ep, g1, g2, g3, g4, g5⟩, rfl, q⟩
  rw [upd_ne (ne_of ec ha (fun z => nomatch z))]
  exact ec
/-- x.update(e), x a dict of one's own, perhaps empty -/
theorem jupd2 {e : Expr} {x : Str} {p apos cpos pos : Pos} {E : DE} {rest : List Stmt} {k : Nat} (hr : Room k X.A) (i : Nat) (kvs0 : List (List Int × D))
    (h : JE X r e S fun d S1 => ∃ kvs more, d = dctD more ∧ S1[i]? = some (.ob (.d kvs)) ∧ (kvs ≠ [] ∨ (more.map fun p => hI p.1).Nodup) ∧ kvs.length + more.length ≤ sizeLine ∧ JSs X r rest (S1.set i (.ob (.d (mergeD kvs more)))) E) (h0 : S[i]? = some (.ob (.d kvs0)) := by rfl)
    (hp : ∀ {rr : V → List V → Hp → VK → Prop}, MtR X "dict.update" rr → PS X (.Expr (.Call (.Attribute (.Name x p) "update" apos) [e] [] cpos) pos) (tDrop (tBM X.K "dict" rr (tVar i) (tCons (tE X e) tNil))) := by exact fun hm => ps_expr (pe_bm PySem.F.plainAttrs_dict PySem.F.slot_dict_update PySem.F.type_dict_update hm (pv _) (pa_cons pe_tE pa_nil))) :
    JSs X r (.Expr (.Call (.Attribute (.Name x p) "update" apos) [e] [] cpos) pos :: rest) S E := jss_cons fun c F σ H hr' Ev G g => of_ps (hp (mt_updT2 (by have := hr.un; omega))) (by
  obtain ⟨y, e1, a, hh, e2, ha, rv, nF, nb, q0⟩ := Ev.sl i _ h0
  subst e2
  obtain ⟨vs, rfl, rv⟩ := obr_d rv
  refine ⟨.ref a, e1, .inr (.inr (.inl ⟨rfl, .inr ⟨_, ha⟩⟩)), h c F σ H hr' Ev _ fun v d F1 H1 S1 h1 E1 k1 r1 => ?_⟩
  obtain ⟨kvs, more, rfl, e3, hne, hl, kx⟩ := h1
  obtain ⟨y, e1', a', hh', e2', ha', rv', nF', _⟩ := E1.sl i _ e3
  rw [e1] at e1'; cases e1'; cases e2'
  obtain ⟨ws, rfl, rv'⟩ := obr_d rv'
  obtain ⟨b, ws2, rfl, hb, rk⟩ := rp_dct r1
  have hab : a ≠ b := fun z => by rw [z, hb] at nF'; cases nF'
  refine ⟨a, b, ws, ws2, rfl, rfl, hab, ha', E1.fin.fh _ _ hb, ?_, by rw [rv'.length, rk.length]; exact hl, g.nx F1 σ _ _ kx (E1.write (vs := .dT (mergeT ws ws2)) (ds := .d (mergeD kvs more)) e3 e1 (RpK.merge rk rv')) k1⟩
  rcases hne with hne | hne
  · exact .inl fun z => by
      have := rv'.length
      rw [z] at this
      exact hne (List.length_eq_zero_iff.mp this.symm)
  · exact .inr (by rw [rk.hash]; exact hne))
end
end DL

/-! DL: sorted(..) of a dict's keys; a, b = x, []. -/
namespace DL
open PySem L2 PyProof.Rows
section
variable {X : Cx} {r : SR} {S : List Sl}
theorem sort_read {h : Heap} {H : Hp} {P : Program} {w : World} (ok : HOk P w H h) : ∀ {bs : List Addr} {ks : List (List Int)}, (∀ (i : Nat) b k, bs[i]? = some b → ks[i]? = some k → H b = some (.tup ((kI k).map kV))) → bs.length = ks.length →
    PySem.W.EachIs (fun u (d : D) => ∃ b k, u = Value.ref b ∧ d = tupI k ∧ H b = some (.tup ((kI k).map kV))) (bs.map Value.ref) (ks.map tupI) ∧ PySem.W.EachIs (fun u (d : D) => ∃ as, Reads h u d as) (bs.map Value.ref) (ks.map tupI)
  | [], [], _, _ => ⟨.nil, .nil⟩
  | [], _ :: _, _, e => by cases e
  | _ :: _, [], _, e => by cases e
  | b :: bs, k :: ks, hb, e => by
    obtain ⟨h1, h2⟩ := sort_read ok (bs := bs) (ks := ks) (fun i b k e1 e2 => hb (i + 1) b k (by simpa using e1) (by simpa using e2)) (by simpa using e)
    have h0 := hb 0 b k rfl rfl
    refine ⟨.cons ⟨b, k, rfl, rfl, h0⟩ h1, .cons ?_ h2⟩
    exact Rp.reads (F := H) (Ex.refl H) ok (.tup h0 (RpA.kI k)) rfl (nice_tupI (n := 1) k).pl
theorem of_keys {H : Hp} : ∀ {us : List Value} {ks : List (List Int)}, PySem.W.EachIs (fun u (d : D) => ∃ b k, u = Value.ref b ∧ d = tupI k ∧ H b = some (.tup ((kI k).map kV))) us (ks.map tupI) →
    ∃ bs : List Addr, us = bs.map Value.ref ∧ bs.length = ks.length ∧ ∀ (i : Nat) b k, bs[i]? = some b → ks[i]? = some k → H b = some (.tup ((kI k).map kV))
  | _, [], h => by cases h; exact ⟨[], rfl, rfl, fun i b k e => by simp at e⟩
  | _, k :: ks, h => by
    rw [List.map_cons] at h
    cases h with
    | cons h1 t =>
      obtain ⟨b, k', rfl, ek, hb⟩ := h1
      have := tupI_inj ek
      subst this
      obtain ⟨bs, rfl, h2, h3⟩ := of_keys t
      refine ⟨b :: bs, rfl, by rw [List.length_cons, List.length_cons, h2], fun i b k e1 e2 => ?_⟩
      cases i with
      | zero => simp at e1 e2; subst e1 e2; exact hb
      | succ i => exact h3 i b k (by simpa using e1) (by simpa using e2)
/-- sorted(d), d a dict whose keys are tuples of ints -/
def rSortK (X : Cx) : List V → Hp → VK → Prop := fun vs H Q => ∃ (a : Addr) (ws : List (List Key × V)) (ks : List (List Int)), vs = [.ref a] ∧ Rd H a (.dT ws) ∧ ws.map (·.1) = ks.map kI ∧ X.A.units + 5 < cLine ∧
  ∀ (p : Addr) (bs : List Addr), bs.length = (sortL ks).length → (∀ (i : Nat) b k, bs[i]? = some b → (sortL ks)[i]? = some k → H b = some (.tup ((kI k).map kV))) → H p = none → Q (.ref p) (upd H p (.lst (bs.map V.ref)))
theorem call_sortK (hcalm : X.calm = true) : CallR X (.builtin "sorted") (rSortK X) := by
  intro pins s σ H xs us Q I r q
  obtain ⟨a, ws, ks, ex, hd, hks, hu, q⟩ := q
  subst ex
  obtain ⟨u, eu, rx⟩ := vals1 r
  subst eu
  cases rx
  obtain ⟨z, hs, ys, pr, o, es, ep, ho, hx, hdt, he, hn⟩ := (show ObjOk X.prog X.w H s.heap a (.dT ws) from hd.ok I.hok)
  have l1 : es.size = ys.length := size_of_entries he
  have l2 : ws.length = ys.length := Paired.length pr
  have l3 : ws.length = ks.length := by have := congrArg List.length hks; rw [List.length_map, List.length_map] at this; exact this
  refine Calls.call_function_entry PyProof.Rows.kind_sorted PyProof.Rows.plain_sorted PyProof.Rows.entry_sorted (PyProof.Rows.args_sorted1 _) ?_
  unfold Builtin.«sorted»
  refine wpAny_bind (m := checkCount "sorted" 1 1 _) (wpAny_pure ?_)
  refine wpAny_bind (PySem.W.kdu_collect (A := X.A.in1) (kdl_raw hs hx hdt) (I.ok.hd hcalm) ho (by omega) fun h' tk acc hk it => ?_)
  have ea : acc.toList = ys.map fun y => Value.ref y.2.1 := by
    have hl : acc.toList.length = ys.length := by rw [Array.length_toList, it.1]; exact l1
    apply List.ext_getElem?
    intro j
    rw [List.getElem?_map]
    cases hj : acc.toList[j]? with
    | none =>
      have h1 := List.getElem?_eq_none_iff.mp hj
      rw [List.getElem?_eq_none (by omega)]
      rfl
    | some v =>
      obtain ⟨en, hen, hv⟩ := it.2 j v (by rw [← Array.getElem?_toList]; exact hj)
      have qe := entry_at he j
      rw [hen] at qe
      cases hb : ys[j]? with
      | none => rw [hb] at qe; exact nomatch (show some en = none from qe)
      | some b =>
        rw [hb] at qe
        have e2 : en = entryOfKey (tupleKind (mixKind X.prog X.w)) b := Option.some.inj qe
        rw [hv, e2]
        rfl
  have I1 : Inv X pins σ H { s with heap := h', toks := tk } := I.kept hk
  have hB : ∀ (i : Nat) b k, (ys.map fun y => y.2.1)[i]? = some b → ks[i]? = some k → H b = some (.tup ((kI k).map kV)) := fun i b k e1 e2 => by
    rw [List.getElem?_map] at e1
    cases ey : ys[i]? with
    | none => rw [ey] at e1; cases e1
    | some y =>
      rw [ey] at e1
      cases e1
      have hi : i < ws.length := by rw [l2]; exact (List.getElem?_eq_some_iff.mp ey).1
      obtain ⟨y', ey', g1, g2, _⟩ := paired_get pr (List.getElem?_eq_getElem hi)
      rw [ey] at ey'
      cases ey'
      have e3 : (ws.map (·.1))[i]? = some ws[i].1 := by rw [List.getElem?_map, List.getElem?_eq_getElem hi]; rfl
      rw [hks, List.getElem?_map, e2] at e3
      have e4 : kI k = ws[i].1 := Option.some.inj e3
      rw [e4]
      exact g2
  have hlen : (ys.map fun y => y.2.1).length = ks.length := by rw [List.length_map]; omega
  have ea2 : acc.toList = (ys.map fun y => y.2.1).map Value.ref := by rw [ea, List.map_map]; rfl
  obtain ⟨e1, er1⟩ := sort_read I1.hok hB hlen
  rw [← ea2] at e1 er1
  have hz : acc.toList.length ≤ sizeLine := by rw [ea, List.length_map]; omega
  refine wpAny_bind (wpAny_newList ?_ hz)
  have hoL : (h'.push (seqObj "list" acc.toList.toArray 0)).get? h'.objs.size = some (seqObj "list" acc.toList.toArray 0) := Heap.get?_push_size _ rfl
  show wpAny _ _ _ _ _ { s with heap := h'.push (seqObj "list" acc.toList.toArray 0), toks := tk }
  have hal : PySem.W.AllAlike (ks.map tupI) := PySem.W.AllAlike.of alike_tupI
  have ht : ∀ d ∈ ks.map tupI, ∃ xs, d = PyData.tuple xs := fun d hd => by
    obtain ⟨l, _, rfl⟩ := List.mem_map.mp hd
    exact ⟨_, rfl⟩
  have hdp : ∀ d ∈ ks.map tupI, d.depth = 1 := fun d hd => by
    obtain ⟨l, _, rfl⟩ := List.mem_map.mp hd
    exact depth_tupI l
  have keepS : ∀ b u, h'.get? b = some u → (PySem.W.sortingHeap (h'.push (seqObj "list" acc.toList.toArray 0)) h'.objs.size acc.toList).get? b = some u := fun b u e =>
    PySem.W.sortingHeap_old (Nat.ne_of_lt (Heap.lt_size e)) (Heap.get?_push_of_some _ e)
  have er2 : PySem.W.EachIs (fun v d => ∃ as, Reads (PySem.W.sortingHeap (h'.push (seqObj "list" acc.toList.toArray 0)) h'.objs.size acc.toList) v d as) acc.toList (ks.map tupI) := er1.mono fun _ _ ⟨as, r⟩ => ⟨as, PyProof.Rows.Reads.keeps keepS r⟩
  refine wpAny_bind (wpAny_holding (wpAny_call_entry PyProof.Rows.slot_list_sort ⟨_, hoL, rfl⟩ PyProof.Rows.entry_list_sort
    (PySem.W.list_sort_vals (s := { s with heap := h'.push (seqObj "list" acc.toList.toArray 0), toks := tk }) hoL (sortsAt_tups (s := { s with heap := PySem.W.sortingHeap (h'.push (seqObj "list" acc.toList.toArray 0)) h'.objs.size acc.toList, toks := tk }) er2 hal ht fun d h => by rw [hdp d h]; show X.A.units + 1 + 1 + 1 < cLine; omega) hz ⟨_, rfl, ?_⟩) (PyProof.Rows.args_list_sort _)))
  have out := PySem.W.sortVals_data (enc := id) (R := fun u (d : D) => ∃ b k, u = Value.ref b ∧ d = tupI k ∧ H b = some (.tup ((kI k).map kV))) false e1 er2 (by rw [List.map_id]; exact hal)
  rw [List.map_id, sort_map dataLe_tupI] at out
  obtain ⟨bs, eo, g1, g2⟩ := of_keys out
  obtain ⟨e', he'⟩ := PyProof.Rows.sortedHeap_at (vs := acc.toList) (out := (PySem.W.sortVals (PySem.W.dataKind (PySem.W.sortingHeap (h'.push (seqObj "list" acc.toList.toArray 0)) h'.objs.size acc.toList) (ks.map tupI)) false acc.toList acc.toList).toArray) hoL
  have hlen2 : (bs.map V.ref).length ≤ sizeLine := by
    rw [List.length_map, g1, List.length_mergeSort, ← hlen, List.length_map]
    omega
  refine wpAny_pure ⟨_, rfl, .ref h'.objs.size, upd H h'.objs.size (.lst (bs.map V.ref)), I1.laid (t' := tk) (fun b u e => ?_) (Nat.le_refl _) (show ObjOk X.prog X.w _ _ _ (.lst (bs.map V.ref)) from ⟨hlen2, _, e', by rw [eo]; exact vals_refs bs, he'⟩), rfl, q _ bs g1 g2 (I1.hok.fresh (Nat.le_refl _))⟩
  have hb : b < h'.objs.size := Heap.lt_size e
  rw [PyProof.Rows.sortedHeap_old (Nat.ne_of_lt hb) (by rw [size_push']; exact Nat.lt_succ_of_lt hb)]
  exact Heap.get?_push_of_some _ e
theorem RpK.keys {F : Hp} : ∀ {ws : List (List Key × V)} {kvs : List (List Int × D)}, RpK F ws kvs → ws.map (·.1) = (kvs.map (·.1)).map kI
  | _, _, .nil => rfl
  | _, _, .cons _ t => by rw [List.map_cons, List.map_cons, List.map_cons, RpK.keys t]; rfl
theorem jsortK {K : List D → List Sl → Prop} {a : Expr} {p pos : Pos} {k : Nat} (hr : Room k X.A) (hc : X.calm = true) (hm : X.mg "sorted" = none) (h : JE X r a S fun d S1 => ∃ kvs : List (List Int × D), d = dctD kvs ∧ K ((sortL (kvs.map (·.1))).map tupI) S1) (hg : Gl X "sorted" := by rfl) (hs : starEach [a] X.env = (false, eval a X.env) :: starEach [] X.env := by rfl) : JN X r (.Call (.Name "sorted" p) [a] [] pos) S K := fun c F σ H hr' E Q q =>
  of_pe (pe_callB (call_sortK hc) hg hm (by decide +kernel) (pa_cons pe_tE pa_nil hs) (by decide) (by decide) hs rfl) (h c F σ H hr' E _ fun v d F1 H1 S1 h1 E1 k1 r1 => by
    obtain ⟨kvs, rfl, kk⟩ := h1
    obtain ⟨l, ws, rfl, hl, rk⟩ := rp_dct r1
    refine ⟨l, ws, kvs.map (·.1), rfl, .inl (E1.fin.fh _ _ hl), rk.keys, by have := hr.un; omega, fun p bs hb1 hb2 n => ?_⟩
    obtain ⟨F', k2, E', ra⟩ := E1.freezeAll hb2 hb1
    exact q p _ F' _ S1 kk (newL_of E' n ra) (k1.trans k2))
/-- a, b = x, []: the second a new list -/
theorem jpar2N {x y : Str} {a b : Expr} {px py pt pos : Pos} {kt k2 pt2} {E : DE} {rest : List Stmt} (i j : Nat) (h : JE X r a S fun d1 S1 => JN X r b S1 fun ds S2 => S2[i]? = some .emp ∧ JSs X r rest ((S2.set i (.val d1)).set j (.own ds)) E)
    (hc : X.calm = true := by rfl) (hN : X.N.Nodup := by assumption) (hi : X.N[i]? = some x := by rfl) (hj : X.N[j]? = some y := by rfl) (hij : i ≠ j := by decide) (hx : X.env.scope.names.lookup x = some .local := by rfl) (hy : X.env.scope.names.lookup y = some .local := by rfl)
    (hw : swappedStores [.Tuple [.Name x px, .Name y py] kt pt] (.Tuple [a, b] k2 pt2) X.env = pure (some [x, y]) := by rfl) (hs : swapsWithSole [.Tuple [.Name x px, .Name y py] kt pt] (.Tuple [a, b] k2 pt2) pos.line X.env = pure false := by rfl)
    (s1 : starEach [a, b] X.env = (false, eval a X.env) :: starEach [b] X.env := by rfl) (s2 : starEach [b] X.env = (false, eval b X.env) :: starEach [] X.env := by rfl) :
    JSs X r (.Assign [.Tuple [.Name x px, .Name y py] kt pt] (.Tuple [a, b] k2 pt2) pos :: rest) S E := jss_cons fun c F σ H hr Ev G g =>
  of_ps (ps_par hc hN hi hj hij hx hy (pa_cons pe_tE (pa_cons pe_tE pa_nil s2) s1) hw hs) (h c F σ H hr Ev _ fun v d F1 H1 S1 h1 E1 k1 r1 => h1 c F1 σ H1 hr E1 _ fun p ds F2 H2 S2 h2 n k2 => by
    obtain ⟨hh, E2, hp, hv, nF, b, q, no⟩ := n
    obtain ⟨e1, kk⟩ := h2
    refine ⟨v, .ref p, rfl, g.nx F2 _ H2 _ kk ((E2.set (i := i) (r1.ex k2)).setOwn hp hv nF b q fun m xs em => ?_) (k1.trans k2)⟩
    have hli : i < S2.length := (List.getElem?_eq_some_iff.mp e1).1
    by_cases hm : i = m
    · subst hm
      rw [List.getElem?_set_self hli] at em; cases em
    · rw [List.getElem?_set_ne hm] at em ⊢
      exact no m xs em)
end
end DL

/-! DL: plain facts of dicts with keys that are tuples of ints; walks over range(1, n). -/
namespace DL
open PySem L2
def keyL (kvs : List (List Int × D)) : List (List Int) := kvs.map (·.1)
theorem valD_none {kvs : List (List Int × D)} {k : List Int} : valD kvs k = none ↔ k ∉ keyL kvs := by
  unfold valD keyL
  rw [Option.map_eq_none_iff, List.find?_eq_none]
  constructor
  · intro h hk
    obtain ⟨p, hp, rfl⟩ := List.mem_map.mp hk
    exact h p hp (by simp)
  · intro h p hp e
    rw [decide_eq_true_eq] at e
    exact h (List.mem_map.mpr ⟨p, hp, e⟩)
theorem any_key (kvs : List (List Int × D)) (k : List Int) : (kvs.any fun kv => decide (kv.1 = k)) = decide (k ∈ keyL kvs) := by
  rw [Bool.eq_iff_iff, List.any_eq_true, decide_eq_true_eq]
  unfold keyL
  rw [List.mem_map]
  exact ⟨fun ⟨p, h, e⟩ => ⟨p, h, of_decide_eq_true e⟩, fun ⟨p, h, e⟩ => ⟨p, h, decide_eq_true e⟩⟩
theorem putD_keys (kvs : List (List Int × D)) (k : List Int) (d : D) : keyL (putD kvs k d) = if k ∈ keyL kvs then keyL kvs else keyL kvs ++ [k] := by
  unfold putD
  rw [any_key]
  by_cases h : k ∈ keyL kvs
  · rw [if_pos (decide_eq_true h), if_pos h]
    unfold keyL
    rw [List.map_map]
    refine List.map_congr_left fun p _ => ?_
    show (if p.1 = k then (p.1, d) else p).1 = p.1
    split <;> rfl
  · rw [if_neg (by rw [decide_eq_false h]; exact Bool.false_ne_true), if_neg h]
    unfold keyL
    rw [List.map_append]; rfl
theorem putD_nodup {kvs : List (List Int × D)} (h : (keyL kvs).Nodup) (k : List Int) (d : D) : (keyL (putD kvs k d)).Nodup := by
  rw [putD_keys]
  split
  · exact h
  · rename_i n
    rw [List.nodup_append]
    refine ⟨h, List.nodup_cons.mpr ⟨List.not_mem_nil, List.nodup_nil⟩, fun a ha b hb e => ?_⟩
    rw [List.mem_singleton] at hb
    exact n (by rw [← hb, ← e]; exact ha)
theorem valD_put (kvs : List (List Int × D)) (k k' : List Int) (d : D) : valD (putD kvs k d) k' = if k' = k then some d else valD kvs k' := by
  unfold putD
  rw [any_key]
  by_cases h : k ∈ keyL kvs
  · rw [if_pos (decide_eq_true h)]
    induction kvs with
    | nil => cases h
    | cons p kvs ih =>
      unfold valD at ih ⊢
      rw [List.map_cons]
      by_cases e : p.1 = k
      · rw [if_pos e]
        by_cases e2 : k' = k
        · rw [if_pos e2, List.find?_cons_of_pos (by simp [e, e2])]; rfl
        · rw [if_neg e2, List.find?_cons_of_neg (by simp [e]; exact fun z => e2 z.symm), List.find?_cons_of_neg (by simp [e]; exact fun z => e2 z.symm)]
          by_cases h2 : k ∈ keyL kvs
          · rw [ih h2, if_neg e2]
          · have : kvs.map (fun kv => if kv.1 = k then (kv.1, d) else kv) = kvs := by
              conv => rhs; rw [← List.map_id kvs]
              refine List.map_congr_left fun q hq => ?_
              rw [if_neg (fun z => h2 (List.mem_map.mpr ⟨q, hq, z⟩))]; rfl
            rw [this]
      · have h2 : k ∈ keyL kvs := (List.mem_cons.mp h).resolve_left fun z => e z.symm
        rw [if_neg e]
        by_cases e2 : p.1 = k'
        · rw [List.find?_cons_of_pos (by simp [e2]), List.find?_cons_of_pos (by simp [e2]), if_neg (fun z => e (e2.trans z))]
        · rw [List.find?_cons_of_neg (by simp [e2]), List.find?_cons_of_neg (by simp [e2])]
          exact ih h2
  · rw [if_neg (by rw [decide_eq_false h]; exact Bool.false_ne_true)]
    unfold valD
    rw [List.find?_append]
    by_cases e2 : k' = k
    · subst e2
      have := valD_none.mpr h
      unfold valD at this
      rw [Option.map_eq_none_iff] at this
      rw [if_pos rfl, this, Option.none_or, List.find?_cons_of_pos (by simp)]; rfl
    · rw [if_neg e2, List.find?_cons_of_neg (by simp; exact fun z => e2 z.symm), List.find?_nil, Option.or_none]
theorem mem_keys_merge {k : List Int} : ∀ (ps kvs : List (List Int × D)), k ∈ keyL (mergeD kvs ps) ↔ k ∈ keyL kvs ∨ k ∈ keyL ps
  | [], kvs => by
    show k ∈ keyL kvs ↔ k ∈ keyL kvs ∨ k ∈ []
    simp
  | p :: ps, kvs => by
    show k ∈ keyL (mergeD (putD kvs p.1 p.2) ps) ↔ _
    rw [mem_keys_merge ps, putD_keys]
    show _ ↔ k ∈ keyL kvs ∨ k ∈ p.1 :: keyL ps
    rw [List.mem_cons]
    split
    · rename_i h
      constructor
      · rintro (h1 | h1)
        · exact .inl h1
        · exact .inr (.inr h1)
      · rintro (h1 | rfl | h1)
        · exact .inl h1
        · exact .inl h
        · exact .inr h1
    · rw [List.mem_append, List.mem_singleton, or_assoc]
theorem nodup_merge : ∀ (ps : List (List Int × D)) {kvs : List (List Int × D)}, (keyL kvs).Nodup → (keyL (mergeD kvs ps)).Nodup
  | [], _, h => h
  | p :: ps, _, h => nodup_merge ps (putD_nodup h p.1 p.2)
theorem valD_isSome (kvs : List (List Int × D)) (k : List Int) : (valD kvs k).isSome = decide (k ∈ keyL kvs) := by
  by_cases h : k ∈ keyL kvs
  · rw [decide_eq_true h]
    cases e : valD kvs k with
    | none => exact absurd h (valD_none.mp e)
    | some d => rfl
  · rw [decide_eq_false h, valD_none.mpr h]; rfl
/-- a dict that says of some lots that they are there -/
def knownD (fam : List (List Int)) : List (List Int × D) := mergeD [] (fam.map fun l => (l, PyData.bool true))
theorem known_isSome (fam : List (List Int)) (k : List Int) : (valD (knownD fam) k).isSome = decide (k ∈ fam) := by
  rw [valD_isSome]
  congr 1
  unfold knownD
  rw [mem_keys_merge, eq_iff_iff]
  unfold keyL
  rw [List.map_map]
  have : (fam.map ((fun p : List Int × D => p.1) ∘ fun l => (l, PyData.bool true))) = fam := by
    conv => rhs; rw [← List.map_id fam]
    rfl
  rw [this]
  simp
/-! ### slices of tuples, int(..), isinstance -/
section
variable {X : Cx} {r : SR} {S : List Sl}
theorem je_cutTo {K : D → List Sl → Prop} {e hi : Expr} {p2 pos : Pos} (h : JE X r e S fun d S1 => JE X r hi S1 fun d2 S2 => ∃ (ds : List D) (k : Nat), d = .tuple ds ∧ d2 = .int k ∧ K (.tuple (ds.take k)) S2) : JE X r (.Subscript e (.Slice none (some hi) none p2) pos) S K :=
  je_cutT (h.mono fun d S1 h1 => (show JE X r hi S1 _ from h1.mono fun d2 S2 ⟨ds, k, e1, e2, kk⟩ => ⟨k, e2, ds, e1, by rw [cutD_to]; exact kk⟩))
theorem je_cutFrom {K : D → List Sl → Prop} {e lo : Expr} {p2 pos : Pos} (h : JE X r e S fun d S1 => JE X r lo S1 fun d2 S2 => ∃ (ds : List D) (k : Nat), d = .tuple ds ∧ d2 = .int k ∧ K (.tuple (ds.drop k)) S2) : JE X r (.Subscript e (.Slice (some lo) none none p2) pos) S K :=
  je_cutT (h.mono fun d S1 h1 => (show JE X r lo S1 _ from h1.mono fun d2 S2 ⟨ds, k, e1, e2, kk⟩ => ⟨k, e2, ds, e1, by rw [cutD_from]; exact kk⟩))
theorem jint {K : D → List Sl → Prop} {a : Expr} {p pos : Pos} (hm : X.mg "int" = none) (h : JE X r a S fun d S1 => ∃ i : Int, d = .int i ∧ K (.int i) S1) (hg : Gl X "int" := by rfl) (hs : starEach [a] X.env = (false, eval a X.env) :: starEach [] X.env := by rfl) : JE X r (.Call (.Name "int" p) [a] [] pos) S K :=
  jTy call_int1 hm (ja1 (h.mono fun d S1 ⟨i, e, k⟩ => ⟨[d], rfl, by
    rw [e]
    intro F H vs kF rv Q q
    cases rv with
    | cons r1 t =>
      cases t
      cases r1
      exact .inl ⟨i, rfl, q _ _ F H k (Grow.refl kF) (.int _)⟩⟩) hs) hg (by decide +kernel) (by decide) (by decide) hs rfl
end
theorem kt_tt (ds : List D) : kitB (tyD (.tuple ds)) "tuple" = some true := by show kitB "tuple" "tuple" = _; decide +kernel
theorem kt_ii (i : Int) : kitB (tyD (.int i)) "int" = some true := by show kitB "int" "int" = _; decide +kernel
theorem kt_ib (i : Int) : kitB (tyD (.int i)) "bool" = some false := by show kitB "int" "bool" = _; decide +kernel
/-! ### tuples of ints in a tuple, in a list of such -/
section
variable {X : Cx}
theorem mem_tup {k : List Int} {fam : List (List Int)} : ((⟨k⟩ : PySem.W.Tup Int) ∈ fam.map fun l => (⟨l⟩ : PySem.W.Tup Int)) = (k ∈ fam) := by
  rw [List.mem_map, eq_iff_iff]
  exact ⟨fun ⟨a, h, e⟩ => by injection e with e; rw [← e]; exact h, fun h => ⟨_, h, rfl⟩⟩
theorem dec_tup (k : List Int) (fam : List (List Int)) : decide ((⟨k⟩ : PySem.W.Tup Int) ∈ fam.map fun l => (⟨l⟩ : PySem.W.Tup Int)) = decide (k ∈ fam) := by
  rw [Bool.eq_iff_iff, decide_eq_true_eq, decide_eq_true_eq, mem_tup]
theorem tup_map (fam : List (List Int)) : (fam.map fun l => (⟨l⟩ : PySem.W.Tup Int)).map PySem.W.Datum.toD = fam.map tupI := by rw [List.map_map]; rfl
theorem od_inTT {n : Nat} (hr : Room n X.A) {k : List Int} {fam : List (List Int)} {K : D → Prop} (h : K (.bool (decide (k ∈ fam)))) : OpD (rInD X false) (tupI k) (.tuple (fam.map tupI)) K := by
  rw [← tup_map]
  exact od_inT (α := PySem.W.Tup Int) (x := ⟨k⟩) hr (by decide) (by rw [dec_tup]; exact h)
theorem od_niTT {n : Nat} (hr : Room n X.A) {k : List Int} {fam : List (List Int)} {K : D → Prop} (h : K (.bool (!decide (k ∈ fam)))) : OpD (rInD X true) (tupI k) (.tuple (fam.map tupI)) K := by
  rw [← tup_map]
  exact od_niT (α := PySem.W.Tup Int) (x := ⟨k⟩) hr (by decide) (by rw [dec_tup]; exact h)
theorem od_inLT {n : Nat} (hr : Room n X.A) {k : List Int} {fam : List (List Int)} {K : D → Prop} (h : K (.bool (decide (k ∈ fam)))) : OpD (rInD X false) (tupI k) (.list (fam.map tupI)) K := by
  rw [← tup_map]
  exact od_inL (α := PySem.W.Tup Int) (x := ⟨k⟩) hr (by decide) (by rw [dec_tup]; exact h)
theorem od_niLT {n : Nat} (hr : Room n X.A) {k : List Int} {fam : List (List Int)} {K : D → Prop} (h : K (.bool (!decide (k ∈ fam)))) : OpD (rInD X true) (tupI k) (.list (fam.map tupI)) K := by
  rw [← tup_map]
  exact od_niL (α := PySem.W.Tup Int) (x := ⟨k⟩) hr (by decide) (by rw [dec_tup]; exact h)
end
/-- over range(1, n) -/
theorem lcR1 {X : Cx} {r : SR} {S : List Sl} {scope : Scope} {tg elt : Expr} {ifs : List Expr} {vs ts : List Nat} {K : List D → Prop} {n : Int} {m : Nat} (p : Nat → Bool) (g : Nat → D) (turn : ∀ a, a < m → LcPure X r scope tg elt ifs vs ts (.int (1 + (a : Int))) S (p a) (g a)) (k : K (((List.range m).filter p).map g)) (e : (n - 1).toNat = m := by omega) (hm : m ≤ 1000000 := by omega) (hv : noOwn vs S = true := by rfl) :
    (∀ j ∈ vs, ∀ xs, S[j]? ≠ some (.ob xs)) ∧ LcAll X r scope tg elt ifs vs ts (rangeD 1 (n - 1).toNat) S K :=
  ⟨noOwn_of hv, Nat, List.range m, fun i => .int (1 + (i : Int)), p, g, by rw [e]; rfl, by rw [List.length_range]; exact hm, fun a ha => turn a (List.mem_range.mp ha), k⟩
end DL

/-! DL: the start of a law: its script's source of draws. -/
namespace DL
open PySem L2
def spLaw (K : PySem.W.Frag) : Sp := fun vs H Q _ => ∃ (a : Addr) (ns : List Int), vs = [.ref a] ∧ SqL K H a (ns.map V.int) ∧ ns.length ≤ 63 ∧ ∀ H', Q (.bl true) H'
theorem ev_src {H H' : Hp} {p : Addr × Addr} {σ : St} {m j : Nat} (hl : σ.length = m) (hj : σ[j]? = some (some (.ref p.1))) (sm : Ex H H') (n1 : H p.1 = none) (n2 : H p.2 = none) (ok : SrcOk H' p) :
    EvD ⟨H, fun _ => none, some p⟩ ((List.replicate m .emp).set j .src) (fun _ => none) σ H' := by
  have em : ∀ {i : Nat} {s : Sl}, ((List.replicate m .emp).set j .src)[i]? = some s → (i = j ∧ s = .src) ∨ s = .emp := fun {i s} e => by
    have hm := List.mem_of_getElem? e
    by_cases h : j = i
    · subst h
      have hj' := (List.getElem?_eq_some_iff.mp e).1
      rw [List.length_set] at hj'
      rw [List.getElem?_set_self hj'] at e
      cases e; exact .inl ⟨rfl, rfl⟩
    · rw [List.getElem?_set_ne h] at e
      exact .inr (List.eq_of_mem_replicate (List.mem_of_getElem? e))
  refine ⟨⟨Ex.refl _, fun a o e => (by cases e), sm, fun a o e => .inl rfl, fun q eq => ?_⟩, by rw [List.length_set, List.length_replicate]; exact hl, fun i s e => ?_, fun i k xs ys a e1 e2 _ _ => ?_⟩
  · cases eq
    exact ⟨ok, rfl, rfl, n1, n2⟩
  · rcases em e with ⟨rfl, rfl⟩ | rfl
    · exact ⟨_, hj, p, rfl, rfl⟩
    · have hi := (List.getElem?_eq_some_iff.mp e).1
      rw [List.length_set, List.length_replicate, ← hl] at hi
      exact ⟨σ[i], List.getElem?_eq_getElem hi, trivial⟩
  · rcases em e1 with ⟨_, z⟩ | z <;> cases z
/-- a slot that holds data, or nothing -/
def vS : Option D → Sl
  | none => .emp
  | some d => .val d
theorem ne_eq' {α : Type} [DecidableEq α] {x y : α} (h : x = y) : (!decide (x = y)) = false := by simp [h]
theorem ne_self {α : Type} [DecidableEq α] (x : α) : (!decide (x = x)) = false := by simp
theorem neqv_self {n : Nat} {d : D} (h : Nice n d) : (!PyData.eqv d d) = false := by rw [eqv_self h]; rfl
theorem mem2 {p : D → Prop} {a b : D} (ha : p a) (hb : p b) : ∀ d ∈ [a, b], p d := fun d hd => by
  rcases List.mem_cons.mp hd with rfl | hd
  · exact ha
  · rw [List.mem_singleton.mp hd]; exact hb
theorem get_map {α : Type} {l : List α} {f : α → D} {i : Nat} {d : D} (h : (l.map f)[i]? = some d) : ∃ x, x ∈ l ∧ l[i]? = some x ∧ d = f x := by
  rw [List.getElem?_map] at h
  cases e : l[i]? with
  | none => rw [e] at h; cases h
  | some x => rw [e] at h; exact ⟨x, List.mem_of_getElem? e, rfl, (Option.some.inj h).symm⟩
end DL

/-! DL: tuples that are known to have no dict: made, walked, compared, told; dict(..) of one. -/
namespace DL
open PySem L2
theorem ft_inj {a b : List D} (h : ft a = ft b) : a = b := by
  unfold ft at h
  injection h with h
  injection h with h _
  have := congrArg Prod.snd h
  injection this
theorem rp_ft {F : Hp} {v : V} {ds : List D} (r : Rp F v (ft ds)) : ∃ a o xs, v = .ref a ∧ F a = some (.frz o (.tup xs)) ∧ o.dict = none ∧ RpA F xs ds := by
  generalize e : ft ds = d at r
  cases r with
  | ftup h n r =>
    have := ft_inj e
    subst this
    exact ⟨_, _, _, rfl, h, n, r⟩
  | dct => exact (dctD_ne_ft e.symm).elim
  | _ => unfold ft at e; cases e
theorem ft_reads {P : Program} {w : World} {F H : Hp} {h : Heap} (k : Ex F H) (ok : HOk P w H h) {v : V} {ds : List D} {u : Value} (r : Rp F v (ft ds)) (e : RelV v u) (hp : PyData.plainAll ds = true) : ∃ as, Reads h u (.tuple ds) as := by
  obtain ⟨a, o, xs, rfl, ha, _, rv⟩ := rp_ft r
  cases e
  obtain ⟨_, _, its, rw', o', ho, hc, n, hd⟩ := ok _ _ (k _ _ ha)
  obtain ⟨as, hr⟩ := RpA.reads k ok rv rw' hp
  exact ⟨_, .tuple ho hc hd (by simpa using hr)⟩
section
variable {X : Cx} {r : SR} {S : List Sl}
/-! ### made -/
def rTupF (X : Cx) : List V → Hp → VK → Prop := fun xs H Q => ∃ p ys, xs = [.ref p] ∧ SqL X.K H p ys ∧ ∀ l o, o.dict = none → H l = none → Q (.ref l) (upd H l (.frz o (.tup ys)))
theorem call_tupF : CallR X (.type "tuple") (rTupF X) := by
  intro pins s σ H xs us Q I rr h
  obtain ⟨p, ys, rfl, hq, q⟩ := h
  obtain ⟨u, rfl, rx⟩ := vals1 rr
  cases rx
  obtain ⟨its, r', pl, hz⟩ := I.list hq
  have hlen := r'.length
  refine call_tuple_list pl.isList (fun h' kp => ?_) (by simp only [List.size_toArray] <;> omega)
  have I1 : Inv X pins σ H { s with heap := h' } := I.kept (t' := s.toks) kp
  have I2 : Inv X pins σ (upd H h'.objs.size (.frz { cls := .type "tuple", data := .seq its.toArray } (.tup ys))) { s with heap := h'.push { cls := .type "tuple", data := .seq its.toArray } } :=
    I1.laid (t' := s.toks) (fun b o e => Heap.get?_push_of_some _ e) (Nat.le_refl _) (show ObjOk X.prog X.w _ _ _ (.frz _ (.tup ys)) from ⟨Heap.get?_push_size _ rfl, hz, its, r', ⟨_, Heap.get?_push_size _ rfl, rfl, _, rfl⟩⟩)
  exact ⟨.ref h'.objs.size, _, I2, rfl, q _ _ rfl (I1.hok.fresh (Nat.le_refl _))⟩
/-- tuple(xs), xs a new list: known to have no dict -/
theorem jtupF {K : D → List Sl → Prop} {a : Expr} {p pos : Pos} (hm : X.mg "tuple" = none) (h : JN X r a S fun xs S1 => K (ft xs) S1) (hg : Gl X "tuple" := by rfl) (hs : starEach [a] X.env = (false, eval a X.env) :: starEach [] X.env := by rfl) : JE X r (.Call (.Name "tuple" p) [a] [] pos) S K :=
  jTy call_tupF hm (ja1 ((JN.je (K := fun d S1 => ∃ ys, d = .list ys ∧ K (ft ys) S1) (h.mono fun xs S1 k => ⟨xs, rfl, k⟩)).mono fun d S1 ⟨xs, e, k⟩ => ⟨[d], rfl, by
    rw [e]
    intro F H vs kF rv Q q
    cases rv with
    | cons r1 t =>
      cases t
      cases r1 with
      | @lst a ws _ ha rv =>
        refine ⟨a, ws, rfl, .inl (.inl (kF _ _ ha)), fun l o ho n => ?_⟩
        have g := Grow.new kF (o := .frz o (.tup ws)) n
        exact q _ _ _ _ k g (.ftup upd_same ho (rv.ex g.kF))⟩) hs) hg (by decide +kernel) (by decide) (by decide) hs rfl
def tTupF (t : TA) : TE := fun σ H Q => t σ H fun xs H1 => xs.length ≤ sizeLine ∧ ∀ p o, o.dict = none → H1 p = none → Q (.ref p) (upd H1 p (.frz o (.tup xs)))
theorem pe_tupF {es : List Expr} {x1} {pos : Pos} {t : TA} (h : PA X es t) : PE X (.Tuple es x1 pos) (tTupF t) := by
  refine ⟨fun pins s σ H Q I hq => ?_⟩
  refine wpAny_Tuple_spliced (thn (h.run pos pins s σ H _ I hq) fun us s1 ⟨xs, H1, I1, r, z, q⟩ => ⟨by rw [← r.length]; exact z, ?_⟩)
  have hf : H1 s1.heap.objs.size = none := I1.hok.fresh (Nat.le_refl _)
  refine ⟨.ref s1.heap.objs.size, upd H1 s1.heap.objs.size (.frz { cls := .type "tuple", data := .seq us.toArray } (.tup xs)), I1.laid (t' := s1.toks) (fun b u e => Heap.get?_push_of_some _ e) (Nat.le_refl _) ?_, rfl, q _ _ rfl hf⟩
  exact ⟨Heap.get?_push_size _ rfl, z, us, r, ⟨_, Heap.get?_push_size _ rfl, rfl, _, rfl⟩⟩
/-- (a, b, ..), known to have no dict -/
theorem je_tupF {K : D → List Sl → Prop} {es : List Expr} {x1} {pos : Pos} (h : JA X r es S fun as S1 => ∃ ds, dats as = some ds ∧ ds.length ≤ sizeLine ∧ K (ft ds) S1) : JE X r (.Tuple es x1 pos) S K :=
  fun c F σ H hr E Q q => of_pe (pe_tupF pa_tA) (h c F σ H hr E _ fun vs as F1 H1 S1 h1 E1 k1 r1 => by
    obtain ⟨ds, e, hl, kd⟩ := h1
    have rp := r1.dats e
    refine ⟨by rw [rp.length]; exact hl, fun p o ho n => ?_⟩
    have g := Grow.new E1.fin.fh (o := .frz o (.tup vs)) n
    exact q _ _ _ _ S1 kd (E1.grow g) (k1.trans g.kF) (.ftup upd_same ho (rp.ex g.kF)))
theorem jtup1F {K : D → List Sl → Prop} {a : Expr} {k : Nat} {pos : Pos} (h : JE X r a S fun d S1 => K (ft [d]) S1) (s1 : starEach [a] X.env = (false, eval a X.env) :: starEach [] X.env := by rfl) : JE X r (.Tuple [a] k pos) S K :=
  je_tupF (ja1 (h.mono fun d S1 k => ⟨[d], rfl, by show 1 ≤ sizeLine; decide, k⟩) s1)
theorem jtup0F {K : D → List Sl → Prop} {k : Nat} {pos : Pos} (h : K (ft []) S) : JE X r (.Tuple [] k pos) S K := je_tupF (jA0 ⟨[], rfl, Nat.zero_le _, h⟩)
/-! ### walked -/
theorem itf_d {K : PySem.W.Frag} {B F : Hp} {a : Addr} {o : Obj} {vs : List V} {ds : List D} (h : F a = some (.frz o (.tup vs))) (rv : RpA F vs ds) : ItD (Itt K a) B F ds :=
  ⟨fun i H kb k hi => ⟨vs, .inl (.inr ⟨o, k _ _ h⟩), by rw [rv.length]; exact hi⟩,
   fun i H kb k hi => by
    obtain ⟨v, e, _⟩ := rv.get' (i := i) (List.getElem?_eq_getElem hi)
    exact ⟨vs, v, .inl (.inr ⟨o, k _ _ h⟩), e⟩,
   fun i H x H' kb k y hi => by
    obtain ⟨e, f⟩ := y
    obtain ⟨d, e1, e2⟩ := rv.get (f vs (.inl (.inr ⟨o, k _ _ h⟩)))
    exact .inl ⟨e, d, e1, e2⟩⟩
theorem jiF {tg e : Expr} {K : List D → List Sl → Prop} (h : JE X r e S fun d S1 => ∃ ds, d = ft ds ∧ K ds S1) : JI X r tg e S K :=
  fun c F σ H hr E R q => of_pi (pi_tup pe_tE) (h c F σ H hr E _ fun v d F1 H1 S1 h1 E1 k1 r1 => by
    obtain ⟨ds, rfl, kd⟩ := h1
    obtain ⟨a, o, xs, rfl, ha, _, hv⟩ := rp_ft r1
    exact ⟨_, rfl, ⟨_, .inl (.inr ⟨o, E1.fin.fh _ _ ha⟩)⟩, q _ ds F1 H1 S1 kd E1 k1 (itf_d ha hv)⟩)
/-! ### compared, told -/
def rEqF (X : Cx) (neg : Bool) : R2 := fun x y H Q => ∃ F d1 d2, Ex F H ∧ Rp F x (ft d1) ∧ Rp F y (ft d2) ∧ (PyData.tuple d1).plain = true ∧ (PyData.tuple d2).plain = true ∧ X.A.units + min (PyData.tuple d1).depth (PyData.tuple d2).depth < cLine ∧ Q (.bl (if neg = true then !PyData.eqv (.tuple d1) (.tuple d2) else PyData.eqv (.tuple d1) (.tuple d2))) H
theorem op_eqF : OpR X (compareOp .Eq) (rEqF X false) := by
  intro pins s σ H x y v u Q I rx ry h
  obtain ⟨F, d1, d2, k, r1, r2, p1, p2, hu, q⟩ := h
  obtain ⟨as, h1⟩ := ft_reads k I.hok r1 rx (by simpa only [PyData.plain] using p1)
  obtain ⟨bs, h2⟩ := ft_reads k I.hok r2 ry (by simpa only [PyData.plain] using p2)
  exact PySem.SeqAt.eq_plain h1 h2 p1 p2 hu ⟨.bl _, H, I, rfl, q⟩
theorem op_neF : OpR X (compareOp .NotEq) (rEqF X true) := by
  intro pins s σ H x y v u Q I rx ry h
  obtain ⟨F, d1, d2, k, r1, r2, p1, p2, hu, q⟩ := h
  obtain ⟨as, h1⟩ := ft_reads k I.hok r1 rx (by simpa only [PyData.plain] using p1)
  obtain ⟨bs, h2⟩ := ft_reads k I.hok r2 ry (by simpa only [PyData.plain] using p2)
  exact PySem.SeqAt.ne_plain h1 h2 p1 p2 hu ⟨.bl _, H, I, rfl, q⟩
theorem od_eqF {k : Nat} (hr : Room k X.A) {neg : Bool} {d1 d2 : List D} {K : D → Prop} (h1 : Nice 50 (.tuple d1)) (h2 : Nice 50 (.tuple d2)) (h : K (.bool (if neg = true then !PyData.eqv (.tuple d1) (.tuple d2) else PyData.eqv (.tuple d1) (.tuple d2)))) : OpD (rEqF X neg) (ft d1) (ft d2) K :=
  fun F H v1 v2 kF r1 r2 Q q => ⟨F, _, _, kF, r1, r2, h1.pl, h2.pl, (by
    have := units_le hr (Nat.le_trans h1.dp (by decide : 50 ≤ 60)); have := Nat.min_le_left (PyData.tuple d1).depth (PyData.tuple d2).depth; omega), q _ _ F H h (Grow.refl kF) (.bl _)⟩
def rReprF (X : Cx) : List V → Hp → VK → Prop := fun vs H Q => ∃ F x ds, vs = [x] ∧ Ex F H ∧ Rp F x (ft ds) ∧ (PyData.tuple ds).plain = true ∧ (PyData.tuple ds).showable = true ∧ (PyData.tuple ds).hasDict = false ∧ X.A.units + ((PyData.tuple ds).depth + 1) < cLine ∧ (PyData.tuple ds).shown.length ≤ sizeLine ∧ Q (.str (PyData.tuple ds).shown) H
theorem call_reprF (hg : X.A.guards = some []) : CallR X (.builtin "repr") (rReprF X) := by
  intro pins s σ H xs us Q I rr h
  obtain ⟨F, x, ds, rfl, k, rp, hpl, hs, hd, hu, hz, q⟩ := h
  obtain ⟨u, rfl, rx⟩ := vals1 rr
  obtain ⟨as, hr⟩ := ft_reads k I.hok rp rx (by simpa only [PyData.plain] using hpl)
  obtain ⟨a, o, zs, rfl, ha, _, rv⟩ := rp_ft rp
  cases rx
  exact repr_of_reads' hr hs (fun e => by rw [hd] at e; cases e) hg hu (fun _ _ e => e) (fun h' u tk hk => ⟨.str _, H, I.kept hk, ⟨_, rfl⟩, q⟩) hz
theorem jreprF {K : D → List Sl → Prop} {a : Expr} {p pos : Pos} {k : Nat} (hg0 : X.A.guards = some []) (hr : Room k X.A) (hm : X.mg "repr" = none) (h : JE X r a S fun d S1 => ∃ ds, d = ft ds ∧ ShD 40 (2 ^ 20) (.tuple ds) ∧ K (.str (PyData.tuple ds).shown) S1) (hg : Gl X "repr" := by rfl) (hs : starEach [a] X.env = (false, eval a X.env) :: starEach [] X.env := by rfl) : JE X r (.Call (.Name "repr" p) [a] [] pos) S K :=
  jB (call_reprF hg0) hm (ja1 (h.mono fun d S1 ⟨ds, e, h1, k⟩ => ⟨[d], rfl, by
    rw [e]
    intro F H vs kF rv Q q
    cases rv with
    | cons r1 t =>
      cases t
      exact ⟨F, _, ds, rfl, kF, r1, h1.ni.pl, h1.sh, h1.hd, by have := h1.ni.dp; have := hr.un; omega, PyData.shown_fits (B := 13) (by decide) (by decide) h1.lv h1.wt, q _ _ F H k (Grow.refl kF) (.str _)⟩⟩) hs) hg (by decide +kernel) (by decide) (by decide) hs rfl
/-! ### dict(..) of such a tuple of pairs -/
def rDictTF : List V → Hp → VK → Prop := fun vs H Q => ∃ F x ps, vs = [x] ∧ Ex F H ∧ Rp F x (ft (ps.map entD)) ∧ ∀ p ws, RpK F ws (mergeD [] ps) → H p = none → Q (.ref p) (upd H p (.dT ws))
theorem call_dictTF (hcalm : X.calm = true) (hu : X.A.units + 2 < cLine) : CallR X (.type "dict") rDictTF := by
  intro pins s σ H xs us Q I rr h
  obtain ⟨F, x, ps, rfl, k, rp, q⟩ := h
  obtain ⟨u, rfl, rx⟩ := vals1 rr
  obtain ⟨a, o, ws, rfl, ha, hod, rv⟩ := rp_ft rp
  cases rx
  obtain ⟨ho0, z, its, rw', o', ho', hc, n, hdat⟩ := (show ObjOk X.prog X.w H s.heap a (.frz o (.tup ws)) from I.hok _ _ (k _ _ ha))
  obtain rfl : o = o' := Option.some.inj (ho0.symm.trans ho')
  obtain ⟨ts, ys, w2, e1, e2, e3, e4, e5⟩ := ents_of k I.hok rv rw'
  subst e1
  have hz : ys.length ≤ sizeLine := by
    have := rw'.length
    rw [List.length_map] at this
    omega
  have hp : PairItems s.heap (ts.map Value.ref).toArray (fun j => ts.getD j 0) (ys.map fun y => (Value.ref y.2.1, y.2.2)) := by
    refine ⟨by simp [e2], fun j kk v e => ?_⟩
    rw [List.getElem?_map] at e
    cases ey : ys[j]? with
    | none => rw [ey] at e; cases e
    | some y =>
      rw [ey] at e
      cases e
      obtain ⟨t, f1, f2⟩ := e5 j y ey
      have g : ts.getD j 0 = t := by rw [List.getD_eq_getElem?_getD, f1]; rfl
      show (List.map Value.ref ts).toArray[j]? = some (Value.ref (ts.getD j 0)) ∧ PairAt s.heap (ts.getD j 0) _ _
      rw [g]
      exact ⟨by simp [f1], f2⟩
  refine call_dict_pairsH (knd := tupleKind (mixKind X.prog X.w)) (ps := ys) (PairArg.tuple a (ts.map Value.ref).toArray (fun j => ts.getD j 0) (ys.map fun y => (Value.ref y.2.1, y.2.2))) (I.ok.hd hcalm) hu ⟨⟨_, n, ho', hc, hod, hdat⟩, hp⟩ ⟨by rw [List.length_map], fun i key v hrel => ?_⟩ (fun h' hk y hy => ?_) (by rw [List.length_map]; exact hz) fun h' tk hd' hk => ?_
  · have hrel : (ys.map fun y => (Value.ref y.2.1, y.2.2))[i]? = some (key, v) := hrel
    rw [List.getElem?_map] at hrel
    cases ey : ys[i]? with
    | none => rw [ey] at hrel; cases hrel
    | some y =>
      rw [ey] at hrel
      cases hrel
      exact ⟨y.1, y.2.1, rfl, rfl⟩
  · have all : ∀ {l : List (List Key × V)} {m : List (List Key × Addr × Value)}, KT H l m → ∀ x ∈ m, H x.2.1 = some (.tup (x.1.map kV)) := by
      intro l m q
      induction q with
      | nil => intro x hx; exact nomatch hx
      | @cons p q ps qs hq t ih =>
        intro x hx
        rcases List.mem_cons.mp hx with e | hx
        · subst e; rw [← hq.1]; exact hq.2.1
        · exact ih x hx
    have hb := all e4 y hy
    obtain ⟨_, its, r, o, h1, h2, n, h3⟩ := (show ObjOk X.prog X.w H s.heap y.2.1 (.tup (y.1.map kV)) from I.hok _ _ hb)
    exact ⟨o, its.toArray, n, hk _ _ (Nat.ne_of_lt (Heap.lt_size h1)) (by simp) h1, h2, h3, by simpa using items_are r⟩
  · have hm : (s.heap.objs.size == sysModules) = false := beq_eq_false_iff_ne.mpr (Nat.ne_of_gt I.big)
    have hlen : (mergeT [] w2).length ≤ sizeLine := by
      rw [(RpK.merge (ws := []) (kvs := []) e3 .nil).length]
      refine Nat.le_trans (mergeD_len _ _) ?_
      rw [List.length_nil, Nat.zero_add, ← e3.length]
      have := Paired.length e4
      omega
    obtain ⟨o, es, ep, g1, g2, g3, g4, _, g5⟩ := hd'
    refine ⟨.ref s.heap.objs.size, upd H s.heap.objs.size (.dT (mergeT [] w2)), I.laid (t' := tk) (fun b o e => hk b o (by simp) e) (Nat.le_refl _) ⟨hlen, hm, _, (KT.merge e4 .nil).keeps fun b ys eb => ?_, o, es, ep, g1, g2, g3, g4, g5⟩, rfl, q _ _ (RpK.merge e3 .nil) (I.hok.fresh (Nat.le_refl _))⟩
    rw [upd_ne (ne_of_none eb (I.hok.fresh (Nat.le_refl _)))]
    exact eb
theorem jdictF {K : OB → List Sl → Prop} {a : Expr} {p pos : Pos} {k : Nat} (hr : Room k X.A) (hm : X.mg "dict" = none) (h : JE X r a S fun d S1 => ∃ ps : List (List Int × D), d = ft (ps.map entD) ∧ K (.d (mergeD [] ps)) S1) (hc : X.calm = true := by rfl) (hg : Gl X "dict" := by rfl) (hs : starEach [a] X.env = (false, eval a X.env) :: starEach [] X.env := by rfl) :
    JO X r (.Call (.Name "dict" p) [a] [] pos) S K := fun c F σ H hr' E Q q =>
  of_pe (pe_callTy (call_dictTF hc (by have := hr.un; omega)) hg hm (by decide +kernel) (pa_cons pe_tE pa_nil hs) (by decide) (by decide) hs rfl) (h c F σ H hr' E _ fun v d F1 H1 S1 h1 E1 k1 r1 => by
    obtain ⟨ps, rfl, kd⟩ := h1
    exact ⟨F1, v, ps, rfl, E1.fin.fh, r1, fun p ws rw' n => q p _ F1 _ S1 kd (newL_ob (h := .dT ws) (o := .d (mergeD [] ps)) E1 n rw') k1⟩)
end
/-! ### dicts that hold ints -/
abbrev DI := List (List Int × Int)
def dI (m : DI) : List (List Int × D) := m.map fun p => (p.1, .int p.2)
def keyI (m : DI) : List (List Int) := m.map (·.1)
def getI (m : DI) (k : List Int) : Int := ((m.find? fun p => decide (p.1 = k)).map (·.2)).getD 0
def putI (m : DI) (k : List Int) (c : Int) : DI := if k ∈ keyI m then m.map (fun p => if p.1 = k then (p.1, c) else p) else m ++ [(k, c)]
def mergeI (m ps : DI) : DI := ps.foldl (fun acc p => putI acc p.1 p.2) m
theorem keyL_dI (m : DI) : keyL (dI m) = keyI m := by
  unfold keyL dI keyI
  rw [List.map_map]; rfl
theorem dI_put (m : DI) (k : List Int) (c : Int) : putD (dI m) k (.int c) = dI (putI m k c) := by
  unfold putD putI
  rw [any_key, keyL_dI]
  by_cases h : k ∈ keyI m
  · rw [if_pos (decide_eq_true h), if_pos h]
    unfold dI
    rw [List.map_map, List.map_map]
    refine List.map_congr_left fun p _ => ?_
    show (if p.1 = k then (p.1, PyData.int c) else (p.1, PyData.int p.2)) = ((if p.1 = k then (p.1, c) else p).1, PyData.int (if p.1 = k then (p.1, c) else p).2)
    split <;> rfl
  · rw [if_neg (by rw [decide_eq_false h]; exact Bool.false_ne_true), if_neg h]
    unfold dI
    rw [List.map_append]; rfl
theorem dI_merge : ∀ (ps m : DI), mergeD (dI m) (dI ps) = dI (mergeI m ps)
  | [], _ => rfl
  | p :: ps, m => by
    show mergeD (putD (dI m) p.1 (.int p.2)) (dI ps) = _
    rw [dI_put]
    exact dI_merge ps _
theorem valD_dI (m : DI) (k : List Int) : valD (dI m) k = if k ∈ keyI m then some (.int (getI m k)) else none := by
  induction m with
  | nil => rfl
  | cons p m ih =>
    unfold valD getI keyI dI at *
    rw [List.map_cons, List.map_cons]
    by_cases e : p.1 = k
    · rw [List.find?_cons_of_pos (by simpa using e), List.find?_cons_of_pos (by simpa using e), if_pos (by rw [e]; exact List.mem_cons_self)]; rfl
    · rw [List.find?_cons_of_neg (by simpa using e), List.find?_cons_of_neg (by simpa using e), ih]
      have : (k ∈ p.1 :: List.map (fun x => x.1) m) = (k ∈ List.map (fun x => x.1) m) := by
        rw [List.mem_cons, eq_iff_iff]
        exact ⟨fun h => h.resolve_left fun z => e z.symm, .inr⟩
      simp only [this]
theorem getI_none {m : DI} {k : List Int} (h : k ∉ keyI m) : getI m k = 0 := by
  unfold getI
  have : (m.find? fun p => decide (p.1 = k)) = none := List.find?_eq_none.mpr fun p hp e => h (List.mem_map.mpr ⟨p, hp, of_decide_eq_true e⟩)
  rw [this]; rfl
theorem valD_getD (m : DI) (k : List Int) : (valD (dI m) k).getD (.int 0) = .int (getI m k) := by
  rw [valD_dI]
  by_cases h : k ∈ keyI m
  · rw [if_pos h]; rfl
  · rw [if_neg h, getI_none h]; rfl
theorem getI_put (m : DI) (k k' : List Int) (c : Int) : getI (putI m k c) k' = if k' = k then c else getI m k' := by
  have h := valD_put (dI m) k k' (.int c)
  rw [dI_put] at h
  have h2 := congrArg (fun o : Option D => o.getD (.int 0)) h
  simp only [valD_getD] at h2
  by_cases e : k' = k
  · rw [if_pos e] at h2 ⊢
    injection h2
  · rw [if_neg e] at h2 ⊢
    rw [valD_getD] at h2
    injection h2
theorem keyI_put (m : DI) (k : List Int) (c : Int) : keyI (putI m k c) = if k ∈ keyI m then keyI m else keyI m ++ [k] := by
  have := putD_keys (dI m) k (.int c)
  rw [dI_put, keyL_dI, keyL_dI] at this
  exact this
theorem mem_keyI_put {m : DI} {k k' : List Int} {c : Int} : k' ∈ keyI (putI m k c) ↔ k' ∈ keyI m ∨ k' = k := by
  rw [keyI_put]
  split
  · rename_i h
    exact ⟨.inl, fun z => z.elim id fun e => e ▸ h⟩
  · rw [List.mem_append, List.mem_singleton]
theorem nodup_put {m : DI} (h : (keyI m).Nodup) (k : List Int) (c : Int) : (keyI (putI m k c)).Nodup := by
  have := putD_nodup (kvs := dI m) (by rw [keyL_dI]; exact h) k (.int c)
  rw [dI_put, keyL_dI] at this
  exact this
theorem nodup_mergeI (ps : DI) {m : DI} (h : (keyI m).Nodup) : (keyI (mergeI m ps)).Nodup := by
  have := nodup_merge (dI ps) (kvs := dI m) (by rw [keyL_dI]; exact h)
  rw [dI_merge, keyL_dI] at this
  exact this
theorem mem_mergeI {k : List Int} (ps m : DI) : k ∈ keyI (mergeI m ps) ↔ k ∈ keyI m ∨ k ∈ keyI ps := by
  have := mem_keys_merge (k := k) (dI ps) (dI m)
  rw [dI_merge, keyL_dI, keyL_dI, keyL_dI] at this
  exact this
theorem getI_merge {k : List Int} : ∀ (ps : DI) {m : DI}, (keyI ps).Nodup → getI (mergeI m ps) k = if k ∈ keyI ps then getI ps k else getI m k
  | [], m, _ => by show getI m k = _; rw [if_neg (by intro h; cases h)]
  | p :: ps, m, h => by
    have h' : (p.1 :: keyI ps).Nodup := h
    rw [List.nodup_cons] at h'
    show getI (mergeI (putI m p.1 p.2) ps) k = _
    rw [getI_merge ps h'.2, getI_put]
    have e0 : getI (p :: ps) k = if p.1 = k then p.2 else getI ps k := by
      unfold getI
      by_cases e : p.1 = k
      · rw [if_pos e, List.find?_cons_of_pos (by simpa using e)]; rfl
      · rw [if_neg e, List.find?_cons_of_neg (by simpa using e)]
    have em : k ∈ keyI (p :: ps) ↔ k = p.1 ∨ k ∈ keyI ps := List.mem_cons
    by_cases e : p.1 = k
    · subst e
      rw [if_neg h'.1, if_pos rfl, if_pos (em.mpr (.inl rfl)), e0, if_pos rfl]
    · have en : ¬ k = p.1 := fun z => e z.symm
      rw [if_neg en, e0, if_neg e]
      by_cases e2 : k ∈ keyI ps
      · rw [if_pos e2, if_pos (em.mpr (.inr e2))]
      · rw [if_neg e2, if_neg (fun z => (em.mp z).elim en e2)]
end DL

/-! DL: x.index(y) of lists and of tuples known to have no dict; enumerate of such a tuple; {k: v}; a module's number. -/
namespace DL
open PySem L2 PySem.Spec PyProof.Rows
section
variable {X : Cx} {r : SR} {S : List Sl}
/-- a module's number -/
theorem je_gint {K : D → List Sl → Prop} {x : Str} {pos : Pos} {i : Int} {t : Tok} (hm : X.mg x = some (.int i t)) (k : K (.int i) S) (hg : Gl X x := by rfl) (hd : (x == ("__debug__" : Str)) = false := by decide) : JE X r (.Name x pos) S K :=
  fun c F σ H _ E Q q => of_pe (pe_glob (v := .int i) hg hm ⟨t, rfl⟩ hd) (q _ _ F H S k E (Ex.refl F) (.int i))
/-! ### index -/
def rIdxD (X : Cx) : V → List V → Hp → VK → Prop := fun x xs H Q => ∃ (F : Hp) (y : V) (d : D) (ds : List D) (j : Nat) (z : D), xs = [y] ∧ Ex F H ∧ Rp F x (.list ds) ∧ Rp F y d ∧ PyData.plainAll ds = true ∧ d.plain = true ∧
  X.A.units + 1 + min (PyData.depthAll ds) d.depth < cLine ∧ ds[j]? = some z ∧ PyData.eqv z d = true ∧ (∀ (m : Nat) (z' : D), m < j → ds[m]? = some z' → PyData.eqv z' d = false) ∧ Q (.int (j : Nat)) H
theorem mt_idxD : MtR X "list.index" (rIdxD X) := by
  intro pins s σ H x xs v us Q I rx rxs h
  obtain ⟨F, y, d, ds, j, z, rfl, k, rl, ry, hp, hd, hu, hz, hzj, hno, q⟩ := h
  obtain ⟨uy, rfl, ruy⟩ := vals1 rxs
  obtain ⟨bs, r1⟩ := Rp.reads k I.hok ry ruy hd
  obtain ⟨as, r2⟩ := Rp.reads k I.hok rl rx (by simpa only [PyData.plain] using hp)
  cases rl with
  | @lst a ws _ ha rv =>
    cases rx
    obtain ⟨its, rv', ⟨⟨cls, dd, data, sls⟩, n, ho, hc, hdn, hdt⟩, hlen⟩ := I.list (.inl (.inl (k _ _ ha)))
    simp only at hc hdt
    subst hc hdt
    cases r2 with
    | list h1 h2 h3 h4 =>
      rw [ho] at h1
      cases h1
      cases h3
      have hn : its.length = ds.length := by rw [← rv'.length, rv.length]
      have hmap : its.map (SeqAt.readOf s.heap) = ds := SeqAt.readsAll_map_plain ds its _ hp (by simpa using h4)
      have hsl := sizeLine_eq
      have hwd := rv.length
      obtain ⟨hjd, _⟩ := List.getElem?_eq_some_iff.mp hz
      have hj : j < its.toArray.size := by simp; omega
      have at_ : ∀ (m : Nat) (hm : m < its.toArray.size) (z' : D), ds[m]? = some z' → SeqAt.readOf s.heap its.toArray[m] = z' := by
        intro m hm z' hz'
        have hml : m < its.length := by simpa using hm
        rw [← hmap, List.getElem?_map, List.getElem?_eq_getElem hml] at hz'
        have e1 : SeqAt.readOf s.heap its[m] = z' := Option.some.inj (show some (SeqAt.readOf s.heap its[m]) = some z' from hz')
        simpa using e1
      refine call_meets PySem.F.slot_list_index ⟨_, ho, rfl⟩ PySem.F.entry_list_index (PySem.F.args_list_index_2 _ _)
        (SeqAt.list_indexAt a its.toArray n dd sls uy (fun u => PyData.eqv (SeqAt.readOf s.heap u) d) j hj (by omega) ?_ ?_) ⟨ho, SeqAt.items_plain h4 r1 hp hd hu, ?_⟩
      · show PyData.eqv (SeqAt.readOf s.heap its.toArray[j]) d = true
        rw [at_ j hj z hz]
        exact hzj
      · intro m hm hmj
        have hmd : m < ds.length := by omega
        have hz' : ds[m]? = some ds[m] := List.getElem?_eq_getElem hmd
        show PyData.eqv (SeqAt.readOf s.heap its.toArray[m]) d = false
        rw [at_ m hm _ hz']
        exact hno m _ hmj hz'
      · exact ⟨.int (j : Nat), H, I.tok _, ⟨_, rfl⟩, q⟩
/-- x.index(e), x a list -/
theorem je_idx {K : D → List Sl → Prop} {o e : Expr} {apos cpos : Pos} {k : Nat} (hr : Room k X.A) (h : JE X r o S fun d0 S0 => ∃ ds : List D, d0 = .list ds ∧ JE X r e S0 fun d1 S1 => ∃ (j : Nat) (z : D), (∀ d ∈ ds, Nice 50 d) ∧ Nice 50 d1 ∧ ds[j]? = some z ∧ PyData.eqv z d1 = true ∧ (∀ (m : Nat) (z' : D), m < j → ds[m]? = some z' → PyData.eqv z' d1 = false) ∧ K (.int (j : Nat)) S1)
    (hp : ∀ {rr : V → List V → Hp → VK → Prop}, MtR X "list.index" rr → PE X (.Call (.Attribute o "index" apos) [e] [] cpos) (tBM X.K "list" rr (tE X o) (tCons (tE X e) tNil)) := by exact fun hm => pe_bm PySem.F.plainAttrs_list PySem.F.slot_list_index PySem.F.type_list_index hm pe_tE (pa_cons pe_tE pa_nil)) :
    JE X r (.Call (.Attribute o "index" apos) [e] [] cpos) S K := fun c F σ H hr' E Q q =>
  of_pe (hp mt_idxD) (h c F σ H hr' E _ fun v0 d0 F0 H0 S0 h0 E0 k0 r0 => by
    obtain ⟨ds, rfl, h0⟩ := h0
    refine ⟨?_, h0 c F0 σ H0 hr' E0 _ fun v1 d1 F1 H1 S1 h1 E1 k1 r1 => ?_⟩
    · cases r0 with
      | @lst a ws _ ha rv => exact .inl ⟨rfl, _, .inl (.inl (E0.fin.fh _ _ ha))⟩
    · obtain ⟨j, z, n1, n2, hz, e1, e2, kk⟩ := h1
      refine ⟨F1, v1, d1, ds, j, z, rfl, E1.fin.fh, r0.ex k1, r1, plainAll_of fun d hd => (n1 d hd).pl, n2.pl, ?_, hz, e1, e2, q _ _ F1 H1 S1 kk E1 (k0.trans k1) (.int _)⟩
      have h50 : min (PyData.depthAll ds) d1.depth ≤ 50 := Nat.le_trans (Nat.min_le_right _ _) n2.dp
      have := units_le hr (n := 50) (by decide)
      omega)
/-- the same of a tuple known to have no dict -/
def tBMF (rr : V → List V → Hp → VK → Prop) (to : TE) (t : TA) : TE := fun σ H Q => to σ H fun x H1 => (∃ p o ys, x = .ref p ∧ H1 p = some (.frz o (.tup ys)) ∧ o.dict = none) ∧ t σ H1 fun xs H2 => rr x xs H2 Q
theorem pe_bmF {o e : Expr} {es : List Expr} {to : TE} {t : TA} {name : Str} {apos cpos : Pos} {id : String} {rr : V → List V → Hp → VK → Prop} (pa : PlainAttrs "tuple") (slot : Slot "tuple" name id) (hty : typeOf (.builtin id) = pure (.type "method_descriptor")) (hm : MtR X id rr) (ho : PE X o to) (ha : PA X (e :: es) t)
    (hbase : attributeBase o name X.env (eval o X.env) = eval o X.env := by rfl)
    (hfew : ((backTo cpos (starEach (e :: es) X.env)).all (fun x => !x.1) && (backToKw cpos (keywordEach [] X.env)).all (fun x => x.1.isSome)
      && decide ((e :: es).length + ([] : List Keyword).length + (if ([] : List Keyword).isEmpty then 0 else 1) < 30)) = true := by rfl)
    (hline : (apos.endLine == cpos.line) = true := by rfl) (hs : starEach (e :: es) X.env = (false, eval e X.env) :: starEach es X.env := by rfl) (hplain : (backTo cpos (starEach es X.env)).any (·.1) = false := by rfl) :
    PE X (.Call (.Attribute o name apos) (e :: es) [] cpos) (tBMF rr to t) := by
  refine ⟨fun pins s σ H Q I h => ?_⟩
  refine wpAny_Call_method_late hbase hfew hline rfl (thn (ho.run pins s σ H _ I h) fun v s1 ⟨x, H1, I1, r1, ty, q1⟩ => ?_)
  obtain ⟨p, ob, ys, rfl, hp, hod⟩ := ty
  obtain rfl : v = Value.ref p := r1
  obtain ⟨ho0, _, _, _, o', ho', hc, _⟩ := (show ObjOk X.prog X.w H1 s1.heap p (.frz ob (.tup ys)) from I1.hok _ _ hp)
  obtain rfl : ob = o' := Option.some.inj (ho0.symm.trans ho')
  refine ⟨"tuple", id, pa, slot, hty, ⟨_, ho0, hc⟩, fun a e2 => by cases e2; exact ⟨_, ho0, hod⟩, ?_⟩
  have hA := ha.run cpos pins s1 σ H1 _ I1 q1
  rw [hs] at hA ⊢
  refine Calls.callWith_builtin (by show (false || (backTo cpos (starEach es X.env)).any (·.1)) = false; rw [hplain] <;> rfl) (Calls.evalArgs_plain ?_)
  exact thn hA fun us s2 ⟨vs, H2, I2, r2, q2⟩ => hm pins s2 σ H2 (.ref p) vs _ us Q I2 rfl r2 q2
def rIdxF (X : Cx) : V → List V → Hp → VK → Prop := fun x xs H Q => ∃ (F : Hp) (y : V) (d : D) (ds : List D) (j : Nat) (z : D), xs = [y] ∧ Ex F H ∧ Rp F x (ft ds) ∧ Rp F y d ∧ PyData.plainAll ds = true ∧ d.plain = true ∧
  X.A.units + 1 + min (PyData.depthAll ds) d.depth < cLine ∧ ds[j]? = some z ∧ PyData.eqv z d = true ∧ (∀ (m : Nat) (z' : D), m < j → ds[m]? = some z' → PyData.eqv z' d = false) ∧ Q (.int (j : Nat)) H
theorem mt_idxF : MtR X "tuple.index" (rIdxF X) := by
  intro pins s σ H x xs v us Q I rx rxs h
  obtain ⟨F, y, d, ds, j, z, rfl, k, rl, ry, hp, hd, hu, hz, hzj, hno, q⟩ := h
  obtain ⟨uy, rfl, ruy⟩ := vals1 rxs
  obtain ⟨bs, r1⟩ := Rp.reads k I.hok ry ruy hd
  obtain ⟨as, r2⟩ := ft_reads k I.hok rl rx hp
  obtain ⟨a, ob, ws, rfl, ha, hod, rv⟩ := rp_ft rl
  cases rx
  obtain ⟨its, rv', ⟨⟨cls, dd, data, sls⟩, ho, hc, n, hdt⟩, hlen⟩ := I.tuple (.inl (.inr ⟨ob, k _ _ ha⟩))
  simp only at hc hdt
  subst hc hdt
  cases r2 with
  | tuple h1 h2 h3 h4 =>
    rw [ho] at h1
    cases h1
    cases h3
    have hn : its.length = ds.length := by rw [← rv'.length, rv.length]
    have hmap : its.map (SeqAt.readOf s.heap) = ds := SeqAt.readsAll_map_plain ds its _ hp (by simpa using h4)
    have hsl := sizeLine_eq
    have hwd := rv.length
    obtain ⟨hjd, _⟩ := List.getElem?_eq_some_iff.mp hz
    have hj : j < its.toArray.size := by simp; omega
    have at_ : ∀ (m : Nat) (hm : m < its.toArray.size) (z' : D), ds[m]? = some z' → SeqAt.readOf s.heap its.toArray[m] = z' := by
      intro m hm z' hz'
      have hml : m < its.length := by simpa using hm
      rw [← hmap, List.getElem?_map, List.getElem?_eq_getElem hml] at hz'
      have e1 : SeqAt.readOf s.heap its[m] = z' := Option.some.inj (show some (SeqAt.readOf s.heap its[m]) = some z' from hz')
      simpa using e1
    refine call_meets PySem.F.slot_tuple_index ⟨_, ho, rfl⟩ PySem.F.entry_tuple_index (PySem.F.args_tuple_index_2 _ _)
      (TI.tuple_indexAt a its.toArray n dd sls uy (fun u => PyData.eqv (SeqAt.readOf s.heap u) d) j hj ?_ ?_) ⟨ho, SeqAt.items_plain h4 r1 hp hd hu, ?_⟩
    · show PyData.eqv (SeqAt.readOf s.heap its.toArray[j]) d = true
      rw [at_ j hj z hz]
      exact hzj
    · intro m hm hmj
      have hmd : m < ds.length := by omega
      have hz' : ds[m]? = some ds[m] := List.getElem?_eq_getElem hmd
      show PyData.eqv (SeqAt.readOf s.heap its.toArray[m]) d = false
      rw [at_ m hm _ hz']
      exact hno m _ hmj hz'
    · exact ⟨.int (j : Nat), H, I.tok _, ⟨_, rfl⟩, q⟩
/-- x.index(e), x a tuple known to have no dict -/
theorem je_idxF {K : D → List Sl → Prop} {o e : Expr} {apos cpos : Pos} {k : Nat} (hr : Room k X.A) (h : JE X r o S fun d0 S0 => ∃ ds : List D, d0 = ft ds ∧ JE X r e S0 fun d1 S1 => ∃ (j : Nat) (z : D), (∀ d ∈ ds, Nice 50 d) ∧ Nice 50 d1 ∧ ds[j]? = some z ∧ PyData.eqv z d1 = true ∧ (∀ (m : Nat) (z' : D), m < j → ds[m]? = some z' → PyData.eqv z' d1 = false) ∧ K (.int (j : Nat)) S1)
    (hp : ∀ {rr : V → List V → Hp → VK → Prop}, MtR X "tuple.index" rr → PE X (.Call (.Attribute o "index" apos) [e] [] cpos) (tBMF rr (tE X o) (tCons (tE X e) tNil)) := by exact fun hm => pe_bmF PySem.F.plainAttrs_tuple PySem.F.slot_tuple_index PySem.F.type_tuple_index hm pe_tE (pa_cons pe_tE pa_nil)) :
    JE X r (.Call (.Attribute o "index" apos) [e] [] cpos) S K := fun c F σ H hr' E Q q =>
  of_pe (hp mt_idxF) (h c F σ H hr' E _ fun v0 d0 F0 H0 S0 h0 E0 k0 r0 => by
    obtain ⟨ds, rfl, h0⟩ := h0
    refine ⟨?_, h0 c F0 σ H0 hr' E0 _ fun v1 d1 F1 H1 S1 h1 E1 k1 r1 => ?_⟩
    · obtain ⟨a, ob, ws, rfl, ha, hod, rv⟩ := rp_ft r0
      exact ⟨a, ob, ws, rfl, E0.fin.fh _ _ ha, hod⟩
    · obtain ⟨j, z, n1, n2, hz, e1, e2, kk⟩ := h1
      refine ⟨F1, v1, d1, ds, j, z, rfl, E1.fin.fh, r0.ex k1, r1, plainAll_of fun d hd => (n1 d hd).pl, n2.pl, ?_, hz, e1, e2, q _ _ F1 H1 S1 kk E1 (k0.trans k1) (.int _)⟩
      have h50 : min (PyData.depthAll ds) d1.depth ≤ 50 := Nat.le_trans (Nat.min_le_right _ _) n2.dp
      have := units_le hr (n := 50) (by decide)
      omega)
/-! ### {k: v} -/
theorem jdisp1 {K : OB → List Sl → Prop} {ke ve : Expr} {pos : Pos} {k0 : Nat} (hr : Room k0 X.A) (h : JE X r ke S fun d1 S1 => JE X r ve S1 fun d2 S2 => ∃ ky, d1 = tupI ky ∧ K (.d [(ky, d2)]) S2) : JO X r (.Dict [some ke] [ve] pos) S K := fun c F σ H hr' E Q q pins s I => by
  have hn := I.hok.fresh (Nat.le_refl s.heap.objs.size)
  have I1 := I.laid (a := s.heap.objs.size) (o := .dT []) (h' := s.heap.push { cls := .type "dict", data := .dict #[] }) (t' := s.toks) (fun _ _ q => Heap.get?_push_of_some _ q) (Nat.le_refl _) (dt_empty s.heap I.big)
  obtain ⟨hh, E1, hp, hv, nF, nB, ns, no⟩ := newL_ob (h := .dT []) (o := .d []) E hn .nil
  rw [upd_same] at hp
  cases hp
  have E2 := E1.hold (vs := .dT []) upd_same nF ns no
  have hsh : (evalEachOpt [some ke] X.env).zip ((evalEach [ve] X.env).map fun v => do let x ← v; standAt pos; pure x) = (pairTrees [some ke] [ve] X.env pos).map fun p => (some p.1, p.2) := zip_pairTrees _ _ _ _ rfl rfl
  rw [arm_eval_Dict, hsh, dictDisplay_pairs (pairTrees [some ke] [ve] X.env pos) (by intro z; cases z) (by show 1 < _; decide)]
  refine wpAny_bind (wpAny_standAt (wpAny_bind (wpAny_subDictH (knd := tupleKind (mixKind X.prog X.w)) (by show X.A.units < cLine; have := hr.un; omega) (by show 1 ≤ 15; decide) ?_)))
  refine thn ((pps_cons pe_tE pe_tE pps_nil : PPs X pos [some ke] [ve] _).run pins _ σ _ (fun ps H2 => ∃ ky d2 v1 v2 F2 S2, ps = [(v1, v2)] ∧ K (.d [(ky, d2)]) S2 ∧ EvD (c.hold s.heap.objs.size (.dT [])) S2 F2 σ H2 ∧ Ex F F2 ∧ Rp F2 v1 (tupI ky) ∧ Rp F2 v2 d2) I1
    (h (c.hold s.heap.objs.size (.dT [])) F σ _ (r.st _ _ _ nB hr') E2 _ fun v1 d1 F1 H1 S1 h1 E3 k1 r1 => h1 (c.hold s.heap.objs.size (.dT [])) F1 σ H1 (r.st _ _ _ nB hr') E3 _ fun v2 d2 F2 H2 S2 h2 E4 k2 r2 => by
      obtain ⟨ky, rfl, kk⟩ := h2
      exact ⟨ky, d2, v1, v2, F2, S2, rfl, kk, E4, k1.trans k2, r1.ex k2, r2⟩)) fun ws s2 ⟨ps, H2, I2, rel, ky, d2, v1, v2, F2, S2, eps, kk, E4, kF, r1, r2⟩ => ?_
  subst eps
  cases rel with
  | @cons p0 q0 _ _ hrel t =>
  cases t
  obtain ⟨u1, u2⟩ := q0
  obtain ⟨b, rfl, hb⟩ := rp_tupI r1
  have hbH := E4.fin.fh _ _ hb
  have hr1 : u1 = Value.ref b := hrel.1
  subst hr1
  have hB : H2 s.heap.objs.size = some (.dT []) := E4.fin.bh _ _ upd_same
  obtain ⟨z1, d1, xs1, rel1, dd1⟩ := dt_of I2.hok hB
  cases rel1
  refine ⟨[(kI ky, b, u2)], ⟨rfl, rfl, key_of I2.hok hbH, True.intro⟩, dd1, fun h' tk hd' hs => wpAny_pure ?_⟩
  have he : ∃ q, h'.get? s.heap.objs.size = some q := let ⟨q, _, _, hq, _⟩ := hd'; ⟨q, hq⟩
  obtain ⟨o, es, ep, g1, g2, g3, g4, _, g5⟩ := hd'
  have rel2 : KT H2 [(kI ky, v2)] [(kI ky, b, u2)] := .cons ⟨rfl, hbH, hrel.2⟩ .nil
  have nF0 : c.F0 s.heap.objs.size = none := E.fin.f0.back nF
  obtain ⟨E7, h7, f7, s7, o7⟩ := E4.unhold (vs := .dT []) (fun _ z => nomatch z) nB nF0
  refine ⟨.ref s.heap.objs.size, upd H2 s.heap.objs.size (.dT [(kI ky, v2)]), d_write (t' := tk) (ob := .dT [(kI ky, v2)]) I2 (by rw [hB]; exact True.intro) hs he ⟨by show 1 ≤ sizeLine; decide, d1, _, (KT.merge rel2 .nil).keeps fun x ys ex => ?_, o, es, ep, g1, g2, g3, g4, g5⟩, rfl, ?_⟩
  · rw [upd_ne (ne_of ex hB (fun z => nomatch z))]
    exact ex
  · exact q s.heap.objs.size (.d [(ky, d2)]) F2 _ S2 kk ⟨.dT [(kI ky, v2)], E7.put f7 nB s7 o7, upd_same, (RpK.cons r2 .nil : RpK F2 [((ky.map Sum.inl), v2)] [(ky, d2)]), f7, nB, s7, o7⟩ kF
/-! ### enumerate of a tuple -/
theorem meets_enumerate_newB1 {v : Value} {o : Obj} {H : Heap → Prop} (B : Begins v o H) :
    Meets (Builtin.«enumerate.__new__» ⟨[.type "enumerate", v], []⟩) (fun _ R s => H s.heap ∧
      R (.ok (.ret (.ref (s.heap.push o).objs.size))) { s with heap := (s.heap.push o).push { cls := .type "enumerate", data := .fields #[.none, .bool false, .ref s.heap.objs.size, rawInt 0, .none, .none] } }) :=
  .of_wp fun prog w A R s h => by
    obtain ⟨hp, g, d, tk, os⟩ := s; obtain ⟨h1, h⟩ := h
    have hsub := sub_enumerate
    have q1 : ∀ {A' : Around} {E : Value → Shared → Prop} {Q : Value → Shared → Prop}, Q (.ref hp.objs.size) ⟨hp.push o, g, d, tk, os⟩ → wpAny (model prog w) A' (pyIter v) Q E ⟨hp, g, d, tk, os⟩ :=
      fun q => B.iter prog w _ _ ⟨hp, g, d, tk, os⟩ _ h1 q
    wp_walk using q1
    refine wpAny_stack_any fun st => wpAny_pure ?_
    split
    · rename_i c _ _ _ _ _
      cases (c == Value.type "enumerate")
      · wp_walk using q1
        exact ⟨_, rfl, h⟩
      · wp_walk using q1
        exact ⟨_, rfl, h⟩
    · wp_walk using q1
      exact ⟨_, rfl, h⟩
theorem call_enumerate_B1 {prog : Program} {w : World} {A : Around} {E : Value → Shared → Prop} {s : Shared} {v : Value} {o : Obj} {H : Heap → Prop} {Q : Value → Shared → Prop} (B : Begins v o H) (h1 : H s.heap)
    (h : ∀ h', IsEnum h' (s.heap.objs.size + 1) s.heap.objs.size 0 .none → h'.get? s.heap.objs.size = some o → h'.objs.size = s.heap.objs.size + 2 →
      (∀ b o, s.heap.get? b = some o → h'.get? b = some o) → Q (.ref (s.heap.objs.size + 1)) { s with heap := h' }) :
    wpAny (model prog w) A (call (.type "enumerate") [v]) Q E s := by
  refine callType_new PySem.F.called_enumerate (by decide) (PySem.F.typeCall_enumerate_1 _) (PySem.F.newCall_enumerate_1 _) (fun obj => PySem.F.args_object_init_2 obj _) PySem.F.entry_enumerate_new
    (meets_enumerate_newB1 B) ⟨h1, ?_⟩
  have hz : (s.heap.push o).objs.size = s.heap.objs.size + 1 := Heap.size_push ..
  show _ ∧ _
  rw [hz]
  have he : IsEnum ((s.heap.push o).push { cls := .type "enumerate", data := .fields #[.none, .bool false, .ref s.heap.objs.size, rawInt 0, .none, .none] }) (s.heap.objs.size + 1) s.heap.objs.size 0 .none := by
    have := Heap.get?_push_size (s.heap.push o) (o := { cls := .type "enumerate", data := .fields #[.none, .bool false, .ref s.heap.objs.size, rawInt 0, .none, .none] }) rfl
    rw [hz] at this; exact this
  refine ⟨⟨_, he, rfl⟩, h _ he (Heap.get?_push_of_some _ (Heap.get?_push_size _ B.free)) (by rw [Heap.size_push, hz]) fun b o x => Heap.get?_push_of_some _ (Heap.get?_push_of_some _ x)⟩
def IteT (a : Addr) : It :=
  ⟨fun i H => ∃ (xs : List V) (x : V), Rd H a (.tup xs) ∧ xs[i]? = some x, fun i H v H' => ∃ T x, v = .ref T ∧ H T = none ∧ H' = upd H T (.tup [.int (i : Nat), x]) ∧ ∀ xs, Rd H a (.tup xs) → xs[i]? = some x, fun i H => ∃ xs : List V, Rd H a (.tup xs) ∧ xs.length ≤ i⟩
theorem rd_ne {H : Hp} {a b : Addr} {u : HO} (h : Rd H a u) (n : H b = none) : a ≠ b := fun e => by
  subst e
  rcases h with h | ⟨o, h⟩ <;> rw [n] at h <;> cases h
theorem rd_inj {H : Hp} {a : Addr} {xs ys : List V} (h1 : Rd H a (.tup xs)) (h2 : Rd H a (.tup ys)) : xs = ys := by
  rcases h1 with h1 | ⟨o1, h1⟩ <;> rcases h2 with h2 | ⟨o2, h2⟩ <;> rw [h1] at h2 <;> cases h2 <;> rfl
theorem turn_enumT {P : Program} {w : World} {K : PySem.W.Frag} {elts : List Expr} {kk : Nat} {tpos : Pos} (a e it : Addr) :
    Turn P w K (.Tuple elts kk tpos) (IteT a) [e, it] e (fun i h => (∃ old, IsEnum h e it ((i : Nat) : Int) old) ∧ h.IsTupleIter it a i ∧ e ≠ it) where
  mem := by simp
  obj := fun i h st b hb => by
    obtain ⟨⟨old, he⟩, ⟨o, ho, hc, hd⟩, _⟩ := st
    have e' : b = e ∨ b = it := by simpa using hb
    rcases e' with z | z
    · rw [z]; exact ⟨_, he, fun v q => nomatch q⟩
    · rw [z]; exact ⟨o, ho, fun v q => by rw [hd] at q; cases q⟩
  keep := fun i h h' st k => let ⟨⟨old, he⟩, hi, hne⟩ := st; ⟨⟨old, k e (by simp) _ he⟩, hi.at fun o q => k it (by simp) o q, hne⟩
  item := by
    intro X hP hw hK hc i pins s σ H E I hf st hg
    subst hP hw hK
    obtain ⟨⟨old, he⟩, hit, hne⟩ := st
    obtain ⟨xs, x, hq, hx⟩ := hg
    obtain ⟨its, rv, p, hz⟩ := I.tuple (.inl hq)
    obtain ⟨u, hu, ru⟩ := rv.get hx
    have hel : e < s.heap.objs.size := Heap.lt_size he
    have hil : it < s.heap.objs.size := by obtain ⟨_, q, _⟩ := hit; exact Heap.lt_size q
    have hae : a ≠ e := rd_ne hq (hf e (by simp)).1
    have hai : a ≠ it := rd_ne hq (hf it (by simp)).1
    have Dr : Draws X.prog X.w X.A.in1 it [it, a] its.toArray.size (fun i v => its.toArray[i]? = some v) (fun i h => h.IsTupleIter it a i ∧ h.IsTuple a its.toArray) := Draws.tuple (A := X.A.in1) (show X.A.in1.handled = none from I.ok.hd hc) it a hai its.toArray
    have hlt : i < its.toArray.size := by
      have := (List.getElem?_eq_some_iff.mp hu).1
      simpa using this
    refine wpAny_pyNext_enum_itemC Dr he ⟨hit, p⟩ hlt hne (by simp only [List.mem_cons, List.not_mem_nil, or_false]; rintro (z | z); exact hne z; exact hae z.symm) fun x' h' tk hP ho hst' hT hsz hk => ?_
    obtain rfl : u = x' := by
      have : its.toArray[i]? = some u := by simpa using hu
      rw [this] at hP
      exact Option.some.inj hP
    refine ⟨_, rfl, wpAny_letOwnedTupleGo_enum (s := { s with heap := h', toks := tk + 1 }) ho fun h'' he' sb => ?_⟩
    have hT2 : h''.get? s.heap.objs.size = some { cls := .type "tuple", data := .seq #[.int i tk, u] } := (sb.2 _ (Nat.ne_of_gt hel)).trans hT
    have new : ObjOk X.prog X.w (upd H s.heap.objs.size (.tup [.int (i : Nat), x])) h'' s.heap.objs.size (.tup [.int (i : Nat), x]) :=
      ⟨by show 2 ≤ sizeLine; decide, [.int i tk, u], .cons ⟨_, rfl⟩ (.cons ru .nil), ⟨_, hT2, rfl, _, rfl⟩⟩
    have I1 : Inv X pins σ (upd H s.heap.objs.size (.tup [.int (i : Nat), x])) { s with heap := h'', toks := tk + 1 } :=
      I.turnedNew (ch := [e, it]) (fun b ob hb q => (sb.2 b (fun z => hb (by simp [z]))).trans (hk b ob (fun z => hb (by simp [z])) (fun z => hb (by simp [z])) q)) hf (Nat.le_refl _) new
    refine ⟨.ref s.heap.objs.size, _, I1, rfl, ⟨_, x, rfl, I.hok.fresh (Nat.le_refl _), rfl, fun ys hy => by rw [rd_inj hy hq]; exact hx⟩, ⟨⟨u, ?_⟩, hst'.1.at fun o q => (sb.2 it (Ne.symm hne)).trans q, hne⟩, fun b hb => ?_⟩
    · have e1 : ((i + 1 : Nat) : Int) = (i : Int) + 1 := by omega
      rw [e1]; exact he'
    · have hb' : b < s.heap.objs.size := by
        have e' : b = e ∨ b = it := by simpa using hb
        rcases e' with z | z
        · rw [z]; exact hel
        · rw [z]; exact hil
      rw [upd_ne (Nat.ne_of_lt hb')]
      exact (hf b hb).1
  done := by
    intro X hP hw hK hc i pins s σ H E I hf st hg
    subst hP hw hK
    obtain ⟨⟨old, he⟩, hit, hne⟩ := st
    obtain ⟨xs, hq, hx⟩ := hg
    obtain ⟨its, rv, p, hz⟩ := I.tuple (.inl hq)
    obtain ⟨f0, f1, f2, f3, f4, f5⟩ := hf it (by simp)
    have hl := rv.length
    have hT : s.TypeIs (.ref e) "enumerate" := ⟨_, he, rfl⟩
    unfold pyNext
    refine wpAny_bind (wpAny_attempt (wpAny_callSpecial?_slot (name := Str.ofString "__next__") hT PySem.F.slot_enumerate_next
      (wpAny_call_entry PySem.F.slot_enumerate_next hT PySem.F.entry_enumerate_next ?_ (PySem.F.args_enumerate_next_1 _))))
    show wpAny _ _ (field (.ref e) 2 >>= _) _ _ _
    refine wpAny_bind (wpAny_field he rfl (x := .ref it) rfl ?_)
    refine wpAny_bind (wpAny_nextOf_tuple_end (show X.A.in1.handled = none from I.ok.hd hc) hit p (by simp; omega) fun h' x he' hx' => ?_)
    obtain ⟨o, ho, hc'⟩ := hx'
    refine wpAny_bind (wpAny_isInstance (T := "StopIteration") (b := true) ⟨o, ho, hc'⟩ isSubtype_stop ?_)
    exact wpAny_pure ⟨rfl, I.turned (t' := s.toks) (fun b o hb q => he' b o hb q) f0 f1 f3 f4 f5⟩
  self := fun A i s Q E st h => let ⟨⟨_, he⟩, _⟩ := st; wpAny_pyIter_enum he h
def iEnumT (ta : TA) : TI := fun σ H R => ta σ H fun vs H1 => ∃ a xs, vs = [.ref a] ∧ Rd H1 a (.tup xs) ∧ R (IteT a) H1
theorem pi_enumT {e : Expr} {ta : TA} {p pos tpos : Pos} {elts : List Expr} {kk : Nat} (hg : Gl X "enumerate") (hm : X.mg "enumerate" = none) (ha : PA X [e] ta) (hs : starEach [e] X.env = [(false, eval e X.env)] := by rfl) :
    PI X (.Tuple elts kk tpos) (.Call (.Name "enumerate" p) [e] [] pos) (iEnumT ta) := by
  refine ⟨fun pins s σ H R I h => ?_⟩
  refine Call_ (ld_blt I hg hm boot_enumerate (PyProof.Rows.callWith_type1 (thn (ha.run _ pins s σ H _ I h) fun us s1 ⟨vs, H1, I1, r1, q1⟩ => ?_) hs rfl))
  obtain ⟨a, xs, ex, hq, q⟩ := q1
  subst ex
  cases r1 with
  | cons r rr =>
    cases rr
    cases r
    obtain ⟨its, rv, p', hz⟩ := I1.tuple (.inl hq)
    refine call_enumerate_B1 (begins_tuple a its.toArray) p' fun h' he hit hsz hk => wpAny_pyIter_enum he ?_
    have I2 : Inv X pins σ H1 { s1 with heap := h' } := I1.kept (t' := s1.toks) hk
    refine ⟨s1.heap.objs.size + 1, [s1.heap.objs.size + 1, s1.heap.objs.size], _, _, H1, rfl, I2, turn_enumT a (s1.heap.objs.size + 1) s1.heap.objs.size, ⟨⟨.none, he⟩, ⟨_, hit, rfl, rfl⟩, Nat.succ_ne_self _⟩, fun b hb => ?_, q⟩
    have e' : b = s1.heap.objs.size + 1 ∨ b = s1.heap.objs.size := by simpa using hb
    have hle : s1.heap.objs.size ≤ b := by
      rcases e' with z | z
      · rw [z]; exact Nat.le_add_right _ _
      · rw [z]; exact Nat.le_refl _
    exact I1.fpOk hle (I1.hok.fresh hle)
theorem itet_d {B F : Hp} {a : Addr} {vs : List V} {ds : List D} (h : Rd F a (.tup vs)) (rv : RpA F vs ds) : ItD (IteT a) B F (enumD ds) := by
  have up : ∀ {H : Hp}, Ex F H → Rd H a (.tup vs) := fun k => h.elim (fun h => .inl (k _ _ h)) fun ⟨o, h⟩ => .inr ⟨o, k _ _ h⟩
  have hl : (enumD ds).length = ds.length := by unfold enumD; rw [List.length_map, List.length_range]
  refine ⟨fun i H kb k hi => ⟨vs, up k, by rw [rv.length, ← hl]; exact hi⟩, fun i H kb k hi => ?_, fun i H x H' kb k y hi => ?_⟩
  · rw [hl] at hi
    obtain ⟨v, e, _⟩ := rv.get' (i := i) (List.getElem?_eq_getElem hi)
    exact ⟨vs, v, up k, e⟩
  · obtain ⟨T, z, rfl, nT, rfl, f⟩ := y
    obtain ⟨d, e1, e2⟩ := rv.get (f vs (up k))
    rw [hl] at hi
    refine .inr (.inl ⟨T, _, [.int (i : Nat), d], rfl, nT, rfl, .cons (.int _) (.cons e2 .nil), ?_⟩)
    unfold enumD
    rw [List.getElem?_map, List.getElem?_range hi]
    show some (PyData.tuple [.int (i : Nat), ds.getD i .none]) = _
    rw [List.getD_eq_getElem?_getD, e1]; rfl
/-- enumerate(x), x a tuple known to have no dict -/
theorem jenumF {e : Expr} {p pos tpos : Pos} {elts : List Expr} {kk : Nat} {K : List D → List Sl → Prop} (hm : X.mg "enumerate" = none) (h : JE X r e S fun d S1 => ∃ ds, d = ft ds ∧ K (enumD ds) S1) (hg : Gl X "enumerate" := by rfl) (hs : starEach [e] X.env = [(false, eval e X.env)] := by rfl) : JI X r (.Tuple elts kk tpos) (.Call (.Name "enumerate" p) [e] [] pos) S K :=
  fun c F σ H hr E R q => of_pi (pi_enumT hg hm (pa_cons pe_tE pa_nil hs) hs) (h c F σ H hr E _ fun v d F1 H1 S1 h1 E1 k1 r1 => by
    obtain ⟨ds, rfl, kd⟩ := h1
    obtain ⟨a, o, xs, rfl, ha, _, hv⟩ := rp_ft r1
    exact ⟨_, xs, rfl, .inr ⟨o, E1.fin.fh _ _ ha⟩, q _ _ F1 H1 S1 kd E1 k1 (itet_d (.inr ⟨o, ha⟩) hv)⟩)
end
end DL

/-! DL: exceptions: raise of a class of the program's own, a def that may raise, try .. except. -/
namespace DL
open PySem L2 PySem.Spec PyProof.Rows
/-! ### raise -/
/-- what is known of the program's exception class at C -/
structure OwnExc (K : PySem.W.Frag) (mg : Str → Option Value) (x : Str) (C : Addr) : Prop where
  g : mg x = some (.ref C)
  k : PySem.W.keepIn K (.ref C) = true
  q : PySem.W.excIn K C [.type "ValueError", .type "Exception", .type "BaseException", .type "object"] "ValueError.__new__" = true
  s : PySem.W.subIn K (.ref C) (.type "BaseException") = some true
  t : PySem.W.typeIn K (.ref C) = some (.type "type")
  m : PySem.W.exmOne K (.ref C) (.ref C) = some true
section
variable {X : Cx} {r : SR} {S : List Sl}
theorem pmk_own0 {x : Str} {C : Addr} {p pos : Pos} (O : OwnExc X.K X.mg x C) (hg : Gl X x := by rfl) (hdb : (x == ("__debug__" : Str)) = false := by decide) : PMk X (.Call (.Name x p) [] [] pos) (fun _ H Q => Q (.ref C) none H) := by
  intro pins s σ H Q I h
  refine wpAny_Call_Name_kw (ld_glob I hg O.g ?_ hdb)
  refine PySem.W.callWith_K0 I.kIn O.k ?_
  show wpAny _ _ (call (.ref C) []) _ _ _
  obtain ⟨bm, N, nm, qn, bs, hdct, sn, sub, ab, col, dd, k0, k1, k2, k3, k5, mN, hC, hN, hni, T⟩ := exc_obj I.kIn O.q
  refine wpAny_call_exc_subT PySem.F.excBase_ValueError T hC hN hni (fun h' e hm => ?_) (by show 0 ≤ sizeLine; exact Nat.zero_le _)
  exact mk_of I hm (raises_own O.s O.t) h (I.hok.gone hm.new)
/-- where an exception of a class may be let out, the slots being as they are -/
def LetOut (X : Cx) (r : SR) (W : WX) (KE : Value → List Sl → Prop) : Prop := ∀ cls dd (c : C) S' F' σ' H', KE cls S' → r.q c → EvD c S' F' σ' H' → W cls dd σ' H'
theorem js_raise {e : Expr} {pos : Pos} {E : DE} {C : Addr} {W : WX} {KE : Value → List Sl → Prop} (hc : X.calm = true) (tk : Takes X W) (he : PMk X e (fun _ H Q => Q (.ref C) none H)) (lo : LetOut X r W KE) (k : KE (.ref C) S) : JS X r (.Raise (some e) none pos) S E :=
  fun c F σ H hr Ev G g => of_ps (ps_raise hc tk he) (lo _ _ c S F σ H k hr Ev)
theorem jraise {x : Str} {p cpos pos : Pos} {E : DE} {C : Addr} {W : WX} {rest : List Stmt} {KE : Value → List Sl → Prop} (tk : Takes X W) (O : OwnExc X.K X.mg x C) (lo : LetOut X r W KE) (k : KE (.ref C) S) (hc : X.calm = true := by rfl) (hg : Gl X x := by rfl) (hdb : (x == ("__debug__" : Str)) = false := by decide) :
    JSs X r (.Raise (some (.Call (.Name x p) [] [] cpos)) none pos :: rest) S E := jss_cons (js_raise hc tk (pmk_own0 O hg hdb) lo k)
/-! ### a def that may raise -/
def SpX (φ : List Ar → (D → Prop) → (Value → Prop) → Prop) : Sp := fun vs H Q XE => ∃ (c : C) (as : List Ar) (K : D → Prop) (KE : Value → Prop), Fin c c.F0 H ∧ ArA c c.F0 vs as ∧ φ as K KE ∧ (∀ v d F' H', K d → Fin c F' H' → Rp F' v d → Q v H') ∧ ∀ cls dd F' H', KE cls → Fin c F' H' → XE cls dd H'
end
section
variable {P : Program} {w : World} {K : PySem.W.Frag} {mg : Str → Option Value} {base : Heap}
theorem fn_X {x qual : Str} {st : Stmt} {f : Addr} {fd : FuncData} {N ps : List Str} {k : Nat} {φ : List Ar → (D → Prop) → (Value → Prop) → Prop} (F : Fun K x qual st f fd) (Sc : FnScope N ps (defScope st)) (len : ∀ as Kd KE, φ as Kd KE → as.length = ps.length)
    (hbody : ∀ (as : List Ar) (Kd : D → Prop) (KE : Value → Prop) (r : SR) (cdv : Value) (A : Around) (outer : List PySem.Env) (s : Shared) (H : Hp) (E : XK), Room k (A.deeper (PyProof.Rows.envOfC qual (defScope st) s.heap.objs.size f cdv)) → φ as Kd KE →
      Takes (cxOf (L2.CX P w) P w K mg base N qual (defScope st) f cdv A outer s H E) (fun cls d _ H => E cls d H) →
      PassesOwn (model P w) (cxOf (L2.CX P w) P w K mg base N qual (defScope st) f cdv A outer s H E).A (cxOf (L2.CX P w) P w K mg base N qual (defScope st) f cdv A outer s H E).env (cxOf (L2.CX P w) P w K mg base N qual (defScope st) f cdv A outer s H E).xe →
      LetOut (cxOf (L2.CX P w) P w K mg base N qual (defScope st) f cdv A outer s H E) r (fun cls d _ H => E cls d H) (fun cls _ => KE cls) →
      JSs (cxOf (L2.CX P w) P w K mg base N qual (defScope st) f cdv A outer s H E) r (defBody st) (startS N as) { nx := fun _ => Kd .none, rt := Kd }) : FnOk P w K mg base (L2.CX P w) (k + 1) f fd ps (SpX φ) := by
  refine F.okX Sc (fun vs H Q E h => ?_) (fun cdv A outer s H vs Q E hr h => ?_)
  · obtain ⟨c, as, Kd, KE, fn, ra, hφ, _⟩ := h
    rw [ra.length]; exact len as Kd KE hφ
  · obtain ⟨c, as, Kd, KE, fn, ra, hφ, q, qe⟩ := h
    refine ⟨_, pss_tSs, hbody as Kd KE (srL c) cdv A outer s H E hr hφ (takes_of rfl rfl rfl rfl) (passes_of rfl) (fun cls dd c' S' F' σ' H' ke hq Ev => qe cls dd F' H' ke (srL_fin hq Ev.fin)) c c.F0 _ H (srL_refl c) (env_start fn ra) _ ⟨fun F' σ' H' S' a E' k' => q .non .none F' H' a E'.fin .non, fun v d F' H' a fn' rp => q v d F' H' a fn' rp, fun _ _ _ _ a => a.elim, fun _ _ _ _ a => a.elim⟩⟩
end
/-! ### its call -/
section
variable {X : Cx} {r : SR} {S : List Sl}
theorem run_fnAt {CX : CXT} {k : Nat} {f : Addr} {fd : FuncData} {ps : List Str} {sp : Sp} {E : XK} {pins : List (Addr × Obj)} {σ : L2.St} {H : Hp} {s : Shared} {Q : VK} {us : List Value} {vs : List V} (F : FnOk X.prog X.w X.K X.mg X.base CX k f fd ps sp) (hr : Room k X.A) (hb : Binds X.K fd ps []) (hx : ∀ e s', CX X.stack H s E e s' → X.xe e s')
    (I : Inv X pins σ H s) (rr : Vals vs us) (h : sp vs H Q E) : wpAny (model X.prog X.w) X.A (call (.ref f) us) (EP X pins σ Q) X.xe s := by
  have hl : us.length = ps.length := by rw [← rr.length]; exact F.len _ _ _ _ h
  have hb' := hb s us I.kIn (by rw [List.append_nil]; exact hl)
  rw [List.append_nil] at hb'
  refine wpAny_call (codeAny_mono (F.run X.A X.stack s H ⟨us, []⟩ us vs Q E hr I.env0 hb' rr h) fun r s' hq => ?_)
  cases r with
  | error e => exact hx e s' hq
  | ok fl =>
    cases fl with
    | ret u => exact I.after hq
    | next => exact False.elim hq
    | brk => exact False.elim hq
    | cont => exact False.elim hq
theorem sp_callX {φ : List Ar → (D → Prop) → (Value → Prop) → Prop} {c : C} {F : Hp} {σ : L2.St} {H : Hp} {vs : List V} {as : List Ar} {Q : VK} {XE : XK} {K : D → Prop} {KE : Value → Prop} (E : EvD c S F σ H) (ra : ArA c F vs as) (h : φ as K KE)
    (q : ∀ v d F' H', K d → EvD c S F' σ H' → Ex F F' → Rp F' v d → Q v H') (qe : ∀ cls dd F' H', KE cls → EvD c S F' σ H' → Ex F F' → XE cls dd H') : SpX φ vs H Q XE := by
  have ns : ∀ a, (∃ p, c.sr = some p ∧ (a = p.1 ∨ a = p.2)) → F a = none ∧ c.B a = none := fun a ⟨p, ep, z⟩ => by
    obtain ⟨_, n1, n2, b1, b2⟩ := E.fin.src p ep
    rcases z with z | z <;> subst z
    · exact ⟨n1, b1⟩
    · exact ⟨n2, b2⟩
  let B' : Hp := fun a => match c.sr with
    | none => H a
    | some p => if a = p.1 ∨ a = p.2 then none else H a
  have hB : ∀ a o, B' a = some o → H a = some o := fun a o e => by
    show H a = some o
    cases hs : c.sr with
    | none => simp only [B', hs] at e; exact e
    | some p =>
      simp only [B', hs] at e
      by_cases z : a = p.1 ∨ a = p.2
      · rw [if_pos z] at e; cases e
      · rw [if_neg z] at e; exact e
  have hB2 : ∀ a, (∀ p, c.sr = some p → a ≠ p.1 ∧ a ≠ p.2) → B' a = H a := fun a z => by
    cases hs : c.sr with
    | none => simp only [B', hs]
    | some p =>
      obtain ⟨z1, z2⟩ := z p hs
      simp only [B', hs]
      rw [if_neg (by intro q; rcases q with q | q; exact z1 q; exact z2 q)]
  have back : ∀ F' H', Fin ⟨B', F, c.sr⟩ F' H' → EvD c S F' σ H' ∧ Ex F F' := fun F' H' fn => by
    have kF : Ex F F' := fn.f0
    refine ⟨?_, kF⟩
    have hk : ∀ a o, (∀ p, c.sr = some p → a ≠ p.1 ∧ a ≠ p.2) → H a = some o → H' a = some o ∧ (F' a = F a ∨ ∃ xs, o = .tup xs) := fun a o z e => by
      have e' : B' a = some o := by rw [hB2 a z]; exact e
      exact ⟨fn.bh a o e', fn.bf a o e'⟩
    have hcB : ∀ a o, c.B a = some o → (∀ p, c.sr = some p → a ≠ p.1 ∧ a ≠ p.2) := fun a o e p ep => by
      obtain ⟨_, _, _, b1, b2⟩ := E.fin.src p ep
      exact ⟨fun z => (by rw [z, b1] at e; cases e), fun z => (by rw [z, b2] at e; cases e)⟩
    refine ⟨⟨E.fin.f0.trans kF, fn.fh, fun a o e => (hk a o (hcB a o e) (E.fin.bh a o e)).1, fun a o e => ((hk a o (hcB a o e) (E.fin.bh a o e)).2).elim (fun z => (E.fin.bf a o e).elim (fun y => .inl (z.trans y)) .inr) .inr, fun p ep => ?_⟩, E.len, fun i s e => ?_, E.ds⟩
    · obtain ⟨s, n1, n2, _, _⟩ := fn.src p ep
      obtain ⟨_, _, _, b1, b2⟩ := E.fin.src p ep
      exact ⟨s, n1, n2, b1, b2⟩
    · obtain ⟨x, e1, rr⟩ := E.sl i s e
      refine ⟨x, e1, ?_⟩
      cases s with
      | emp => trivial
      | src => exact rr
      | rf _ => exact rr
      | val d =>
        obtain ⟨v, e2, rr⟩ := rr
        exact ⟨v, e2, rr.ex kF⟩
      | ob ds =>
        obtain ⟨a, ws, e2, h1, r1, n1, b1, q1⟩ := rr
        have za : ∀ p, c.sr = some p → a ≠ p.1 ∧ a ≠ p.2 := q1
        obtain ⟨g1, g2⟩ := hk a _ za h1
        rcases g2 with g2 | ⟨xs, g2⟩
        · exact ⟨a, ws, e2, g1, r1.ex kF, by rw [g2]; exact n1, b1, q1⟩
        · have m := r1.mut
          rw [g2] at m
          exact m.elim
  refine ⟨⟨B', F, c.sr⟩, as, K, KE, ⟨Ex.refl F, E.fin.fh, hB, fun _ _ _ => .inl rfl, fun p ep => ?_⟩, ?_, h, fun v d F' H' kd fn rp => q v d F' H' kd (back F' H' fn).1 (back F' H' fn).2 rp, fun cls dd F' H' ke fn => qe cls dd F' H' ke (back F' H' fn).1 (back F' H' fn).2⟩
  · obtain ⟨s, n1, n2, b1, b2⟩ := E.fin.src p ep
    have ep' : c.sr = some p := ep
    refine ⟨s, n1, n2, ?_, ?_⟩
    · show B' p.1 = none
      simp [B', ep']
    · show B' p.2 = none
      simp [B', ep']
  · clear q qe h
    induction ra with
    | nil => exact .nil
    | cons rr _ ih =>
      refine .cons ?_ ih
      revert rr
      cases ‹Ar› with
      | d d => exact fun z => z
      | src => exact fun z => z
/-- a call that may raise -/
theorem je_callX {K0 : D → List Sl → Prop} {W : WX} {k k' : Nat} {f : Addr} {fd : FuncData} {ps : List Str} {x : Str} {st : Stmt} {p pos : Pos} {e : Expr} {es : List Expr} {φ : List Ar → (D → Prop) → (Value → Prop) → Prop} (KS : Value → List Sl → Prop) (tk : Takes X W) (lo : LetOut X r W KS) (hr : Room k' X.A) (N : Dn X.K X.mg x st ps f fd) (F : FnOk X.prog X.w X.K X.mg X.base (L2.CX X.prog X.w) k f fd ps (SpX φ))
    (h : JA X r (e :: es) S fun as S1 => ∃ KE, φ as (fun d => K0 d S1) KE ∧ ∀ cls, KE cls → KS cls S1) (hk : k ≤ k' := by decide) (hg : Gl X x := by rfl) (hdb : (x == ("__debug__" : Str)) = false := by decide)
    (he : starEach (e :: es) X.env = (false, eval e X.env) :: starEach es X.env := by rfl) (hpl : (backTo pos (starEach es X.env)).any (·.1) = false := by rfl) : JE X r (.Call (.Name x p) (e :: es) [] pos) S K0 := fun c F0 σ H hr' Ev Q q pins s I => by
  refine wpAny_Call_Name_kw (ld_glob I hg N.g ?_ hdb)
  refine PySem.W.callWith_K (h₀ := X.base) I.ok.mod.kin N.F.kp (thn (h c F0 σ H hr' Ev (fun vs H1 => SpX φ vs H1 Q fun cls dd H' => W cls dd σ H') (fun vs as F1 H1 S1 ⟨KE, hφ, hKE⟩ E1 k1 r1 => ?_) pos pins s I) fun us s1 ⟨vs, H1, I1, rr, q1⟩ => ⟨I1.kIn, ?_⟩) he hpl
  · exact sp_callX E1 r1 hφ (fun v d F' H' kd Ev' kF rp => q v d F' H' S1 kd Ev' (k1.trans kF) rp) fun cls dd F' H' ke Ev' kF => lo cls dd c S1 F' σ H' (hKE cls ke) hr' Ev'
  · exact run_fnAt F (hr.mono hk) N.b (fun e' s' cx => tk e' s' (XE.of_call I1 (fun _ _ _ h => h) cx)) I1 rr q1
/-! ### try .. except -/
theorem EvD.to {c0 c : C} {F H : Hp} {σ : L2.St} (h : (srL c0).q c) (E : EvD c S F σ H) : EvD c0 S F σ H := by
  refine ⟨srL_fin h E.fin, E.len, fun i s e => ?_, E.ds⟩
  obtain ⟨a, b, ex⟩ := h
  obtain ⟨x, e1, rr⟩ := E.sl i s e
  refine ⟨x, e1, ?_⟩
  cases s with
  | emp => trivial
  | val d => exact rr
  | src =>
    obtain ⟨p, ep, z⟩ := rr
    exact ⟨p, a ▸ ep, z⟩
  | rf _ => exact rr
  | ob o =>
    obtain ⟨a', hh, z, ha, ro, nF, nB, ns⟩ := rr
    exact ⟨a', hh, z, ha, ro, nF, ex.back nB, fun p ep => ns p (a.trans ep)⟩
/-- the same place, from now on -/
def C.now (c : C) (F : Hp) : C := ⟨c.B, F, c.sr⟩
theorem EvD.now {c : C} {F H : Hp} {σ : L2.St} (E : EvD c S F σ H) : EvD (c.now F) S F σ H := by
  refine ⟨⟨Ex.refl F, E.fin.fh, E.fin.bh, fun _ _ _ => .inl rfl, E.fin.src⟩, E.len, fun i s e => ?_, E.ds⟩
  obtain ⟨x, e1, rr⟩ := E.sl i s e
  refine ⟨x, e1, ?_⟩
  cases s <;> exact rr
theorem fin_past {c : C} {F H F' H' : Hp} (f : Fin c F H) (f' : Fin (c.now F) F' H') : Fin c F' H' :=
  ⟨f.f0.trans f'.f0, f'.fh, f'.bh, fun a o e => (f'.bf a o e).elim (fun z => (f.bf a o e).elim (fun y => .inl (z.trans y)) .inr) .inr, f'.src⟩
theorem EvD.past {c : C} {F H F' H' : Hp} {σ : L2.St} {S' : List Sl} (f : Fin c F H) (E : EvD (c.now F) S' F' σ H') : EvD c S' F' σ H' := by
  refine ⟨fin_past f E.fin, E.len, fun i s e => ?_, E.ds⟩
  obtain ⟨x, e1, rr⟩ := E.sl i s e
  refine ⟨x, e1, ?_⟩
  cases s <;> exact rr
theorem js_try {body suite : List Stmt} {b₀ : Stmt} {x : Str} {np pos' pos : Pos} {C : Addr} {E : DE} (KH : Value → List Sl → Prop) (hc : Names X x (.ref C)) (hm : ∀ cls S', KH cls S' → PySem.W.exmOne X.K cls (.ref C) = some true)
    (hb : ∀ (W : WX) (pn : List (Addr × Obj)) (xe : Value → Shared → Prop) (r' : SR), Takes (X.tr pn xe) W → PassesOwn (model X.prog X.w) X.A X.env xe → LetOut (X.tr pn xe) r' W KH → JSs (X.tr pn xe) r' body S E)
    (hsu : ∀ cls S' (a : Addr) (pn : List (Addr × Obj)) (r' : SR), KH cls S' → JSs (X.suite a pn) r' (b₀ :: suite) S' E) (hs : X.stack = X.env :: X.outer := by rfl) (hf : X.env.frame = some X.env.locals := by rfl) :
    JS X r (.Try body [.ExceptHandler (some (.Name x np)) none (b₀ :: suite) pos'] [] [] pos) S E := fun c F σ H hr Ev G g => by
  have E1 := Ev.now
  have g1 : EndsR (c.now F) F E G := ⟨fun F' σ' H' S' a E' k' => g.nx F' σ' H' S' a (EvD.past Ev.fin E') k', fun v d F' H' a fn rp => g.rt v d F' H' a (fin_past Ev.fin fn) rp, fun F' σ' H' S' a E' k' => g.bk F' σ' H' S' a (EvD.past Ev.fin E') k', fun F' σ' H' S' a E' k' => g.ct F' σ' H' S' a (EvD.past Ev.fin E') k'⟩
  refine of_ps (ps_try_only (tb := fun W D σ H => ∀ (pn : List (Addr × Obj)) (xe : Value → Shared → Prop), Takes (X.tr pn xe) W → PassesOwn (model X.prog X.w) X.A X.env xe → tSs (X.tr pn xe) body D σ H)
    (ts := fun a cls d D σ H => ∀ pn : List (Addr × Obj), tSs (X.suite a pn) (b₀ :: suite) D σ H) (Wout := fun _ _ _ _ => False) hs hf hc takes0
    (fun W pn xe tk hp => ⟨fun pins s σ H D I h => h pn xe tk hp pins s I⟩) (fun a oe cls d pn _ _ => ⟨fun pins s σ H D I h => h _ pins s I⟩)) ?_
  intro pn xe tk hp
  refine hb _ pn xe (srL (c.now F)) tk hp (fun cls dd c' S' F' σ' H' ke hq Ev' => ⟨true, hm cls S' ke, fun _ a na pn' => ?_, fun z => by cases z⟩) (c.now F) F σ H (srL_refl _) E1 G g1
  have E2 := EvD.to hq Ev'
  exact hsu cls S' a pn' (srL (c.now F)) ke (c.now F) F' σ' H' (srL_refl _) E2 G (g1.ex E2.fin.f0)
theorem jtry {body suite rest : List Stmt} {b₀ : Stmt} {x : Str} {np pos' pos : Pos} {C : Addr} {E : DE} (KH : Value → List Sl → Prop) (hc : Names X x (.ref C)) (hm : ∀ cls S', KH cls S' → PySem.W.exmOne X.K cls (.ref C) = some true)
    (hb : ∀ (W : WX) (pn : List (Addr × Obj)) (xe : Value → Shared → Prop) (r' : SR), Takes (X.tr pn xe) W → PassesOwn (model X.prog X.w) X.A X.env xe → LetOut (X.tr pn xe) r' W KH → JSs (X.tr pn xe) r' body S { E with nx := fun S2 => JSs X r rest S2 E })
    (hsu : ∀ cls S' (a : Addr) (pn : List (Addr × Obj)) (r' : SR), KH cls S' → JSs (X.suite a pn) r' (b₀ :: suite) S' { E with nx := fun S2 => JSs X r rest S2 E }) (hs : X.stack = X.env :: X.outer := by rfl) (hf : X.env.frame = some X.env.locals := by rfl) :
    JSs X r (.Try body [.ExceptHandler (some (.Name x np)) none (b₀ :: suite) pos'] [] [] pos :: rest) S E := jss_cons (js_try KH hc hm hb hsu hs hf)
end
end DL

/-! DL: a, b, c = x, y, {}; k not in a dict of one's own. -/
namespace DL
open PySem L2
section
variable {X : Cx} {r : SR} {S : List Sl}
theorem jpar3O {x y z : Str} {a b e : Expr} {px py pz pt pos : Pos} {kt k2 pt2} {E : DE} {rest : List Stmt} (i j l : Nat) (h : JE X r a S fun d1 S1 => JE X r b S1 fun d2 S2 => JO X r e S2 fun o S3 => i < S3.length ∧ j < S3.length ∧ JSs X r rest (((S3.set i (.val d1)).set j (.val d2)).set l (.ob o)) E)
    (hc : X.calm = true := by rfl) (hN : X.N.Nodup := by assumption) (hi : X.N[i]? = some x := by rfl) (hj : X.N[j]? = some y := by rfl) (hl : X.N[l]? = some z := by rfl) (hij : i ≠ j := by decide) (hil : i ≠ l := by decide) (hjl : j ≠ l := by decide) (hx : X.env.scope.names.lookup x = some .local := by rfl) (hy : X.env.scope.names.lookup y = some .local := by rfl) (hz : X.env.scope.names.lookup z = some .local := by rfl)
    (hw : swappedStores [.Tuple [.Name x px, .Name y py, .Name z pz] kt pt] (.Tuple [a, b, e] k2 pt2) X.env = pure (some [x, y, z]) := by rfl) (hs : swapsWithSole [.Tuple [.Name x px, .Name y py, .Name z pz] kt pt] (.Tuple [a, b, e] k2 pt2) pos.line X.env = pure false := by rfl)
    (s1 : starEach [a, b, e] X.env = (false, eval a X.env) :: starEach [b, e] X.env := by rfl) (s2 : starEach [b, e] X.env = (false, eval b X.env) :: starEach [e] X.env := by rfl) (s3 : starEach [e] X.env = (false, eval e X.env) :: starEach [] X.env := by rfl) :
    JSs X r (.Assign [.Tuple [.Name x px, .Name y py, .Name z pz] kt pt] (.Tuple [a, b, e] k2 pt2) pos :: rest) S E := jss_cons fun c F σ H hr Ev G g =>
  of_ps (ps_par3 hc hN hi hj hl hij hil hjl hx hy hz (pa_cons pe_tE (pa_cons pe_tE (pa_cons pe_tE pa_nil s3) s2) s1) hw hs) (h c F σ H hr Ev _ fun v d F1 H1 S1 h1 E1 k1 r1 => h1 c F1 σ H1 hr E1 _ fun v2 d2 F2 H2 S2 h2 E2 k2 r2 => h2 c F2 σ H2 hr E2 _ fun p o F3 H3 S3 h3 n k3 => by
    obtain ⟨hh, E3, hp, hv, nF, b, q, no⟩ := n
    obtain ⟨hli, hlj, kk⟩ := h3
    have E4 := (E3.set (i := i) (r1.ex (k2.trans k3))).set (i := j) (r2.ex k3)
    refine ⟨v, v2, .ref p, rfl, g.nx F3 _ H3 _ kk (E4.setOwn hp hv nF b q fun m xs em => ?_) ((k1.trans k2).trans k3)⟩
    by_cases hm : j = m
    · subst hm
      rw [List.getElem?_set_self (by rw [List.length_set]; exact hlj)] at em; cases em
    · rw [List.getElem?_set_ne hm] at em ⊢
      by_cases hm : i = m
      · subst hm
        rw [List.getElem?_set_self hli] at em; cases em
      · rw [List.getElem?_set_ne hm] at em ⊢
        exact no m xs em)
/-- a list of one's own, from here on as data -/
theorem jss_frz {rest : List Stmt} {E : DE} (i : Nat) {xs : OB} (e : S[i]? = some (.ob xs)) (h : JSs X r rest (S.set i (.val (obD xs))) E) : JSs X r rest S E := fun c F σ H hr Ev G g => by
  obtain ⟨F', v, kF, _, _, E'⟩ := Ev.freezeAt e
  exact h c F' σ H hr E' G (g.ex kF)
/-- a not in x, x a dict of one's own -/
theorem jtdninO {K : Bool → List Sl → Prop} {a : Expr} {x : Str} {px pos : Pos} {k : Nat} (hr : Room k X.A) (i : Nat) (h : JE X r a S fun d1 S1 => ∃ ky kvs, d1 = tupI ky ∧ S1[i]? = some (.ob (.d kvs)) ∧ K (!(valD kvs ky).isSome) S1)
    (hN : X.N[i]? = some x := by rfl) (hv : Vis X.env.scope x := by first | exact Or.inl rfl | exact Or.inr (Or.inl rfl) | exact Or.inr (Or.inr rfl)) (hd : (x == ("__debug__" : Str)) = false := by decide) (hcd : (x == ("__classdict__" : Str)) = false := by decide) (hm : behindInMarks .NotIn (.Name x px) = false := by rfl) : JT X r (.Compare a [.NotIn] [.Name x px] pos) S K :=
  fun c F σ H hr' E Q q => of_pt (pt_cmp (pc_dnotin (by have := hr.un; omega) pe_tE (pe_var hN hv hd hcd)) hm) (h c F σ H hr' E _ fun v1 d1 F1 H1 S1 h1 E1 k1 r1 => by
    obtain ⟨ky, kvs, rfl, es, kk⟩ := h1
    obtain ⟨y, e1, l, hh, e2, ha, rv, nF, nb, q0⟩ := E1.sl i _ es
    subst e2
    obtain ⟨ws, rfl, rk⟩ := obr_d rv
    refine ⟨_, e1, l, _, rfl, dget_of E1.fin.fh r1 ha, ?_⟩
    rw [(rk.val ky).isSome]
    exact ⟨_, rfl, q _ F1 H1 S1 kk E1 k1⟩)
end
end DL

/-! DL: t[::-1]; t * 0, t * 1; xs * n; xs[i] = v; sorted(t); int(b); is not True. -/
namespace DL
open PySem L2
section
open PySem.Spec PyProof.Rows
open AutoSeq1 (wpAny_loadPart')
theorem tuple_mul1 (l : Addr) (items : Array Value) (n : Nat) (dd : Option Addr) (sl : Array (Option Value)) (u : Tok) :
    Meets (Builtin.«tuple.__mul__» ⟨[.ref l, .int 1 u], []⟩) (fun _ R s => s.heap.get? l = some { cls := .type "tuple", dict := dd, data := .seq items n, slots := sl } ∧ R (.ok (.ret (Value.ref l))) s) :=
  .of_wp fun prog w A R s h => by
    obtain ⟨hp, g, d, tk, os⟩ := s
    obtain ⟨hl, h⟩ := h
    have f1 := AutoSeq1.idx_int
    wp_walk using wpAny_loadPart' hl
    repeat (first
      | (refine wpAny_ite_false (decide_eq_false (by decide)) ?_; wp_walk using wpAny_loadPart' hl)
      | (refine wpAny_ite_true (decide_eq_true (by rw [Bool.or_eq_true]; exact .inr rfl)) ?_; wp_walk using wpAny_loadPart' hl))
    all_goals first | exact ⟨_, rfl, h⟩ | skip
theorem tuple_mul0 (l : Addr) (items : Array Value) (n : Nat) (dd : Option Addr) (sl : Array (Option Value)) (u : Tok) (hne : items.isEmpty = false) :
    Meets (Builtin.«tuple.__mul__» ⟨[.ref l, .int 0 u], []⟩) (fun _ R s => s.heap.get? l = some { cls := .type "tuple", dict := dd, data := .seq items n, slots := sl } ∧
      R (.ok (.ret (Value.ref s.heap.objs.size))) { s with heap := s.heap.push { cls := Value.type "tuple", data := Data.seq #[] }, toks := s.toks }) :=
  .of_wp fun prog w A R s h => by
    obtain ⟨hp, g, d, tk, os⟩ := s
    obtain ⟨hl, h⟩ := h
    have f1 := AutoSeq1.idx_int
    wp_walk using wpAny_loadPart' hl
    repeat (first
      | (refine wpAny_ite_false (decide_eq_false (by decide)) ?_; wp_walk using wpAny_loadPart' hl)
      | (refine wpAny_ite_false (decide_eq_false (by rw [hne]; decide)) ?_; wp_walk using wpAny_loadPart' hl)
      | (refine wpAny_ite_true (decide_eq_true (by rw [Bool.or_eq_true]; exact .inl rfl)) ?_; wp_walk using wpAny_loadPart' hl))
    all_goals first | exact ⟨_, rfl, h⟩ | skip
end
section
open PySem.Spec PyProof.Rows
variable {prog : Program} {w : World} {A : Around} {E : Value → Shared → Prop} {s : Shared}
theorem adjust_rev (n : Nat) : Builtin.Slice.sliceAdjust none none (-1) (n : Int) = ((n : Int) - 1, -1) := by
  have h1 : ((-1 : Int) < 0) := by omega
  unfold Builtin.Slice.sliceAdjust
  simp only [h1, if_true]
theorem places_rev (n : Nat) : Builtin.Slice.slicePlaces ((n : Int) - 1) (-1) (-1) = n := by
  unfold Builtin.Slice.slicePlaces
  have h1 : ¬ ((-1 : Int) > 0) := by omega
  simp only [h1, if_false]
  rw [show (- -1 : Int) = 1 by decide, Int.ediv_one]
  split <;> omega
theorem sliceApplied_rev {sl : Addr} {vl vu vs : Value} {n : Nat} {Q : Int × Int × Nat → Shared → Prop} (hs : s.heap.IsSliceOf sl vl vu vs) (pl : IsPart vl none) (pu : IsPart vu none) (pt : IsPart vs (some (-1)))
    (h : Q ((n : Int) - 1, -1, n) s) : wpAny (model prog w) A (Builtin.Slice.sliceApplied (.ref sl) (pure (n : Int))) Q E s := by
  obtain ⟨os, hos, hcs, hds⟩ := id hs
  unfold Builtin.Slice.sliceApplied Builtin.Slice.sliceFields
  refine wpAny_bind (wpAny_bind (wpAny_field hos hds (x := vl) rfl (wpAny_bind (wpAny_field hos hds (x := vu) rfl (wpAny_bind (wpAny_field hos hds (x := vs) rfl (wpAny_pure ?_)))))))
  refine wpAny_bind (HT.slicePart_ pt ?_)
  show wpAny _ _ (if ((-1 : Int) == 0) = true then _ else _) _ _ s
  rw [if_neg (by decide)]
  refine wpAny_bind (HT.slicePart_ pl (wpAny_bind (HT.slicePart_ pu (wpAny_bind (wpAny_pure ?_)))))
  show wpAny _ _ (match Builtin.Slice.sliceAdjust none none (-1) (n : Int) with | (lo, hi) => pure (lo, (-1 : Int), Builtin.Slice.slicePlaces lo hi (-1))) _ _ s
  rw [adjust_rev n]
  show wpAny _ _ (pure ((n : Int) - 1, (-1 : Int), Builtin.Slice.slicePlaces ((n : Int) - 1) (-1) (-1))) _ _ s
  rw [places_rev]
  exact wpAny_pure h
theorem fm_congr {α β : Type} {f g : α → Option β} : ∀ {l : List α}, (∀ x ∈ l, f x = g x) → l.filterMap f = l.filterMap g
  | [], _ => rfl
  | x :: l, h => by
    rw [List.filterMap_cons, List.filterMap_cons, h x List.mem_cons_self, fm_congr fun y hy => h y (List.mem_cons_of_mem _ hy)]
theorem pick_rev (xs : Array Value) : ((List.range xs.size).filterMap fun (m : Nat) => xs[(((xs.size : Nat) : Int) - 1 + (m : Int) * -1).toNat]?).toArray = xs.toList.reverse.toArray := by
  have h := PySem.W.krv_all xs
  have e : (List.range xs.size).filterMap (fun (m : Nat) => xs[(((xs.size : Nat) : Int) - 1 + (m : Int) * -1).toNat]?) = ((List.range xs.size).map fun k => xs.size - 1 - k).filterMap (xs[·]?) := by
    rw [List.filterMap_map]
    refine fm_congr fun m hm => ?_
    have hm := List.mem_range.mp hm
    have : (((xs.size : Nat) : Int) - 1 + (m : Int) * -1).toNat = xs.size - 1 - m := by omega
    rw [this]; rfl
  rw [e, PySem.W.krv_range, List.filterMap_reverse, h]
theorem getItem_tuple_rev {t sl : Addr} {items : Array Value} {vl vu vs : Value} {Q : Value → Shared → Prop} (ht : IsTup s.heap t items) (hs : s.heap.IsSliceOf sl vl vu vs) (pl : IsPart vl none) (pu : IsPart vu none) (pt : IsPart vs (some (-1)))
    (h : Q (.ref s.heap.objs.size) { s with heap := s.heap.push { cls := .type "tuple", data := .seq items.toList.reverse.toArray } })
    (hsz : items.size ≤ sizeLine) : wpAny (model prog w) A (getItem (.ref t) (.ref sl)) Q E s := by
  have htake : sizeOk (.seq items.toList.reverse.toArray) := by
    show items.toList.reverse.toArray.size ≤ sizeLine
    rw [List.size_toArray, List.length_reverse, Array.length_toList]
    exact hsz
  obtain ⟨os, hos, hcs, hds⟩ := id hs
  have hTs : s.TypeIs (.ref sl) "slice" := ⟨os, hos, hcs⟩
  unfold getItem
  try with_reducible refine wpAny_holding ?_
  first | refine wpAny_bind (wpAny_pure ?_) | skip
  refine wpAny_bind (wpAny_sequenceKey ht.typeIs (by decide) ?_)
  refine wpAny_bind (wpAny_callSpecial?_slot (name := Str.ofString "__getitem__") ht.typeIs PyProof.Rows.slot_tuple_getitem
    (wpAny_call_entry PyProof.Rows.slot_tuple_getitem ht.typeIs entry_tuple_getitem ?_ (args_tuple_getitem _ _)))
  show wpAny _ _ (Builtin.Tuple.tupleItemsOf (.ref t) >>= _) _ _ s
  refine wpAny_bind (tupleItemsOf_ ht ?_)
  refine wpAny_bind (wpAny_typeOf hTs ?_)
  rw [if_pos (by decide)]
  refine wpAny_bind (sliceApplied_rev hs pl pu pt ?_)
  have hno : ¬ (((((items.size : Nat) : Int) - 1) == 0 && (-1 : Int) == 1 && items.size == items.size) = true) := by
    intro q
    rw [Bool.and_eq_true, Bool.and_eq_true] at q
    have q1 : (-1 : Int) = 1 := eq_of_beq q.1.2
    omega
  show wpAny _ _ (if ((((items.size : Nat) : Int) - 1) == 0 && (-1 : Int) == 1 && items.size == items.size) = true then _ else _) _ _ s
  rw [if_neg hno, pick_rev]
  first
    | exact wpAny_bind (m := Builtin.Tuple.tupleExact _) (wpAny_newObj_type (wpAny_pure ⟨_, rfl, wpAny_pure h⟩) htake)
    | exact wpAny_bind (m := Builtin.Tuple.tupleExact _) (wpAny_newObj_type (wpAny_bind (wpAny_pure (wpAny_pure ⟨_, rfl, wpAny_pure h⟩))) htake)
end
section
variable {X : Cx} {r : SR} {S : List Sl}
open PySem.Spec PyProof.Rows
/-- t[::-1], t a tuple -/
def tRevT (te : TE) : TE := fun σ H Q => te σ H fun x H1 => ∃ a xs, x = .ref a ∧ H1 a = some (.tup xs) ∧ ∀ p, H1 p = none → Q (.ref p) (upd H1 p (.tup xs.reverse))
theorem pe_revT {e : Expr} {te : TE} {k : Nat} {p1 p2 p3 pos : Pos} (he : PE X e te) : PE X (.Subscript e (.Slice none none (some (.UnaryOp .USub (.Constant (.int 1) k p1) p2)) p3) pos) (tRevT te) := by
  refine ⟨fun pins s σ H Q I h => ?_⟩
  refine Subscript_ (thn (he.run pins s σ H _ I h) fun v s1 ⟨x, H1, I1, r1, q1⟩ => ?_)
  obtain ⟨a, xs, ex, hx, q⟩ := q1
  subst ex
  cases r1
  have hst : PO X (some (.UnaryOp .USub (.Constant (.int 1) k p1) p2)) (tPart (tUn (rU fun i => .int (-i)) (tC (.int 1)))) := po_some (pe_un un_neg pe_int)
  refine wpAny_Slice (thn (po_none.run pins s1 σ H1 (fun o H2 => o = none ∧ H2 = H1) I1 ⟨rfl, rfl⟩) fun vl s2 ⟨l, H2, I2, pl, el, e2⟩ => ?_)
  subst el e2
  refine thn (po_none.run pins s2 σ H2 (fun o H3 => o = none ∧ H3 = H2) I2 ⟨rfl, rfl⟩) fun vu s3 ⟨u, H3, I3, pu, eu, e3⟩ => ?_
  subst eu e3
  refine thn (hst.run pins s3 σ H3 (fun o H4 => o = some (-1) ∧ H4 = H3) I3 ⟨1, rfl, -1, rfl, rfl, rfl⟩) fun vs s4 ⟨o, H4, I4, ps, eo, e4⟩ => ?_
  subst eo e4
  have I5 : Inv X pins σ H4 { s4 with heap := s4.heap.push { cls := .type "slice", data := .fields #[vl, vu, vs] } } := I4.kept (t' := s4.toks) fun b ob q => Heap.get?_push_of_some _ q
  obtain ⟨its, r, ht, hz⟩ := I5.tuple (.inl (.inl hx))
  have hlen := r.length
  show wpAny (model X.prog X.w) X.A (subscriptTail e (.Slice none none (some (.UnaryOp .USub (.Constant (.int 1) k p1) p2)) p3) (.ref a) (.ref s4.heap.objs.size)) (EP X pins σ Q) X.xe { s4 with heap := s4.heap.push { cls := .type "slice", data := .fields #[vl, vu, vs] } }
  refine tail_any (ops := [.ref a, .ref s4.heap.objs.size]) ht.typeIs (PyProof.Rows.slot_tuple_getitem.lookup) ?_ (by with_unfolding_all rfl)
  refine getItem_tuple_rev ht (Heap.IsSliceOf.new _ vl vu vs) pl pu ps ?_ (by rw [List.size_toArray]; omega)
  refine ⟨.ref _, _, I5.laid (t' := s4.toks) (o := .tup xs.reverse) (fun b ob q => Heap.get?_push_of_some _ q) (Nat.le_refl _) ?_, rfl, q _ (I5.hok.fresh (Nat.le_refl _))⟩
  exact ⟨by rw [List.length_reverse]; exact hz, _, r.reverse, IsTup.new _ _⟩
theorem RpA.reverse {F : Hp} : ∀ {vs : List V} {ds : List D}, RpA F vs ds → RpA F vs.reverse ds.reverse
  | _, _, .nil => .nil
  | _, _, .cons r t => by rw [List.reverse_cons, List.reverse_cons]; exact (RpA.reverse t).append (.one r)
theorem je_revT {K : D → List Sl → Prop} {e : Expr} {k : Nat} {p1 p2 p3 pos : Pos} (h : JE X r e S fun d S1 => ∃ xs, d = .tuple xs ∧ K (.tuple xs.reverse) S1) : JE X r (.Subscript e (.Slice none none (some (.UnaryOp .USub (.Constant (.int 1) k p1) p2)) p3) pos) S K :=
  fun c F σ H hr E Q q => of_pe (pe_revT pe_tE) (h c F σ H hr E _ fun v d F1 H1 S1 h1 E1 k1 r1 => by
    obtain ⟨xs, rfl, kd⟩ := h1
    cases r1 with
    | @tup a ws _ ha rv =>
      refine ⟨a, ws, rfl, E1.fin.fh _ _ ha, fun p n => ?_⟩
      have g : Grow F1 H1 (upd F1 p (.tup ws.reverse)) (upd H1 p (.tup ws.reverse)) := Grow.new E1.fin.fh n
      exact q _ _ _ _ S1 kd (E1.grow g) (k1.trans g.kF) (.tup upd_same (rv.reverse.ex g.kF)))
end
section
open PySem.Spec PyProof.Rows
variable {X : Cx} {r : SR} {S : List Sl}
/-! ### t * 0, t * 1, xs * n -/
def rRep01 : R2 := fun x y H Q => ∃ l xs, x = .ref l ∧ H l = some (.tup xs) ∧ xs ≠ [] ∧ ((y = .int 1 ∧ Q (.ref l) H) ∨ (y = .int 0 ∧ ∀ p, H p = none → Q (.ref p) (upd H p (.tup []))))
theorem op_rep01 : OpR X (binaryOp .Mult) rRep01 := by
  intro pins s σ H x y v u Q I rx ry h
  obtain ⟨l, xs, rfl, hT, hne, h⟩ := h
  cases rx
  obtain ⟨its, rr, ⟨⟨cls, dd, data, sl⟩, ho, hc, n, hd⟩, hs⟩ := I.tuple (.inl (.inl hT))
  simp only at hc hd
  subst hc hd
  have hle : its.length = xs.length := rr.length.symm
  have hn : its ≠ [] := fun e => hne (by
    rw [e] at hle
    exact List.eq_nil_of_length_eq_zero hle.symm)
  have hi : its.toArray.isEmpty = false := by
    cases its with
    | nil => exact absurd rfl hn
    | cons a b => rfl
  rcases h with ⟨rfl, q⟩ | ⟨rfl, q⟩
  · obtain ⟨t, rfl⟩ := ry
    exact wpAny_binaryOp_repeat_ref (T := "tuple") (U := "int") (by decide) ⟨_, ho, rfl⟩ (fun s' => typeIs_int s' 1 t) noFill_tuple_mul PySem.F.fills_int_mul PySem.F.slot_int_rmul repeat_tuple PySem.F.slot_int_index.lookup
      (call_meets PySem.F.slot_int_rmul (typeIs_int s 1 t) PySem.F.entry_int_rmul (PySem.F.args_int_rmul_2 _ _) (int_rmul_tuple 1 t l its.toArray n dd sl)
        ⟨ho, rfl, ⟨_, ho, rfl⟩, call_meets PySem.F.slot_tuple_mul ⟨_, ho, rfl⟩ PySem.F.entry_tuple_mul (PySem.F.args_tuple_mul_2 _ _) (tuple_mul1 l its.toArray n dd sl t) ⟨ho, ⟨.ref l, H, I, rfl, q⟩⟩⟩)
  · obtain ⟨t, rfl⟩ := ry
    refine wpAny_binaryOp_repeat_ref (T := "tuple") (U := "int") (by decide) ⟨_, ho, rfl⟩ (fun s' => typeIs_int s' 0 t) noFill_tuple_mul PySem.F.fills_int_mul PySem.F.slot_int_rmul repeat_tuple PySem.F.slot_int_index.lookup
      (call_meets PySem.F.slot_int_rmul (typeIs_int s 0 t) PySem.F.entry_int_rmul (PySem.F.args_int_rmul_2 _ _) (int_rmul_tuple 0 t l its.toArray n dd sl)
        ⟨ho, rfl, ⟨_, ho, rfl⟩, call_meets PySem.F.slot_tuple_mul ⟨_, ho, rfl⟩ PySem.F.entry_tuple_mul (PySem.F.args_tuple_mul_2 _ _) (tuple_mul0 l its.toArray n dd sl t hi) ⟨ho, ?_⟩⟩)
    exact ⟨.ref s.heap.objs.size, _, I.laid (t' := s.toks) (o := .tup []) (fun b ob q => Heap.get?_push_of_some _ q) (Nat.le_refl _) ⟨Nat.zero_le _, [], .nil, IsTup.new _ _⟩, rfl, q _ (I.hok.fresh (Nat.le_refl _))⟩
theorem od_rep01 {ds : List D} {b : Bool} {K : D → Prop} (hne : ds ≠ []) (k : K (.tuple (if b = true then ds else []))) : OpD rRep01 (.tuple ds) (.int (if b = true then 1 else 0)) K := fun F H v1 v2 kF r1 r2 Q q => by
  cases r1 with
  | @tup a vs _ ha rv =>
    refine ⟨a, vs, rfl, kF _ _ ha, fun e => hne ?_, ?_⟩
    · subst e; cases rv; rfl
    · cases b with
      | true =>
        cases r2
        exact .inl ⟨rfl, q _ _ F H k (Grow.refl kF) (.tup ha rv)⟩
      | false =>
        cases r2
        exact .inr ⟨rfl, fun p n => q _ _ _ _ k (Grow.new kF n) (.tup upd_same .nil)⟩
theorem RpA.rep {F : Hp} {vs : List V} {ds : List D} (h : RpA F vs ds) : ∀ n : Nat, RpA F (List.replicate n vs).flatten (List.replicate n ds).flatten
  | 0 => .nil
  | n + 1 => by
    rw [List.replicate_succ, List.replicate_succ, List.flatten_cons, List.flatten_cons]
    exact h.append (RpA.rep h n)
/-- xs * n, a list -/
theorem jn_rep {K : List D → List Sl → Prop} {a b : Expr} {pos : Pos} (h : JE X r a S fun d1 S1 => JE X r b S1 fun d2 S2 => ∃ xs, ∃ n : Nat, d1 = .list xs ∧ d2 = .int n ∧ xs.length * n ≤ 1000000 ∧ n ≤ 1000000 ∧ K (List.replicate n xs).flatten S2) : JN X r (.BinOp a .Mult b pos) S K :=
  fun c F σ H hr E Q q => of_pe (pe_op op_rep pe_tE pe_tE) (h c F σ H hr E _ fun v1 d1 F1 H1 S1 h1 E1 k1 r1 => h1 c F1 σ H1 hr E1 _ fun v2 d2 F2 H2 S2 h2 E2 k2 r2 => by
    obtain ⟨xs, n, rfl, rfl, hl, hn, kd⟩ := h2
    cases r1.ex k2 with
    | @lst a vs _ ha rv =>
      cases r2
      refine ⟨a, n, vs, rfl, rfl, E2.fin.fh _ _ ha, by omega, by omega, ?_, fun p np => ?_⟩
      · rw [rv.length, Int.toNat_natCast, sizeLine_eq]; omega
      · rw [Int.toNat_natCast]
        exact q p _ F2 _ S2 kd (newL_of E2 np (rv.rep n)) (k1.trans k2))
/-! ### xs[i] = v, xs a list of one's own -/
theorem jlput {x : Str} {px pos pos' : Pos} {a b : Expr} {E : DE} {rest : List Stmt} (i : Nat) (o0 : List D) (h : JE X r b S fun d2 S1 => JE X r a S1 fun d1 S2 => ∃ (k : Nat) (xs : List D), d1 = .int k ∧ S2[i]? = some (.own xs) ∧ k < xs.length ∧ JSs X r rest (S2.set i (.own (xs.set k d2))) E)
    (h0 : S[i]? = some (.own o0) := by rfl) (hN : X.N[i]? = some x := by rfl) (hv : Vis X.env.scope x := by first | exact Or.inl rfl | exact Or.inr (Or.inl rfl) | exact Or.inr (Or.inr rfl)) (hd : (x == ("__debug__" : Str)) = false := by decide) (hcd : (x == ("__classdict__" : Str)) = false := by decide)
    (hs : swapsWithSole [.Subscript (.Name x px) a pos'] b pos.line X.env = pure false := by rfl) (hw : swappedStores [.Subscript (.Name x px) a pos'] b X.env = pure none := by rfl) (h1 : (assignEach [.Subscript (.Name x px) a pos'] X.env).map (·.2) = [assign (.Subscript (.Name x px) a pos') X.env] := by rfl)
    (hsb : ∀ v, assign (.Subscript (.Name x px) a pos') X.env v = (do
      let ov ← holding [v] (eval (.Name x px) X.env)
      let iv ← holding [v, ov] (eval a X.env)
      standAt pos'
      holding [v, ov, iv] (setItem ov iv v)
      release [v, ov, iv] []) := by intro _; rfl) : JSs X r (.Assign [.Subscript (.Name x px) a pos'] b pos :: rest) S E := jss_cons fun c F σ H hr' Ev G g =>
  of_ps (ps_asg pe_tE (pg_sub (pe_var hN hv hd hcd) pe_tE set_list hsb) hs hw h1) (by
    obtain ⟨y, e1, l, hh, e2, ha, rv, nF, nb, q0⟩ := Ev.sl i _ h0
    subst e2
    refine h c F σ H hr' Ev _ fun v2 d2 F1 H1 S1 h1 E1 k1 r1 => ⟨.ref l, e1, h1 c F1 σ H1 hr' E1 _ fun v1 d1 F2 H2 S2 h2 E2 k2 r2 => ?_⟩
    obtain ⟨k, xs, rfl, es, hl, kk⟩ := h2
    obtain ⟨y, e1', l', hh', e2', ha', rv', _⟩ := E2.sl i _ es
    rw [e1] at e1'; cases e1'; cases e2'
    obtain ⟨ws, rfl, rk⟩ := obr_l rv'
    cases r2
    refine ⟨l, ws, k, k, rfl, rfl, ha', ?_, g.nx F2 σ _ _ kk (E2.write (vs := .lst (ws.set k v2)) (ds := .l (xs.set k d2)) es e1 (rk.set (r1.ex k2) k)) (k1.trans k2)⟩
    have hk : k < ws.length := by rw [rk.length]; exact hl
    unfold ixN
    first
      | rw [if_pos (by omega), if_pos (by omega), Int.toNat_natCast]
      | (simp only [Int.toNat_natCast]; split <;> first | rfl | omega))
/-! ### sorted(t), t a tuple -/
def rSortU (X : Cx) : List V → Hp → VK → Prop := fun vs H Q => ∃ F x ds, vs = [x] ∧ Ex F H ∧ Rp F x (.tuple ds) ∧ PyData.plainAll ds = true ∧ PySem.W.AllAlike ds ∧ PySem.W.Sortable ds ∧ (∀ d ∈ ds, X.A.units + 2 + d.depth < cLine) ∧
  ∀ p ws, RpA F ws (ds.mergeSort (PySem.W.dataLe false id)) → H p = none → Q (.ref p) (upd H p (.lst ws))
theorem call_sortU : CallR X (.builtin "sorted") (rSortU X) := by
  intro pins s σ H xs us Q I rr h
  obtain ⟨F, x, ds, rfl, k, rp, hpl, hal, hso, hu, q⟩ := h
  obtain ⟨u, rfl, rx⟩ := vals1 rr
  cases rp with
  | @tup a ws _ ha rv =>
    cases rx
    obtain ⟨its, rw', ht, hz⟩ := I.tuple (.inl (.inl (k _ _ ha)))
    obtain ⟨o, ho, hc, n, hd⟩ := id ht
    have hl2 : its.length = ds.length := by rw [← rw'.length]; exact rv.length
    have hz2 : its.length ≤ sizeLine := by rw [← rw'.length]; exact hz
    refine Calls.call_function_entry PyProof.Rows.kind_sorted PyProof.Rows.plain_sorted PyProof.Rows.entry_sorted (PyProof.Rows.args_sorted1 _) ?_
    unfold Builtin.«sorted»
    refine wpAny_bind (m := checkCount "sorted" 1 1 _) (wpAny_pure ?_)
    refine wpAny_bind (wpAny_collect_seq a (T := "tuple") (.inr rfl) ho hc hd (fun h' hk => ?_) (by rw [List.size_toArray]; exact hz2))
    show wpAny _ _ _ _ _ { s with heap := h' }
    have I1 : Inv X pins σ H { s with heap := h' } := I.kept (t' := s.toks) hk
    obtain ⟨e1, er1⟩ := each_of k I1.hok rv rw' hpl
    refine wpAny_bind (wpAny_newList ?_ hz2)
    have hoL : (h'.push (seqObj "list" its.toArray 0)).get? h'.objs.size = some (seqObj "list" its.toArray 0) := Heap.get?_push_size _ rfl
    show wpAny _ _ _ _ _ { s with heap := h'.push (seqObj "list" its.toArray 0) }
    have keepS : ∀ b u, h'.get? b = some u → (PySem.W.sortingHeap (h'.push (seqObj "list" its.toArray 0)) h'.objs.size its).get? b = some u := fun b u e =>
      PySem.W.sortingHeap_old (Nat.ne_of_lt (Heap.lt_size e)) (Heap.get?_push_of_some _ e)
    have er2 : PySem.W.EachIs (fun v d => ∃ as, Reads (PySem.W.sortingHeap (h'.push (seqObj "list" its.toArray 0)) h'.objs.size its) v d as) its ds := er1.mono fun _ _ ⟨as, r⟩ => ⟨as, PyProof.Rows.Reads.keeps keepS r⟩
    refine wpAny_bind (wpAny_holding (wpAny_call_entry PyProof.Rows.slot_list_sort ⟨_, hoL, rfl⟩ PyProof.Rows.entry_list_sort
      (PySem.W.list_sort_vals (s := { s with heap := h'.push (seqObj "list" its.toArray 0) }) hoL (PySem.W.SortsAt.data (s := { s with heap := PySem.W.sortingHeap (h'.push (seqObj "list" its.toArray 0)) h'.objs.size its }) er2 hal hso fun d hd => by have := hu d hd; show X.A.units + 1 + 1 + d.depth < cLine; omega) hz2 ⟨_, rfl, ?_⟩) (PyProof.Rows.args_list_sort _)))
    have out := PySem.W.sortVals_data (enc := id) (R := fun u (d : D) => ∃ v, RelV v u ∧ Rp F v d) false e1 er2 (by rw [List.map_id]; exact hal)
    rw [List.map_id] at out
    obtain ⟨vs, v1, v2⟩ := of_each out
    obtain ⟨e', he'⟩ := PyProof.Rows.sortedHeap_at (vs := its) (out := (PySem.W.sortVals (PySem.W.dataKind (PySem.W.sortingHeap (h'.push (seqObj "list" its.toArray 0)) h'.objs.size its) ds) false its its).toArray) hoL
    have hlen2 : vs.length ≤ sizeLine := by rw [v2.length, List.length_mergeSort, ← hl2]; exact hz2
    refine wpAny_pure ⟨_, rfl, .ref h'.objs.size, upd H h'.objs.size (.lst vs), I1.laid (t' := s.toks) (fun b u e => ?_) (Nat.le_refl _) (show ObjOk X.prog X.w _ _ _ (.lst vs) from ⟨hlen2, _, e', v1, he'⟩), rfl, q _ vs v2 (I1.hok.fresh (Nat.le_refl _))⟩
    have hb : b < h'.objs.size := Heap.lt_size e
    rw [PyProof.Rows.sortedHeap_old (Nat.ne_of_lt hb) (by rw [size_push']; exact Nat.lt_succ_of_lt hb)]
    exact Heap.get?_push_of_some _ e
theorem cn_sortU {ds : List D} {K : List D → Prop} {k : Nat} (hr : Room k X.A) (h1 : ∀ d ∈ ds, Nice 50 d) (h2 : PySem.W.AllAlike ds) (h3 : PySem.W.Sortable ds) (kd : K (ds.mergeSort (PySem.W.dataLe false id))) : CallN (rSortU X) [.tuple ds] K := fun F H vs kF rv Q q => by
  cases rv with
  | cons r1 t =>
    cases t
    refine ⟨F, _, ds, rfl, kF, r1, plainAll_of fun d hd => (h1 d hd).pl, h2, h3, fun d hd => ?_, fun p ws rw n => q p ws _ kd n rw⟩
    have := (h1 d hd).dp
    have := hr.un
    omega
/-- of ints -/
theorem jsortTI {K : List D → List Sl → Prop} {a : Expr} {p pos : Pos} {k : Nat} (hr : Room k X.A) (hm : X.mg "sorted" = none) (h : JE X r a S fun d S1 => ∃ ns : List Int, d = .tuple (ns.map .int) ∧ ∀ ns' : List Int, ns'.Perm ns → ns'.Pairwise (· ≤ ·) → K (ns'.map .int) S1) (hg : Gl X "sorted" := by rfl) (hs : starEach [a] X.env = (false, eval a X.env) :: starEach [] X.env := by rfl) : JN X r (.Call (.Name "sorted" p) [a] [] pos) S K :=
  jnB call_sortU hm (ja1 (h.mono fun d S1 ⟨ns, e, k⟩ => ⟨[d], rfl, by
    rw [e]
    refine cn_sortU hr (nice_map fun a => nice_int a) (alike_map fun a b => by simp [PySem.W.alike]) (PySem.W.Sortable.others fun b => ⟨(by intro z; cases z), (by intro _ z; cases z)⟩) ?_
    rw [sort_map (PySem.W.dataLe_int fun b => b)]
    refine k _ (List.mergeSort_perm _ _) ?_
    have := List.pairwise_mergeSort (le := fun a b : Int => decide (a ≤ b)) (by intro a b c; simp; omega) (by intro a b; simp; omega) ns
    simpa using this⟩) hs) hg (by decide +kernel) (by decide) (by decide) hs rfl
/-! ### int(b), is not True -/
theorem jintB {K : D → List Sl → Prop} {a : Expr} {p pos : Pos} (hm : X.mg "int" = none) (h : JE X r a S fun d S1 => ∃ b : Bool, d = .bool b ∧ K (.int (if b = true then 1 else 0)) S1) (hg : Gl X "int" := by rfl) (hs : starEach [a] X.env = (false, eval a X.env) :: starEach [] X.env := by rfl) : JE X r (.Call (.Name "int" p) [a] [] pos) S K :=
  jTy call_int1 hm (ja1 (h.mono fun d S1 ⟨b, e, k⟩ => ⟨[d], rfl, by
    rw [e]
    intro F H vs kF rv Q q
    cases rv with
    | cons r1 t =>
      cases t
      cases r1
      exact .inr ⟨b, rfl, q _ _ F H k (Grow.refl kF) (.int _)⟩⟩) hs) hg (by decide +kernel) (by decide) (by decide) hs rfl
theorem od_notB {a b : Bool} {K : D → Prop} (h : K (.bool (!decide (a = b)))) : OpD (fun x y H Q => ∃ a b, x = .bl a ∧ y = .bl b ∧ Q (.bl (!decide (a = b))) H) (.bool a) (.bool b) K := fun F H v1 v2 kF r1 r2 Q q => by
  cases r1
  cases r2
  exact ⟨a, b, rfl, rfl, q _ _ F H h (Grow.refl kF) (.bl _)⟩
end
end DL

/-! DL: odd values: data within which {} may stand; told by repr; compared with (), []; {"a": 1, ..}.get(x, 0); t * n. -/
namespace DL
open PySem L2
mutual
/-- data with numbers up to B, short texts, tuples and lists of up to L items, {} -/
def okD (B L : Nat) : D → Bool
  | .none => true
  | .bool _ => true
  | .int i => decide (i.natAbs ≤ B)
  | .str x => decide (x.cps.size ≤ 20) && x.cps.toList.all fun c => decide (c < 16 ^ 8)
  | .list xs => decide (xs.length ≤ L) && okDAll B L xs
  | .tuple xs => decide (xs.length ≤ L) && okDAll B L xs
  | .dict kvs => kvs.isEmpty
def okDAll (B L : Nat) : List D → Bool
  | [] => true
  | x :: xs => okD B L x && okDAll B L xs
end
theorem okDAll_iff {B L : Nat} : ∀ {xs : List D}, okDAll B L xs = true ↔ ∀ x ∈ xs, okD B L x = true
  | [] => by simp [okDAll]
  | x :: xs => by simp [okDAll, okDAll_iff (xs := xs)]
theorem rp_dctE {F : Hp} {v : V} {kvs : List (D × D)} (h : kvs.isEmpty = true) (r : Rp F v (.dict kvs)) : ∃ a, v = .ref a ∧ F a = some (.dT []) ∧ kvs = [] := by
  cases kvs with
  | cons _ _ => cases h
  | nil =>
    obtain ⟨a, ws, rfl, hw, rk⟩ := rp_dct (kvs := []) (show Rp F v (dctD []) from r)
    cases rk
    exact ⟨a, rfl, hw, rfl⟩
theorem dE_obj {P : Program} {w : World} {H : Hp} {h : Heap} {a : Addr} (ok : HOk P w H h) (e : H a = some (.dT [])) : (a == sysModules) = false ∧ ∃ o es ep, h.get? a = some o ∧ o.cls = .type "dict" ∧ o.data = .dict es ep ∧ es.toList = [] := by
  obtain ⟨_, y, xs, r, o, es, ep, h1, h2, h3, h4, _⟩ := (show ObjOk P w H h a (.dT []) from ok _ _ e)
  cases r
  exact ⟨y, o, es, ep, h1, h2.1, h3, by simpa using h4⟩
mutual
theorem Rp.readsE {P : Program} {w : World} {F H : Hp} {h : Heap} {B L : Nat} (k : Ex F H) (ok : HOk P w H h) : ∀ {v : V} {d : D} {u : Value}, Rp F v d → RelV v u → okD B L d = true → ∃ as, Reads h u d as
  | _, _, _, .non, e, _ => by cases e; exact ⟨_, .none⟩
  | _, _, _, .bl b, e, _ => by cases e; exact ⟨_, .bool b⟩
  | _, _, _, .int i, e, _ => by obtain ⟨t, rfl⟩ := e; exact ⟨_, .int i t⟩
  | _, _, _, .str x, e, _ => by obtain ⟨t, rfl⟩ := e; exact ⟨_, .str x t⟩
  | _, _, _, .tup q r, e, hp => by
    cases e
    obtain ⟨_, its, rv, o, ho, hc, n, hd⟩ := ok _ _ (k _ _ q)
    rw [okD, Bool.and_eq_true] at hp
    obtain ⟨as, hr⟩ := RpA.readsE k ok r rv hp.2
    exact ⟨_, .tuple ho hc hd (by simpa using hr)⟩
  | _, _, _, .lst q r, e, hp => by
    cases e
    obtain ⟨_, its, n, rv, ho⟩ := ok _ _ (k _ _ q)
    rw [okD, Bool.and_eq_true] at hp
    obtain ⟨as, hr⟩ := RpA.readsE k ok r rv hp.2
    exact ⟨_, .list ho rfl rfl (by simpa using hr)⟩
  | _, _, _, .dct (a := a) (kvs := kvs) q r, e, hp => by
    cases e
    unfold dctD at hp ⊢
    rw [okD] at hp
    cases kvs with
    | cons _ _ => simp at hp
    | nil =>
      cases r
      obtain ⟨_, o, es, ep, h1, h2, h3, h4⟩ := dE_obj ok (k _ _ q)
      exact ⟨_, .dict (kvs := []) h1 h2 h3 (by rw [h4]; exact .nil) (by rw [h4]; exact .nil)⟩
  | _, _, _, .ftup q n r, e, hp => by
    unfold ft at hp
    rw [okD] at hp
    simp at hp
theorem RpA.readsE {P : Program} {w : World} {F H : Hp} {h : Heap} {B L : Nat} (k : Ex F H) (ok : HOk P w H h) : ∀ {vs : List V} {ds : List D} {us : List Value}, RpA F vs ds → Vals vs us → okDAll B L ds = true → ∃ as, ReadsAll h us ds as
  | _, _, _, .nil, e, _ => by cases e; exact ⟨_, .nil⟩
  | _, _, _, .cons r t, e, hp => by
    cases e with
    | cons e1 e2 =>
      rw [okDAll, Bool.and_eq_true] at hp
      obtain ⟨as, h1⟩ := Rp.readsE k ok r e1 hp.1
      obtain ⟨bs, h2⟩ := RpA.readsE k ok t e2 hp.2
      exact ⟨_, .cons h1 h2⟩
end
theorem shownKv_nil : PyData.shownKv [] = [] := by simp only [PyData.shownKv]
mutual
theorem Rp.reprK {P : Program} {w : World} {F H : Hp} {h : Heap} {B L : Nat} (k : Ex F H) (ok : HOk P w H h) : ∀ {v : V} {d : D} {u : Value}, Rp F v d → RelV v u → okD B L d = true → d.showable = true → d.shown.length ≤ sizeLine → ∃ bs, ReadAtMost h d.depth bs ∧ ReprK P w bs h d.depth u d.shown
  | _, _, _, .non, e, _, _, _ => by cases e; exact ⟨[], (fun _ h => nomatch h), by simp only [PyData.shown]; exact .of_is ReprIs.none _ _ _⟩
  | _, _, _, .bl b, e, _, _, _ => by cases e; exact ⟨[], (fun _ h => nomatch h), by simp only [PyData.shown]; exact .of_is (ReprIs.bool b) _ _ _⟩
  | _, _, _, .int i, e, _, hs, _ => by obtain ⟨t, rfl⟩ := e; exact ⟨[], (fun _ h => nomatch h), by simp only [PyData.shown]; exact .of_is (ReprIs.int t (by simpa [PyData.showable] using hs)) _ _ _⟩
  | _, _, _, .str x, e, _, _, hz => by obtain ⟨t, rfl⟩ := e; exact ⟨[], (fun _ h => nomatch h), by simp only [PyData.shown]; exact .of_is (ReprIs.str x t (by simpa only [PyData.shown] using hz)) _ _ _⟩
  | _, _, _, .tup (a := a) (ds := ds) q r, e, hp, hs, hz => by
    cases e
    obtain ⟨_, its, rv, o, ho, hc, n, hd⟩ := ok _ _ (k _ _ q)
    rw [okD, Bool.and_eq_true] at hp
    have hz' : (tupleText (PyData.shownAll ds)).length ≤ sizeLine := by simpa only [PyData.shown] using hz
    obtain ⟨bs, hb, hk⟩ := RpA.reprK k ok r rv hp.2 (by simpa [PyData.showable] using hs) (fun t ht => Nat.le_trans (tupleText_mem_le ht) hz')
    obtain ⟨as, hr⟩ := RpA.readsE k ok r rv hp.2
    have rr : Reads h (.ref a) (.tuple ds) as := .tuple ho hc hd (by simpa using hr)
    have hna : a ∉ bs := not_mem_of_deeper rr (by simp only [PyData.depth]; omega) hb
    refine ⟨a :: bs, ReadAtMost.cons rr (by simp only [PyData.depth]; omega) hb, ?_⟩
    simp only [PyData.depth, PyData.shown]
    exact ReprK.tuple ho hc hd hna (by simpa using hk)
  | _, _, _, .lst (a := a) (ds := ds) q r, e, hp, hs, hz => by
    cases e
    obtain ⟨_, its, n, rv, ho⟩ := ok _ _ (k _ _ q)
    rw [okD, Bool.and_eq_true] at hp
    have hz' : (listText (PyData.shownAll ds)).length ≤ sizeLine := by simpa only [PyData.shown] using hz
    obtain ⟨bs, hb, hk⟩ := RpA.reprK k ok r rv hp.2 (by simpa [PyData.showable] using hs) (fun t ht => Nat.le_trans (listText_mem_le ht) hz')
    obtain ⟨as, hr⟩ := RpA.readsE k ok r rv hp.2
    have rr : Reads h (.ref a) (.list ds) (a :: as) := .list ho rfl rfl (by simpa using hr)
    have hna : a ∉ bs := not_mem_of_deeper rr (by simp only [PyData.depth]; omega) hb
    refine ⟨a :: bs, ReadAtMost.cons rr (by simp only [PyData.depth]; omega) hb, ?_⟩
    simp only [PyData.depth, PyData.shown]
    cases its with
    | nil =>
      cases hr
      simp only [PyData.shownAll, listText_nil]
      exact ReprK.listEmpty ho rfl rfl
    | cons x l => exact ReprK.list ho rfl rfl hna (by simpa using hk.length_eq) (fun i y e => hk.item i y (by simpa using e))
  | _, _, _, .dct (a := a) (kvs := kvs) q r, e, hp, hs, hz => by
    cases e
    unfold dctD at hp hz ⊢
    rw [okD] at hp
    cases kvs with
    | cons _ _ => simp at hp
    | nil =>
      cases r
      obtain ⟨hsys, o, es, ep, h1, h2, h3, h4⟩ := dE_obj ok (k _ _ q)
      have rr : Reads h (.ref a) (.dict []) (a :: [] ++ []) := .dict (kvs := []) h1 h2 h3 (by rw [h4]; exact .nil) (by rw [h4]; exact .nil)
      refine ⟨[a], ?_, ?_⟩
      · intro b hb
        rw [List.mem_singleton.mp hb]
        exact ⟨_, _, rr, Nat.le_refl _⟩
      · simp only [List.map_nil, PyData.depth, PyData.shown, shownKv_nil]
        exact ReprK.dict (as := []) h1 h2 h3 hsys (by simp) (by rw [h4]; exact .nil)
  | _, _, _, .ftup q n r, e, hp, _, _ => by
    unfold ft at hp
    rw [okD] at hp
    simp at hp
theorem RpA.reprK {P : Program} {w : World} {F H : Hp} {h : Heap} {B L : Nat} (k : Ex F H) (ok : HOk P w H h) : ∀ {vs : List V} {ds : List D} {us : List Value}, RpA F vs ds → Vals vs us → okDAll B L ds = true → PyData.showableAll ds = true → (∀ t ∈ PyData.shownAll ds, t.length ≤ sizeLine) → ∃ bs, ReadAtMost h (PyData.depthAll ds) bs ∧ ReprAllK P w bs h (PyData.depthAll ds) us (PyData.shownAll ds)
  | _, _, _, .nil, e, _, _, _ => by cases e; exact ⟨[], (fun _ h => nomatch h), by simp only [PyData.shownAll]; exact .nil⟩
  | _, _, _, .cons (d := d) (ds := ds) r t, e, hp, hs, hz => by
    cases e with
    | cons e1 e2 =>
      rw [okDAll, Bool.and_eq_true] at hp
      have hs' : d.showable = true ∧ PyData.showableAll ds = true := by simpa [PyData.showableAll] using hs
      obtain ⟨b1, hb1, k1⟩ := Rp.reprK k ok r e1 hp.1 hs'.1 (hz _ (by simp only [PyData.shownAll]; exact List.mem_cons_self ..))
      obtain ⟨b2, hb2, k2⟩ := RpA.reprK k ok t e2 hp.2 hs'.2 (fun t ht => hz t (by simp only [PyData.shownAll]; exact List.mem_cons_of_mem _ ht))
      refine ⟨b1 ++ b2, ?_, ?_⟩
      · intro b hm
        simp only [PyData.depthAll]
        rcases List.mem_append.mp hm with hm | hm
        · obtain ⟨d', as', r', hd'⟩ := hb1 b hm
          exact ⟨d', as', r', Nat.le_trans hd' (Nat.le_max_left _ _)⟩
        · obtain ⟨d', as', r', hd'⟩ := hb2 b hm
          exact ⟨d', as', r', Nat.le_trans hd' (Nat.le_max_right _ _)⟩
      · simp only [PyData.depthAll, PyData.shownAll]
        exact .cons ((k1.more fun b hb => List.mem_append_left _ hb).level_le (Nat.le_max_left _ _)) (k2.more_le (fun b hb => List.mem_append_right _ hb) (Nat.le_max_right _ _))
end
theorem Rp.shows {P : Program} {w : World} {F H : Hp} {h : Heap} {B L : Nat} (k : Ex F H) (ok : HOk P w H h) {a : Addr} {d : D} (r : Rp F (.ref a) d) (hp : okD B L d = true) (hs : d.showable = true) (hsz : d.shown.length ≤ sizeLine) : ∃ T idr, ShowsBy P w h a d T idr := by
  generalize ev : V.ref a = v at r
  cases r with
  | non => cases ev
  | bl => cases ev
  | int => cases ev
  | str => cases ev
  | ftup q n r =>
    unfold ft at hp
    rw [okD] at hp
    simp at hp
  | @tup a' xs ds q r =>
    cases ev
    obtain ⟨_, its, rv, o, ho, hc, n, hd⟩ := ok _ _ (k _ _ q)
    rw [okD, Bool.and_eq_true] at hp
    have hz' : (tupleText (PyData.shownAll ds)).length ≤ sizeLine := by simpa only [PyData.shown] using hsz
    obtain ⟨bs, hb, hk⟩ := RpA.reprK k ok r rv hp.2 (by simpa [PyData.showable] using hs) (fun t ht => Nat.le_trans (tupleText_mem_le ht) hz')
    obtain ⟨as, hr⟩ := RpA.readsE k ok r rv hp.2
    have rr : Reads h (.ref a) (.tuple ds) as := .tuple ho hc hd (by simpa using hr)
    have hna : a ∉ bs := not_mem_of_deeper rr (by simp only [PyData.depth]; omega) hb
    refine ⟨"tuple", "tuple.__repr__", PySem.F.slot_tuple_repr, PySem.F.slot_tuple_str, PySem.F.slot_tuple_format, fun s hk0 => ⟨o, hk0 _ _ ho, hc⟩, fun A E s Q hg hu hk0 hQ => ?_⟩
    simp only [PyData.depth] at hu
    simp only [PyData.shown] at hQ
    exact call_tuple_reprK ho hc hd hna (by simpa using hk) hg (fun b _ => Clear.nil b) hu hk0 hQ hz'
  | @lst a' xs ds q r =>
    cases ev
    obtain ⟨_, its, n, rv, ho⟩ := ok _ _ (k _ _ q)
    rw [okD, Bool.and_eq_true] at hp
    have hz' : (listText (PyData.shownAll ds)).length ≤ sizeLine := by simpa only [PyData.shown] using hsz
    obtain ⟨bs, hb, hk⟩ := RpA.reprK k ok r rv hp.2 (by simpa [PyData.showable] using hs) (fun t ht => Nat.le_trans (listText_mem_le ht) hz')
    obtain ⟨as, hr⟩ := RpA.readsE k ok r rv hp.2
    have rr : Reads h (.ref a) (.list ds) (a :: as) := .list ho rfl rfl (by simpa using hr)
    have hna : a ∉ bs := not_mem_of_deeper rr (by simp only [PyData.depth]; omega) hb
    refine ⟨"list", "list.__repr__", PySem.F.slot_list_repr.toG, PySem.F.slot_list_str, PySem.F.slot_list_format, fun s hk0 => ⟨_, hk0 _ _ ho, rfl⟩, fun A E s Q hg hu hk0 hQ => ?_⟩
    simp only [PyData.depth] at hu
    simp only [PyData.shown] at hQ
    cases its with
    | nil =>
      cases hr
      simp only [PyData.shownAll, listText_nil] at hQ
      exact call_list_repr_empty ⟨_, hk0 _ _ ho, rfl⟩ (hk0 _ _ ho) rfl (hQ s.heap _ _ fun _ _ e => e)
    | cons x l =>
      exact call_list_reprK ho rfl rfl hna (by simpa using hk.length_eq) (fun i y e => hk.item i y (by simpa using e)) hg (fun b _ => Clear.nil b) hu hk0 hQ hz'
  | @dct a' ws kvs q r =>
    cases ev
    unfold dctD at hp hsz ⊢
    rw [okD] at hp
    cases kvs with
    | cons _ _ => simp at hp
    | nil =>
      cases r
      obtain ⟨hsys, o, es, ep, h1, h2, h3, h4⟩ := dE_obj ok (k _ _ q)
      refine ⟨"dict", "dict.__repr__", PySem.F.slot_dict_repr, PySem.F.slot_dict_str, PySem.F.slot_dict_format, fun s hk0 => ⟨o, hk0 _ _ h1, h2⟩, fun A E s Q hg hu hk0 hQ => ?_⟩
      simp only [List.map_nil, PyData.depth] at hu
      simp only [List.map_nil, PyData.shown, shownKv_nil] at hQ
      exact call_dict_reprK (as := []) h1 h2 h3 hsys (by simp) (by rw [h4]; exact .nil) hg (fun b _ => Clear.nil b) hu hk0 hQ (by simpa only [List.map_nil, PyData.shown, shownKv_nil] using hsz)
/-! ### bounds -/
structure Odd (B L k : Nat) (d : D) : Prop where
  ok : okD B L d = true
  dp : d.depth ≤ k
def wtO (L : Nat) : Nat → Nat
  | 0 => 40
  | k + 1 => L * (wtO L k + 1) + 40
theorem wtO_ge (L : Nat) : ∀ k, 40 ≤ wtO L k
  | 0 => Nat.le_refl _
  | k + 1 => by rw [wtO]; omega
theorem wtO_step (L : Nat) : ∀ k, wtO L k ≤ wtO L (k + 1)
  | 0 => wtO_ge L 1
  | k + 1 => by
    have h := Nat.mul_le_mul_left L (Nat.succ_le_succ (wtO_step L k))
    rw [Nat.succ_eq_add_one, Nat.succ_eq_add_one] at h
    show L * (wtO L k + 1) + 40 ≤ L * (wtO L (k + 1) + 1) + 40
    omega
theorem wtO_mono {L k m : Nat} (h : k ≤ m) : wtO L k ≤ wtO L m := by
  induction h with
  | refl => exact Nat.le_refl _
  | step _ ih => exact Nat.le_trans ih (wtO_step L _)
theorem log2_lt40 {a : Nat} (h : a ≤ 2 ^ 38) : a.log2 < 39 := by
  by_cases e : a = 0
  · subst e; decide
  · exact (Nat.log2_lt e).mpr (by omega)
mutual
theorem okD_weight {B L : Nat} (hB : B ≤ 2 ^ 38) : ∀ {d : D} (k : Nat), okD B L d = true → d.depth ≤ k → d.weight ≤ wtO L k
  | .none, k, _, _ => by rw [PyData.weight]; omega
  | .bool _, k, _, _ => by rw [PyData.weight]; omega
  | .int i, k, h, _ => by
    rw [okD, decide_eq_true_eq] at h
    have h1 := log2_lt40 (Nat.le_trans h hB)
    have := wtO_ge L k
    rw [PyData.weight]
    split <;> omega
  | .str x, k, h, _ => by
    rw [okD, Bool.and_eq_true, decide_eq_true_eq] at h
    have := wtO_ge L k
    rw [PyData.weight]
    omega
  | .list xs, 0, h, hd => by rw [PyData.depth] at hd; omega
  | .tuple xs, 0, h, hd => by rw [PyData.depth] at hd; omega
  | .list xs, k + 1, h, hd => by
    rw [okD, Bool.and_eq_true, decide_eq_true_eq] at h
    rw [PyData.depth] at hd
    have h1 := okDAll_weight hB k h.2 (by omega)
    have h2 := Nat.mul_le_mul_right (wtO L k + 1) h.1
    rw [PyData.weight, wtO]
    omega
  | .tuple xs, k + 1, h, hd => by
    rw [okD, Bool.and_eq_true, decide_eq_true_eq] at h
    rw [PyData.depth] at hd
    have h1 := okDAll_weight hB k h.2 (by omega)
    have h2 := Nat.mul_le_mul_right (wtO L k + 1) h.1
    rw [PyData.weight, wtO]
    omega
  | .dict kvs, k, h, _ => by
    rw [okD] at h
    cases kvs with
    | cons _ _ => cases h
    | nil => rw [PyData.weight, PyData.weightKv]; omega
theorem okDAll_weight {B L : Nat} (hB : B ≤ 2 ^ 38) : ∀ {xs : List D} (k : Nat), okDAll B L xs = true → PyData.depthAll xs ≤ k → PyData.weightAll xs ≤ xs.length * (wtO L k + 1)
  | [], k, _, _ => Nat.zero_le _
  | x :: xs, k, h, hd => by
    rw [okDAll, Bool.and_eq_true] at h
    rw [PyData.depthAll] at hd
    have h1 := okD_weight hB k h.1 (by omega)
    have h2 := okDAll_weight hB k h.2 (by omega)
    rw [PyData.weightAll, List.length_cons, Nat.succ_mul]
    omega
end
mutual
theorem okD_show {B L : Nat} (hB : B < 2 ^ 38) : ∀ {d : D}, okD B L d = true → d.showable = true
  | .none, _ => rfl
  | .bool _, _ => rfl
  | .str _, _ => rfl
  | .int i, h => by
    rw [okD, decide_eq_true_eq] at h
    have h1 := log2_lt40 (a := i.natAbs) (by omega)
    rw [PyData.showable, decide_eq_true_eq]
    omega
  | .list xs, h => by
    rw [okD, Bool.and_eq_true] at h
    rw [PyData.showable]
    exact okDAll_show hB h.2
  | .tuple xs, h => by
    rw [okD, Bool.and_eq_true] at h
    rw [PyData.showable]
    exact okDAll_show hB h.2
  | .dict kvs, h => by
    rw [okD] at h
    cases kvs with
    | cons _ _ => cases h
    | nil => rw [PyData.showable, PyData.showableKv]
theorem okDAll_show {B L : Nat} (hB : B < 2 ^ 38) : ∀ {xs : List D}, okDAll B L xs = true → PyData.showableAll xs = true
  | [], _ => rfl
  | x :: xs, h => by
    rw [okDAll, Bool.and_eq_true] at h
    rw [PyData.showableAll, okD_show hB h.1, okDAll_show hB h.2]; rfl
end
theorem pow12 : (10 : Nat) ^ 12 = 1000000000000 := by decide
theorem pow38 : (2 : Nat) ^ 38 = 274877906944 := by decide
mutual
theorem okD_short {B L : Nat} (hB : B < 2 ^ 38) : ∀ {d : D}, okD B L d = true → d.leavesShort 13 = true
  | .none, _ => rfl
  | .bool _, _ => rfl
  | .str x, h => by
    rw [okD, Bool.and_eq_true] at h
    rw [PyData.leavesShort]
    exact h.2
  | .int i, h => by
    rw [okD, decide_eq_true_eq] at h
    rw [PyData.leavesShort, decide_eq_true_eq]
    refine PyData.shown_int_le ?_
    rw [pow12]
    rw [pow38] at hB
    omega
  | .list xs, h => by
    rw [okD, Bool.and_eq_true] at h
    rw [PyData.leavesShort]
    exact okDAll_short hB h.2
  | .tuple xs, h => by
    rw [okD, Bool.and_eq_true] at h
    rw [PyData.leavesShort]
    exact okDAll_short hB h.2
  | .dict kvs, h => by
    rw [okD] at h
    cases kvs with
    | cons _ _ => cases h
    | nil => rw [PyData.leavesShort, PyData.leavesShortKv]
theorem okDAll_short {B L : Nat} (hB : B < 2 ^ 38) : ∀ {xs : List D}, okDAll B L xs = true → PyData.leavesShortAll 13 xs = true
  | [], _ => rfl
  | x :: xs, h => by
    rw [okDAll, Bool.and_eq_true] at h
    rw [PyData.leavesShortAll, okD_short hB h.1, okDAll_short hB h.2]; rfl
end
mutual
theorem okD_mono {B B' L L' : Nat} (hB : B ≤ B') (hL : L ≤ L') : ∀ {d : D}, okD B L d = true → okD B' L' d = true
  | .none, _ => rfl
  | .bool _, _ => rfl
  | .str x, h => by rw [okD] at h ⊢; exact h
  | .int i, h => by rw [okD, decide_eq_true_eq] at h ⊢; omega
  | .list xs, h => by
    rw [okD, Bool.and_eq_true, decide_eq_true_eq] at h ⊢
    exact ⟨by omega, okDAll_mono hB hL h.2⟩
  | .tuple xs, h => by
    rw [okD, Bool.and_eq_true, decide_eq_true_eq] at h ⊢
    exact ⟨by omega, okDAll_mono hB hL h.2⟩
  | .dict kvs, h => by rw [okD] at h ⊢; exact h
theorem okDAll_mono {B B' L L' : Nat} (hB : B ≤ B') (hL : L ≤ L') : ∀ {xs : List D}, okDAll B L xs = true → okDAll B' L' xs = true
  | [], _ => rfl
  | x :: xs, h => by
    rw [okDAll, Bool.and_eq_true] at h ⊢
    exact ⟨okD_mono hB hL h.1, okDAll_mono hB hL h.2⟩
end
theorem Odd.mono {B B' L L' k k' : Nat} {d : D} (h : Odd B L k d) (hB : B ≤ B') (hL : L ≤ L') (hk : k ≤ k') : Odd B' L' k' d := ⟨okD_mono hB hL h.ok, Nat.le_trans h.dp hk⟩
theorem odd_int {B L k : Nat} {i : Int} (h : i.natAbs ≤ B) : Odd B L k (.int i) := ⟨by rw [okD]; exact decide_eq_true h, Nat.zero_le _⟩
theorem odd_bool {B L k : Nat} (b : Bool) : Odd B L k (.bool b) := ⟨rfl, Nat.zero_le _⟩
theorem odd_none {B L k : Nat} : Odd B L k .none := ⟨rfl, Nat.zero_le _⟩
theorem odd_dct0 {B L k : Nat} : Odd B L (k + 1) (dctD []) := ⟨rfl, by show PyData.depth (.dict []) ≤ _; rw [PyData.depth, PyData.depthKv]; omega⟩
theorem odd_list {B L k : Nat} {ds : List D} (hl : ds.length ≤ L) (h : ∀ d ∈ ds, Odd B L k d) : Odd B L (k + 1) (.list ds) := by
  refine ⟨?_, ?_⟩
  · rw [okD, decide_eq_true hl, okDAll_iff.mpr fun d hd => (h d hd).ok]; rfl
  · rw [PyData.depth]
    exact Nat.succ_le_succ (depthAll_of fun d hd => (h d hd).dp)
theorem odd_tup {B L k : Nat} {ds : List D} (hl : ds.length ≤ L) (h : ∀ d ∈ ds, Odd B L k d) : Odd B L (k + 1) (.tuple ds) := by
  refine ⟨?_, ?_⟩
  · rw [okD, decide_eq_true hl, okDAll_iff.mpr fun d hd => (h d hd).ok]; rfl
  · rw [PyData.depth]
    exact Nat.succ_le_succ (depthAll_of fun d hd => (h d hd).dp)
theorem Odd.tup {B L k : Nat} {ds : List D} (h : Odd B L (k + 1) (.tuple ds)) : ds.length ≤ L ∧ ∀ d ∈ ds, Odd B L k d := by
  obtain ⟨h1, h2⟩ := h
  rw [okD, Bool.and_eq_true, decide_eq_true_eq] at h1
  rw [PyData.depth] at h2
  refine ⟨h1.1, fun d hd => ⟨okDAll_iff.mp h1.2 d hd, ?_⟩⟩
  have : ∀ {xs : List D}, d ∈ xs → d.depth ≤ PyData.depthAll xs := by
    intro xs
    induction xs with
    | nil => intro z; cases z
    | cons x xs ih =>
      intro z
      rw [PyData.depthAll]
      rcases List.mem_cons.mp z with rfl | z
      · exact Nat.le_max_left _ _
      · exact Nat.le_trans (ih z) (Nat.le_max_right _ _)
  have := this hd
  omega
theorem Odd.tup0 {B L : Nat} {ds : List D} (h : Odd B L 0 (.tuple ds)) : False := by
  have := h.dp
  rw [PyData.depth] at this
  omega
/-! ### repr -/
variable {X : Cx} {r : SR} {S : List Sl}
def rReprE (X : Cx) : List V → Hp → VK → Prop := fun vs H Q => ∃ F x d B L, vs = [x] ∧ Ex F H ∧ Rp F x d ∧ okD B L d = true ∧ d.showable = true ∧ X.A.units + (d.depth + 1) < cLine ∧ d.shown.length ≤ sizeLine ∧ Q (.str d.shown) H
theorem call_reprE (hg : X.A.guards = some []) : CallR X (.builtin "repr") (rReprE X) := by
  intro pins s σ H xs us Q I rr h
  obtain ⟨F, x, d, B, L, rfl, k, rp, hpl, hs, hu, hz, q⟩ := h
  obtain ⟨u, rfl, rx⟩ := vals1 rr
  have main : ∀ a : Addr, x = V.ref a → u = Value.ref a → wpAny (model X.prog X.w) X.A (call (.builtin "repr") [u]) (EP X pins σ Q) X.xe s := by
    rintro a rfl rfl
    obtain ⟨T, idr, S⟩ := Rp.shows k I.hok rp hpl hs hz
    exact call_repr_slot (by omega) (S.typeIs s fun _ _ e => e) S.slotRepr (S.call X.A.in1 X.xe s _ hg (by show X.A.units + 1 + d.depth < cLine; omega) (fun _ _ e => e) fun h' u tk hk => ⟨_, _, rfl, ⟨.str _, H, I.kept hk, ⟨_, rfl⟩, q⟩⟩)
  cases rp with
  | non =>
    cases rx
    exact PySem.P.repr_of_none ⟨.str _, H, I.tok _, ⟨_, rfl⟩, by simpa only [PyData.shown] using q⟩
  | bl b =>
    cases rx
    exact PySem.P.repr_of_bool ⟨.str _, H, I.tok _, ⟨_, rfl⟩, by simpa only [PyData.shown] using q⟩
  | int i =>
    obtain ⟨t, rfl⟩ := rx
    exact PySem.P.repr_of_int (by simpa only [PyData.showable, decide_eq_true_eq] using hs) ⟨.str _, H, I.tok _, ⟨_, rfl⟩, by simpa only [PyData.shown] using q⟩
  | str x =>
    obtain ⟨t, rfl⟩ := rx
    exact PySem.P.repr_of_str ⟨.str _, H, I.tok _, ⟨_, rfl⟩, by simpa only [PyData.shown] using q⟩ (by simpa only [PyData.shown] using hz)
  | @tup a ws ds ha rv =>
    cases rx
    exact main a rfl rfl
  | @lst a ws ds ha rv =>
    cases rx
    exact main a rfl rfl
  | @dct a ws kvs ha rv =>
    cases rx
    exact main a rfl rfl
  | @ftup a o ws ds ha n rv =>
    cases rx
    exact main a rfl rfl
/-- what may be told by repr -/
structure ShO (d : D) : Prop where
  ex : ∃ B L k, Odd B L k d ∧ B < 2 ^ 38 ∧ wtO L k ≤ 2 ^ 20 ∧ k ≤ 40
theorem Odd.sho {B L k : Nat} {d : D} (h : Odd B L k d) (hB : B < 2 ^ 38) (hw : wtO L k ≤ 2 ^ 20) (hk : k ≤ 40) : ShO d := ⟨B, L, k, h, hB, hw, hk⟩
theorem cd_reprE {k : Nat} (hr : Room k X.A) {d : D} {K : D → Prop} (h : ShO d) (kd : K (.str d.shown)) : CallD (rReprE X) [d] K := fun F H vs kF rv Q q => by
  obtain ⟨B, L, m, h, hB, hw, hk⟩ := h.ex
  cases rv with
  | cons r1 t =>
    cases t
    exact ⟨F, _, d, B, L, rfl, kF, r1, h.ok, okD_show hB h.ok, by have := h.dp; have := hr.un; omega, PyData.shown_fits (B := 13) (by decide) (by decide) (okD_short hB h.ok) (Nat.le_trans (okD_weight (Nat.le_of_lt hB) m h.ok h.dp) hw), q _ _ F H kd (Grow.refl kF) (.str _)⟩
theorem jreprE {K : D → List Sl → Prop} {a : Expr} {p pos : Pos} {k : Nat} (hg0 : X.A.guards = some []) (hr : Room k X.A) (hm : X.mg "repr" = none) (h : JE X r a S fun d S1 => ShO d ∧ K (.str d.shown) S1)
    (hg : Gl X "repr" := by rfl) (hs : starEach [a] X.env = (false, eval a X.env) :: starEach [] X.env := by rfl) : JE X r (.Call (.Name "repr" p) [a] [] pos) S K :=
  jB (call_reprE hg0) hm (ja1 (h.mono fun d S' ⟨sh, k⟩ => ⟨[d], rfl, cd_reprE hr sh k⟩) hs) hg (he := hs)
/-! ### == of tuples, of lists with [] -/
theorem isTuple_of {P : Program} {w : World} {F H : Hp} {h : Heap} (k : Ex F H) (ok : HOk P w H h) {v : V} {ds : List D} {u : Value} (r : Rp F v (.tuple ds)) (e : RelV v u) : ∃ a us vs, v = .ref a ∧ u = .ref a ∧ h.IsTuple a us ∧ Vals vs us.toList ∧ RpA F vs ds := by
  cases r with
  | @tup a vs _ q r =>
    cases e
    obtain ⟨_, its, rv, o, ho, hc, n, hd⟩ := ok _ _ (k _ _ q)
    exact ⟨a, its.toArray, vs, rfl, rfl, ⟨_, ho, hc, _, hd⟩, by simpa using rv, r⟩
theorem isList_of {P : Program} {w : World} {F H : Hp} {h : Heap} (k : Ex F H) (ok : HOk P w H h) {v : V} {ds : List D} {u : Value} (r : Rp F v (.list ds)) (e : RelV v u) : ∃ a us vs, v = .ref a ∧ u = .ref a ∧ h.IsList a us ∧ Vals vs us.toList ∧ RpA F vs ds := by
  cases r with
  | @lst a vs _ q r =>
    cases e
    obtain ⟨_, its, n, rv, ho⟩ := ok _ _ (k _ _ q)
    exact ⟨a, its.toArray, vs, rfl, rfl, ⟨_, ho, rfl, _, rfl⟩, by simpa using rv, r⟩
theorem vals_length {vs : List V} {us : List Value} (h : Vals vs us) : vs.length = us.length := h.length
/-- a tuple, whatever its items, == () -/
def rEqT0 (X : Cx) : R2 := fun x y H Q => ∃ F ds, Ex F H ∧ Rp F x (.tuple ds) ∧ Rp F y (.tuple []) ∧ X.A.units < cLine ∧ Q (.bl ds.isEmpty) H
theorem op_eqT0 : OpR X (compareOp .Eq) (rEqT0 X) := by
  intro pins s σ H x y v u Q I rx ry h
  obtain ⟨F, ds, k, r1, r2, hu, q⟩ := h
  obtain ⟨a, us, vs, rfl, rfl, t1, v1, p1⟩ := isTuple_of k I.hok r1 rx
  obtain ⟨b, us2, vs2, rfl, rfl, t2, v2, p2⟩ := isTuple_of k I.hok r2 ry
  cases p2
  have h2 : us2.size = 0 := by have := vals_length v2; simpa using this.symm
  have h1 : us.size = ds.length := by
    have e1 : vs.length = us.size := by have := vals_length v1; simpa using this
    have e2 := p1.length
    omega
  refine PySem.SeqAt.eq_tupleAt (e := fun _ => true) t1 t2 hu (fun j _ j2 => absurd j2 (by omega)) ⟨.bl _, H, I, rfl, ?_⟩
  rw [h1, h2, Nat.min_zero]
  cases ds with
  | nil => exact q
  | cons _ _ => exact q
theorem od_eqT0 {k : Nat} (hr : Room k X.A) {ds : List D} {K : D → Prop} (h : K (.bool ds.isEmpty)) : OpD (rEqT0 X) (.tuple ds) (.tuple []) K := fun F H v1 v2 k r1 r2 Q q =>
  ⟨F, ds, k, r1, r2, by have := hr.un; omega, q _ _ F H h (Grow.refl k) (.bl _)⟩
/-- a tuple that begins with a text == (another text,) -/
def rEqT1 (X : Cx) : R2 := fun x y H Q => ∃ F s t ds, Ex F H ∧ Rp F x (.tuple (.str s :: ds)) ∧ Rp F y (.tuple [.str t]) ∧ X.A.units < cLine ∧ Q (.bl (decide (s = t) && ds.isEmpty)) H
theorem op_eqT1 : OpR X (compareOp .Eq) (rEqT1 X) := by
  intro pins s σ H x y v u Q I rx ry h
  obtain ⟨F, sx, tx, ds, k, r1, r2, hu, q⟩ := h
  obtain ⟨a, us, vs, rfl, rfl, t1, v1, p1⟩ := isTuple_of k I.hok r1 rx
  obtain ⟨b, us2, vs2, rfl, rfl, t2, v2, p2⟩ := isTuple_of k I.hok r2 ry
  obtain ⟨us⟩ := us
  obtain ⟨us2⟩ := us2
  cases p2 with
  | cons pa pb =>
    cases pb
    cases pa
    cases v2 with
    | cons va vb =>
      cases vb
      obtain ⟨tk2, rfl⟩ := va
      cases p1 with
      | cons qa qb =>
        cases qa
        cases v1 with
        | @cons _ u0 _ us' wa wb =>
          obtain ⟨tk1, rfl⟩ := wa
          have hl : us'.length = ds.length := by
            have e1 := vals_length wb
            have e2 := qb.length
            omega
          refine PySem.SeqAt.eq_tupleAt (e := fun _ => sx == tx) t1 t2 hu (fun j _ j2 => ?_) ⟨.bl _, H, I, rfl, ?_⟩
          · have j0 : j = 0 := by
              have : j < 1 := j2
              omega
            subst j0
            exact PySem.SeqAt.EqAt.str_str sx tk1 tx tk2
          · have e : ((List.range (min (Value.str sx tk1 :: us').toArray.size [Value.str tx tk2].toArray.size)).all (fun _ => sx == tx) && (Value.str sx tk1 :: us').toArray.size == [Value.str tx tk2].toArray.size) = (decide (sx = tx) && ds.isEmpty) := by
              rw [List.size_toArray, List.size_toArray, List.length_cons, List.length_singleton, show min (us'.length + 1) 1 = 1 by omega, hl]
              have e1 : (sx == tx) = decide (sx = tx) := PySem.W.beq_decide sx tx
              rw [e1]
              cases ds with
              | nil => simp
              | cons _ _ => simp
            rw [e]
            exact q
theorem od_eqT1 {k : Nat} (hr : Room k X.A) {s t : Str} {ds : List D} {K : D → Prop} (h : K (.bool (decide (s = t) && ds.isEmpty))) : OpD (rEqT1 X) (.tuple (.str s :: ds)) (.tuple [.str t]) K := fun F H v1 v2 k r1 r2 Q q =>
  ⟨F, s, t, ds, k, r1, r2, by have := hr.un; omega, q _ _ F H h (Grow.refl k) (.bl _)⟩
/-- a list, whatever its items, == [], != [] -/
def rEqL0 (X : Cx) (neg : Bool) : R2 := fun x y H Q => ∃ F ds, Ex F H ∧ Rp F x (.list ds) ∧ Rp F y (.list []) ∧ X.A.units < cLine ∧ Q (.bl (if neg = true then !ds.isEmpty else ds.isEmpty)) H
theorem op_eqL0 : OpR X (compareOp .Eq) (rEqL0 X false) := by
  intro pins s σ H x y v u Q I rx ry h
  obtain ⟨F, ds, k, r1, r2, hu, q⟩ := h
  obtain ⟨a, us, vs, rfl, rfl, t1, v1, p1⟩ := isList_of k I.hok r1 rx
  obtain ⟨b, us2, vs2, rfl, rfl, t2, v2, p2⟩ := isList_of k I.hok r2 ry
  cases p2
  have h2 : us2.size = 0 := by have := vals_length v2; simpa using this.symm
  have h1 : us.size = ds.length := by
    have e1 : vs.length = us.size := by have := vals_length v1; simpa using this
    have e2 := p1.length
    omega
  cases ds with
  | nil =>
    refine PySem.SeqAt.eq_listAt (e := fun _ => true) t1 t2 (by rw [h1, h2]; rfl) hu (fun j _ j2 => absurd j2 (by omega)) ⟨.bl _, H, I, rfl, ?_⟩
    rw [h1]; exact q
  | cons z zs =>
    refine PySem.SeqAt.eq_list_lengthsAt t1 t2 (by rw [h1, h2]; rfl) hu ⟨.bl _, H, I, rfl, q⟩
theorem op_neL0 : OpR X (compareOp .NotEq) (rEqL0 X true) := by
  intro pins s σ H x y v u Q I rx ry h
  obtain ⟨F, ds, k, r1, r2, hu, q⟩ := h
  obtain ⟨a, us, vs, rfl, rfl, t1, v1, p1⟩ := isList_of k I.hok r1 rx
  obtain ⟨b, us2, vs2, rfl, rfl, t2, v2, p2⟩ := isList_of k I.hok r2 ry
  cases p2
  have h2 : us2.size = 0 := by have := vals_length v2; simpa using this.symm
  have h1 : us.size = ds.length := by
    have e1 : vs.length = us.size := by have := vals_length v1; simpa using this
    have e2 := p1.length
    omega
  cases ds with
  | nil =>
    refine PySem.SeqAt.RcNeAt.lists (e := fun _ => true) t1 t2 (by rw [h1, h2]; rfl) hu (fun j _ j2 => absurd j2 (by omega)) _ _ _ _ ⟨.bl _, H, I, rfl, ?_⟩
    rw [h1]; exact q
  | cons z zs =>
    exact PySem.SeqAt.RcNeAt.lists_lengths t1 t2 (by rw [h1, h2]; rfl) hu _ _ _ _ ⟨.bl _, H, I, rfl, q⟩
theorem od_eqL0 {k : Nat} (hr : Room k X.A) {neg : Bool} {ds : List D} {K : D → Prop} (h : K (.bool (if neg = true then !ds.isEmpty else ds.isEmpty))) : OpD (rEqL0 X neg) (.list ds) (.list []) K := fun F H v1 v2 k r1 r2 Q q =>
  ⟨F, ds, k, r1, r2, by have := hr.un; omega, q _ _ F H h (Grow.refl k) (.bl _)⟩
/-! ### {"a": 1, ..}.get(x, 0) -/
def trsC (cs : List (Str × Int)) : List (TE × TE) := cs.map fun c => (tC (.str c.1), tC (.int c.2))
def getC (cs : List (Str × Int)) (s : Str) : Option Int := ((cs.foldl (fun acc c => putK acc (.inr c.1) (V.int c.2)) ([] : List (Key × V))) |> fun kvs => valV kvs (.inr s)).bind fun v => match v with
  | .int i => some i
  | _ => none
theorem tPairs_C (σ : St) (H : Hp) (Q : List (V × V) → Hp → Prop) : ∀ cs : List (Str × Int), Q (cs.map fun c => (V.str c.1, V.int c.2)) H → tPairs (trsC cs) σ H Q
  | [], q => q
  | c :: cs, q => tPairs_C σ H (fun ps H' => Q ((V.str c.1, V.int c.2) :: ps) H') cs q
def allInt (kvs : List (Key × V)) : Prop := ∀ p ∈ kvs, ∃ i, p.2 = V.int i
theorem allInt_put {kvs : List (Key × V)} (h : allInt kvs) (k : Key) (i : Int) : allInt (putK kvs k (.int i)) := by
  intro p hp
  unfold putK at hp
  split at hp
  · obtain ⟨q, hq, rfl⟩ := List.mem_map.mp hp
    split
    · exact ⟨i, rfl⟩
    · exact h q hq
  · rcases List.mem_append.mp hp with hp | hp
    · exact h p hp
    · rw [List.mem_singleton.mp hp]; exact ⟨i, rfl⟩
theorem allInt_fold : ∀ (cs : List (Str × Int)) {kvs : List (Key × V)}, allInt kvs → allInt (cs.foldl (fun acc c => putK acc (.inr c.1) (V.int c.2)) kvs)
  | [], _, h => h
  | c :: cs, _, h => allInt_fold cs (allInt_put h _ _)
theorem je_dispGet {K : D → List Sl → Prop} {keys : List (Option Expr)} {vals : List Expr} {a b : Expr} {dpos apos cpos : Pos} {k : Nat} (hr : Room k X.A) (cs : List (Str × Int)) (hp : PPs X dpos keys vals (trsC cs)) (h : JE X r a S fun d1 S1 => JE X r b S1 fun d2 S2 => ∃ s i0, d1 = .str s ∧ d2 = .int i0 ∧ K (.int ((getC cs s).getD i0)) S2)
    (hall : keys.all (·.isSome) = true := by rfl) (hl : keys.length = vals.length := by rfl) (h0 : keys ≠ [] := by decide) (h15 : keys.length ≤ 15 := by decide) (hc15 : cs.length ≤ 15 := by decide)
    (m : M2 X (.Dict keys vals dpos) "get" apos a b cpos := by exact ⟨rfl, rfl, rfl, rfl⟩) : JE X r (.Call (.Attribute (.Dict keys vals dpos) "get" apos) [a, b] [] cpos) S K := fun c F σ H hr' E Q q =>
  of_pe (pe_dget2 (by have := hr.un; omega) (pe_disp hp hall hl h0 h15) pe_tE pe_tE m) (fun p hn => tPairs_C σ _ _ cs ⟨upd_same, cs.map (fun c => (Sum.inr c.1, V.int c.2)), by rw [List.map_map]; rfl, by rw [List.length_map]; exact hc15, by
    rw [upd_upd]
    have e : mergeK [] (cs.map (fun c => ((Sum.inr c.1 : Key), V.int c.2))) = cs.foldl (fun acc c => putK acc (.inr c.1) (V.int c.2)) [] := by
      unfold mergeK
      rw [List.foldl_map]
    rw [e]
    have hi := allInt_fold cs (kvs := []) (fun p hp => nomatch hp)
    have eg : ∀ s, getC cs s = (valV (cs.foldl (fun acc c => putK acc (.inr c.1) (V.int c.2)) ([] : List (Key × V))) (.inr s)).bind fun v => match v with | .int i => some i | _ => none := fun s => rfl
    generalize cs.foldl (fun acc c => putK acc (.inr c.1) (V.int c.2)) ([] : List (Key × V)) = kvs at *
    have E0 : EvD c S F σ (upd H p (.dK kvs)) := E.laid hn
    refine ⟨p, rfl, .inl ⟨kvs, .inl upd_same⟩, h (c.hold p (.dK kvs)) F σ _ (r.st c p _ (E.fin.bh.back hn) hr') (E0.hold upd_same (E.fin.fh.back hn) ?_ ?_) _ fun v1 d1 F1 H1 S1 h1 E1 k1 r1 => h1 (c.hold p (.dK kvs)) F1 σ H1 (r.st c p _ (E.fin.bh.back hn) hr') E1 _ fun v2 d2 F2 H2 S2 h2 E2 k2 r2 => ?_⟩
    · intro qq eq
      obtain ⟨⟨_, _, _, _, s1, s2⟩, _⟩ := E.fin.src qq eq
      exact ⟨fun z => (by rw [z, s1] at hn; cases hn), fun z => (by rw [z, s2] at hn; cases hn)⟩
    · intro j xs ej es
      obtain ⟨x, e1, a', vs', e2, hh, _⟩ := E.sl j _ ej
      rw [es] at e1
      cases e1
      cases e2
      rw [hn] at hh
      cases hh
    · obtain ⟨s, i0, rfl, rfl, kk⟩ := h2
      obtain ⟨E3, hp2, _⟩ := EvD.unhold (vs := .dK kvs) (fun xs z => nomatch z) E2 (E.fin.bh.back hn) (by
        cases z : c.F0 p with
        | none => rfl
        | some u =>
          have := E.fin.fh _ _ (E.fin.f0 _ _ z)
          rw [hn] at this; cases this)
      cases r1
      refine ⟨valV kvs (.inr s), .inl ⟨kvs, .inr s, .inl hp2, rfl, rfl⟩, ?_⟩
      rw [eg] at kk
      cases r2
      cases z : valV kvs (.inr s) with
      | none =>
        rw [z] at kk
        exact q _ _ F2 H2 S2 kk E3 (k1.trans k2) (.int _)
      | some v =>
        rw [z] at kk
        obtain ⟨i, ei⟩ : ∃ i, v = V.int i := by
          unfold valV at z
          cases z2 : kvs.find? (fun kv => decide (kv.1 = Sum.inr s)) with
          | none => rw [z2] at z; cases z
          | some pr =>
            rw [z2] at z
            obtain ⟨i, e⟩ := hi pr (List.mem_of_find?_eq_some z2)
            exact ⟨i, by rw [← e]; exact (Option.some.inj z).symm⟩
        subst ei
        exact q _ _ F2 H2 S2 kk E3 (k1.trans k2) (.int _)⟩)
end DL

/-! DL: kinds of odd values; tests that keep the slots; a test a < b < c; {..}.get of a display named aside. -/
namespace DL
open PySem L2
structure Txo (mg : Str → Option Value) : Prop where
  isi : mg "isinstance" = none
  int : mg "int" = none
  bol : mg "bool" = none
  tup : mg "tuple" = none
  str : mg "str" = none
def isInt : D → Bool
  | .int _ => true
  | _ => false
def isBool : D → Bool
  | .bool _ => true
  | _ => false
def isTup : D → Bool
  | .tuple _ => true
  | _ => false
def isStr : D → Bool
  | .str _ => true
  | _ => false
def noF : D → Bool
  | .dict ((.none, _) :: _) => false
  | _ => true
theorem noF_ok {B L : Nat} {d : D} (h : okD B L d = true) : noF d = true := by
  cases d with
  | dict kvs =>
    rw [okD] at h
    cases kvs with
    | nil => rfl
    | cons _ _ => cases h
  | _ => rfl
theorem tyD_dict : ∀ {kvs : List (D × D)}, noF (.dict kvs) = true → tyD (.dict kvs) = "dict"
  | [], _ => rfl
  | (a, b) :: t, h => by
    cases a <;> first | rfl | cases h
theorem kt_int : ∀ {d : D}, noF d = true → kitB (tyD d) "int" = some (isInt d || isBool d)
  | .none, _ => rfl
  | .bool _, _ => rfl
  | .int _, _ => rfl
  | .str _, _ => rfl
  | .list _, _ => rfl
  | .tuple _, _ => rfl
  | .dict kvs, h => by rw [tyD_dict h]; rfl
theorem kt_bool : ∀ {d : D}, noF d = true → kitB (tyD d) "bool" = some (isBool d)
  | .none, _ => rfl
  | .bool _, _ => rfl
  | .int _, _ => rfl
  | .str _, _ => rfl
  | .list _, _ => rfl
  | .tuple _, _ => rfl
  | .dict kvs, h => by rw [tyD_dict h]; rfl
theorem kt_tup : ∀ {d : D}, noF d = true → kitB (tyD d) "tuple" = some (isTup d)
  | .none, _ => rfl
  | .bool _, _ => rfl
  | .int _, _ => rfl
  | .str _, _ => rfl
  | .list _, _ => rfl
  | .tuple _, _ => rfl
  | .dict kvs, h => by rw [tyD_dict h]; rfl
theorem kt_str : ∀ {d : D}, noF d = true → kitB (tyD d) "str" = some (isStr d)
  | .none, _ => rfl
  | .bool _, _ => rfl
  | .int _, _ => rfl
  | .str _, _ => rfl
  | .list _, _ => rfl
  | .tuple _, _ => rfl
  | .dict kvs, h => by rw [tyD_dict h]; rfl
theorem isTup_of {d : D} (h : isTup d = true) : ∃ ds, d = .tuple ds := by
  cases d <;> first | exact ⟨_, rfl⟩ | cases h
theorem isInt_of {d : D} (h : isInt d = true) : ∃ i, d = .int i := by
  cases d <;> first | exact ⟨_, rfl⟩ | cases h
theorem isStr_of {d : D} (h : isStr d = true) : ∃ i, d = .str i := by
  cases d <;> first | exact ⟨_, rfl⟩ | cases h
def nbD (d : D) (m : Int) : Bool := match d with
  | .int i => decide (0 ≤ i) && decide (i < m)
  | _ => false
theorem odd_tupG {B L k : Nat} {ds es : List D} (h : Odd B L (k + 1) (.tuple ds)) (hl : es.length ≤ L + 1) (hm : ∀ e ∈ es, e ∈ ds ∨ Odd (B + 2) (L + 1) (k + 1) e) : Odd (B + 2) (L + 1) (k + 2) (.tuple es) := by
  obtain ⟨_, h2⟩ := h.tup
  refine odd_tup hl fun d hd => ?_
  rcases hm d hd with h | h
  · exact (h2 d h).mono (by omega) (by omega) (by omega)
  · exact h
theorem odd_listG {B L k : Nat} {ds es : List D} (h : Odd B L (k + 1) (.tuple ds)) (hl : es.length ≤ L + 1) (hm : ∀ e ∈ es, e ∈ ds) : Odd (B + 2) (L + 1) (k + 2) (.list es) := by
  obtain ⟨_, h2⟩ := h.tup
  exact odd_list hl fun d hd => (h2 d (hm d hd)).mono (by omega) (by omega) (by omega)
theorem je_cutLast {X : Cx} {r : SR} {S : List Sl} {K : D → List Sl → Prop} {e : Expr} {k : Nat} {p1 p2 p3 pos : Pos} (h : JE X r e S fun d S1 => ∃ ds : List D, d = .tuple ds ∧ K (.tuple ds.dropLast) S1) : JE X r (.Subscript e (.Slice none (some (.UnaryOp .USub (.Constant (.int 1) k p1) p2)) none p3) pos) S K :=
  je_cutT (h.mono fun d S1 ⟨ds, e, kk⟩ => je_un un_neg <| je_int <| ud_neg ⟨-1, rfl, ds, e, by rw [cutD_last]; exact kk⟩)
theorem bent_put {B L k : Nat} {ds : List D} {x : D} {j : Nat} (h : Odd B L (k + 1) (.tuple ds)) (hj : j < ds.length) (hx : Odd (B + 2) (L + 1) (k + 1) x) : Odd (B + 2) (L + 1) (k + 2) (.tuple (ds.take j ++ [x] ++ ds.drop (j + 1))) := by
  have hl := h.tup.1
  refine odd_tupG h ?_ fun e he => ?_
  · rw [List.length_append, List.length_append, List.length_take, List.length_drop, List.length_singleton]
    omega
  · rcases List.mem_append.mp he with he | he
    · rcases List.mem_append.mp he with he | he
      · exact .inl (List.mem_of_mem_take he)
      · rw [List.mem_singleton.mp he]; exact .inr hx
    · exact .inl (List.mem_of_mem_drop he)
theorem JT.keep {X : Cx} {r : SR} {S : List Sl} {t : Expr} {K : Bool → List Sl → Prop} (p : Bool) (h : JT X r t S fun b S' => S' = S ∧ b = p) (k : K p S) : JT X r t S K := h.mono fun b S' ⟨e1, e2⟩ => by rw [e1, e2]; exact k
theorem JE.keep {X : Cx} {r : SR} {S : List Sl} {t : Expr} {K : D → List Sl → Prop} (p : D) (h : JE X r t S fun b S' => S' = S ∧ b = p) (k : K p S) : JE X r t S K := h.mono fun b S' ⟨e1, e2⟩ => by rw [e1, e2]; exact k
theorem filter_first {α : Type} {q : α → Bool} : ∀ {l : List α} {i : Nat} {p : α}, l[i]? = some p → q p = true → (∀ j z, j < i → l[j]? = some z → q z = false) → ∃ t, l.filter q = p :: t
  | [], _, _, h, _, _ => by simp at h
  | x :: l, 0, p, h, hq, _ => by
    cases h
    rw [List.filter_cons_of_pos hq]
    exact ⟨_, rfl⟩
  | x :: l, i + 1, p, h, hq, hb => by
    have hx := hb 0 x (by omega) rfl
    rw [List.filter_cons_of_neg (by rw [hx]; decide)]
    exact filter_first (l := l) h hq fun j z hj hz => hb (j + 1) z (by omega) hz
theorem v_cases (v : D) : isTup v = false ∨ v = .tuple [] ∨ (∃ x q, v = .tuple (x :: q) ∧ isStr x = false) ∨ ∃ s q, v = .tuple (.str s :: q) := by
  cases v with
  | tuple ds =>
    cases ds with
    | nil => exact .inr (.inl rfl)
    | cons x q =>
      cases x with
      | str s => exact .inr (.inr (.inr ⟨s, q, rfl⟩))
      | _ => exact .inr (.inr (.inl ⟨_, q, rfl, rfl⟩))
  | _ => exact .inl rfl
theorem any_filter {α : Type} (l : List α) (p : α → Bool) : (!(l.filter p).isEmpty) = l.any p := by
  induction l with
  | nil => rfl
  | cons x l ih =>
    rw [List.filter_cons, List.any_cons]
    cases e : p x with
    | true => rfl
    | false => rw [if_neg Bool.false_ne_true, ih]; rfl
theorem atI0 {x : D} {q : List D} : atI (x :: q) 0 = some x := atI_nat (j := 0) rfl
theorem okD_tail {B L : Nat} {x : D} {q : List D} (h : okD B L (.tuple (x :: q)) = true) : ∀ d ∈ q, okD B L d = true := fun d hd => by
  rw [okD, Bool.and_eq_true] at h
  exact okDAll_iff.mp h.2 d (List.mem_cons_of_mem _ hd)
theorem okD_len {B L : Nat} {q : List D} (h : okD B L (.tuple q) = true) : q.length ≤ L := by
  rw [okD, Bool.and_eq_true, decide_eq_true_eq] at h
  exact h.1
section
variable {X : Cx} {r : SR} {S : List Sl}
/-- a < b < c, a test -/
theorem jt_chain {K : Bool → List Sl → Prop} {a b c' : Expr} {op op' : CmpOp} {pos : Pos} {rr rr' : R2} (hp : PT X (.Compare a [op, op'] [b, c'] pos) (tTest (tChain rr rr' (tE X a) (tE X b) (tE X c')))) (h : JE X r a S fun d1 S1 => JE X r b S1 fun d2 S2 => OpD rr d1 d2 fun d => ∃ k, d = .bool k ∧ if k = true then JE X r c' S2 fun d3 S3 => OpD rr' d2 d3 fun d => ∃ b, d = .bool b ∧ K b S3 else K false S2) : JT X r (.Compare a [op, op'] [b, c'] pos) S K :=
  fun c F σ H hr E Q q => of_pt hp (h c F σ H hr E _ fun v1 d1 F1 H1 S1 h1 E1 k1 r1 => h1 c F1 σ H1 hr E1 _ fun v2 d2 F2 H2 S2 h2 E2 k2 r2 =>
    h2 F2 H2 v1 v2 E2.fin.fh (r1.ex k2) r2 _ fun v d F3 H3 kd g rp => by
      obtain ⟨b, rfl, kb⟩ := kd
      cases rp
      refine ⟨b, rfl, ?_⟩
      cases b with
      | true =>
        rw [if_pos rfl] at kb ⊢
        exact kb c F3 σ H3 hr (E2.grow g) _ fun v4 d4 F4 H4 S4 h4 E4 k4 r4 => h4 F4 H4 v2 v4 E4.fin.fh ((r2.ex g.kF).ex k4) r4 _ fun v5 d5 F5 H5 kd5 g5 rp5 => by
          obtain ⟨b5, rfl, kb5⟩ := kd5
          cases rp5
          exact ⟨b5, rfl, q b5 F5 H5 S4 kb5 (E4.grow g5) ((((k1.trans k2).trans g.kF).trans k4).trans g5.kF)⟩
      | false =>
        rw [if_neg Bool.false_ne_true] at kb ⊢
        exact ⟨false, rfl, q false F3 H3 S2 kb (E2.grow g) ((k1.trans k2).trans g.kF)⟩)
theorem je_dispGetP {K : D → List Sl → Prop} {dd a b : Expr} {apos cpos : Pos} {k : Nat} (hr : Room k X.A) (cs : List (Str × Int)) (hp : PE X dd (tDisp (trsC cs))) (hm : attributeBase dd "get" X.env (eval dd X.env) = eval dd X.env) (hc15 : cs.length ≤ 15) (h : JE X r a S fun d1 S1 => JE X r b S1 fun d2 S2 => ∃ s i0, d1 = .str s ∧ d2 = .int i0 ∧ K (.int ((getC cs s).getD i0)) S2)
    (h1 : ((backTo cpos (starEach [a, b] X.env)).all (fun x => !x.1) && (backToKw cpos (keywordEach [] X.env)).all (fun x => x.1.isSome) && decide (([a, b] : List Expr).length + ([] : List Keyword).length + (if ([] : List Keyword).isEmpty then 0 else 1) < 30)) = true := by rfl) (h2 : (apos.endLine == cpos.line) = true := by rfl) (h3 : backTo cpos (starEach [a, b] X.env) = [(false, eval a X.env), (false, eval b X.env)] := by rfl) : JE X r (.Call (.Attribute dd "get" apos) [a, b] [] cpos) S K := fun c F σ H hr' E Q q =>
  of_pe (pe_dget2 (by have := hr.un; omega) hp pe_tE pe_tE ⟨hm, h1, h2, h3⟩) (fun p hn => tPairs_C σ _ _ cs ⟨upd_same, cs.map (fun c => (Sum.inr c.1, V.int c.2)), by rw [List.map_map]; rfl, by rw [List.length_map]; exact hc15, by
    rw [upd_upd]
    have e : mergeK [] (cs.map (fun c => ((Sum.inr c.1 : Key), V.int c.2))) = cs.foldl (fun acc c => putK acc (.inr c.1) (V.int c.2)) [] := by
      unfold mergeK
      rw [List.foldl_map]
    rw [e]
    have hi := allInt_fold cs (kvs := []) (fun p hp => nomatch hp)
    have eg : ∀ s, getC cs s = (valV (cs.foldl (fun acc c => putK acc (.inr c.1) (V.int c.2)) ([] : List (Key × V))) (.inr s)).bind fun v => match v with | .int i => some i | _ => none := fun s => rfl
    generalize cs.foldl (fun acc c => putK acc (.inr c.1) (V.int c.2)) ([] : List (Key × V)) = kvs at *
    have E0 : EvD c S F σ (upd H p (.dK kvs)) := E.laid hn
    refine ⟨p, rfl, .inl ⟨kvs, .inl upd_same⟩, h (c.hold p (.dK kvs)) F σ _ (r.st c p _ (E.fin.bh.back hn) hr') (E0.hold upd_same (E.fin.fh.back hn) ?_ ?_) _ fun v1 d1 F1 H1 S1 h1 E1 k1 r1 => h1 (c.hold p (.dK kvs)) F1 σ H1 (r.st c p _ (E.fin.bh.back hn) hr') E1 _ fun v2 d2 F2 H2 S2 h2 E2 k2 r2 => ?_⟩
    · intro qq eq
      obtain ⟨⟨_, _, _, _, s1, s2⟩, _⟩ := E.fin.src qq eq
      exact ⟨fun z => (by rw [z, s1] at hn; cases hn), fun z => (by rw [z, s2] at hn; cases hn)⟩
    · intro j xs ej es
      obtain ⟨x, e1, a', vs', e2, hh, _⟩ := E.sl j _ ej
      rw [es] at e1
      cases e1
      cases e2
      rw [hn] at hh
      cases hh
    · obtain ⟨s, i0, rfl, rfl, kk⟩ := h2
      obtain ⟨E3, hp2, _⟩ := EvD.unhold (vs := .dK kvs) (fun xs z => nomatch z) E2 (E.fin.bh.back hn) (by
        cases z : c.F0 p with
        | none => rfl
        | some u =>
          have := E.fin.fh _ _ (E.fin.f0 _ _ z)
          rw [hn] at this; cases this)
      cases r1
      refine ⟨valV kvs (.inr s), .inl ⟨kvs, .inr s, .inl hp2, rfl, rfl⟩, ?_⟩
      rw [eg] at kk
      cases r2
      cases z : valV kvs (.inr s) with
      | none =>
        rw [z] at kk
        exact q _ _ F2 H2 S2 kk E3 (k1.trans k2) (.int _)
      | some v =>
        rw [z] at kk
        obtain ⟨i, ei⟩ : ∃ i, v = V.int i := by
          unfold valV at z
          cases z2 : kvs.find? (fun kv => decide (kv.1 = Sum.inr s)) with
          | none => rw [z2] at z; cases z
          | some pr =>
            rw [z2] at z
            obtain ⟨i, e⟩ := hi pr (List.mem_of_find?_eq_some z2)
            exact ⟨i, by rw [← e]; exact (Option.some.inj z).symm⟩
        subst ei
        exact q _ _ F2 H2 S2 kk E3 (k1.trans k2) (.int _)⟩)
/-- [e for x in ..], draws and all: the slots as before, each item of a kind -/
theorem jn_lcA {elt tg iter : Expr} {scope : Scope} {pos : Pos} (own : List (Str × Nat)) (ts : List Nat) (P : D → Prop) {K : List D → List Sl → Prop} (h : JI X r tg iter S fun ds S1 => noOwn (own.map (·.2)) S1 = true ∧ ds.length ≤ 1000000 ∧ (∀ d ∈ ds, Blk X scope fun Y => JG Y r tg ts d (wipeS S1 (own.map (·.2))) fun S2 => Blk X scope fun Y => JE Y r elt S2 fun y S4 => P y ∧ mrg (own.map (·.2)) S1 S4 = S1) ∧ ∀ zs : List D, zs.length = ds.length → (∀ z ∈ zs, P z) → K zs S1)
    (hc : X.calm = true := by rfl) (hN : X.N.Nodup := by assumption) (ok : BlkOk X.N X.env.scope scope own := by exact blkOk_by rfl) (hs : ∀ x, foldedSetIterable iter X.env x = pure x := by intro _; rfl) (hts : ∀ j ∈ ts, j ∈ own.map (·.2) := by decide) : JN X r (.ListComp elt [⟨tg, iter, [], 0⟩] scope pos) S K :=
  jn_lc own ts hc hN ok hs hts (h.mono fun ds S1 ⟨ho, hl, ht, hk⟩ => ⟨fun i acc S' => S' = S1 ∧ acc.length = i ∧ ∀ z ∈ acc, P z, ⟨rfl, rfl, fun z hz => nomatch hz⟩, fun i acc S' ⟨e, ha, _⟩ hi => by
    subst e
    refine ⟨?_, noOwn_of ho⟩
    have hz : sizeLine = 16777216 := sizeLine_eq
    omega, fun i d acc S' hd ⟨e, ha, hp⟩ => by
    subst e
    intro s1 H1 C1 cl1 fp1
    refine (ht d (List.mem_of_getElem? hd) s1 H1 C1 cl1 fp1).mono fun S2 h2 => ?_
    intro s2 H2 C2 cl2 fp2
    refine jts_nil ?_
    rw [if_pos rfl]
    intro s3 H3 C3 cl3 fp3
    refine (h2 s3 H3 C3 cl3 fp3).mono fun y S4 ⟨hy, hm⟩ => ⟨hm, by rw [List.length_append, ha]; rfl, fun z hz => ?_⟩
    rcases List.mem_append.mp hz with hz | hz
    · exact hp z hz
    · rw [List.mem_singleton.mp hz]; exact hy, fun acc S' ⟨e, ha, hp⟩ => by subst e; exact hk acc ha hp⟩)
/-- t * k, k at least 2 -/
theorem od_repT {ds : List D} {k : Int} {K : D → Prop} (hne : ds ≠ []) (h2 : 2 ≤ k) (hk : k ≤ 1000) (hl : ds.length ≤ 1000) (h : K (.tuple (List.replicate k.toNat ds).flatten)) : OpD (rRepT X.K) (.tuple ds) (.int k) K := fun F H v1 v2 kF r1 r2 Q q => by
  cases r2
  cases r1 with
  | @tup a vs _ ha rv =>
    have hlen := rv.length
    refine ⟨a, k, vs, rfl, rfl, .inl (.inl (kF _ _ ha)), (fun e => hne (by rw [e] at hlen; exact List.eq_nil_of_length_eq_zero hlen.symm)), h2, hk, by omega, fun p hp => ?_⟩
    exact q _ _ (upd F p _) _ h (Grow.new kF hp) (.tup upd_same ((rv.rep k.toNat).ex (Ex.new (by
      cases z : F p with
      | none => rfl
      | some u => have := kF _ _ z; rw [hp] at this; cases this))))
end
end DL

/-! DL: sorted(dict([(n, ..), ..])) with keys ints; max of a list; x.count(k); x.split(y); over a text; int(text); f(). -/
namespace DL
open PySem L2
variable {X : Cx} {r : SR} {S : List Sl}
/-! ### sorted(dict([(n, ..), ..])) -/
theorem ents_I {F : Hp} {cs : Int → D} : ∀ {vs : List V} {ns : List Int}, RpA F vs (ns.map fun n => PyData.tuple [.int n, cs n]) → ∃ (ps : List Addr) (kvs : List (Key × V)), vs = ps.map V.ref ∧ Paired (fun p kv => F p = some (.tup [kV kv.1, kv.2])) ps kvs ∧ kvs.map (·.1) = ns.map Sum.inl
  | _, [], h => by cases h; exact ⟨[], [], rfl, .nil, rfl⟩
  | _, n :: ns, h => by
    rw [List.map_cons] at h
    cases h with
    | cons r1 t =>
      obtain ⟨ps, kvs, rfl, h1, h2⟩ := ents_I t
      cases r1 with
      | @tup a xs _ hb hy =>
        cases hy with
        | @cons v1 _ _ _ ra rb =>
          cases ra
          cases rb with
          | @cons v2 _ _ _ rc rd =>
            cases rd
            exact ⟨a :: ps, (Sum.inl n, v2) :: kvs, rfl, .cons hb h1, by rw [List.map_cons, h2]; rfl⟩
theorem keys_put (kvs : List (Key × V)) (as : List Int) (h : kvs.map (·.1) = as.map Sum.inl) (n : Int) (v : V) : (putK kvs (Sum.inl n) v).map (·.1) = (if n ∈ as then as else as ++ [n]).map Sum.inl := by
  unfold putK
  have e : (kvs.any fun kv => decide (kv.1 = Sum.inl n)) = decide (n ∈ as) := by
    have e1 : (kvs.any fun kv => decide (kv.1 = Sum.inl n)) = (kvs.map (·.1)).any fun k => decide (k = Sum.inl n) := by rw [List.any_map]; rfl
    rw [e1, h, List.any_map]
    rw [Bool.eq_iff_iff, List.any_eq_true, decide_eq_true_eq]
    constructor
    · rintro ⟨x, hx, e⟩
      have : x = n := by simpa using e
      rw [← this]; exact hx
    · intro hx
      exact ⟨n, hx, by simp⟩
  rw [e]
  by_cases hn : n ∈ as
  · rw [if_pos (decide_eq_true hn), if_pos hn, ← h, List.map_map]
    refine List.map_congr_left fun kv _ => ?_
    show (if kv.1 = Sum.inl n then (kv.1, v) else kv).1 = kv.1
    split <;> rfl
  · rw [if_neg (by rw [decide_eq_false hn]; decide), if_neg hn, List.map_append, List.map_append, h]; rfl
theorem keys_merge : ∀ (more kvs : List (Key × V)) (as ns : List Int), kvs.map (·.1) = as.map Sum.inl → more.map (·.1) = ns.map Sum.inl → (mergeK kvs more).map (·.1) = (uni as ns).map Sum.inl
  | [], kvs, as, ns, h, h2 => by
    cases ns with
    | nil => exact h
    | cons _ _ => cases h2
  | (k, v) :: more, kvs, as, ns, h, h2 => by
    cases ns with
    | nil => cases h2
    | cons n ns =>
      rw [List.map_cons, List.map_cons] at h2
      injection h2 with e1 e2
      have e1 : k = Sum.inl n := e1
      subst e1
      exact keys_merge more _ _ ns (keys_put kvs as h n v) e2
theorem jsortDI {K : List D → List Sl → Prop} {a : Expr} {p p2 pos pos2 : Pos} (hm : X.mg "sorted" = none) (hm2 : X.mg "dict" = none) (h : JE X r a S fun d S1 => ∃ (ns : List Int) (cs : Int → D), d = .list (ns.map fun n => .tuple [.int n, cs n]) ∧ (uni [] ns).length < 64 ∧ ∀ ys : List Int, ys.Perm (uni [] ns) → ys.Pairwise (· ≤ ·) → K (ys.map .int) S1)
    (hc : X.calm = true := by rfl) (hg : Gl X "sorted" := by rfl) (hg2 : Gl X "dict" := by rfl) (hs : starEach [a] X.env = (false, eval a X.env) :: starEach [] X.env := by rfl) : JN X r (.Call (.Name "sorted" p) [.Call (.Name "dict" p2) [a] [] pos2] [] pos) S K := fun c F σ H hr E Q q =>
  of_pe (pe_callB (call_sortedDI hc) hg hm (by decide +kernel) (pa_cons (pe_callTy (call_dictP hc) hg2 hm2 (by decide +kernel) (pa_cons pe_tE pa_nil (hs := hs)) (he := hs)) pa_nil)) (h c F σ H hr E _ fun v d F1 H1 S1 h1 E1 k1 r1 => by
    obtain ⟨ns, cs, rfl, hl, kk⟩ := h1
    cases r1 with
    | @lst a1 vs _ ha rv =>
      obtain ⟨ps, kvs, rfl, hp, hk⟩ := ents_I rv
      have hp' : Paired (fun p kv => SqT X.K H1 p [kV kv.1, kv.2]) ps kvs := by
        clear hk rv ha
        induction hp with
        | nil => exact .nil
        | cons h0 _ ih => exact .cons (.inl (.inl (E1.fin.fh _ _ h0))) ih
      refine ⟨a1, ps, kvs, rfl, .inl (.inl (E1.fin.fh _ _ ha)), hp', fun p1 n1 => ?_⟩
      refine ⟨p1, mergeK [] kvs, uni [] ns, rfl, .inl upd_same, keys_merge kvs [] [] ns rfl hk, hl, fun ys l hpm hso nl => ?_⟩
      exact q l (ys.map .int) F1 _ S1 (kk ys hpm hso) (newL_of (E1.laid n1) nl (RpA.ints ys)) k1)
/-! ### max(xs) -/
theorem jmaxL {K : D → List Sl → Prop} {a : Expr} {p pos : Pos} (hm : X.mg "max" = none) (h : JE X r a S fun d S1 => ∃ ns : List Int, d = .list (ns.map .int) ∧ 0 < ns.length ∧ ∀ m : Int, m ∈ ns → (∀ y ∈ ns, y ≤ m) → K (.int m) S1)
    (hc : X.calm = true := by rfl) (hg : Gl X "max" := by rfl) (hs : starEach [a] X.env = (false, eval a X.env) :: starEach [] X.env := by rfl) : JE X r (.Call (.Name "max" p) [a] [] pos) S K := fun c F σ H hr E Q q =>
  of_pe (pe_callB (cr_max hc) hg hm (by decide +kernel) (pa_cons pe_tE pa_nil (hs := hs)) (he := hs)) (h c F σ H hr E _ fun v d F1 H1 S1 h1 E1 k1 r1 => by
    obtain ⟨ns, rfl, h0, kk⟩ := h1
    cases r1 with
    | @lst a1 vs _ ha rv =>
      rw [RpA.ints_of rv] at ha
      exact ⟨a1, ns, rfl, .inl (.inl (E1.fin.fh _ _ ha)), h0, fun m hm' hy => q _ _ F1 H1 S1 (kk m hm' hy) E1 k1 (.int m)⟩)
/-! ### x.count(k) -/
theorem je_count {K : D → List Sl → Prop} {o e : Expr} {apos cpos : Pos} (h : JE X r o S fun d0 S0 => ∃ ns : List Int, d0 = .list (ns.map .int) ∧ JE X r e S0 fun d1 S1 => ∃ k : Int, d1 = .int k ∧ K (.int (ns.count k : Nat)) S1)
    (hp : ∀ {rr : V → List V → Hp → VK → Prop}, MtR X "list.count" rr → PE X (.Call (.Attribute o "count" apos) [e] [] cpos) (tBM X.K "list" rr (tE X o) (tCons (tE X e) tNil)) := by exact fun hm => pe_bm PySem.F.plainAttrs_list PySem.F.slot_list_count PySem.F.type_list_count hm pe_tE (pa_cons pe_tE pa_nil)) :
    JE X r (.Call (.Attribute o "count" apos) [e] [] cpos) S K := fun c F σ H hr' E Q q =>
  of_pe (hp mt_lcount) (h c F σ H hr' E _ fun v0 d0 F0 H0 S0 h0 E0 k0 r0 => by
    obtain ⟨ns, rfl, h0⟩ := h0
    cases r0 with
    | @lst a vs _ ha rv =>
      rw [RpA.ints_of rv] at ha
      refine ⟨.inl ⟨rfl, _, .inl (.inl (E0.fin.fh _ _ ha))⟩, h0 c F0 σ H0 hr' E0 _ fun v1 d1 F1 H1 S1 h1 E1 k1 r1 => ?_⟩
      obtain ⟨k, rfl, kk⟩ := h1
      cases r1
      exact ⟨a, ns, k, rfl, rfl, .inl (.inl (E1.fin.fh _ _ (k1 _ _ ha))), q _ _ F1 H1 S1 kk E1 (k0.trans k1) (.int _)⟩)
/-! ### texts -/
theorem RpA.strs {F : Hp} : ∀ xs : List Str, RpA F (xs.map V.str) (xs.map PyData.str)
  | [] => .nil
  | x :: xs => .cons (.str x) (RpA.strs xs)
theorem jn_split {K : List D → List Sl → Prop} {o e : Expr} {apos pos : Pos} (h : JE X r o S fun d0 S0 => ∃ a : Str, d0 = .str a ∧ JE X r e S0 fun d1 S1 => ∃ b : Str, d1 = .str b ∧ (b.length == 0) = false ∧ a.length + 2 ≤ sizeLine ∧ K ((Txt.split a b).map .str) S1)
    (hs : starEach [e] X.env = [(false, eval e X.env)] := by rfl) (hbase : attributeBase o "split" X.env (eval o X.env) = eval o X.env := by rfl) (hline : (apos.endLine == pos.line) = true := by rfl) : JN X r (.Call (.Attribute o "split" apos) [e] [] pos) S K := fun c F σ H hr E Q q =>
  of_pe (pe_m1 PySem.F.slot_str_split PySem.F.type_str_split mt_split pe_tE pe_tE hs hbase hline) (h c F σ H hr E _ fun v0 d0 F0 H0 S0 h0 E0 k0 r0 => by
    obtain ⟨a, rfl, h0⟩ := h0
    cases r0
    refine ⟨⟨a, rfl⟩, h0 c F0 σ H0 hr E0 _ fun v1 d1 F1 H1 S1 h1 E1 k1 r1 => ?_⟩
    obtain ⟨b, rfl, hb, hl, kk⟩ := h1
    cases r1
    exact ⟨a, b, rfl, rfl, hb, hl, fun p hp => q p _ F1 _ S1 kk (newL_of E1 hp (RpA.strs _)) (k0.trans k1)⟩)
def charsD (x : Str) : List D := x.cps.toList.map fun c => .str ⟨#[c]⟩
theorem its_d {B F : Hp} {x : Str} : ItD (Its x) B F (charsD x) := by
  have hl : (charsD x).length = x.cps.size := by unfold charsD; rw [List.length_map, Array.length_toList]
  refine ⟨fun i H _ _ h => by rw [hl] at h; exact h, fun i H _ _ h => by rw [hl] at h; exact h, fun i H v H' _ _ ⟨e, c, hc, ev⟩ h => .inl ⟨e, .str ⟨#[c]⟩, ?_, ?_⟩⟩
  · unfold charsD
    rw [List.getElem?_map, Array.getElem?_toList, hc]; rfl
  · rw [ev]; exact .str _
theorem jiS {tg e : Expr} {K : List D → List Sl → Prop} (h : JE X r e S fun d S1 => ∃ x : Str, d = .str x ∧ K (charsD x) S1) : JI X r tg e S K := fun c F σ H hr E R q =>
  of_pi (pi_str pe_tE) (h c F σ H hr E _ fun v d F1 H1 S1 h1 E1 k1 r1 => by
    obtain ⟨x, rfl, kk⟩ := h1
    cases r1
    exact ⟨x, rfl, q _ _ F1 H1 S1 kk E1 k1 its_d⟩)
theorem jintS {K : D → List Sl → Prop} {a : Expr} {p pos : Pos} (hm : X.mg "int" = none) (h : JE X r a S fun d S1 => ∃ (x : Str) (n : Int), d = .str x ∧ PySem.intText? x = some n ∧ x.length ≤ 640 ∧ K (.int n) S1)
    (hg : Gl X "int" := by rfl) (hs : starEach [a] X.env = (false, eval a X.env) :: starEach [] X.env := by rfl) : JE X r (.Call (.Name "int" p) [a] [] pos) S K := fun c F σ H hr E Q q =>
  of_pe (pe_callTy call_int_str hg hm (by decide +kernel) (pa_cons pe_tE pa_nil (hs := hs)) (he := hs)) (h c F σ H hr E _ fun v d F1 H1 S1 h1 E1 k1 r1 => by
    obtain ⟨x, n, rfl, e, hl, kk⟩ := h1
    cases r1
    exact ⟨x, n, rfl, e, hl, q _ _ F1 H1 S1 kk E1 k1 (.int n)⟩)
/-- f() -/
theorem jcall0 {K0 : D → List Sl → Prop} {k k' : Nat} {f : Addr} {fd : FuncData} {x : Str} {st : Stmt} {p pos : Pos} {φ : List Ar → (D → Prop) → Prop} (hr : Room k' X.A) (N : Dn X.K X.mg x st [] f fd) (F : FnOk X.prog X.w X.K X.mg X.base CX0 k f fd [] (SpD φ)) (h : φ [] fun d => K0 d S)
    (hk : k ≤ k' := by decide) (hg : Gl X x := by rfl) (hdb : (x == ("__debug__" : Str)) = false := by decide) : JE X r (.Call (.Name x p) [] [] pos) S K0 := fun c F1 σ H hr1 E Q q =>
  of_pe (pe_call0 F (hr.mono hk) hg N.g N.F.kp N.b .nil pass0 hdb) (by
    show SpD φ ([] ++ []) H Q E0
    rw [List.append_nil]
    exact sp_call E .nil h fun v d F2 H2 kd E2 k2 rp => q v d F2 H2 S kd E2 k2 rp)
/-! ### weights -/
theorem weightAll_sum : ∀ ds : List D, PyData.weightAll ds = (ds.map fun d => d.weight + 1).sum
  | [] => by rw [PyData.weightAll]; rfl
  | d :: ds => by rw [PyData.weightAll, weightAll_sum ds, List.map_cons, List.sum_cons]
theorem weightAll_app (a b : List D) : PyData.weightAll (a ++ b) = PyData.weightAll a + PyData.weightAll b := by
  rw [weightAll_sum, weightAll_sum, weightAll_sum, List.map_append, List.sum_append]
theorem weightAll_sub : ∀ {a b : List D}, a.Sublist b → PyData.weightAll a ≤ PyData.weightAll b
  | _, _, .slnil => Nat.le_refl _
  | _, _, .cons x h => by
    have := weightAll_sub h
    conv => rhs; rw [PyData.weightAll]
    omega
  | _, _, .cons₂ x h => by
    have := weightAll_sub h
    rw [PyData.weightAll, PyData.weightAll]
    omega
theorem weightAll_perm {a b : List D} (h : a.Perm b) : PyData.weightAll a = PyData.weightAll b := by
  rw [weightAll_sum, weightAll_sum]
  exact (h.map _).sum_nat
theorem weightAll_split {ds : List D} {j : Nat} (h : j < ds.length) : PyData.weightAll ds = PyData.weightAll (ds.take j) + (ds[j].weight + 1) + PyData.weightAll (ds.drop (j + 1)) := by
  conv => lhs; rw [← List.take_append_drop j ds, List.drop_eq_getElem_cons h, weightAll_app, PyData.weightAll]
  omega
/-- what may be told by repr, by its weight -/
structure ShW (d : D) : Prop where
  ex : ∃ B L, okD B L d = true ∧ B < 2 ^ 38 ∧ d.depth ≤ 40 ∧ d.weight ≤ 2 ^ 20
theorem cd_reprW {k : Nat} (hr : Room k X.A) {d : D} {K : D → Prop} (h : ShW d) (kd : K (.str d.shown)) : CallD (rReprE X) [d] K := fun F H vs kF rv Q q => by
  obtain ⟨B, L, h, hB, hk, hw⟩ := h.ex
  cases rv with
  | cons r1 t =>
    cases t
    exact ⟨F, _, d, B, L, rfl, kF, r1, h, okD_show hB h, by have := hr.un; omega, PyData.shown_fits (B := 13) (by decide) (by decide) (okD_short hB h) hw, q _ _ F H kd (Grow.refl kF) (.str _)⟩
theorem jreprW {K : D → List Sl → Prop} {a : Expr} {p pos : Pos} {k : Nat} (hg0 : X.A.guards = some []) (hr : Room k X.A) (hm : X.mg "repr" = none) (h : JE X r a S fun d S1 => ShW d ∧ K (.str d.shown) S1)
    (hg : Gl X "repr" := by rfl) (hs : starEach [a] X.env = (false, eval a X.env) :: starEach [] X.env := by rfl) : JE X r (.Call (.Name "repr" p) [a] [] pos) S K :=
  jB (call_reprE hg0) hm (ja1 (h.mono fun d S' ⟨sh, k⟩ => ⟨[d], rfl, cd_reprW hr sh k⟩) hs) hg (he := hs)
end DL

/-! DL: odd values bounded level by level: how many items, how deep. -/
namespace DL
open PySem L2
def atomOk (B : Nat) (d : D) : Bool := match d with
  | .none => true
  | .bool _ => true
  | .int i => decide (i.natAbs ≤ B)
  | .str x => decide (x.cps.size ≤ 20) && x.cps.toList.all fun c => decide (c < 16 ^ 8)
  | .dict kvs => kvs.isEmpty
  | .list _ => false
  | .tuple _ => false
def itemsOk (p : D → Bool) (w B : Nat) (d : D) : Bool := match d with
  | .list xs => decide (xs.length ≤ w) && xs.all p
  | .tuple xs => decide (xs.length ≤ w) && xs.all p
  | .none => true
  | .bool _ => true
  | .int i => decide (i.natAbs ≤ B)
  | .str x => decide (x.cps.size ≤ 20) && x.cps.toList.all fun c => decide (c < 16 ^ 8)
  | .dict kvs => kvs.isEmpty
/-- widths, level by level -/
def okW (B : Nat) : List Nat → D → Bool
  | [], d => atomOk B d
  | w :: ws, d => itemsOk (okW B ws) w B d
theorem okW_tupE {B w : Nat} {ws : List Nat} {xs : List D} (h : okW B (w :: ws) (.tuple xs) = true) : xs.length ≤ w ∧ ∀ x ∈ xs, okW B ws x = true := by
  have h : (decide (xs.length ≤ w) && xs.all (okW B ws)) = true := h
  rw [Bool.and_eq_true, decide_eq_true_eq, List.all_eq_true] at h
  exact h
theorem okW_tup {B w : Nat} {ws : List Nat} {xs : List D} (hl : xs.length ≤ w) (h : ∀ x ∈ xs, okW B ws x = true) : okW B (w :: ws) (.tuple xs) = true := by
  show (decide (xs.length ≤ w) && xs.all (okW B ws)) = true
  rw [Bool.and_eq_true, decide_eq_true_eq, List.all_eq_true]
  exact ⟨hl, h⟩
theorem okW_list {B w : Nat} {ws : List Nat} {xs : List D} (hl : xs.length ≤ w) (h : ∀ x ∈ xs, okW B ws x = true) : okW B (w :: ws) (.list xs) = true := okW_tup hl h
theorem okW_tup0 {B : Nat} {xs : List D} (h : okW B [] (.tuple xs) = true) : False := by cases h
theorem okW_int {B : Nat} {i : Int} (h : i.natAbs ≤ B) : ∀ {ws : List Nat}, okW B ws (.int i) = true
  | [] => decide_eq_true h
  | _ :: _ => decide_eq_true h
theorem okW_intE {B : Nat} {i : Int} : ∀ {ws : List Nat}, okW B ws (.int i) = true → i.natAbs ≤ B
  | [], h => of_decide_eq_true h
  | _ :: _, h => of_decide_eq_true h
theorem okW_bool {B : Nat} (b : Bool) : ∀ {ws : List Nat}, okW B ws (.bool b) = true
  | [] => rfl
  | _ :: _ => rfl
theorem okW_none {B : Nat} : ∀ {ws : List Nat}, okW B ws .none = true
  | [] => rfl
  | _ :: _ => rfl
theorem okW_okD {B L : Nat} : ∀ {ws : List Nat} {d : D}, (∀ w ∈ ws, w ≤ L) → okW B ws d = true → okD B L d = true
  | [], d, _, h => by
    cases d <;> first | rfl | (rw [okD]; exact h) | cases h
  | w :: ws, d, hw, h => by
    have hh : ∀ xs : List D, (decide (xs.length ≤ w) && xs.all (okW B ws)) = true → (decide (xs.length ≤ L) && okDAll B L xs) = true := fun xs h => by
      rw [Bool.and_eq_true, decide_eq_true_eq, List.all_eq_true] at h
      rw [Bool.and_eq_true, decide_eq_true_eq, okDAll_iff]
      exact ⟨Nat.le_trans h.1 (hw w List.mem_cons_self), fun x hx => okW_okD (fun v hv => hw v (List.mem_cons_of_mem _ hv)) (h.2 x hx)⟩
    cases d with
    | list xs => rw [okD]; exact hh xs h
    | tuple xs => rw [okD]; exact hh xs h
    | none => rfl
    | bool b => rfl
    | int i => rw [okD]; exact h
    | str x => rw [okD]; exact h
    | dict kvs => rw [okD]; exact h
theorem le_sumL : ∀ {ws : List Nat}, ∀ w ∈ ws, w ≤ ws.sum
  | v :: ws, w, h => by
    rw [List.sum_cons]
    rcases List.mem_cons.mp h with rfl | h
    · omega
    · have := le_sumL w h
      omega
theorem okW_noF {B : Nat} {ws : List Nat} {d : D} (h : okW B ws d = true) : noF d = true := noF_ok (okW_okD le_sumL h)
theorem depthAll_leK {k : Nat} : ∀ {xs : List D}, (∀ x ∈ xs, x.depth ≤ k) → PyData.depthAll xs ≤ k
  | [], _ => Nat.zero_le _
  | x :: xs, h => by
    rw [PyData.depthAll]
    exact Nat.max_le.mpr ⟨h x List.mem_cons_self, depthAll_leK fun y hy => h y (List.mem_cons_of_mem _ hy)⟩
theorem okW_depth {B : Nat} : ∀ {ws : List Nat} {d : D}, okW B ws d = true → d.depth ≤ ws.length + 1
  | [], d, h => by
    cases d <;> first | (rw [PyData.depth]; exact Nat.zero_le _) | cases h | skip
    rename_i kvs
    have h : kvs.isEmpty = true := h
    cases kvs with
    | cons _ _ => cases h
    | nil => rw [PyData.depth, PyData.depthKv]; exact Nat.le_refl _
  | w :: ws, d, h => by
    have hh : ∀ xs : List D, (decide (xs.length ≤ w) && xs.all (okW B ws)) = true → PyData.depthAll xs + 1 ≤ (w :: ws).length + 1 := fun xs h => by
      rw [Bool.and_eq_true, List.all_eq_true] at h
      rw [List.length_cons]
      exact Nat.succ_le_succ (depthAll_leK fun x hx => okW_depth (h.2 x hx))
    cases d with
    | list xs => rw [PyData.depth]; exact hh xs h
    | tuple xs => rw [PyData.depth]; exact hh xs h
    | none => rw [PyData.depth]; exact Nat.zero_le _
    | bool b => rw [PyData.depth]; exact Nat.zero_le _
    | int i => rw [PyData.depth]; exact Nat.zero_le _
    | str x => rw [PyData.depth]; exact Nat.zero_le _
    | dict kvs =>
      have h : kvs.isEmpty = true := h
      cases kvs with
      | cons _ _ => cases h
      | nil => rw [PyData.depth, PyData.depthKv, List.length_cons]; omega
def wtW : List Nat → Nat
  | [] => 40
  | w :: ws => w * (wtW ws + 1) + 40
theorem wtW_ge : ∀ ws : List Nat, 40 ≤ wtW ws
  | [] => Nat.le_refl _
  | w :: ws => by rw [wtW]; omega
theorem weightAll_leW {k : Nat} : ∀ {xs : List D}, (∀ x ∈ xs, x.weight ≤ k) → PyData.weightAll xs ≤ xs.length * (k + 1)
  | [], _ => Nat.zero_le _
  | x :: xs, h => by
    have h1 := h x List.mem_cons_self
    have h2 := weightAll_leW (xs := xs) fun y hy => h y (List.mem_cons_of_mem _ hy)
    rw [PyData.weightAll, List.length_cons, Nat.succ_mul]
    omega
theorem atom_wt {B : Nat} (hB : B ≤ 2 ^ 38) {d : D} (h : atomOk B d = true) : d.weight ≤ 40 := by
  have h1 : okD B 0 d = true := okW_okD (ws := []) (fun w hw => nomatch hw) h
  have h2 := okD_weight hB d.depth h1 (Nat.le_refl _)
  cases d <;> first | (rw [PyData.depth] at h2; exact h2) | cases h | skip
  rename_i kvs
  have h : kvs.isEmpty = true := h
  cases kvs with
  | cons _ _ => cases h
  | nil => rw [PyData.weight, PyData.weightKv]; exact Nat.zero_le _
theorem okW_weight {B : Nat} (hB : B ≤ 2 ^ 38) : ∀ {ws : List Nat} {d : D}, okW B ws d = true → d.weight ≤ wtW ws
  | [], d, h => atom_wt hB h
  | w :: ws, d, h => by
    have hh : ∀ xs : List D, (decide (xs.length ≤ w) && xs.all (okW B ws)) = true → PyData.weightAll xs ≤ wtW (w :: ws) := fun xs h => by
      rw [Bool.and_eq_true, decide_eq_true_eq, List.all_eq_true] at h
      have h1 := weightAll_leW fun x hx => okW_weight hB (h.2 x hx)
      have h2 := Nat.mul_le_mul_right (wtW ws + 1) h.1
      rw [wtW]; omega
    have hg := wtW_ge (w :: ws)
    cases d with
    | list xs => rw [PyData.weight]; exact hh xs h
    | tuple xs => rw [PyData.weight]; exact hh xs h
    | none => rw [PyData.weight]; exact Nat.zero_le _
    | bool b => rw [PyData.weight]; exact Nat.zero_le _
    | int i => exact Nat.le_trans (atom_wt (B := B) hB (d := .int i) h) hg
    | str x => exact Nat.le_trans (atom_wt (B := B) hB (d := .str x) h) hg
    | dict kvs => exact Nat.le_trans (atom_wt (B := B) hB (d := .dict kvs) h) hg
theorem okW_sh {B : Nat} {ws : List Nat} {d : D} (h : okW B ws d = true) (hB : B < 2 ^ 38) (hw : wtW ws ≤ 2 ^ 20) (hl : ws.length ≤ 39) : ShW d :=
  ⟨B, ws.sum, okW_okD le_sumL h, hB, Nat.le_trans (okW_depth h) (by omega), Nat.le_trans (okW_weight (by omega) h) hw⟩
/-! ### one bent value -/
def grW (ws : List Nat) : List Nat := ws.map (· + 1) ++ [2]
theorem grW_cons (w : Nat) (ws : List Nat) : grW (w :: ws) = (w + 1) :: grW ws := rfl
theorem okW_atom {B : Nat} : ∀ {ws : List Nat} {d : D}, atomOk B d = true → okW B ws d = true
  | [], _, h => h
  | _ :: _, d, h => by cases d <;> first | exact h | cases h
theorem atom_mono {B B' : Nat} (hB : B ≤ B') {d : D} (h : atomOk B d = true) : atomOk B' d = true := by
  cases d <;> first | exact h | skip
  exact decide_eq_true (Nat.le_trans (of_decide_eq_true h) hB)
theorem okW_gr {B : Nat} : ∀ {ws : List Nat} {d : D}, okW B ws d = true → okW (B + 2) (grW ws) d = true
  | [], d, h => okW_atom (atom_mono (by omega) h)
  | w :: ws, d, h => by
    rw [grW_cons]
    have hh : ∀ xs : List D, (decide (xs.length ≤ w) && xs.all (okW B ws)) = true → (decide (xs.length ≤ w + 1) && xs.all (okW (B + 2) (grW ws))) = true := fun xs h => by
      rw [Bool.and_eq_true, decide_eq_true_eq, List.all_eq_true] at h ⊢
      exact ⟨by omega, fun x hx => okW_gr (h.2 x hx)⟩
    cases d with
    | list xs => exact hh xs h
    | tuple xs => exact hh xs h
    | none => rfl
    | bool b => rfl
    | int i => exact okW_int (Nat.le_trans (okW_intE h) (by omega))
    | str x => exact h
    | dict kvs => exact h
theorem okW_tupG {B w : Nat} {ws : List Nat} {ds es : List D} (h : okW B (w :: ws) (.tuple ds) = true) (hl : es.length ≤ w + 1) (hm : ∀ e ∈ es, e ∈ ds ∨ okW (B + 2) (grW ws) e = true) : okW (B + 2) (grW (w :: ws)) (.tuple es) = true := by
  rw [grW_cons]
  refine okW_tup hl fun e he => ?_
  rcases hm e he with h1 | h1
  · exact okW_gr ((okW_tupE h).2 e h1)
  · exact h1
theorem okW_listG {B w : Nat} {ws : List Nat} {ds es : List D} (h : okW B (w :: ws) (.tuple ds) = true) (hl : es.length ≤ w + 1) (hm : ∀ e ∈ es, e ∈ ds) : okW (B + 2) (grW (w :: ws)) (.list es) = true := okW_tupG h hl fun e he => .inl (hm e he)
theorem okW_put {B w : Nat} {ws : List Nat} {ds : List D} {x : D} {j : Nat} (h : okW B (w :: ws) (.tuple ds) = true) (hj : j < ds.length) (hx : okW (B + 2) (grW ws) x = true) : okW (B + 2) (grW (w :: ws)) (.tuple (ds.take j ++ [x] ++ ds.drop (j + 1))) = true := by
  refine okW_tupG h ?_ fun e he => ?_
  · have := (okW_tupE h).1
    rw [List.length_append, List.length_append, List.length_take, List.length_drop, List.length_singleton]; omega
  · rcases List.mem_append.mp he with he | he
    · rcases List.mem_append.mp he with he | he
      · exact .inl (List.mem_of_mem_take he)
      · rw [List.mem_singleton.mp he]; exact .inr hx
    · exact .inl (List.mem_of_mem_drop he)
end DL

/-! DL: a walk over a dict's keys that asks the dict itself. -/
namespace DL
open PySem L2
/-- an object held in a known shape -/
def srK (r : SR) (d : Addr) (o : HO) : SR := ⟨fun c => r.q c ∧ c.B d = some o, fun c Dl o' n ⟨a, b⟩ => ⟨r.st c Dl o' n a, (Ex.new n : Ex c.B (upd c.B Dl o')) _ _ b⟩⟩
theorem EvD.setRf {c : C} {S : List Sl} {F : Hp} {σ : L2.St} {H : Hp} {i : Nat} {d : Addr} (E : EvD c S F σ H) (hl : i < S.length) (hs : σ[i]? = some (some (.ref d))) : EvD c (S.set i (.rf d)) F σ H := by
  refine ⟨E.fin, by rw [List.length_set]; exact E.len, fun j s ej => ?_, fun j k xs' ys' a' f1 f2 f3 f4 => ?_⟩
  · by_cases hj : i = j
    · subst hj
      rw [List.getElem?_set_self hl] at ej; cases ej
      exact ⟨_, hs, rfl⟩
    · rw [List.getElem?_set_ne hj] at ej; exact E.sl j s ej
  · have own : ∀ {j : Nat} {ys : OB}, (S.set i (.rf d))[j]? = some (.ob ys) → S[j]? = some (.ob ys) := fun {j ys} z => by
      by_cases hj : i = j
      · subst hj; rw [List.getElem?_set_self hl] at z; cases z
      · rw [List.getElem?_set_ne hj] at z; exact z
    exact E.ds j k _ _ _ (own f1) (own f2) f3 f4
theorem valV_mem {ky : List Int} : ∀ {ws : List (List Key × V)} {ks : List (List Int)}, ws.map (·.1) = ks.map kI → (valV ws (kI ky)).isSome = decide (ky ∈ ks)
  | [], [], _ => by simp [valV]
  | [], _ :: _, h => by cases h
  | _ :: _, [], h => by cases h
  | (k, v) :: ws, k0 :: ks, h => by
    rw [List.map_cons, List.map_cons] at h
    injection h with h1 h2
    have ih := valV_mem (ky := ky) h2
    by_cases e : k0 = ky
    · subst e
      have : valV ((k, v) :: ws) (kI k0) = some v := by
        unfold valV
        rw [List.find?_cons_of_pos (by simpa using h1)]
        rfl
      rw [this]; simp
    · have h3 : valV ((k, v) :: ws) (kI ky) = valV ws (kI ky) := by
        unfold valV
        rw [List.find?_cons_of_neg (by simpa using (show ¬ k = kI ky from fun z => e (kI_inj (h1.symm.trans z))))]
      rw [h3, ih]
      congr 1
      rw [List.mem_cons, eq_iff_iff]
      exact ⟨.inr, fun z => z.resolve_left fun z => e z.symm⟩
variable {X : Cx} {r : SR} {S : List Sl}
/-- a not in x, x a dict that is walked over -/
theorem jtdninL {d : Addr} {od : Obj} {ws : List (List Key × V)} {K : Bool → List Sl → Prop} {a : Expr} {x : Str} {px pos : Pos} {k : Nat} (hr : Room k X.A) (i : Nat) (ks : List (List Int)) (hk : ws.map (·.1) = ks.map kI)
    (h : JE X (srK r d (.frz od (.dT ws))) a S fun d1 S1 => ∃ ky, d1 = tupI ky ∧ S1[i]? = some (.rf d) ∧ K (!decide (ky ∈ ks)) S1)
    (hN : X.N[i]? = some x := by rfl) (hv : Vis X.env.scope x := by first | exact Or.inl rfl | exact Or.inr (Or.inl rfl) | exact Or.inr (Or.inr rfl)) (hd : (x == ("__debug__" : Str)) = false := by decide) (hcd : (x == ("__classdict__" : Str)) = false := by decide) (hm : behindInMarks .NotIn (.Name x px) = false := by rfl) : JT X (srK r d (.frz od (.dT ws))) (.Compare a [.NotIn] [.Name x px] pos) S K :=
  fun c F σ H hr' E Q q => of_pt (pt_cmp (pc_dnotin (by have := hr.un; omega) pe_tE (pe_var hN hv hd hcd)) hm) (h c F σ H hr' E _ fun v1 d1 F1 H1 S1 h1 E1 k1 r1 => by
    obtain ⟨ky, rfl, es, kk⟩ := h1
    obtain ⟨y, e1, e2⟩ := E1.sl i _ es
    have e2 : y = some (.ref d) := e2
    subst e2
    obtain ⟨b, rfl, hb⟩ := rp_tupI r1
    have hd : H1 d = some (.frz od (.dT ws)) := E1.fin.bh _ _ hr'.2
    refine ⟨_, e1, d, _, rfl, .inr ⟨ws, kI ky, b, .inr ⟨od, hd⟩, rfl, E1.fin.fh _ _ hb, rfl⟩, ?_⟩
    rw [valV_mem hk]
    exact ⟨_, rfl, q _ F1 H1 S1 kk E1 k1⟩)
/-- [.. for y in x], x a dict of one's own that the turns ask -/
theorem jn_lcKr {elt tg : Expr} {ifs : List Expr} {scope : Scope} {x : Str} {px pos : Pos} (i : Nat) (own : List (Str × Nat)) (ts : List Nat) {K : List D → List Sl → Prop} {kvs : List (List Int × D)} (e : S[i]? = some (.ob (.d kvs)))
    (h : ∀ (d : Addr) (od : Obj) (ws : List (List Key × V)), ws.map (·.1) = (kvs.map (·.1)).map kI → ∃ I : Nat → List D → List Sl → Prop, I 0 [] (S.set i (.rf d)) ∧ (∀ j acc S', I j acc S' → j ≤ kvs.length → acc.length < sizeLine ∧ ∀ j ∈ own.map (·.2), ∀ xs, S'[j]? ≠ some (.ob xs)) ∧
      (∀ j dd acc S', (keysD kvs)[j]? = some dd → I j acc S' → LcTurn X (srK r d (.frz od (.dT ws))) scope tg elt ifs (own.map (·.2)) ts dd S' (fun y S4 => I (j + 1) (acc ++ [y]) S4) fun S4 => I (j + 1) acc S4) ∧ ∀ acc S', I kvs.length acc S' → K acc (S'.set i (.ob (.d kvs))))
    (hc : X.calm = true := by rfl) (hN : X.N.Nodup := by assumption) (ok : BlkOk X.N X.env.scope scope own := by exact blkOk_by rfl) (hs : ∀ y, foldedSetIterable (.Name x px) X.env y = pure y := by intro _; rfl) (hts : ∀ j ∈ ts, j ∈ own.map (·.2) := by decide)
    (hNi : X.N[i]? = some x := by rfl) (hv : Vis X.env.scope x := by first | exact Or.inl rfl | exact Or.inr (Or.inl rfl) | exact Or.inr (Or.inr rfl)) (hd : (x == ("__debug__" : Str)) = false := by decide) (hcd : (x == ("__classdict__" : Str)) = false := by decide) :
    JN X r (.ListComp elt [⟨tg, .Name x px, ifs, 0⟩] scope pos) S K := fun c F σ H hr E Q q => by
  obtain ⟨y, e1, d, hh, e2, ha, rv, nF, nB, ns⟩ := E.sl i _ e
  subst e2
  obtain ⟨ws, rfl, rk⟩ := obr_d rv
  have hl : i < S.length := (List.getElem?_eq_some_iff.mp e).1
  have nF0 : c.F0 d = none := E.fin.f0.back nF
  have E0 := E.hide (i := i) hl
  have no : ∀ (j : Nat) xs, (S.set i .emp)[j]? = some (.ob xs) → σ[j]? ≠ some (some (.ref d)) := fun j xs ej ea => by
    by_cases hj : i = j
    · subst hj; rw [List.getElem?_set_self hl] at ej; cases ej
    · rw [List.getElem?_set_ne hj] at ej
      exact hj (E.ds i j _ _ d e ej e1 ea)
  have kl : (keysD kvs).length = kvs.length := by unfold keysD; rw [List.length_map]
  refine of_pe (pe_lock (pe_lc hc hN (pi_keys (pe_var hNi hv hd hcd)) ok pg_tGb pts_tTsb pe_tEb hs)) ⟨d, .dT ws, ha, True.intro, fun od => ?_⟩
  obtain ⟨I, i0, side, step, fin⟩ := h d od ws rk.keys
  have E1 : EvD c (S.set i .emp) F σ (upd H d (.frz od (.dT ws))) := E0.put nF nB ns no
  have E2a := E1.hold upd_same nF ns no
  have E2 : EvD (c.hold d (.frz od (.dT ws))) (S.set i (.rf d)) F σ (upd H d (.frz od (.dT ws))) := by
    have := E2a.setRf (i := i) (d := d) (by rw [List.length_set]; exact hl) e1
    rwa [List.set_set] at this
  have run : JIw (iKeys (tVar i)) (c.hold d (.frz od (.dT ws))) F σ (upd H d (.frz od (.dT ws))) fun ds S' => (∃ I : Nat → List D → List Sl → Prop, I 0 [] S' ∧ (∀ i acc S', I i acc S' → i ≤ ds.length → acc.length < sizeLine ∧ ∀ j ∈ own.map (·.2), ∀ xs, S'[j]? ≠ some (.ob xs)) ∧
      (∀ i dd acc S', ds[i]? = some dd → I i acc S' → LcTurn X (srK r d (.frz od (.dT ws))) scope tg elt ifs (own.map (·.2)) ts dd S' (fun y S4 => I (i + 1) (acc ++ [y]) S4) fun S4 => I (i + 1) acc S4) ∧ ∀ acc S', I ds.length acc S' → K acc (S'.set i (.ob (.d kvs)))) := fun R k => by
    refine ⟨.ref d, e1, d, od, rfl, .inr ⟨ws, upd_same, k _ (keysD kvs) F _ _ ⟨I, i0, fun j acc S' hI hj => ?_, step, fun acc S' hI => ?_⟩ E2 (Ex.refl F) (itkt_d (show upd c.B d _ d = _ from upd_same) rk)⟩⟩
    · exact side j acc S' hI (by omega)
    · rw [kl] at hI
      exact fin acc S' hI
  refine lc_runc (r := srK r d (.frz od (.dT ws))) (K := fun acc S' => K acc (S'.set i (.ob (.d kvs)))) ts hts (c.hold d (.frz od (.dT ws))) F σ _ ⟨r.st _ _ _ nB hr, upd_same⟩ _ (fun p ds F' H' S' kk n kF => ?_) run
  obtain ⟨h9, E3, g1, g2, g3, g4, g5, g6⟩ := n
  have hpd : p ≠ d := fun z => by rw [z, show (c.hold d (.frz od (.dT ws))).B d = some _ from upd_same] at g4; cases g4
  obtain ⟨E4, f1, f2, f3, f4⟩ := E3.unhold (vs := .frz od (.dT ws)) (fun _ z => nomatch z) nB nF0
  have E5 : EvD c S' F' σ (upd H' d (.dT ws)) := E4.put f2 nB f3 f4
  have es : σ.set i (some (.ref d)) = σ := by
    apply List.ext_getElem?
    intro j
    by_cases hj : i = j
    · subst hj
      rw [List.getElem?_set_self (by rw [E.len]; exact hl), e1]
    · rw [List.getElem?_set_ne hj]
  have rk' : RpK F' ws kvs := rk.ex kF
  have E6 := E5.setOwn (i := i) (a := d) (vs := .dT ws) (ds := .d kvs) upd_same rk' f2 nB f3 f4
  rw [es] at E6
  refine ⟨f1, q p _ F' _ _ kk ⟨h9, E6, by rw [upd_ne hpd]; exact g1, g2, g3, ?_, g5, fun j xs ej ea => ?_⟩ kF⟩
  · have g4' : upd c.B d (.frz od (.dT ws)) p = none := g4
    rw [upd_ne hpd] at g4'; exact g4'
  · by_cases hj : i = j
    · subst hj
      rw [e1] at ea
      cases ea
      exact hpd rfl
    · rw [List.getElem?_set_ne hj] at ej
      exact g6 j xs ej ea
/-- sorted(x), x a dict of one's own, that stays it -/
theorem jsortKO {K : List D → List Sl → Prop} {x : Str} {px p pos : Pos} {k : Nat} (hr : Room k X.A) (i : Nat) {kvs : List (List Int × D)} (hm : X.mg "sorted" = none) (kk : K ((sortL (kvs.map (·.1))).map tupI) S) (e : S[i]? = some (.ob (.d kvs)) := by rfl) (hc : X.calm = true := by rfl) (hg : Gl X "sorted" := by rfl) (hN : X.N[i]? = some x := by rfl) (hv : Vis X.env.scope x := by first | exact Or.inl rfl | exact Or.inr (Or.inl rfl) | exact Or.inr (Or.inr rfl))
    (hd : (x == ("__debug__" : Str)) = false := by decide) (hcd : (x == ("__classdict__" : Str)) = false := by decide) (hs : starEach [.Name x px] X.env = (false, eval (.Name x px) X.env) :: starEach [] X.env := by rfl) : JN X r (.Call (.Name "sorted" p) [.Name x px] [] pos) S K := fun c F σ H hr' E Q q =>
  of_pe (pe_callB (call_sortK hc) hg hm (by decide +kernel) (pa_cons (pe_var hN hv hd hcd) pa_nil hs) (by decide) (by decide) hs rfl) (by
    obtain ⟨y, e1, l, hh, e2, ha, rv, nF, nb, q0⟩ := E.sl i _ e
    subst e2
    obtain ⟨ws, rfl, rk⟩ := obr_d rv
    refine ⟨_, e1, l, ws, kvs.map (·.1), rfl, .inl ha, rk.keys, by have := hr.un; omega, fun p bs hb1 hb2 n => ?_⟩
    obtain ⟨F', k2, E', ra⟩ := E.freezeAll hb2 hb1
    exact q p _ F' _ S kk (newL_of E' n ra) k2)
theorem set_at {α : Type} {S : List α} {i : Nat} {x : α} (e : S[i]? = some x) : S.set i x = S := by
  apply List.ext_getElem?
  intro j
  by_cases hj : i = j
  · subst hj
    rw [List.getElem?_set_self (List.getElem?_eq_some_iff.mp e).1, e]
  · rw [List.getElem?_set_ne hj]
/-- .. each turn for itself -/
theorem jn_lcKp {elt tg : Expr} {ifs : List Expr} {scope : Scope} {x : Str} {px pos : Pos} (i : Nat) (own : List (Str × Nat)) (ts : List Nat) {K : List D → List Sl → Prop} {kvs : List (List Int × D)} (e : S[i]? = some (.ob (.d kvs)))
    (h : ∀ (d : Addr) (od : Obj) (ws : List (List Key × V)), ws.map (·.1) = (kvs.map (·.1)).map kI → (∀ j ∈ own.map (·.2), ∀ xs, (S.set i (.rf d))[j]? ≠ some (.ob xs)) ∧ LcAll X (srK r d (.frz od (.dT ws))) scope tg elt ifs (own.map (·.2)) ts (keysD kvs) (S.set i (.rf d)) fun zs => K zs S)
    (hc : X.calm = true := by rfl) (hN : X.N.Nodup := by assumption) (ok : BlkOk X.N X.env.scope scope own := by exact blkOk_by rfl) (hs : ∀ y, foldedSetIterable (.Name x px) X.env y = pure y := by intro _; rfl) (hts : ∀ j ∈ ts, j ∈ own.map (·.2) := by decide)
    (hNi : X.N[i]? = some x := by rfl) (hv : Vis X.env.scope x := by first | exact Or.inl rfl | exact Or.inr (Or.inl rfl) | exact Or.inr (Or.inr rfl)) (hd : (x == ("__debug__" : Str)) = false := by decide) (hcd : (x == ("__classdict__" : Str)) = false := by decide) :
    JN X r (.ListComp elt [⟨tg, .Name x px, ifs, 0⟩] scope pos) S K :=
  jn_lcKr i own ts e (fun d od ws hk => by
    have kl : (keysD kvs).length = kvs.length := by unfold keysD; rw [List.length_map]
    obtain ⟨h1, h2⟩ := h d od ws hk
    have es : (S.set i (.rf d)).set i (.ob (.d kvs)) = S := by rw [List.set_set]; exact set_at e
    obtain ⟨I, i0, side, step, fin⟩ := lc_pure (K := fun zs S' => K zs (S'.set i (.ob (.d kvs)))) h1 (by rw [es]; exact h2)
    rw [kl] at side fin
    exact ⟨I, i0, side, step, fin⟩) hc hN ok hs hts hNi hv hd hcd
end DL

/-! DL: tuples that may be ft ones: rules for both kinds; values that are odd data, or an ft tuple. -/
namespace DL
open PySem L2
/-- d tells the tuple of ds: plain, or (p) as one known to have no dict -/
def WT (p : Bool) (d : D) (ds : List D) : Prop := d = .tuple ds ∨ (p = true ∧ d = ft ds)
/-- d tells v: v itself, or (p) v is a tuple and d its ft -/
def UW (p : Bool) (d v : D) : Prop := d = v ∨ (p = true ∧ ∃ ds, v = .tuple ds ∧ d = ft ds)
theorem UW.rfl' {p : Bool} {d : D} : UW p d d := .inl rfl
theorem WT.uw {p : Bool} {d : D} {ds : List D} (h : WT p d ds) : UW p d (.tuple ds) := h.elim .inl fun h => .inr ⟨h.1, ds, rfl, h.2⟩
theorem WT.pl {p : Bool} {ds : List D} : WT p (.tuple ds) ds := .inl rfl
theorem WT.ft {ds : List D} : WT true (ft ds) ds := .inr ⟨rfl, rfl⟩
theorem ft_ne_tup {a b : List D} : ft a ≠ .tuple b := by unfold ft; exact fun h => nomatch h
theorem UW.wt {p : Bool} {d : D} {ds : List D} (h : UW p d (.tuple ds)) : WT p d ds := h.elim .inl fun ⟨hp, xs, e, e2⟩ => .inr ⟨hp, by injection e with e; rw [e]; exact e2⟩
theorem UW.plain {d v : D} (h : UW false d v) : d = v := h.elim id fun h => nomatch h.1
theorem tyD_ft (ds : List D) : tyD (ft ds) = "tuple" := rfl
theorem UW.ty {p : Bool} {d v : D} (h : UW p d v) : tyD d = tyD v := by
  rcases h with rfl | ⟨_, ds, rfl, rfl⟩ <;> rfl
theorem UW.notup {p : Bool} {d v : D} (h : UW p d v) (ht : isTup v = false) : d = v := by
  rcases h with rfl | ⟨_, ds, rfl, rfl⟩
  · rfl
  · cases ht
theorem ku_tup {p : Bool} {d v : D} (h : UW p d v) (n : noF v = true) : kitB (tyD d) "tuple" = some (isTup v) := by rw [h.ty]; exact kt_tup n
theorem rp_wt {K : PySem.W.Frag} {p : Bool} {F H : Hp} {v : V} {d : D} {ds : List D} (k : Ex F H) (w : WT p d ds) (r : Rp F v d) : ∃ a xs, v = .ref a ∧ SqT K H a xs ∧ RpA F xs ds := by
  rcases w with rfl | ⟨_, rfl⟩
  · cases r with
    | tup ha rv => exact ⟨_, _, rfl, .inl (.inl (k _ _ ha)), rv⟩
  · obtain ⟨a, o, xs, rfl, ha, _, rv⟩ := rp_ft r
    exact ⟨_, _, rfl, .inl (.inr ⟨o, k _ _ ha⟩), rv⟩
section
variable {X : Cx} {r : SR} {S : List Sl} {p : Bool}
theorem od_ixG {K0 : PySem.W.Frag} {d0 : D} {ds : List D} {i : Int} {d : D} {K : D → Prop} (w : WT p d0 ds) (h : atI ds i = some d) (k : K d) : OpD (rIxT K0) d0 (.int i) K := fun F H v1 v2 kF r1 r2 Q q => by
  cases r2
  obtain ⟨a, xs, rfl, hs, rv⟩ := rp_wt (K := K0) kF w r1
  obtain ⟨v, e, rp⟩ := atI_rp rv h
  exact ⟨_, _, i, v, rfl, rfl, hs, e, q v d F H k (Grow.refl kF) rp⟩
/-- t[lo:hi] -/
theorem je_cutG {K : D → List Sl → Prop} {e : Expr} {lo hi : Option Expr} {p2 pos : Pos} (h : JE X r e S fun d S1 => PtD X r S1 lo fun l S2 => PtD X r S2 hi fun u S3 => ∃ ds, WT p d ds ∧ ∀ d', WT p d' (cutD ds l u) → K d' S3) : JE X r (.Subscript e (.Slice lo hi none p2) pos) S K :=
  fun c F σ H hr E Q q => of_pe (pe_slice sl_tupA pe_tE po_tO po_tO) (h c F σ H hr E _ fun v d F1 H1 S1 h1 E1 k1 r1 => ptd_run hr E1 h1 _ fun l F2 H2 S2 h2 E2 k2 => ptd_run hr E2 h2 _ fun u F3 H3 S3 h3 E3 k3 => by
    obtain ⟨ds, w, kd⟩ := h3
    have r3 := r1.ex (k2.trans k3)
    obtain ⟨a, vs, rfl, hs, rv⟩ := rp_wt (K := X.K) E3.fin.fh w r3
    refine ⟨_, vs, rfl, hs, fun ww => ?_, fun _ p n => ?_⟩
    · have e : cutD ds l u = ds := by
        unfold cutD
        rw [rv.length] at ww
        rw [ww.1, ww.2, List.drop_zero, Nat.sub_zero, List.take_length]
      rw [e] at kd
      exact q _ _ F3 H3 S3 (kd _ w) E3 ((k1.trans k2).trans k3) r3
    · have g := Grow.new E3.fin.fh (o := .tup (cutV vs l u)) n
      exact q _ _ _ _ S3 (kd _ .pl) (E3.grow g) (((k1.trans k2).trans k3).trans g.kF) (.tup upd_same ((cut_rp rv l u).ex g.kF)))
theorem je_cutToG {K : D → List Sl → Prop} {e hi : Expr} {p2 pos : Pos} (h : JE X r e S fun d S1 => JE X r hi S1 fun d2 S2 => ∃ (ds : List D) (k : Nat), WT p d ds ∧ d2 = .int k ∧ ∀ d', WT p d' (ds.take k) → K d' S2) : JE X r (.Subscript e (.Slice none (some hi) none p2) pos) S K :=
  je_cutG (p := p) (h.mono fun d S1 h1 => (show JE X r hi S1 _ from h1.mono fun d2 S2 ⟨ds, k, e, e2, kk⟩ => ⟨k, e2, ds, e, by rw [cutD_to]; exact kk⟩))
theorem je_cutFromG {K : D → List Sl → Prop} {e lo : Expr} {p2 pos : Pos} (h : JE X r e S fun d S1 => JE X r lo S1 fun d2 S2 => ∃ (ds : List D) (k : Nat), WT p d ds ∧ d2 = .int k ∧ ∀ d', WT p d' (ds.drop k) → K d' S2) : JE X r (.Subscript e (.Slice (some lo) none none p2) pos) S K :=
  je_cutG (p := p) (h.mono fun d S1 h1 => (show JE X r lo S1 _ from h1.mono fun d2 S2 ⟨ds, k, e, e2, kk⟩ => ⟨k, e2, ds, e, by rw [cutD_from]; exact kk⟩))
theorem je_cutLastG {K : D → List Sl → Prop} {e : Expr} {k : Nat} {p1 p2 p3 pos : Pos} (h : JE X r e S fun d S1 => ∃ ds : List D, WT p d ds ∧ ∀ d', WT p d' ds.dropLast → K d' S1) : JE X r (.Subscript e (.Slice none (some (.UnaryOp .USub (.Constant (.int 1) k p1) p2)) none p3) pos) S K :=
  je_cutG (p := p) (h.mono fun d S1 ⟨ds, e, kk⟩ => je_un un_neg <| je_int <| ud_neg ⟨-1, rfl, ds, e, by rw [cutD_last]; exact kk⟩)
/-- x + y -/
theorem od_catG {K0 : PySem.W.Frag} {d1 d2 : D} {xs ys : List D} {K : D → Prop} (w1 : WT p d1 xs) (w2 : WT p d2 ys) (hl : xs.length + ys.length ≤ sizeLine) (k : ∀ d', WT p d' (xs ++ ys) → K d') : OpD (rCatA K0) d1 d2 K := fun F H v1 v2 kF r1 r2 Q q => by
  obtain ⟨a, vs, rfl, hs, rv⟩ := rp_wt (K := K0) kF w1 r1
  obtain ⟨b, ws, rfl, hs2, rw'⟩ := rp_wt (K := K0) kF w2 r2
  refine ⟨a, b, vs, ws, rfl, rfl, hs, hs2, by rw [rv.length, rw'.length]; exact hl, fun e => ?_, fun _ e => ?_, fun _ _ p n => ?_⟩
  · subst e; cases rv
    exact q _ _ F H (k _ w2) (Grow.refl kF) r2
  · subst e; cases rw'
    rw [List.append_nil] at k
    exact q _ _ F H (k _ w1) (Grow.refl kF) r1
  · have g := Grow.new kF (o := .tup (vs ++ ws)) n
    exact q _ _ _ _ (k _ .pl) g (.tup upd_same ((rv.append rw').ex g.kF))
/-- len(t), t of either kind, or a list -/
theorem jlenG {K : D → List Sl → Prop} {a : Expr} {pp pos : Pos} (hm : X.mg "len" = none) (h : JE X r a S fun d S1 => ∃ xs, WT p d xs ∧ K (.int (xs.length : Nat)) S1) (hg : Gl X "len" := by rfl) (hs : starEach [a] X.env = (false, eval a X.env) :: starEach [] X.env := by rfl) : JE X r (.Call (.Name "len" pp) [a] [] pos) S K :=
  jB call_len_seq hm (ja1 (h.mono fun d S1 ⟨xs, w, k⟩ => ⟨[d], rfl, fun F H vs kF rv Q q => by
    cases rv with
    | cons r1 t =>
      cases t
      obtain ⟨a, ws, rfl, hs, rv⟩ := rp_wt (K := X.K) kF w r1
      exact ⟨a, ws, rfl, .inr hs, q _ _ F H (by rw [← rv.length] at k; exact k) (Grow.refl kF) (.int _)⟩⟩) hs) hg PySem.boot_len (by decide) (by decide) hs rfl
/-- for x in t -/
theorem itg_d {K : PySem.W.Frag} {B F : Hp} {a : Addr} {vs : List V} {ds : List D} (h : F a = some (.tup vs) ∨ ∃ o, F a = some (.frz o (.tup vs))) (rv : RpA F vs ds) : ItD (Itt K a) B F ds := by
  have hs : ∀ H, Ex F H → SqT K H a vs := fun H k => h.elim (fun h => .inl (.inl (k _ _ h))) fun ⟨o, h⟩ => .inl (.inr ⟨o, k _ _ h⟩)
  exact ⟨fun i H kb k hi => ⟨vs, hs H k, by rw [rv.length]; exact hi⟩,
   fun i H kb k hi => by
    obtain ⟨v, e, _⟩ := rv.get' (i := i) (List.getElem?_eq_getElem hi)
    exact ⟨vs, v, hs H k, e⟩,
   fun i H x H' kb k y hi => by
    obtain ⟨e, f⟩ := y
    obtain ⟨d, e1, e2⟩ := rv.get (f vs (hs H k))
    exact .inl ⟨e, d, e1, e2⟩⟩
theorem jiG {tg e : Expr} {K : List D → List Sl → Prop} (h : JE X r e S fun d S1 => ∃ ds, WT p d ds ∧ K ds S1) : JI X r tg e S K :=
  fun c F σ H hr E R q => of_pi (pi_tup pe_tE) (h c F σ H hr E _ fun v d F1 H1 S1 h1 E1 k1 r1 => by
    obtain ⟨ds, w, kd⟩ := h1
    rcases w with rfl | ⟨_, rfl⟩
    · cases r1 with
      | @tup a xs _ ha hv => exact ⟨_, rfl, ⟨_, .inl (.inl (E1.fin.fh _ _ ha))⟩, q _ ds F1 H1 S1 kd E1 k1 (itg_d (.inl ha) hv)⟩
    · obtain ⟨a, o, xs, rfl, ha, _, hv⟩ := rp_ft r1
      exact ⟨_, rfl, ⟨_, .inl (.inr ⟨o, E1.fin.fh _ _ ha⟩)⟩, q _ ds F1 H1 S1 kd E1 k1 (itg_d (.inr ⟨o, ha⟩) hv)⟩)
/-- list(t) -/
theorem jlistG {K : List D → List Sl → Prop} {a : Expr} {pp pos : Pos} (hm : X.mg "list" = none) (h : JE X r a S fun d S1 => ∃ xs, WT p d xs ∧ K xs S1) (hg : Gl X "list" := by rfl) (hs : starEach [a] X.env = (false, eval a X.env) :: starEach [] X.env := by rfl) : JN X r (.Call (.Name "list" pp) [a] [] pos) S K :=
  jnTy call_list_of hm (ja1 (h.mono fun d S1 ⟨xs, w, k⟩ => ⟨[d], rfl, fun F H vs kF rv Q q => by
    cases rv with
    | cons r1 t =>
      cases t
      obtain ⟨a, ws, rfl, hs, rv⟩ := rp_wt (K := X.K) kF w r1
      exact ⟨a, ws, rfl, .inr hs, fun l n => q l ws xs k n rv⟩⟩) hs) hg (by decide +kernel) (by decide) (by decide) hs rfl
/-! ### t[::-1] -/
open PySem.Spec PyProof.Rows in
def tRevG (X : Cx) (te : TE) : TE := fun σ H Q => te σ H fun x H1 => ∃ a xs, x = .ref a ∧ SqT X.K H1 a xs ∧ ∀ p, H1 p = none → Q (.ref p) (upd H1 p (.tup xs.reverse))
open PySem.Spec PyProof.Rows in
theorem pe_revG {e : Expr} {te : TE} {k : Nat} {p1 p2 p3 pos : Pos} (he : PE X e te) : PE X (.Subscript e (.Slice none none (some (.UnaryOp .USub (.Constant (.int 1) k p1) p2)) p3) pos) (tRevG X te) := by
  refine ⟨fun pins s σ H Q I h => ?_⟩
  refine Subscript_ (thn (he.run pins s σ H _ I h) fun v s1 ⟨x, H1, I1, r1, q1⟩ => ?_)
  obtain ⟨a, xs, ex, hx, q⟩ := q1
  subst ex
  cases r1
  have hst : PO X (some (.UnaryOp .USub (.Constant (.int 1) k p1) p2)) (tPart (tUn (rU fun i => .int (-i)) (tC (.int 1)))) := po_some (pe_un un_neg pe_int)
  refine wpAny_Slice (thn (po_none.run pins s1 σ H1 (fun o H2 => o = none ∧ H2 = H1) I1 ⟨rfl, rfl⟩) fun vl s2 ⟨l, H2, I2, pl, el, e2⟩ => ?_)
  subst el e2
  refine thn (po_none.run pins s2 σ H2 (fun o H3 => o = none ∧ H3 = H2) I2 ⟨rfl, rfl⟩) fun vu s3 ⟨u, H3, I3, pu, eu, e3⟩ => ?_
  subst eu e3
  refine thn (hst.run pins s3 σ H3 (fun o H4 => o = some (-1) ∧ H4 = H3) I3 ⟨1, rfl, -1, rfl, rfl, rfl⟩) fun vs s4 ⟨o, H4, I4, ps, eo, e4⟩ => ?_
  subst eo e4
  have I5 : Inv X pins σ H4 { s4 with heap := s4.heap.push { cls := .type "slice", data := .fields #[vl, vu, vs] } } := I4.kept (t' := s4.toks) fun b ob q => Heap.get?_push_of_some _ q
  obtain ⟨its, r, ht, hz⟩ := I5.tuple hx
  have hlen := r.length
  show wpAny (model X.prog X.w) X.A (subscriptTail e (.Slice none none (some (.UnaryOp .USub (.Constant (.int 1) k p1) p2)) p3) (.ref a) (.ref s4.heap.objs.size)) (EP X pins σ Q) X.xe { s4 with heap := s4.heap.push { cls := .type "slice", data := .fields #[vl, vu, vs] } }
  refine tail_any (ops := [.ref a, .ref s4.heap.objs.size]) ht.typeIs (PyProof.Rows.slot_tuple_getitem.lookup) ?_ (by with_unfolding_all rfl)
  refine getItem_tuple_rev ht (Heap.IsSliceOf.new _ vl vu vs) pl pu ps ?_ (by rw [List.size_toArray]; omega)
  refine ⟨.ref _, _, I5.laid (t' := s4.toks) (o := .tup xs.reverse) (fun b ob q => Heap.get?_push_of_some _ q) (Nat.le_refl _) ?_, rfl, q _ (I5.hok.fresh (Nat.le_refl _))⟩
  exact ⟨by rw [List.length_reverse]; exact hz, _, r.reverse, IsTup.new _ _⟩
theorem je_revG {K : D → List Sl → Prop} {e : Expr} {k : Nat} {p1 p2 p3 pos : Pos} (h : JE X r e S fun d S1 => ∃ xs, WT p d xs ∧ K (.tuple xs.reverse) S1) : JE X r (.Subscript e (.Slice none none (some (.UnaryOp .USub (.Constant (.int 1) k p1) p2)) p3) pos) S K :=
  fun c F σ H hr E Q q => of_pe (pe_revG pe_tE) (h c F σ H hr E _ fun v d F1 H1 S1 h1 E1 k1 r1 => by
    obtain ⟨xs, w, kd⟩ := h1
    obtain ⟨a, ws, rfl, hs, rv⟩ := rp_wt (K := X.K) E1.fin.fh w r1
    refine ⟨a, ws, rfl, hs, fun p n => ?_⟩
    have g : Grow F1 H1 (upd F1 p (.tup ws.reverse)) (upd H1 p (.tup ws.reverse)) := Grow.new E1.fin.fh n
    exact q _ _ _ _ S1 kd (E1.grow g) (k1.trans g.kF) (.tup upd_same (rv.reverse.ex g.kF)))
/-! ### t == () -/
theorem isTuple_wt {P : Program} {w : World} {F H : Hp} {h : Heap} (k : Ex F H) (ok : HOk P w H h) {v : V} {d : D} {ds : List D} {u : Value} (wt : WT p d ds) (r : Rp F v d) (e : RelV v u) : ∃ a us vs, v = .ref a ∧ u = .ref a ∧ h.IsTuple a us ∧ Vals vs us.toList ∧ RpA F vs ds := by
  rcases wt with rfl | ⟨_, rfl⟩
  · exact isTuple_of k ok r e
  · obtain ⟨a, o, xs, rfl, ha, _, rv⟩ := rp_ft r
    cases e
    obtain ⟨_, _, its, rw', o', ho, hc, n, hd⟩ := ok _ _ (k _ _ ha)
    exact ⟨a, its.toArray, xs, rfl, rfl, ⟨_, ho, hc, _, hd⟩, by simpa using rw', rv⟩
def rEqG0 (X : Cx) (p neg : Bool) : R2 := fun x y H Q => ∃ F d ds, Ex F H ∧ WT p d ds ∧ Rp F x d ∧ Rp F y (.tuple []) ∧ X.A.units < cLine ∧ Q (.bl (if neg = true then !ds.isEmpty else ds.isEmpty)) H
theorem op_eqG0 : OpR X (compareOp .Eq) (rEqG0 X p false) := by
  intro pins s σ H x y v u Q I rx ry h
  obtain ⟨F, d, ds, k, w, r1, r2, hu, q⟩ := h
  obtain ⟨a, us, vs, rfl, rfl, t1, v1, p1⟩ := isTuple_wt k I.hok w r1 rx
  obtain ⟨b, us2, vs2, rfl, rfl, t2, v2, p2⟩ := isTuple_of k I.hok r2 ry
  cases p2
  have h2 : us2.size = 0 := by have := vals_length v2; simpa using this.symm
  have h1 : us.size = ds.length := by
    have e1 : vs.length = us.size := by have := vals_length v1; simpa using this
    have e2 := p1.length
    omega
  refine PySem.SeqAt.eq_tupleAt (e := fun _ => true) t1 t2 hu (fun j _ j2 => absurd j2 (by omega)) ⟨.bl _, H, I, rfl, ?_⟩
  rw [h1, h2, Nat.min_zero]
  cases ds with
  | nil => exact q
  | cons _ _ => exact q
theorem od_eqG0 {k : Nat} (hr : Room k X.A) {d : D} {ds : List D} {K : D → Prop} (w : WT p d ds) (h : K (.bool ds.isEmpty)) : OpD (rEqG0 X p false) d (.tuple []) K := fun F H v1 v2 k r1 r2 Q q =>
  ⟨F, d, ds, k, w, r1, r2, by have := hr.un; omega, q _ _ F H h (Grow.refl k) (.bl _)⟩
end
/-! ### repr -/
inductive UWA (p : Bool) : List D → List D → Prop
  | nil : UWA p [] []
  | cons {d v : D} {ds vs : List D} : UW p d v → UWA p ds vs → UWA p (d :: ds) (v :: vs)
theorem UWA.len {p : Bool} {ds vs : List D} (h : UWA p ds vs) : ds.length = vs.length := by
  induction h with
  | nil => rfl
  | cons _ _ ih => rw [List.length_cons, List.length_cons, ih]
/-- d tells v: up to ft tuples at the top, or right in a list -/
def UL (p : Bool) (d v : D) : Prop := UW p d v ∨ ∃ ds vs, d = .list ds ∧ v = .list vs ∧ UWA p ds vs
theorem UW.reads {P : Program} {w : World} {F H : Hp} {h : Heap} {p : Bool} {B L : Nat} (k : Ex F H) (ok : HOk P w H h) {x : V} {d v : D} {u : Value} (hd : UW p d v) (r : Rp F x d) (e : RelV x u) (hp : okD B L v = true) : ∃ as, Reads h u v as := by
  rcases hd with rfl | ⟨_, ds, rfl, rfl⟩
  · exact Rp.readsE k ok r e hp
  · obtain ⟨a, o, xs, rfl, ha, _, rv⟩ := rp_ft r
    cases e
    obtain ⟨_, _, its, rw', o', ho, hc, n, hd⟩ := ok _ _ (k _ _ ha)
    rw [okD, Bool.and_eq_true] at hp
    obtain ⟨as, hr⟩ := RpA.readsE k ok rv rw' hp.2
    exact ⟨_, .tuple ho hc hd (by simpa using hr)⟩
theorem UWA.reads {P : Program} {w : World} {F H : Hp} {h : Heap} {p : Bool} {B L : Nat} (k : Ex F H) (ok : HOk P w H h) : ∀ {xs : List V} {ds vs : List D} {us : List Value}, UWA p ds vs → RpA F xs ds → Vals xs us → okDAll B L vs = true → ∃ as, ReadsAll h us vs as
  | _, _, _, _, .nil, .nil, e, _ => by cases e; exact ⟨_, .nil⟩
  | _, _, _, _, .cons h1 h2, .cons r1 r2, e, hp => by
    cases e with
    | cons e1 e2 =>
      rw [okDAll, Bool.and_eq_true] at hp
      obtain ⟨as, q1⟩ := h1.reads k ok r1 e1 hp.1
      obtain ⟨bs, q2⟩ := UWA.reads k ok h2 r2 e2 hp.2
      exact ⟨_, .cons q1 q2⟩
theorem UW.reprK {P : Program} {w : World} {F H : Hp} {h : Heap} {p : Bool} {B L : Nat} (k : Ex F H) (ok : HOk P w H h) {x : V} {d v : D} {u : Value} (hd : UW p d v) (r : Rp F x d) (e : RelV x u) (hp : okD B L v = true) (hs : v.showable = true) (hz : v.shown.length ≤ sizeLine) : ∃ bs, ReadAtMost h v.depth bs ∧ ReprK P w bs h v.depth u v.shown := by
  rcases hd with rfl | ⟨_, ds, rfl, rfl⟩
  · exact Rp.reprK k ok r e hp hs hz
  · obtain ⟨a, o, xs, rfl, ha, _, rv⟩ := rp_ft r
    cases e
    obtain ⟨_, _, its, rw', o', ho, hc, n, hd⟩ := ok _ _ (k _ _ ha)
    rw [okD, Bool.and_eq_true] at hp
    have hz' : (tupleText (PyData.shownAll ds)).length ≤ sizeLine := by simpa only [PyData.shown] using hz
    obtain ⟨bs, hb, hk⟩ := RpA.reprK k ok rv rw' hp.2 (by simpa [PyData.showable] using hs) (fun t ht => Nat.le_trans (tupleText_mem_le ht) hz')
    obtain ⟨as, hr⟩ := RpA.readsE k ok rv rw' hp.2
    have rr : Reads h (.ref a) (.tuple ds) as := .tuple ho hc hd (by simpa using hr)
    have hna : a ∉ bs := not_mem_of_deeper rr (by simp only [PyData.depth]; omega) hb
    refine ⟨a :: bs, ReadAtMost.cons rr (by simp only [PyData.depth]; omega) hb, ?_⟩
    simp only [PyData.depth, PyData.shown]
    exact ReprK.tuple ho hc hd hna (by simpa using hk)
theorem UWA.reprK {P : Program} {w : World} {F H : Hp} {h : Heap} {p : Bool} {B L : Nat} (k : Ex F H) (ok : HOk P w H h) : ∀ {xs : List V} {ds vs : List D} {us : List Value}, UWA p ds vs → RpA F xs ds → Vals xs us → okDAll B L vs = true → PyData.showableAll vs = true → (∀ t ∈ PyData.shownAll vs, t.length ≤ sizeLine) → ∃ bs, ReadAtMost h (PyData.depthAll vs) bs ∧ ReprAllK P w bs h (PyData.depthAll vs) us (PyData.shownAll vs)
  | _, _, _, _, .nil, .nil, e, _, _, _ => by cases e; exact ⟨[], (fun _ h => nomatch h), by simp only [PyData.shownAll]; exact .nil⟩
  | _, _, _, _, .cons (v := d) (vs := ds) h1 h2, .cons r t, e, hp, hs, hz => by
    cases e with
    | cons e1 e2 =>
      rw [okDAll, Bool.and_eq_true] at hp
      have hs' : d.showable = true ∧ PyData.showableAll ds = true := by simpa [PyData.showableAll] using hs
      obtain ⟨b1, hb1, k1⟩ := h1.reprK k ok r e1 hp.1 hs'.1 (hz _ (by simp only [PyData.shownAll]; exact List.mem_cons_self ..))
      obtain ⟨b2, hb2, k2⟩ := UWA.reprK k ok h2 t e2 hp.2 hs'.2 (fun t ht => hz t (by simp only [PyData.shownAll]; exact List.mem_cons_of_mem _ ht))
      refine ⟨b1 ++ b2, ?_, ?_⟩
      · intro b hm
        simp only [PyData.depthAll]
        rcases List.mem_append.mp hm with hm | hm
        · obtain ⟨d', as', r', hd'⟩ := hb1 b hm
          exact ⟨d', as', r', Nat.le_trans hd' (Nat.le_max_left _ _)⟩
        · obtain ⟨d', as', r', hd'⟩ := hb2 b hm
          exact ⟨d', as', r', Nat.le_trans hd' (Nat.le_max_right _ _)⟩
      · simp only [PyData.depthAll, PyData.shownAll]
        exact .cons ((k1.more fun b hb => List.mem_append_left _ hb).level_le (Nat.le_max_left _ _)) (k2.more_le (fun b hb => List.mem_append_right _ hb) (Nat.le_max_right _ _))
theorem UL.shows {P : Program} {w : World} {F H : Hp} {h : Heap} {p : Bool} {B L : Nat} (k : Ex F H) (ok : HOk P w H h) {a : Addr} {d v : D} (hd : UL p d v) (r : Rp F (.ref a) d) (hp : okD B L v = true) (hs : v.showable = true) (hsz : v.shown.length ≤ sizeLine) : ∃ T idr, ShowsBy P w h a v T idr := by
  rcases hd with (rfl | ⟨_, ds, rfl, rfl⟩) | ⟨ds, vs, rfl, rfl, hu⟩
  · exact Rp.shows k ok r hp hs hsz
  · obtain ⟨a', o, xs, ea, ha, _, rv⟩ := rp_ft r
    cases ea
    obtain ⟨_, _, its, rw', o', ho, hc, n, hd⟩ := ok _ _ (k _ _ ha)
    rw [okD, Bool.and_eq_true] at hp
    have hz' : (tupleText (PyData.shownAll ds)).length ≤ sizeLine := by simpa only [PyData.shown] using hsz
    obtain ⟨bs, hb, hk⟩ := RpA.reprK k ok rv rw' hp.2 (by simpa [PyData.showable] using hs) (fun t ht => Nat.le_trans (tupleText_mem_le ht) hz')
    obtain ⟨as, hr⟩ := RpA.readsE k ok rv rw' hp.2
    have rr : Reads h (.ref a) (.tuple ds) as := .tuple ho hc hd (by simpa using hr)
    have hna : a ∉ bs := not_mem_of_deeper rr (by simp only [PyData.depth]; omega) hb
    refine ⟨"tuple", "tuple.__repr__", PySem.F.slot_tuple_repr, PySem.F.slot_tuple_str, PySem.F.slot_tuple_format, fun s hk0 => ⟨_, hk0 _ _ ho, hc⟩, fun A E s Q hg hu hk0 hQ => ?_⟩
    simp only [PyData.depth] at hu
    simp only [PyData.shown] at hQ
    exact call_tuple_reprK ho hc hd hna (by simpa using hk) hg (fun b _ => Clear.nil b) hu hk0 hQ hz'
  · cases r with
    | @lst a' xs ds q r =>
      obtain ⟨_, its, n, rv, ho⟩ := ok _ _ (k _ _ q)
      rw [okD, Bool.and_eq_true] at hp
      have hz' : (listText (PyData.shownAll vs)).length ≤ sizeLine := by simpa only [PyData.shown] using hsz
      obtain ⟨bs, hb, hk⟩ := UWA.reprK k ok hu r rv hp.2 (by simpa [PyData.showable] using hs) (fun t ht => Nat.le_trans (listText_mem_le ht) hz')
      obtain ⟨as, hr⟩ := UWA.reads k ok hu r rv hp.2
      have rr : Reads h (.ref a) (.list vs) (a :: as) := .list ho rfl rfl (by simpa using hr)
      have hna : a ∉ bs := not_mem_of_deeper rr (by simp only [PyData.depth]; omega) hb
      refine ⟨"list", "list.__repr__", PySem.F.slot_list_repr.toG, PySem.F.slot_list_str, PySem.F.slot_list_format, fun s hk0 => ⟨_, hk0 _ _ ho, rfl⟩, fun A E s Q hg hu hk0 hQ => ?_⟩
      simp only [PyData.depth] at hu
      simp only [PyData.shown] at hQ
      cases its with
      | nil =>
        cases hr
        simp only [PyData.shownAll, listText_nil] at hQ
        exact call_list_repr_empty ⟨_, hk0 _ _ ho, rfl⟩ (hk0 _ _ ho) rfl (hQ s.heap _ _ fun _ _ e => e)
      | cons x l =>
        exact call_list_reprK ho rfl rfl hna (by simpa using hk.length_eq) (fun i y e => hk.item i y (by simpa using e)) hg (fun b _ => Clear.nil b) hu hk0 hQ hz'
section
variable {X : Cx} {r : SR} {S : List Sl} {p : Bool}
def rReprU (X : Cx) (p : Bool) : List V → Hp → VK → Prop := fun vs H Q => ∃ F x d v B L, vs = [x] ∧ Ex F H ∧ Rp F x d ∧ UL p d v ∧ okD B L v = true ∧ v.showable = true ∧ X.A.units + (v.depth + 1) < cLine ∧ v.shown.length ≤ sizeLine ∧ Q (.str v.shown) H
theorem call_reprU (hg : X.A.guards = some []) : CallR X (.builtin "repr") (rReprU X p) := by
  intro pins s σ H xs us Q I rr h
  obtain ⟨F, x, d, v, B, L, rfl, k, rp, hul, hpl, hs, hu, hz, q⟩ := h
  by_cases hdv : d = v
  · subst hdv
    exact call_reprE hg pins s σ H _ us Q I rr ⟨F, x, d, B, L, rfl, k, rp, hpl, hs, hu, hz, q⟩
  · obtain ⟨u, rfl, rx⟩ := vals1 rr
    obtain ⟨a, rfl⟩ : ∃ a, x = V.ref a := by
      rcases hul with (e | ⟨_, ds, rfl, rfl⟩) | ⟨ds, vs, rfl, rfl, hu⟩
      · exact absurd e hdv
      · obtain ⟨a, _, _, e, _⟩ := rp_ft rp
        exact ⟨a, e⟩
      · cases rp with
        | lst _ _ => exact ⟨_, rfl⟩
    cases rx
    obtain ⟨T, idr, S⟩ := UL.shows k I.hok hul rp hpl hs hz
    exact call_repr_slot (by omega) (S.typeIs s fun _ _ e => e) S.slotRepr (S.call X.A.in1 X.xe s _ hg (by show X.A.units + 1 + v.depth < cLine; omega) (fun _ _ e => e) fun h' u tk hk => ⟨_, _, rfl, ⟨.str _, H, I.kept hk, ⟨_, rfl⟩, q⟩⟩)
theorem jreprU {K : D → List Sl → Prop} {a : Expr} {pp pos : Pos} {k : Nat} (hg0 : X.A.guards = some []) (hr : Room k X.A) (hm : X.mg "repr" = none) (h : JE X r a S fun d S1 => ∃ v, UL p d v ∧ ShW v ∧ K (.str v.shown) S1)
    (hg : Gl X "repr" := by rfl) (hs : starEach [a] X.env = (false, eval a X.env) :: starEach [] X.env := by rfl) : JE X r (.Call (.Name "repr" pp) [a] [] pos) S K :=
  jB (call_reprU (p := p) hg0) hm (ja1 (h.mono fun d S' ⟨v, hu, sh, k⟩ => ⟨[d], rfl, fun F H vs kF rv Q q => by
    obtain ⟨B, L, h, hB, hk, hw⟩ := sh.ex
    cases rv with
    | cons r1 t =>
      cases t
      exact ⟨F, _, d, v, B, L, rfl, kF, r1, hu, h, okD_show hB h, by have := hr.un; omega, PyData.shown_fits (B := 13) (by decide) (by decide) (okD_short hB h) hw, q _ _ F H k (Grow.refl kF) (.str _)⟩⟩) hs) hg (he := hs)
end
section
variable {X : Cx} {r : SR} {S : List Sl}
theorem JN.keepP {t : Expr} {K : List D → List Sl → Prop} (P : List D → Prop) (h : JN X r t S fun ds S' => S' = S ∧ P ds) (k : ∀ ds, P ds → K ds S) : JN X r t S K := h.mono fun ds S' ⟨e, p⟩ => by subst e; exact k ds p
/-- max(a, b) -/
theorem jmax2 {K : D → List Sl → Prop} {a b : Expr} {p pos : Pos} (hm : X.mg "max" = none) (h : JE X r a S fun d1 S1 => JE X r b S1 fun d2 S2 => ∃ i j : Int, d1 = .int i ∧ d2 = .int j ∧ K (.int (if j > i then j else i)) S2) (hc : X.calm = true := by rfl) (hg : Gl X "max" := by rfl)
    (hs : starEach [a, b] X.env = (false, eval a X.env) :: starEach [b] X.env := by rfl) (hs2 : starEach [b] X.env = (false, eval b X.env) :: starEach [] X.env := by rfl) (hpl : (backTo pos (starEach [b] X.env)).any (·.1) = false := by rfl) : JE X r (.Call (.Name "max" p) [a, b] [] pos) S K :=
  jB (call_max2 hc) hm (jA (h.mono fun d1 S1 h1 => ja1 (h1.mono fun d2 S2 ⟨i, j, e1, e2, kk⟩ => ⟨[d1, d2], rfl, by
    subst e1 e2
    intro F H vs kF rv Q q
    cases rv with
    | cons r1 t =>
      cases t with
      | cons r2 t =>
        cases t
        cases r1
        cases r2
        exact ⟨i, j, rfl, q _ _ F H kk (Grow.refl kF) (.int _)⟩⟩) hs2) hs) hg (by decide +kernel) (by decide) (by decide) hs hpl
end
end DL

/-! DL: couples of tuples of ints: their order, sorted(..), <=, ==. -/
namespace DL
open PySem L2
abbrev Cp := List Int × List Int
def coupD (p : Cp) : D := .tuple [tupI p.1, tupI p.2]
abbrev TT2 := PySem.W.Tup Int × PySem.W.Tup Int
def toC (p : Cp) : TT2 := (⟨p.1⟩, ⟨p.2⟩)
theorem coupD_toD (p : Cp) : coupD p = PySem.W.Datum.toD (toC p) := rfl
theorem toC_inj {p q : Cp} (h : toC p = toC q) : p = q := by
  cases p; cases q
  unfold toC at h
  simp only [Prod.mk.injEq, PySem.W.Tup.mk.injEq] at h
  rw [h.1, h.2]
theorem coupD_inj {a b : Cp} (h : coupD a = coupD b) : a = b := by
  unfold coupD at h
  injection h with h
  injection h with h1 h2
  injection h2 with h2
  exact Prod.ext (tupI_inj h1) (tupI_inj h2)
theorem nice_coupD {n : Nat} (p : Cp) : Nice (n + 2) (coupD p) := nice_tup (n := n + 1) (nice_cons (nice_tupI p.1) (nice_cons (nice_tupI p.2) nice_nil))
def ltC (p q : Cp) : Bool := if p.1 = q.1 then ltL p.2 q.2 else ltL p.1 q.1
def leC (a b : Cp) : Bool := !ltC b a
theorem lt_toC (a b : Cp) : PySem.W.DatumOrd.lt (toC a) (toC b) = ltC a b := by
  show (if (toC a).1 = (toC b).1 then PySem.W.DatumOrd.lt (toC a).2 (toC b).2 else PySem.W.DatumOrd.lt (toC a).1 (toC b).1) = _
  unfold ltC toC
  by_cases h : a.1 = b.1
  · rw [if_pos h, if_pos (by rw [h])]; rfl
  · rw [if_neg h, if_neg (fun e => h (by injection e))]; rfl
theorem lt_coupD (a b : Cp) : PySem.W.dataLt (coupD a) (coupD b) = ltC a b := (PySem.W.DatumOrd.lt_eq (toC a) (toC b)).trans (lt_toC a b)
theorem dataLe_coupD : PySem.W.dataLe false coupD = leC := by
  funext a b
  show (!PySem.W.dataLt (coupD b) (coupD a)) = _
  rw [lt_coupD]; rfl
theorem ltC_irrefl (a : Cp) : ltC a a = false := by unfold ltC; rw [if_pos rfl]; exact ltL_irrefl _
theorem ltC_tri {a b : Cp} (h1 : ltC a b = false) (h2 : ltC b a = false) : a = b := by
  unfold ltC at h1 h2
  by_cases e : a.1 = b.1
  · rw [if_pos e] at h1
    rw [if_pos e.symm] at h2
    exact Prod.ext e (ltL_tri h1 h2)
  · rw [if_neg e] at h1
    rw [if_neg (fun z => e z.symm)] at h2
    exact absurd (ltL_tri h1 h2) e
theorem ltC_trans {a b c : Cp} (h1 : ltC a b = true) (h2 : ltC b c = true) : ltC a c = true := by
  unfold ltC at *
  by_cases e1 : a.1 = b.1
  · rw [if_pos e1] at h1
    by_cases e2 : b.1 = c.1
    · rw [if_pos e2] at h2
      rw [if_pos (e1.trans e2)]
      exact ltL_trans h1 h2
    · rw [if_neg e2] at h2
      rw [if_neg (fun z => e2 (e1.symm.trans z)), e1]
      exact h2
  · rw [if_neg e1] at h1
    by_cases e2 : b.1 = c.1
    · rw [if_neg (fun z => e1 (z.trans e2.symm)), ← e2]
      exact h1
    · rw [if_neg e2] at h2
      have h3 := ltL_trans h1 h2
      rw [if_neg (fun z => by rw [z, ltL_irrefl] at h3; cases h3)]
      exact h3
theorem ltC_asymm {a b : Cp} (h : ltC a b = true) : ltC b a = false := by
  cases e : ltC b a with
  | false => rfl
  | true =>
    have := ltC_trans h e
    rw [ltC_irrefl] at this; cases this
theorem leC_trans (a b c : Cp) (h1 : leC a b = true) (h2 : leC b c = true) : leC a c = true := by
  unfold leC at *
  rw [Bool.not_eq_true'] at *
  cases e : ltC c a with
  | false => rfl
  | true =>
    cases e2 : ltC a b with
    | true =>
      have := ltC_trans e e2
      rw [h2] at this; cases this
    | false =>
      have := ltC_tri e2 h1
      subst this
      rw [e] at h2; cases h2
theorem leC_total (a b : Cp) : (leC a b || leC b a) = true := by
  unfold leC
  cases e : ltC b a with
  | false => rfl
  | true => rw [ltC_asymm e]; rfl
def sortC (ls : List Cp) : List Cp := ls.mergeSort leC
theorem sortC_perm (ls : List Cp) : (sortC ls).Perm ls := List.mergeSort_perm _ _
theorem sortC_le (ls : List Cp) : (sortC ls).Pairwise fun a b => leC a b = true := List.pairwise_mergeSort leC_trans leC_total ls
theorem sortC_lt {ls : List Cp} (nd : ls.Nodup) : (sortC ls).Pairwise fun a b => ltC a b = true := by
  have h1 := sortC_le ls
  have h2 : (sortC ls).Pairwise (· ≠ ·) := List.nodup_iff_pairwise_ne.mp ((sortC_perm ls).nodup_iff.mpr nd)
  refine (h1.and h2).imp fun {a b} ⟨x, y⟩ => ?_
  unfold leC at x
  rw [Bool.not_eq_true'] at x
  cases e : ltC a b with
  | true => rfl
  | false => exact absurd (ltC_tri e x) y
theorem sorted_oneC : ∀ {a b : List Cp}, (a.Pairwise fun x y => ltC x y = true) → (b.Pairwise fun x y => ltC x y = true) → (∀ x, x ∈ a ↔ x ∈ b) → a = b
  | [], [], _, _, _ => rfl
  | [], y :: b, _, _, h => by have := (h y).mpr List.mem_cons_self; cases this
  | x :: a, [], _, _, h => by have := (h x).mp List.mem_cons_self; cases this
  | x :: a, y :: b, h1, h2, h => by
    rw [List.pairwise_cons] at h1 h2
    have e : x = y := by
      rcases List.mem_cons.mp ((h x).mp List.mem_cons_self) with e | hx
      · exact e
      · rcases List.mem_cons.mp ((h y).mpr List.mem_cons_self) with e | hy
        · exact e.symm
        · have l1 := h2.1 x hx
          have l2 := h1.1 y hy
          rw [ltC_asymm l1] at l2; cases l2
    subst e
    refine congrArg _ (sorted_oneC h1.2 h2.2 fun z => ?_)
    have no : ∀ {l : List Cp}, (∀ a ∈ l, ltC x a = true) → x ∉ l := fun hl hx => by
      have := hl x hx
      rw [ltC_irrefl] at this; cases this
    constructor
    · intro hz
      rcases List.mem_cons.mp ((h z).mp (List.mem_cons_of_mem _ hz)) with e | hz2
      · subst e; exact absurd hz (no h1.1)
      · exact hz2
    · intro hz
      rcases List.mem_cons.mp ((h z).mpr (List.mem_cons_of_mem _ hz)) with e | hz2
      · subst e; exact absurd hz (no h2.1)
      · exact hz2
/-- with no member twice: in order exactly if it is what it is sorted to -/
theorem sort_ascC {ls : List Cp} (nd : ls.Nodup) : decide (ls = sortC ls) = decide (ls.Pairwise fun a b => ltC a b = true) := by
  refine decide_eq_decide.mpr ⟨fun e => ?_, fun h => ?_⟩
  · rw [e]; exact sortC_lt nd
  · exact sorted_oneC h (sortC_lt nd) fun x => (sortC_perm ls).mem_iff.symm
theorem eqv_coups (a b : List Cp) : PyData.eqv (.list (a.map coupD)) (.list (b.map coupD)) = decide (a = b) := by
  have h := PySem.W.Datum.eqv (α := List TT2) (a.map toC) (b.map toC)
  have e : ∀ l : List Cp, (PySem.W.Datum.toD (l.map toC) : D) = .list (l.map coupD) := fun l => by
    show PyData.list ((l.map toC).map PySem.W.Datum.toD) = _
    rw [List.map_map]; rfl
  rw [e, e] at h
  rw [h]
  refine decide_eq_decide.mpr ⟨fun h => ?_, fun h => by rw [h]⟩
  have inj : ∀ {a b : List Cp}, a.map toC = b.map toC → a = b := by
    intro a
    induction a with
    | nil => intro b h; cases b with | nil => rfl | cons _ _ => cases h
    | cons x a ih =>
      intro b h
      cases b with
      | nil => cases h
      | cons y b =>
        rw [List.map_cons, List.map_cons] at h
        injection h with h1 h2
        rw [toC_inj h1, ih h2]
  exact inj h
theorem alike_coupD (a b : Cp) : PySem.W.alike (coupD a) (coupD b) = true := PySem.W.DatumOrd.alike (toC a) (toC b)
theorem depth_coupD (p : Cp) : (coupD p).depth ≤ 2 := (nice_coupD (n := 0) p).dp
section
variable {X : Cx} {r : SR} {S : List Sl}
/-! ### <= -/
def rLeC (X : Cx) : R2 := fun x y H Q => ∃ F a b, Ex F H ∧ Rp F x (coupD a) ∧ Rp F y (coupD b) ∧ X.A.units + 2 < cLine ∧ Q (.bl (!ltC b a)) H
theorem op_leC : OpR X (compareOp .LtE) (rLeC X) := by
  intro pins s σ H x y v u Q I rx ry h
  obtain ⟨F, a, b, k, r1, r2, hu, q⟩ := h
  obtain ⟨as, h1⟩ := Rp.reads k I.hok r1 rx (nice_coupD (n := 1) a).pl
  obtain ⟨bs, h2⟩ := Rp.reads k I.hok r2 ry (nice_coupD (n := 1) b).pl
  exact PySem.W.le_datum (x := toC a) (y := toC b) ⟨as, h1⟩ ⟨bs, h2⟩ hu (by rw [lt_toC]; exact ⟨.bl _, H, I, rfl, q⟩)
theorem od_leC {k : Nat} (hr : Room k X.A) {a b : Cp} {K : D → Prop} (h : K (.bool (!ltC b a))) : OpD (rLeC X) (coupD a) (coupD b) K := fun F H v1 v2 kF r1 r2 Q q => ⟨F, a, b, kF, r1, r2, by have := hr.un; omega, q _ _ F H h (Grow.refl kF) (.bl _)⟩
/-! ### sorted(..) of a list of tuples alike -/
def rSortA (X : Cx) : List V → Hp → VK → Prop := fun vs H Q => ∃ F x ds, vs = [x] ∧ Ex F H ∧ Rp F x (.list ds) ∧ PySem.W.AllAlike ds ∧ (∀ d ∈ ds, ∃ xs, d = PyData.tuple xs) ∧ (∀ d ∈ ds, d.plain = true ∧ d.depth ≤ 4) ∧ X.A.units + 8 < cLine ∧ ∀ p ws, RpA F ws (ds.mergeSort (PySem.W.dataLe false id)) → H p = none → Q (.ref p) (upd H p (.lst ws))
theorem call_sortA : CallR X (.builtin "sorted") (rSortA X) := by
  intro pins s σ H xs us Q I rr h
  obtain ⟨F, x, ds, rfl, k, rp, hal, ht, hd, hu, q⟩ := h
  obtain ⟨u, rfl, rx⟩ := vals1 rr
  cases rp with
  | @lst a ws _ ha rv =>
    cases rx
    obtain ⟨z, its, n, rw', ho⟩ := (show ObjOk X.prog X.w H s.heap a (.lst ws) from I.hok _ _ (k _ _ ha))
    obtain ⟨e, er⟩ := each_of k I.hok rv rw' (plainAll_of fun d h => (hd d h).1)
    have hz : ds.length ≤ sizeLine := by rw [← rv.length]; exact z
    have er' : PySem.W.EachIs (fun v d => ∃ as, Reads (PySem.W.sortingHeap (PySem.W.copyHeap s.heap its) (s.heap.objs.size + 1) its) v d as) its ds := er.mono fun _ _ ⟨as, r⟩ => ⟨as, PyProof.Rows.Reads.keeps (fun _ _ => PySem.W.sorting_copy_old) r⟩
    refine PySem.W.sorted_vals (vs := its) ⟨_, ho, rfl, _, rfl⟩ (sortsAt_tups (s := { s with heap := PySem.W.sortingHeap (PySem.W.copyHeap s.heap its) (s.heap.objs.size + 1) its }) er' hal ht fun d h => by have := (hd d h).2; show X.A.units + 1 + 1 + d.depth < cLine; omega) (by rw [e.length]; exact hz) ?_
    have out := PySem.W.sortVals_data (enc := id) false e er' (by rw [List.map_id]; exact hal)
    rw [List.map_id] at out
    obtain ⟨vs, v1, v2⟩ := of_each out
    obtain ⟨ep, he'⟩ := PyProof.Rows.sortedAll_at s.heap its (PySem.W.sortVals (PySem.W.dataKind (PySem.W.sortingHeap (PySem.W.copyHeap s.heap its) (s.heap.objs.size + 1) its) ds) false its its).toArray
    have hlen : vs.length ≤ sizeLine := by
      rw [v2.length, List.length_mergeSort]; exact hz
    exact ⟨.ref _, upd H (s.heap.objs.size + 1) (.lst vs), I.laid (t' := s.toks) (fun _ _ => PyProof.Rows.sortedAll_old) (Nat.le_succ _) ⟨hlen, _, ep, v1, he'⟩, rfl, q _ vs v2 (I.hok.fresh (Nat.le_succ _))⟩
/-- sorted(xs), xs a list of couples -/
theorem jsortC {K : List D → List Sl → Prop} {a : Expr} {p pos : Pos} {k : Nat} (hr : Room k X.A) (hm : X.mg "sorted" = none) (h : JE X r a S fun d S1 => ∃ ls : List Cp, d = .list (ls.map coupD) ∧ K ((sortC ls).map coupD) S1) (hg : Gl X "sorted" := by rfl) (hs : starEach [a] X.env = (false, eval a X.env) :: starEach [] X.env := by rfl) : JN X r (.Call (.Name "sorted" p) [a] [] pos) S K :=
  jnB call_sortA hm (ja1 (h.mono fun d S1 ⟨ls, e, kk⟩ => ⟨[d], rfl, by
    rw [e]
    intro F H vs kF rv Q q
    cases rv with
    | cons r1 t =>
      cases t
      refine ⟨F, _, _, rfl, kF, r1, PySem.W.AllAlike.of alike_coupD, fun d hd => ?_, fun d hd => ?_, by have := hr.un; omega, fun p ws rw' n => q p ws _ kk n ?_⟩
      · obtain ⟨c, _, rfl⟩ := List.mem_map.mp hd
        exact ⟨_, rfl⟩
      · obtain ⟨c, _, rfl⟩ := List.mem_map.mp hd
        exact ⟨(nice_coupD (n := 1) c).pl, Nat.le_trans (depth_coupD c) (by decide)⟩
      · rw [sort_map dataLe_coupD] at rw'
        exact rw'⟩) hs) hg (by decide +kernel) (by decide) (by decide) hs rfl
/-! ### sorted(t) of a tuple of tuples alike -/
def rSortG (X : Cx) (pp : Bool) : List V → Hp → VK → Prop := fun vs H Q => ∃ F x d ds, vs = [x] ∧ Ex F H ∧ WT pp d ds ∧ Rp F x d ∧ PySem.W.AllAlike ds ∧ (∀ d ∈ ds, ∃ xs, d = PyData.tuple xs) ∧ (∀ d ∈ ds, d.plain = true ∧ d.depth ≤ 4) ∧ X.A.units + 8 < cLine ∧ ∀ p ws, RpA F ws (ds.mergeSort (PySem.W.dataLe false id)) → H p = none → Q (.ref p) (upd H p (.lst ws))
open PySem.Spec PyProof.Rows in
theorem call_sortG {pp : Bool} : CallR X (.builtin "sorted") (rSortG X pp) := by
  intro pins s σ H xs us Q I rr h
  obtain ⟨F, x, d, ds, rfl, k, wt, rp, hal, htt, hdd, hu, q⟩ := h
  obtain ⟨u, rfl, rx⟩ := vals1 rr
  obtain ⟨a, ws, rfl, hs, rv⟩ := rp_wt (K := X.K) k wt rp
  cases rx
  obtain ⟨its, rw', ht, hz⟩ := I.tuple hs
  obtain ⟨o, ho, hc, n, hd⟩ := id ht
  have hl2 : its.length = ds.length := by rw [← rw'.length]; exact rv.length
  have hz2 : its.length ≤ sizeLine := by rw [← rw'.length]; exact hz
  refine Calls.call_function_entry PyProof.Rows.kind_sorted PyProof.Rows.plain_sorted PyProof.Rows.entry_sorted (PyProof.Rows.args_sorted1 _) ?_
  unfold Builtin.«sorted»
  refine wpAny_bind (m := checkCount "sorted" 1 1 _) (wpAny_pure ?_)
  refine wpAny_bind (wpAny_collect_seq a (T := "tuple") (.inr rfl) ho hc hd (fun h' hk => ?_) (by rw [List.size_toArray]; exact hz2))
  show wpAny _ _ _ _ _ { s with heap := h' }
  have I1 : Inv X pins σ H { s with heap := h' } := I.kept (t' := s.toks) hk
  obtain ⟨e1, er1⟩ := each_of k I1.hok rv rw' (plainAll_of fun d h => (hdd d h).1)
  refine wpAny_bind (wpAny_newList ?_ hz2)
  have hoL : (h'.push (seqObj "list" its.toArray 0)).get? h'.objs.size = some (seqObj "list" its.toArray 0) := Heap.get?_push_size _ rfl
  show wpAny _ _ _ _ _ { s with heap := h'.push (seqObj "list" its.toArray 0) }
  have keepS : ∀ b u, h'.get? b = some u → (PySem.W.sortingHeap (h'.push (seqObj "list" its.toArray 0)) h'.objs.size its).get? b = some u := fun b u e =>
    PySem.W.sortingHeap_old (Nat.ne_of_lt (Heap.lt_size e)) (Heap.get?_push_of_some _ e)
  have er2 : PySem.W.EachIs (fun v d => ∃ as, Reads (PySem.W.sortingHeap (h'.push (seqObj "list" its.toArray 0)) h'.objs.size its) v d as) its ds := er1.mono fun _ _ ⟨as, r⟩ => ⟨as, PyProof.Rows.Reads.keeps keepS r⟩
  refine wpAny_bind (wpAny_holding (wpAny_call_entry PyProof.Rows.slot_list_sort ⟨_, hoL, rfl⟩ PyProof.Rows.entry_list_sort
    (PySem.W.list_sort_vals (s := { s with heap := h'.push (seqObj "list" its.toArray 0) }) hoL (sortsAt_tups (s := { s with heap := PySem.W.sortingHeap (h'.push (seqObj "list" its.toArray 0)) h'.objs.size its }) er2 hal htt fun d hd => by have := (hdd d hd).2; show X.A.units + 1 + 1 + d.depth < cLine; omega) hz2 ⟨_, rfl, ?_⟩) (PyProof.Rows.args_list_sort _)))
  have out := PySem.W.sortVals_data (enc := id) (R := fun u (d : D) => ∃ v, RelV v u ∧ Rp F v d) false e1 er2 (by rw [List.map_id]; exact hal)
  rw [List.map_id] at out
  obtain ⟨vs, v1, v2⟩ := of_each out
  obtain ⟨e', he'⟩ := PyProof.Rows.sortedHeap_at (vs := its) (out := (PySem.W.sortVals (PySem.W.dataKind (PySem.W.sortingHeap (h'.push (seqObj "list" its.toArray 0)) h'.objs.size its) ds) false its its).toArray) hoL
  have hlen2 : vs.length ≤ sizeLine := by rw [v2.length, List.length_mergeSort, ← hl2]; exact hz2
  refine wpAny_pure ⟨_, rfl, .ref h'.objs.size, upd H h'.objs.size (.lst vs), I1.laid (t' := s.toks) (fun b u e => ?_) (Nat.le_refl _) (show ObjOk X.prog X.w _ _ _ (.lst vs) from ⟨hlen2, _, e', v1, he'⟩), rfl, q _ vs v2 (I1.hok.fresh (Nat.le_refl _))⟩
  have hb : b < h'.objs.size := Heap.lt_size e
  rw [PyProof.Rows.sortedHeap_old (Nat.ne_of_lt hb) (by rw [size_push']; exact Nat.lt_succ_of_lt hb)]
  exact Heap.get?_push_of_some _ e
/-- sorted(t), t a tuple of couples -/
theorem jsortCG {pp : Bool} {K : List D → List Sl → Prop} {a : Expr} {p pos : Pos} {k : Nat} (hr : Room k X.A) (hm : X.mg "sorted" = none) (h : JE X r a S fun d S1 => ∃ ls : List Cp, WT pp d (ls.map coupD) ∧ K ((sortC ls).map coupD) S1) (hg : Gl X "sorted" := by rfl) (hs : starEach [a] X.env = (false, eval a X.env) :: starEach [] X.env := by rfl) : JN X r (.Call (.Name "sorted" p) [a] [] pos) S K :=
  jnB (call_sortG (pp := pp)) hm (ja1 (h.mono fun d S1 ⟨ls, w, kk⟩ => ⟨[d], rfl, by
    intro F H vs kF rv Q q
    cases rv with
    | cons r1 t =>
      cases t
      refine ⟨F, _, d, _, rfl, kF, w, r1, PySem.W.AllAlike.of alike_coupD, fun d hd => ?_, fun d hd => ?_, by have := hr.un; omega, fun p ws rw' n => q p ws _ kk n ?_⟩
      · obtain ⟨c, _, rfl⟩ := List.mem_map.mp hd
        exact ⟨_, rfl⟩
      · obtain ⟨c, _, rfl⟩ := List.mem_map.mp hd
        exact ⟨(nice_coupD (n := 1) c).pl, Nat.le_trans (depth_coupD c) (by decide)⟩
      · rw [sort_map dataLe_coupD] at rw'
        exact rw'⟩) hs) hg (by decide +kernel) (by decide) (by decide) hs rfl
/-- a, b, c = [], {}, e -/
theorem jpar3LDV {x y z : Str} {e : Expr} {px py pz pt pos pa pb : Pos} {kt k2 pt2} {E : DE} {rest : List Stmt} (i j l : Nat) (h : JE X r e S fun d S3 => i < S3.length ∧ j < S3.length ∧ JSs X r rest (((S3.set i (.own [])).set j (.ob (.d []))).set l (.val d)) E)
    (hc : X.calm = true := by rfl) (hN : X.N.Nodup := by assumption) (hi : X.N[i]? = some x := by rfl) (hj : X.N[j]? = some y := by rfl) (hl : X.N[l]? = some z := by rfl) (hij : i ≠ j := by decide) (hil : i ≠ l := by decide) (hjl : j ≠ l := by decide) (hx : X.env.scope.names.lookup x = some .local := by rfl) (hy : X.env.scope.names.lookup y = some .local := by rfl) (hz : X.env.scope.names.lookup z = some .local := by rfl)
    (hw : swappedStores [.Tuple [.Name x px, .Name y py, .Name z pz] kt pt] (.Tuple [.List [] pa, .Dict [] [] pb, e] k2 pt2) X.env = pure (some [x, y, z]) := by rfl) (hs : swapsWithSole [.Tuple [.Name x px, .Name y py, .Name z pz] kt pt] (.Tuple [.List [] pa, .Dict [] [] pb, e] k2 pt2) pos.line X.env = pure false := by rfl)
    (s1 : starEach [.List [] pa, .Dict [] [] pb, e] X.env = (false, eval (.List [] pa) X.env) :: starEach [.Dict [] [] pb, e] X.env := by rfl) (s2 : starEach [.Dict [] [] pb, e] X.env = (false, eval (.Dict [] [] pb) X.env) :: starEach [e] X.env := by rfl) (s3 : starEach [e] X.env = (false, eval e X.env) :: starEach [] X.env := by rfl) :
    JSs X r (.Assign [.Tuple [.Name x px, .Name y py, .Name z pz] kt pt] (.Tuple [.List [] pa, .Dict [] [] pb, e] k2 pt2) pos :: rest) S E := jss_cons fun c F σ H hr Ev G g =>
  of_ps (ps_par3 hc hN hi hj hl hij hil hjl hx hy hz (pa_cons pe_tE (pa_cons pe_tE (pa_cons pe_tE pa_nil s3) s2) s1) hw hs) ((jn_lst (K := fun ds S1 => ds = [] ∧ S1 = S) (jA0 ⟨[], rfl, Nat.zero_le _, rfl, rfl⟩)) c F σ H hr Ev _ fun p1 ds F1 H1 S1 h1 n1 k1 => by
    obtain ⟨rfl, rfl⟩ := h1
    obtain ⟨hh1, E1, hp1, hv1, nF1, b1, q1, no1⟩ := n1
    have f01 : c.F0 p1 = none := by
      cases z : c.F0 p1 with
      | none => rfl
      | some u => have := E1.fin.f0 _ _ z; rw [nF1] at this; cases this
    refine (jemptyD (K := fun o S2 => o = .d [] ∧ S2 = S1) ⟨rfl, rfl⟩) (c.hold p1 hh1) F1 σ H1 (r.st c p1 hh1 b1 hr) (E1.hold hp1 nF1 q1 no1) _ fun p2 o F2 H2 S2 h2 n2 k2 => ?_
    obtain ⟨rfl, rfl⟩ := h2
    obtain ⟨hh2, E2, hp2, hv2, nF2, b2, q2, no2⟩ := n2
    have f02 : c.F0 p2 = none := by
      cases z : c.F0 p2 with
      | none => rfl
      | some u => have := E2.fin.f0 _ _ z; rw [nF2] at this; cases this
    refine h ((c.hold p1 hh1).hold p2 hh2) F2 σ H2 (r.st _ p2 hh2 b2 (r.st c p1 hh1 b1 hr)) (E2.hold hp2 nF2 q2 no2) _ fun v d F3 H3 S3 h3 E3 k3 r3 => ?_
    obtain ⟨hli, hlj, kk⟩ := h3
    obtain ⟨ws1, rfl, _⟩ := obr_l hv1
    obtain ⟨ws2, rfl, _⟩ := obr_d hv2
    obtain ⟨E4, hp2', nF2', q2', no2'⟩ := E3.unhold (vs := .dT ws2) (fun xs z => nomatch z) b2 f02
    obtain ⟨E5, hp1', nF1', q1', no1'⟩ := E4.unhold (vs := .lst ws1) (fun xs z => nomatch z) b1 f01
    have hne : p1 ≠ p2 := fun z => by
      rw [z, hp2'] at hp1'; cases hp1'
    have b2' : c.B p2 = none := by
      have : upd c.B p1 (.lst ws1) p2 = none := b2
      rw [upd_ne (fun z => hne z.symm)] at this; exact this
    have E6 := E5.setOwn (i := i) hp1' ((hv1.ex k2).ex k3) nF1' b1 q1' no1'
    have E7 := E6.setOwn (i := j) hp2' (hv2.ex k3) nF2' b2' q2' (fun m xs em => by
      by_cases hm : i = m
      · subst hm
        by_cases hlen : i < σ.length
        · rw [List.getElem?_set_self hlen]
          intro z
          injection z with z
          injection z with z
          injection z with z
          exact hne z
        · rw [List.getElem?_eq_none (by rw [List.length_set]; omega)]
          intro z; cases z
      · rw [List.getElem?_set_ne hm] at em ⊢
        exact no2' m xs em)
    exact ⟨.ref p1, .ref p2, v, rfl, g.nx F3 _ H3 _ kk (E7.set r3) ((k1.trans k2).trans k3)⟩)
theorem jtdin {K : Bool → List Sl → Prop} {a b : Expr} {pos : Pos} {k : Nat} (hr : Room k X.A) (h : JE X r a S fun d1 S1 => JE X r b S1 fun d2 S2 => ∃ ky kvs, d1 = tupI ky ∧ d2 = dctD kvs ∧ K (valD kvs ky).isSome S2) (hm : behindInMarks .In b = false := by rfl) : JT X r (.Compare a [.In] [b] pos) S K :=
  fun c F σ H hr' E Q q => of_pt (pt_cmp (pc_din (by have := hr.un; omega) pe_tE pe_tE) hm) (h c F σ H hr' E _ fun v1 d1 F1 H1 S1 h1 E1 k1 r1 => h1 c F1 σ H1 hr' E1 _ fun v2 d2 F2 H2 S2 h2 E2 k2 r2 => by
    obtain ⟨ky, kvs, rfl, rfl, kk⟩ := h2
    obtain ⟨l, ws, rfl, hl, rk⟩ := rp_dct r2
    refine ⟨l, _, rfl, dget_of E2.fin.fh (r1.ex k2) (E2.fin.fh _ _ hl), ?_⟩
    rw [(rk.val ky).isSome]
    exact ⟨_, rfl, q _ F2 H2 S2 kk E2 (k1.trans k2)⟩)
/-- tuple(x), x a list read: known to have no dict -/
theorem jtupFE {K : D → List Sl → Prop} {a : Expr} {p pos : Pos} (hm : X.mg "tuple" = none) (h : JE X r a S fun d S1 => ∃ ys, d = .list ys ∧ K (ft ys) S1) (hg : Gl X "tuple" := by rfl) (hs : starEach [a] X.env = (false, eval a X.env) :: starEach [] X.env := by rfl) : JE X r (.Call (.Name "tuple" p) [a] [] pos) S K :=
  jTy call_tupF hm (ja1 (h.mono fun d S1 ⟨xs, e, k⟩ => ⟨[d], rfl, by
    rw [e]
    intro F H vs kF rv Q q
    cases rv with
    | cons r1 t =>
      cases t
      cases r1 with
      | @lst a ws _ ha rv =>
        refine ⟨a, ws, rfl, .inl (.inl (kF _ _ ha)), fun l o ho n => ?_⟩
        have g := Grow.new kF (o := .frz o (.tup ws)) n
        exact q _ _ _ _ k g (.ftup upd_same ho (rv.ex g.kF))⟩) hs) hg (by decide +kernel) (by decide) (by decide) hs rfl
/-- len(d), d a dict -/
theorem jlenD {K : D → List Sl → Prop} {a : Expr} {pp pos : Pos} (hm : X.mg "len" = none) (h : JE X r a S fun d S1 => ∃ kvs, d = dctD kvs ∧ K (.int (kvs.length : Nat)) S1) (hg : Gl X "len" := by rfl) (hs : starEach [a] X.env = (false, eval a X.env) :: starEach [] X.env := by rfl) : JE X r (.Call (.Name "len" pp) [a] [] pos) S K :=
  jB call_len_dT hm (ja1 (h.mono fun d S1 ⟨kvs, e, k⟩ => ⟨[d], rfl, fun F H vs kF rv Q q => by
    subst e
    cases rv with
    | cons r1 t =>
      cases t
      obtain ⟨a, ws, rfl, hl, rk⟩ := rp_dct r1
      exact ⟨a, ws, rfl, kF _ _ hl, q _ _ F H (by rw [← rk.length] at k; exact k) (Grow.refl kF) (.int _)⟩⟩) hs) hg PySem.boot_len (by decide) (by decide) hs rfl
/-- tuple(x), x a list read -/
theorem jtupE {K : D → List Sl → Prop} {a : Expr} {p pos : Pos} (hm : X.mg "tuple" = none) (h : JE X r a S fun d S1 => ∃ ys, d = .list ys ∧ K (.tuple ys) S1) (hg : Gl X "tuple" := by rfl) (na : starEach [a] X.env = (false, eval a X.env) :: starEach [] X.env := by rfl) : JE X r (.Call (.Name "tuple" p) [a] [] pos) S K := je_tupL hg hm na h
end
end DL

/-! DL: zip(x, y, strict=True) of two sequences of one length, a list or a tuple each. -/
namespace ZS
open PySem PySem.Sem
open Sem (wp)
/-- a zip that was told strict -/
abbrev IsZipS (h : Heap) (z TI TO : Addr) (f0 : Value) : Prop :=
  h.get? z = some { cls := .type "zip", dict := none, data := .fields #[f0, .bool false, .bool true, .ref TI, .ref TO], slots := #[] }
section
variable {prog : Program} {w : World} {A : Around} {E : Value → Shared → Prop} {s : Shared} {z TI TO i1 i2 it : Addr} {fp fp1 fp2 : List Addr} {n n1 n2 i : Nat} {P P1 P2 : Nat → Value → Prop} {St St1 St2 : Nat → Heap → Prop} {a1 a2 : Value}
theorem nextOrEnd_item {Q : Option Value → Shared → Prop} (D : Draws prog w A it fp n P St) (hlt : i < n) (st : St i s.heap)
    (hQ : ∀ v h' tk, P i v → St (i + 1) h' → Heap.SameBut it s.heap h' → Q (some v) { s with heap := h', toks := tk }) : wpAny (model prog w) A (Builtin.SmallTypes.nextOrEnd (.ref it)) Q E s := by
  unfold Builtin.SmallTypes.nextOrEnd
  exact wpAny_bind (wpAny_attempt (D.item i _ _ _ hlt st fun v h' tk a b c => wpAny_pure (hQ v h' tk a b c)))
/-- the iterator has no more at i -/
def Ended (prog : Program) (w : World) (A : Around) (it : Addr) (St : Nat → Heap → Prop) (i : Nat) : Prop :=
  ∀ (s : Shared) (Q : Value → Shared → Prop) (E : Value → Shared → Prop), St i s.heap → (∀ h' e, Heap.ExtBut it s.heap h' → (∃ o, h'.get? e = some o ∧ o.cls = .type "StopIteration") → E (.ref e) { s with heap := h' }) → wpAny (model prog w) A (Builtin.SmallTypes.nextOf (.ref it)) Q E s
theorem nextOrEnd_end {Q : Option Value → Shared → Prop} (D : Ended prog w A it St i) (st : St i s.heap)
    (hQ : ∀ h', Heap.ExtBut it s.heap h' → Q none { s with heap := h' }) : wpAny (model prog w) A (Builtin.SmallTypes.nextOrEnd (.ref it)) Q E s := by
  unfold Builtin.SmallTypes.nextOrEnd
  refine wpAny_bind (wpAny_attempt (D s _ _ st fun h' e hk he => ?_))
  obtain ⟨o, ho, hc⟩ := he
  refine wpAny_bind (wpAny_isInstance (T := "StopIteration") (b := true) ⟨o, ho, hc⟩ isSubtype_stop ?_)
  exact wpAny_pure (hQ _ hk)
theorem zipS2_next_item {Q : Value → Shared → Prop} (S : ZipSep2 z TI TO i1 i2 fp1 fp2) (D1 : Draws prog w A i1 fp1 n1 P1 St1) (D2 : Draws prog w A i2 fp2 n2 P2 St2)
    (hz : IsZipS s.heap z TI TO .none) (hTI : IsTupOf2 s.heap TI (.ref i1) (.ref i2)) (hTO : IsTupOf2 s.heap TO a1 a2) (st1 : St1 i s.heap) (st2 : St2 i s.heap) (hlt1 : i < n1) (hlt2 : i < n2)
    (hQ : ∀ x1 x2 h' tk, P1 i x1 → P2 i x2 → IsZipS h' z TI TO (rawInt s.heap.objs.size) → IsTupOf2 h' TO x1 x2 → St1 (i + 1) h' → St2 (i + 1) h' → IsTupOf2 h' s.heap.objs.size x1 x2 → h'.objs.size = s.heap.objs.size + 1 →
      (∀ c o, c ≠ z → c ≠ TO → c ≠ i1 → c ≠ i2 → s.heap.get? c = some o → h'.get? c = some o) → Q (.ref s.heap.objs.size) { s with heap := h', toks := tk }) :
    wpAny (model prog w) A (Builtin.«zip.__next__» ⟨[.ref z], []⟩) (fun fin s' => ∃ v, fin = .done (.ret v) ∧ Q v s') E s := by
  obtain ⟨hp, g, d, tk0, os⟩ := s
  show wpAny _ _ (field (.ref z) 2 >>= _) _ _ _
  refine wpAny_bind (wpAny_field hz rfl (x := .bool true) rfl ?_)
  show wpAny _ _ (field (.ref z) 3 >>= _) _ _ _
  refine wpAny_bind (wpAny_field hz rfl (x := .ref TI) rfl ?_)
  refine wpAny_bind (wpAny_seqItems hTI rfl ?_)
  show wpAny _ _ (Builtin.SmallTypes.ownedTupleIsFree (.ref z) >>= _) _ _ _
  refine wpAny_bind ?_
  unfold Builtin.SmallTypes.ownedTupleIsFree
  refine wpAny_bind (wpAny_field hz rfl (x := .none) rfl (wpAny_pure ?_))
  simp only [if_true]
  refine wpAny_bind (wpAny_rule ?_)
  refine wpAny_bind (wpAny_field hz rfl (x := .ref TO) rfl ?_)
  refine wpAny_bind (wpAny_setField_rec hz (by simp) fun g0 hz0 hs0 => ?_)
  replace hz0 : IsZipS g0 z TI TO .ellipsis := hz0
  replace hs0 : Heap.SameBut z hp g0 := hs0
  refine wpAny_bind ?_
  simp only [List.zipIdx_cons, List.zipIdx_nil, List.forIn_cons, List.forIn_nil]
  refine wpAny_bind (wpAny_bind (wpAny_onRaise ?_))
  show wpAny _ _ (Builtin.SmallTypes.nextOrEnd (.ref i1)) _ _ ⟨g0, g, d, tk0, os⟩
  refine nextOrEnd_item D1 hlt1 (D1.over st1 hs0 S.zf1) fun x1 p1 tk1 hx1 sn1 hp1 => ?_
  replace hp1 : Heap.SameBut i1 g0 p1 := hp1
  have hU1 : IsTupOf2 p1 TO a1 a2 := hp1.extBut _ _ S.Ti1 (hs0.extBut _ _ S.TOz hTO)
  refine wpAny_bind (wpAny_seqItems (s := ⟨p1, g, d, tk1, os⟩) hU1 rfl ?_)
  refine wpAny_bind (updateSeq_IsTupOf2 (s := ⟨p1, g, d, tk1, os⟩) hU1 fun g1 hT1 hs1 => ?_)
  replace hT1 : IsTupOf2 g1 TO x1 a2 := hT1
  replace hs1 : Heap.SameBut TO p1 g1 := hs1
  refine wpAny_bind (wpAny_letGo (wpAny_pure ?_))
  refine wpAny_bind (wpAny_bind (wpAny_onRaise ?_))
  show wpAny _ _ (Builtin.SmallTypes.nextOrEnd (.ref i2)) _ _ ⟨g1, g, d, tk1, os⟩
  refine nextOrEnd_item D2 hlt2 (D2.over (D2.over (D2.over st2 hs0 S.zf2) hp1 S.sep1_2) hs1 S.Tf2) fun x2 p2 tk2 hx2 sn2 hp2 => ?_
  replace hp2 : Heap.SameBut i2 g1 p2 := hp2
  have hU2 : IsTupOf2 p2 TO x1 a2 := hp2.extBut _ _ S.Ti2 hT1
  refine wpAny_bind (wpAny_seqItems (s := ⟨p2, g, d, tk2, os⟩) hU2 rfl ?_)
  refine wpAny_bind (updateSeq_IsTupOf2 (s := ⟨p2, g, d, tk2, os⟩) hU2 fun g2 hT2 hs2 => ?_)
  replace hT2 : IsTupOf2 g2 TO x1 x2 := hT2
  replace hs2 : Heap.SameBut TO p2 g2 := hs2
  refine wpAny_bind (wpAny_letGo (wpAny_pure (wpAny_pure ?_)))
  refine wpAny_bind (wpAny_seqItems (s := ⟨g2, g, d, tk2, os⟩) hT2 rfl ?_)
  refine wpAny_bind (wpAny_newTuple ?_)
  have hsz : g2.objs.size = hp.objs.size := by rw [hs2.1, hp2.1, hs1.1, hp1.1, hs0.1]
  have hzz : IsZipS g2 z TI TO .ellipsis := (hs2.extBut _ _ S.TOz.symm (hp2.extBut _ _ S.zi2 (hs1.extBut _ _ S.TOz.symm (hp1.extBut _ _ S.zi1 hz0))))
  have hkk : ∀ c o, c ≠ z → c ≠ TO → c ≠ i1 → c ≠ i2 → hp.get? c = some o → g2.get? c = some o := fun c o cz cT c1 c2 e =>
    (hs2.extBut _ _ cT (hp2.extBut _ _ c2 (hs1.extBut _ _ cT (hp1.extBut _ _ c1 (hs0.extBut _ _ cz e)))))
  have hj1 : St1 (i + 1) g2 := (D1.over (D1.over (D1.over sn1 hs1 S.Tf1) hp2 S.sep2_1) hs2 S.Tf1)
  have hj2 : St2 (i + 1) g2 := (D2.over sn2 hs2 S.Tf2)
  have hzlt : z < g2.objs.size := Heap.lt_size hzz
  show wpAny _ _ (Builtin.SmallTypes.ownedTupleHandOut (.ref z) (.ref g2.objs.size) >>= _) _ _ ⟨g2.push { cls := .type "tuple", data := .seq #[x1, x2] }, g, d, tk2, os⟩
  refine wpAny_bind ?_
  unfold Builtin.SmallTypes.ownedTupleHandOut
  have hz₆ : IsZipS (g2.push { cls := .type "tuple", data := .seq #[x1, x2] }) z TI TO .ellipsis := Heap.get?_push_of_some _ hzz
  refine wpAny_bind (wpAny_setField_rec hz₆ (by simp) fun h₇ hz₇ hs₇ => ?_)
  replace hz₇ : IsZipS h₇ z TI TO (rawInt g2.objs.size) := hz₇
  refine wpAny_setField_rec hz₇ (by simp) fun h₈ hz₈ hs₈ => ?_
  replace hz₈ : IsZipS h₈ z TI TO (rawInt g2.objs.size) := hz₈
  replace hs₇ : Heap.SameBut z (g2.push { cls := .type "tuple", data := .seq #[x1, x2] }) h₇ := hs₇
  replace hs₈ : Heap.SameBut z h₇ h₈ := hs₈
  have up : ∀ c o, c ≠ z → g2.get? c = some o → h₈.get? c = some o := fun c o c1 e => hs₈.extBut _ _ c1 (hs₇.extBut _ _ c1 (Heap.get?_push_of_some _ e))
  have hT₈ : IsTupOf2 h₈ g2.objs.size x1 x2 := hs₈.extBut _ _ (Nat.ne_of_gt hzlt) (hs₇.extBut _ _ (Nat.ne_of_gt hzlt) (Heap.get?_push_size _ rfl))
  have hz8 : h₈.objs.size = g2.objs.size + 1 := by rw [hs₈.1, hs₇.1, Heap.size_push]
  rw [hsz] at hz₈ hT₈ hz8
  refine wpAny_pure ⟨_, rfl, ?_⟩
  show Q (.ref g2.objs.size) ⟨h₈, g, d, tk2, os⟩
  rw [hsz]
  exact hQ x1 x2 h₈ tk2 hx1 hx2 hz₈ (up _ _ S.TOz hT2) (D1.frame _ _ _ hj1 fun b hb o e => up b o (fun q => S.zf1 (q ▸ hb)) e) (D2.frame _ _ _ hj2 fun b hb o e => up b o (fun q => S.zf2 (q ▸ hb)) e) hT₈ hz8 fun c o cz cT c1 c2 e => up c o cz (hkk c o cz cT c1 c2 e)

theorem zipS2_next_end {Q : Fin → Shared → Prop} (hh : A.handled = none) (S : ZipSep2 z TI TO i1 i2 fp1 fp2) (D1 : Draws prog w A i1 fp1 n1 P1 St1) (D2 : Draws prog w A i2 fp2 n2 P2 St2) (N1 : Ended prog w A i1 St1 i) (N2 : Ended prog w A i2 St2 i)
    (hz : IsZipS s.heap z TI TO .none) (hTI : IsTupOf2 s.heap TI (.ref i1) (.ref i2)) (hTO : IsTupOf2 s.heap TO a1 a2) (st1 : St1 i s.heap) (st2 : St2 i s.heap)
    (hE : ∀ h' tk e, (∀ c o, c ≠ z → c ≠ TO → c ≠ i1 → c ≠ i2 → s.heap.get? c = some o → h'.get? c = some o) → (∃ o, h'.get? e = some o ∧ o.cls = .type "StopIteration") → E (.ref e) { s with heap := h', toks := tk }) :
    wpAny (model prog w) A (Builtin.«zip.__next__» ⟨[.ref z], []⟩) Q E s := by
  obtain ⟨hp, g, d, tk0, os⟩ := s
  show wpAny _ _ (field (.ref z) 2 >>= _) _ _ _
  refine wpAny_bind (wpAny_field hz rfl (x := .bool true) rfl ?_)
  show wpAny _ _ (field (.ref z) 3 >>= _) _ _ _
  refine wpAny_bind (wpAny_field hz rfl (x := .ref TI) rfl ?_)
  refine wpAny_bind (wpAny_seqItems hTI rfl ?_)
  show wpAny _ _ (Builtin.SmallTypes.ownedTupleIsFree (.ref z) >>= _) _ _ _
  refine wpAny_bind ?_
  unfold Builtin.SmallTypes.ownedTupleIsFree
  refine wpAny_bind (wpAny_field hz rfl (x := .none) rfl (wpAny_pure ?_))
  simp only [if_true]
  refine wpAny_bind (wpAny_rule ?_)
  refine wpAny_bind (wpAny_field hz rfl (x := .ref TO) rfl ?_)
  refine wpAny_bind (wpAny_setField_rec hz (by simp) fun g0 hz0 hs0 => ?_)
  replace hz0 : IsZipS g0 z TI TO .ellipsis := hz0
  replace hs0 : Heap.SameBut z hp g0 := hs0
  refine wpAny_bind ?_
  simp only [List.zipIdx_cons, List.zipIdx_nil, List.forIn_cons, List.forIn_nil]
  refine wpAny_bind (wpAny_bind (wpAny_onRaise ?_))
  show wpAny _ _ (Builtin.SmallTypes.nextOrEnd (.ref i1)) _ _ ⟨g0, g, d, tk0, os⟩
  refine nextOrEnd_end N1 (D1.over st1 hs0 S.zf1) fun q hq => ?_
  replace hq : Heap.ExtBut i1 g0 q := hq
  have hzq : IsZipS q z TI TO .ellipsis := hq _ _ S.zi1 hz0
  refine wpAny_bind (wpAny_setField_rec (s := ⟨q, g, d, tk0, os⟩) hzq (by simp) fun q' _ hq' => ?_)
  replace hq' : Heap.SameBut z q q' := hq'
  refine wpAny_bind ?_
  show wpAny _ _ (forIn ((List.drop 1 [Value.ref i1, Value.ref i2]).zipIdx 1) _ _ >>= _) _ _ _
  simp only [List.drop_succ_cons, List.drop_zero, List.zipIdx_cons, List.zipIdx_nil, List.forIn_cons, List.forIn_nil]
  refine wpAny_bind (wpAny_bind ?_)
  have st2' : St2 i q' := D2.over (D2.frame _ _ _ (D2.over st2 hs0 S.zf2) fun b hb o e => hq _ _ (fun x => S.sep1_2 (x ▸ hb)) e) hq' S.zf2
  refine wpAny_bind (nextOrEnd_end (s := ⟨q', g, d, tk0, os⟩) N2 st2' fun r hr => ?_)
  replace hr : Heap.ExtBut i2 q' r := hr
  show wpAny _ _ (Pure.pure (ForInStep.yield PUnit.unit)) _ _ _
  refine wpAny_pure (wpAny_pure ?_)
  refine wpAny_bind (wpAny_rule ?_)
  unfold Builtin.SmallTypes.stopIteration
  refine wpAny_bind ?_
  simp only [newExc, newTuple]
  refine wpAny_bind (wpAny_newObj_type ?_ (by size_fits))
  refine wpAny_bind (m := firstArgMember _ _) (wpAny_of_eq (a := Value.none) (by first | rfl | (simp only [firstArgMember]; rfl)) ?_)
  refine wpAny_newObj_type ?_ (by size_fits)
  simp only [raiseNew]
  refine wpAny_bind (wpAny_handled ?_)
  first | rw [show A.in1.handled = none from hh] | rw [hh]
  refine wpAny_bind (wpAny_pure (wpAny_throw ?_))
  exact hE _ _ _ (fun c o cz cT c1 c2 x => Heap.get?_push_of_some _ (Heap.get?_push_of_some _ (hr _ _ c2 (hq'.extBut _ _ cz (hq _ _ c1 (hs0.extBut _ _ cz x)))))) ⟨_, Heap.get?_push_size _ rfl, rfl⟩
theorem pyNext_zipS2_item {Q : Option Value → Shared → Prop} (S : ZipSep2 z TI TO i1 i2 fp1 fp2) (D1 : Draws prog w A.in1 i1 fp1 n1 P1 St1) (D2 : Draws prog w A.in1 i2 fp2 n2 P2 St2)
    (hz : IsZipS s.heap z TI TO .none) (hTI : IsTupOf2 s.heap TI (.ref i1) (.ref i2)) (hTO : IsTupOf2 s.heap TO a1 a2) (st1 : St1 i s.heap) (st2 : St2 i s.heap) (hlt1 : i < n1) (hlt2 : i < n2)
    (hQ : ∀ x1 x2 h' tk, P1 i x1 → P2 i x2 → IsZipS h' z TI TO (rawInt s.heap.objs.size) → IsTupOf2 h' TO x1 x2 → St1 (i + 1) h' → St2 (i + 1) h' → IsTupOf2 h' s.heap.objs.size x1 x2 → h'.objs.size = s.heap.objs.size + 1 →
      (∀ c o, c ≠ z → c ≠ TO → c ≠ i1 → c ≠ i2 → s.heap.get? c = some o → h'.get? c = some o) → Q (some (.ref s.heap.objs.size)) { s with heap := h', toks := tk }) :
    wpAny (model prog w) A (pyNext (.ref z)) Q E s := by
  have hT : s.TypeIs (.ref z) "zip" := ⟨_, hz, rfl⟩
  unfold pyNext
  exact wpAny_bind (wpAny_attempt (wpAny_callSpecial?_slot (name := Str.ofString "__next__") hT F.slot_zip_next
    (wpAny_call_entry F.slot_zip_next hT F.entry_zip_next
      (zipS2_next_item S D1 D2 hz hTI hTO st1 st2 hlt1 hlt2 fun x1 x2 h' tk y1 y2 b1 b2 d1 d2 b5 b6 b7 => wpAny_pure (hQ x1 x2 h' tk y1 y2 b1 b2 d1 d2 b5 b6 b7)) (F.args_zip_next_1 _))))
theorem pyNext_zipS2_end {Q : Option Value → Shared → Prop} (hh : A.handled = none) (S : ZipSep2 z TI TO i1 i2 fp1 fp2) (D1 : Draws prog w A.in1 i1 fp1 n1 P1 St1) (D2 : Draws prog w A.in1 i2 fp2 n2 P2 St2) (N1 : Ended prog w A.in1 i1 St1 i) (N2 : Ended prog w A.in1 i2 St2 i)
    (hz : IsZipS s.heap z TI TO .none) (hTI : IsTupOf2 s.heap TI (.ref i1) (.ref i2)) (hTO : IsTupOf2 s.heap TO a1 a2) (st1 : St1 i s.heap) (st2 : St2 i s.heap)
    (hQ : ∀ h' tk, (∀ c o, c ≠ z → c ≠ TO → c ≠ i1 → c ≠ i2 → s.heap.get? c = some o → h'.get? c = some o) → Q none { s with heap := h', toks := tk }) : wpAny (model prog w) A (pyNext (.ref z)) Q E s := by
  have hT : s.TypeIs (.ref z) "zip" := ⟨_, hz, rfl⟩
  unfold pyNext
  refine wpAny_bind (wpAny_attempt (wpAny_callSpecial?_slot (name := Str.ofString "__next__") hT F.slot_zip_next
    (wpAny_call_entry F.slot_zip_next hT F.entry_zip_next (zipS2_next_end (show A.in1.handled = none from hh) S D1 D2 N1 N2 hz hTI hTO st1 st2 fun h' tk e hk he => ?_) (F.args_zip_next_1 _))))
  obtain ⟨o, ho, hc⟩ := he
  refine wpAny_bind (wpAny_isInstance (T := "StopIteration") (b := true) ⟨o, ho, hc⟩ isSubtype_stop ?_)
  exact wpAny_pure (hQ _ _ hk)
theorem letGo_zipS {elts : List Expr} {x1} {pos : Pos} {T : Addr} {Q : Unit → Shared → Prop} (hz : IsZipS s.heap z TI TO (rawInt T))
    (hQ : ∀ h', IsZipS h' z TI TO .none → Heap.SameBut z s.heap h' → Q () { s with heap := h' }) :
    wpAny (model prog w) A (letOwnedTupleGo (.Tuple elts x1 pos) (.ref z) (.ref T)) Q E s := by
  unfold letOwnedTupleGo
  refine wpAny_bind (wpAny_load hz ?_)
  show wpAny _ _ (if (["enumerate", "zip", "dict_itemiterator", "dict_reverseitemiterator", "odict_iterator", "itertools.zip_longest", "itertools.pairwise"].contains "zip" &&
      (#[rawInt T, .bool false, .bool true, .ref TI, .ref TO] : Array Value)[0]? == some (rawInt T)) = true then _ else _) Q E s
  rw [if_pos (by simp)]
  refine wpAny_bind (wpAny_rule ?_)
  show wpAny _ _ (setField (.ref z) 0 .none) Q E s
  exact wpAny_setField_rec hz (by simp) fun h' hz' hs' => hQ h' hz' hs'
theorem pyIter_zipS {f0 : Value} {Q : Value → Shared → Prop} (hz : IsZipS s.heap z TI TO f0) (h : Q (.ref z) s) : wpAny (model prog w) A (pyIter (.ref z)) Q E s := by
  have hT : s.TypeIs (.ref z) "zip" := ⟨_, hz, rfl⟩
  refine wpAny_pyIter_slot hT F.slot_zip_iter (wpAny_call_entry F.slot_zip_iter hT F.entry_zip_iter ?_ (F.args_zip_iter_1 _))
  show wpAny _ _ (ret (.ref z)) _ _ s
  exact wpAny_pure ⟨_, rfl, "zip", _, hT, F.slot_zip_next.lookup, h⟩
end
/-! ### zip(v1, v2, strict=True) begins -/
theorem typeCall_zipS (a b : Value) : checkTypeCall "zip" ⟨[a, b], [(Str.ofString "strict", .bool true)]⟩ = pure () := by kernel_rfl
theorem newCall_zipS (a b : Value) : checkBuiltinCall "zip.__new__" ⟨[.type "zip", a, b], [(Str.ofString "strict", .bool true)]⟩ = pure () := by kernel_rfl
theorem args_object_init_zipS (obj a b : Value) : argsOk "object.__init__" ⟨[obj, a, b], [(Str.ofString "strict", .bool true)]⟩ := by unfold argsOk; kernel_rfl
abbrev gsZ2 (h : Heap) (o1 o2 : Obj) : Heap := (gzO2 h o1 o2).push { cls := .type "zip", data := .fields #[.none, .bool false, .bool true, .ref ((h.push o1).push o2).objs.size, .ref (gzT2 h o1 o2).objs.size] }
theorem meets_zip_newS {v1 v2 : Value} {o1 o2 : Obj} {H1 H2 : Heap → Prop} (B1 : Begins v1 o1 H1) (B2 : Begins v2 o2 H2) :
    Meets (Builtin.«zip.__new__» ⟨[.type "zip", v1, v2], [(Str.ofString "strict", .bool true)]⟩) (fun _ R s => (H1 s.heap ∧ H2 s.heap) ∧
      R (.ok (.ret (.ref (gzO2 s.heap o1 o2).objs.size))) { s with heap := gsZ2 s.heap o1 o2 }) :=
  .of_wp fun prog w A R s h => by
    obtain ⟨hp, g, d, tk, os⟩ := s; obtain ⟨⟨h1, h2⟩, h⟩ := h
    have hsub := sub_zip
    have e1 : (Str.ofString "strict" == ("strict" : Str)) = true := by decide +kernel
    have e2 : (Str.ofString "strict" != ("strict" : Str)) = false := by decide +kernel
    have q1 : ∀ {A' : Around} {E : Value → Shared → Prop} {Q : Value → Shared → Prop}, Q (.ref hp.objs.size) ⟨(hp.push o1), g, d, tk, os⟩ → wpAny (model prog w) A' (pyIter v1) Q E ⟨hp, g, d, tk, os⟩ :=
      fun q => B1.iter prog w _ _ ⟨hp, g, d, tk, os⟩ _ (B1.keeps _ _ h1 fun b o' e => e) q
    have q2 : ∀ {A' : Around} {E : Value → Shared → Prop} {Q : Value → Shared → Prop}, Q (.ref (hp.push o1).objs.size) ⟨((hp.push o1).push o2), g, d, tk, os⟩ → wpAny (model prog w) A' (pyIter v2) Q E ⟨(hp.push o1), g, d, tk, os⟩ :=
      fun q => B2.iter prog w _ _ ⟨(hp.push o1), g, d, tk, os⟩ _ (B2.keeps _ _ h2 fun b o' e => (Heap.get?_push_of_some _ e)) q
    wp_walk using q1, q2
    exact ⟨_, rfl, h⟩
section
variable {prog : Program} {w : World} {A : Around} {E : Value → Shared → Prop} {s : Shared}
theorem zipS_begins {v1 v2 : Value} {o1 o2 : Obj} {H1 H2 : Heap → Prop} {Q : Value → Shared → Prop} (B1 : Begins v1 o1 H1) (B2 : Begins v2 o2 H2) (h1 : H1 s.heap) (h2 : H2 s.heap)
    (h : ∀ h', IsZipS h' (s.heap.objs.size + 4) (s.heap.objs.size + 2) (s.heap.objs.size + 3) .none → IsTupOf2 h' (s.heap.objs.size + 2) (.ref s.heap.objs.size) (.ref (s.heap.objs.size + 1)) →
      IsTupOf2 h' (s.heap.objs.size + 3) .none .none → h'.get? s.heap.objs.size = some o1 → h'.get? (s.heap.objs.size + 1) = some o2 → h'.objs.size = s.heap.objs.size + 5 →
      (∀ c o, s.heap.get? c = some o → h'.get? c = some o) → Q (.ref (s.heap.objs.size + 4)) { s with heap := h' }) :
    wpAny (model prog w) A (call (.type "zip") [v1, v2] [(Str.ofString "strict", .bool true)]) Q E s := by
  refine callType_newKw F.called_zip (by decide) (typeCall_zipS _ _) (newCall_zipS _ _) (fun obj => args_object_init_zipS obj _ _) F.entry_zip_new
    (meets_zip_newS B1 B2) ⟨⟨h1, h2⟩, ?_⟩
  have z1 : (s.heap.push o1).objs.size = s.heap.objs.size + 1 := by rw [Heap.size_push]
  have z2 : ((s.heap.push o1).push o2).objs.size = s.heap.objs.size + 2 := by rw [Heap.size_push, z1]
  have zT : (gzT2 s.heap o1 o2).objs.size = s.heap.objs.size + 3 := by rw [Heap.size_push, z2]
  have zO : (gzO2 s.heap o1 o2).objs.size = s.heap.objs.size + 4 := by rw [Heap.size_push, zT]
  have zZ : (gsZ2 s.heap o1 o2).objs.size = s.heap.objs.size + 5 := by rw [Heap.size_push, zO]
  have gZ : (gsZ2 s.heap o1 o2).get? (gzO2 s.heap o1 o2).objs.size = some { cls := .type "zip", data := .fields #[.none, .bool false, .bool true, .ref ((s.heap.push o1).push o2).objs.size, .ref (gzT2 s.heap o1 o2).objs.size] } := Heap.get?_push_size _ rfl
  have gO : (gsZ2 s.heap o1 o2).get? (gzT2 s.heap o1 o2).objs.size = some { cls := .type "tuple", data := .seq #[.none, .none] } := Heap.get?_push_of_some _ (Heap.get?_push_size _ rfl)
  have gT : (gsZ2 s.heap o1 o2).get? ((s.heap.push o1).push o2).objs.size = some { cls := .type "tuple", data := .seq #[.ref s.heap.objs.size, .ref (s.heap.push o1).objs.size] } := Heap.get?_push_of_some _ (Heap.get?_push_of_some _ (Heap.get?_push_size _ rfl))
  have g1 : (gsZ2 s.heap o1 o2).get? s.heap.objs.size = some o1 := Heap.get?_push_of_some _ (Heap.get?_push_of_some _ (Heap.get?_push_of_some _ (Heap.get?_push_of_some _ (Heap.get?_push_size _ B1.free))))
  have g2 : (gsZ2 s.heap o1 o2).get? (s.heap.push o1).objs.size = some o2 := Heap.get?_push_of_some _ (Heap.get?_push_of_some _ (Heap.get?_push_of_some _ (Heap.get?_push_size _ B2.free)))
  rw [zO, zT, z2] at gZ
  rw [zT] at gO
  rw [z2, z1] at gT
  rw [z1] at g2
  show _ ∧ _
  rw [zO]
  exact ⟨⟨_, gZ, rfl⟩, h _ gZ gT gO g1 g2 zZ fun c o e => Heap.get?_push_of_some _ (Heap.get?_push_of_some _ (Heap.get?_push_of_some _ (Heap.get?_push_of_some _ (Heap.get?_push_of_some _ e))))⟩
/-! ### a sequence: a tuple (true) or a list -/
def PlaceB (b : Bool) (h : Heap) (a : Addr) (its : Array Value) : Prop := match b with
  | true => h.IsTuple a its
  | false => h.IsList a its
def IterB (b : Bool) (h : Heap) (it a : Addr) (i : Nat) : Prop := match b with
  | true => h.IsTupleIter it a i
  | false => h.IsListIter it a i
def objB (b : Bool) (a : Addr) : Obj := match b with
  | true => { cls := .type "tuple_iterator", data := .fields #[.ref a, .int 0 0] }
  | false => { cls := .type "list_iterator", data := .fields #[.ref a, .int 0 0] }
theorem begB (b : Bool) (a : Addr) (its : Array Value) : Begins (.ref a) (objB b a) fun h => PlaceB b h a its := match b with
  | true => begins_tuple a its
  | false => begins_list a its
theorem iterB_new {b : Bool} {h : Heap} {it a : Addr} (e : h.get? it = some (objB b a)) : IterB b h it a 0 := match b, e with
  | true, e => ⟨_, e, rfl, rfl⟩
  | false, e => ⟨_, e, rfl, rfl⟩
theorem IterB.at' {b : Bool} {h h' : Heap} {it a : Addr} {i : Nat} (x : IterB b h it a i) (k : ∀ o, h.get? it = some o → h'.get? it = some o) : IterB b h' it a i := match b, x with
  | true, x => Heap.IsTupleIter.at x k
  | false, x => Heap.IsListIter.at x k
theorem IterB.obj {b : Bool} {h : Heap} {it a : Addr} {i : Nat} (x : IterB b h it a i) : ∃ o, h.get? it = some o ∧ ∀ v, o.data ≠ .cell v := match b, x with
  | true, ⟨o, e, _, d⟩ => ⟨o, e, fun v q => by rw [d] at q; cases q⟩
  | false, ⟨o, e, _, d⟩ => ⟨o, e, fun v q => by rw [d] at q; cases q⟩
theorem PlaceB.lt {b : Bool} {h : Heap} {a : Addr} {its : Array Value} (x : PlaceB b h a its) : a < h.objs.size := match b, x with
  | true, ⟨_, e, _⟩ => Heap.lt_size e
  | false, ⟨_, e, _⟩ => Heap.lt_size e
theorem drawsB (hh : A.handled = none) (b : Bool) (it a : Addr) (hne : a ≠ it) (its : Array Value) : Draws prog w A it [it, a] its.size (fun i v => its[i]? = some v) (fun i h => IterB b h it a i ∧ PlaceB b h a its) := match b with
  | true => Draws.tuple hh it a hne its
  | false => Draws.list hh it a hne its
theorem endedB (hh : A.handled = none) (b : Bool) (it a : Addr) (its : Array Value) {i : Nat} (hi : its.size ≤ i) : Ended prog w A it (fun i h => IterB b h it a i ∧ PlaceB b h a its) i := fun s Q E st hE => by
  have hx : its[i]? = none := Array.getElem?_eq_none hi
  cases b with
  | true => exact wpAny_nextOf_tuple_end hh st.1 st.2 hx hE
  | false => exact wpAny_nextOf_list_end hh st.1 st.2 hx hE
end
section
variable {M : Model} {A : Around} {E : Value → Shared → Prop} {s : Shared} {env : Env}
theorem callWith_type_kw {pos : Pos} {T : String} {e : Expr} {rest : List Expr} {kws : List Keyword} {Q : Value → Shared → Prop}
    (h : wpAny M A (spliced (backTo pos (starEach (e :: rest) env))) (fun vs s₁ => wpAny M A (evalAll ((backToKw pos (keywordEach kws env)).map (·.2)))
      (fun kvs s₂ => wpAny M A (call (.type T) vs (((backToKw pos (keywordEach kws env)).filterMap (·.1)).zip kvs)) Q E s₂) E s₁) E s)
    (he : backTo pos (starEach (e :: rest) env) = (false, eval e env) :: backTo pos (starEach rest env) := by rfl)
    (hplain : (backTo pos (starEach (e :: rest) env)).any (·.1) = false := by rfl)
    (hall : (backToKw pos (keywordEach kws env)).all (·.1.isSome) = true := by rfl)
    (hkw : (backToKw pos (keywordEach kws env)).any (·.1.isNone) = false := by rfl) :
    wpAny M A (callWith pos (.type T) [] (backTo pos (starEach (e :: rest) env)) (backToKw pos (keywordEach kws env))) Q E s := by
  unfold callWith
  have h2 : wpAny M A (evalArgs (.type T) true (backTo pos (starEach (e :: rest) env)) (backToKw pos (keywordEach kws env))) (fun a s₁ => wpAny M A (call (.type T) ([] ++ a.pos) a.kw) Q E s₁) E s := by
    rw [he] at h ⊢
    exact PyProof.Rows.evalArgs_kwB hall h
  refine wpAny_bind (wpAny_holding (wpAny_mono h2 (fun a s₁ h₁ => wpAny_bind (wpAny_standAt ?_)) fun _ _ x => x))
  simp only [hplain, hkw, Bool.or_false]
  refine wpAny_bind (wpAny_pure ?_)
  exact wpAny_bind (wpAny_mono h₁ (fun r s₂ hr => wpAny_bind (wpAny_holding (wpAny_point (wpAny_pure hr)))) fun _ _ x => x)
end
end ZS
namespace DL
open PySem PySem.Spec PyProof.Rows L2 ZS
def SqB (K : PySem.W.Frag) (b : Bool) (H : Hp) (a : Addr) (xs : List V) : Prop := match b with
  | true => SqT K H a xs
  | false => SqL K H a xs
theorem placeB {X : Cx} {pins : List (Addr × Obj)} {σ : L2.St} {H : Hp} {s : Shared} (I : L2.Inv X pins σ H s) {b : Bool} {a : Addr} {xs : List V} (h : SqB X.K b H a xs) : ∃ its, Vals xs its ∧ PlaceB b s.heap a its.toArray := match b, h with
  | true, h => by
    obtain ⟨its, rv, p, _⟩ := I.tuple h
    exact ⟨its, rv, p⟩
  | false, h => by
    obtain ⟨its, rv, p, _⟩ := I.list h
    exact ⟨its, rv, p.isList⟩
theorem sqB_inj {X : Cx} {pins : List (Addr × Obj)} {σ : L2.St} {H : Hp} {s : Shared} (I : L2.Inv X pins σ H s) {b : Bool} {a : Addr} {xs ys : List V} (h : SqB X.K b H a xs) (h2 : SqB X.K b H a ys) : xs = ys := match b, h, h2 with
  | true, h, h2 => I.tuple_inj h h2
  | false, h, h2 => I.list_inj h h2
/-- two sequences as they stand at each turn, of one length -/
def Its2 (K : PySem.W.Frag) (b1 b2 : Bool) (a b : Addr) : It :=
  ⟨fun i H => ∃ (xs ys : List V) (x y : V), SqB K b1 H a xs ∧ SqB K b2 H b ys ∧ xs[i]? = some x ∧ ys[i]? = some y,
    fun i H v H' => ∃ T x y, v = .ref T ∧ H T = none ∧ H' = upd H T (.tup [x, y]) ∧ (∀ xs, SqB K b1 H a xs → xs[i]? = some x) ∧ ∀ ys, SqB K b2 H b ys → ys[i]? = some y,
    fun i H => ∃ xs ys : List V, SqB K b1 H a xs ∧ SqB K b2 H b ys ∧ xs.length ≤ i ∧ ys.length ≤ i⟩
theorem turn_zipS {P : Program} {w : World} {K : PySem.W.Frag} {elts : List Expr} {kk : Nat} {tpos : Pos} {b1 b2 : Bool} {a b z TI TO i1 i2 : Addr} (D : ZipSep2 z TI TO i1 i2 [i1, a] [i2, b]) (ha : a ≠ i1) (hb : b ≠ i2) :
    Turn P w K (.Tuple elts kk tpos) (Its2 K b1 b2 a b) [z, TI, TO, i1, i2] z (fun i h => IsZipS h z TI TO .none ∧ IsTupOf2 h TI (.ref i1) (.ref i2) ∧ (∃ x y, IsTupOf2 h TO x y) ∧ IterB b1 h i1 a i ∧ IterB b2 h i2 b i) where
  mem := by simp
  obj := fun i h st c hc => by
    obtain ⟨hz, hTI, ⟨x, y, hTO⟩, h1, h2⟩ := st
    have e' : c = z ∨ c = TI ∨ c = TO ∨ c = i1 ∨ c = i2 := by simpa using hc
    rcases e' with q | q | q | q | q
    · rw [q]; exact ⟨_, hz, fun v q => nomatch q⟩
    · rw [q]; exact ⟨_, hTI, fun v q => nomatch q⟩
    · rw [q]; exact ⟨_, hTO, fun v q => nomatch q⟩
    · rw [q]; exact h1.obj
    · rw [q]; exact h2.obj
  keep := fun i h h' st k => by
    obtain ⟨hz, hTI, ⟨x, y, hTO⟩, h1, h2⟩ := st
    exact ⟨k z (by simp) _ hz, k TI (by simp) _ hTI, ⟨x, y, k TO (by simp) _ hTO⟩, h1.at' fun o q => k i1 (by simp) o q, h2.at' fun o q => k i2 (by simp) o q⟩
  item := by
    intro X hP hw hK hc i pins s σ H E I hf st hg
    subst hP hw hK
    obtain ⟨hz, hTI, ⟨x0, y0, hTO⟩, h1, h2⟩ := st
    obtain ⟨xs, ys, x, y, hqx, hqy, hx, hy⟩ := hg
    obtain ⟨its, rv, p⟩ := placeB I hqx
    obtain ⟨its2, rv2, p2⟩ := placeB I hqy
    obtain ⟨u, hu, ru⟩ := rv.get hx
    obtain ⟨u2, hu2, ru2⟩ := rv2.get hy
    have hzl : z < s.heap.objs.size := Heap.lt_size hz
    have hl1 : i < its.toArray.size := by
      have := (List.getElem?_eq_some_iff.mp hu).1
      simpa using this
    have hl2 : i < its2.toArray.size := by
      have := (List.getElem?_eq_some_iff.mp hu2).1
      simpa using this
    have hd := I.ok.hd hc
    refine pyNext_zipS2_item D (drawsB (prog := X.prog) (w := X.w) (A := X.A.in1) hd b1 i1 a ha its.toArray) (drawsB (prog := X.prog) (w := X.w) (A := X.A.in1) hd b2 i2 b hb its2.toArray) hz hTI hTO ⟨h1, p⟩ ⟨h2, p2⟩ hl1 hl2 fun v1 v2 h' tk hv1 hv2 z' TO' h1' h2' hT hsz hk => ?_
    obtain rfl : v1 = u := by
      have : its[i]? = some v1 := by simpa using hv1
      rw [hu] at this; exact (Option.some.inj this).symm
    obtain rfl : v2 = u2 := by
      have : its2[i]? = some v2 := by simpa using hv2
      rw [hu2] at this; exact (Option.some.inj this).symm
    refine ⟨_, rfl, letGo_zipS (s := { s with heap := h', toks := tk }) z' fun h'' z'' sb => ?_⟩
    have hT2 : h''.get? s.heap.objs.size = some { cls := .type "tuple", data := .seq #[v1, v2] } := (sb.2 _ (Nat.ne_of_gt hzl)).trans hT
    have new : ObjOk X.prog X.w (upd H s.heap.objs.size (.tup [x, y])) h'' s.heap.objs.size (.tup [x, y]) :=
      ⟨by show 2 ≤ sizeLine; decide, [v1, v2], .cons ru (.cons ru2 .nil), ⟨_, hT2, rfl, _, rfl⟩⟩
    have I1 : Inv X pins σ (upd H s.heap.objs.size (.tup [x, y])) { s with heap := h'', toks := tk } :=
      I.turnedNew (t' := tk) (ch := [z, TI, TO, i1, i2]) (fun c o hb q => (sb.2 c (fun q' => hb (by simp [q']))).trans (hk c o (fun q' => hb (by simp [q'])) (fun q' => hb (by simp [q'])) (fun q' => hb (by simp [q'])) (fun q' => hb (by simp [q'])) q)) hf (Nat.le_refl _) new
    refine ⟨.ref s.heap.objs.size, _, I1, rfl, ⟨_, x, y, rfl, I.hok.fresh (Nat.le_refl _), rfl, fun l hl => by rw [sqB_inj I hl hqx]; exact hx, fun l hl => by rw [sqB_inj I hl hqy]; exact hy⟩, ⟨z'', ?_, ⟨v1, v2, ?_⟩, ?_, ?_⟩, fun c hcm => ?_⟩
    · exact (sb.2 _ D.TIz).trans (hk _ _ D.TIz D.TITO D.TIi1 D.TIi2 hTI)
    · exact (sb.2 _ D.TOz).trans TO'
    · exact h1'.1.at' fun o q => (sb.2 _ D.zi1.symm).trans q
    · exact h2'.1.at' fun o q => (sb.2 _ D.zi2.symm).trans q
    · have hlt : c < s.heap.objs.size := by
        have e' : c = z ∨ c = TI ∨ c = TO ∨ c = i1 ∨ c = i2 := by simpa using hcm
        rcases e' with q | q | q | q | q
        · rw [q]; exact hzl
        · rw [q]; exact Heap.lt_size hTI
        · rw [q]; exact Heap.lt_size hTO
        · rw [q]; obtain ⟨_, e1, _⟩ := h1.obj; exact Heap.lt_size e1
        · rw [q]; obtain ⟨_, e2, _⟩ := h2.obj; exact Heap.lt_size e2
      rw [upd_ne (Nat.ne_of_lt hlt)]
      exact (hf c hcm).1
  done := by
    intro X hP hw hK hc i pins s σ H E I hf st hg
    subst hP hw hK
    obtain ⟨hz, hTI, ⟨x0, y0, hTO⟩, h1, h2⟩ := st
    obtain ⟨xs, ys, hqx, hqy, he1, he2⟩ := hg
    obtain ⟨its, rv, p⟩ := placeB I hqx
    obtain ⟨its2, rv2, p2⟩ := placeB I hqy
    have l1 := rv.length
    have l2 := rv2.length
    have hd := I.ok.hd hc
    exact pyNext_zipS2_end hd D (drawsB (prog := X.prog) (w := X.w) (A := X.A.in1) hd b1 i1 a ha its.toArray) (drawsB (prog := X.prog) (w := X.w) (A := X.A.in1) hd b2 i2 b hb its2.toArray) (endedB (prog := X.prog) (w := X.w) (A := X.A.in1) hd b1 i1 a its.toArray (by simp; omega)) (endedB (prog := X.prog) (w := X.w) (A := X.A.in1) hd b2 i2 b its2.toArray (by simp; omega)) hz hTI hTO ⟨h1, p⟩ ⟨h2, p2⟩ fun h' tk hk => ⟨rfl, I.turnedL (t' := tk) (ch := [z, TI, TO, i1, i2]) (fun c o hb q =>
      hk c o (fun q' => hb (by simp [q'])) (fun q' => hb (by simp [q'])) (fun q' => hb (by simp [q'])) (fun q' => hb (by simp [q'])) q) hf⟩
  self := fun A i s Q E st h => pyIter_zipS st.1 h
def iZipS (K : PySem.W.Frag) (ta : TA) : TI := fun σ H R => ta σ H fun vs H1 => ∃ (b1 b2 : Bool) (a b : Addr) (xs ys : List V), vs = [.ref a, .ref b] ∧ SqB K b1 H1 a xs ∧ SqB K b2 H1 b ys ∧ R (Its2 K b1 b2 a b) H1
theorem sepS (n : Nat) {a b : Nat} (ha : a < n) (hb : b < n) : ZipSep2 (n + 4) (n + 2) (n + 3) n (n + 1) [n, a] [n + 1, b] := by
  have h1 : ∀ {x y : Nat}, x < y → (x : Addr) ≠ y := fun h => Nat.ne_of_lt h
  have h2 : ∀ {x y : Nat}, y < x → (x : Addr) ≠ y := fun h => Nat.ne_of_gt h
  constructor
  · exact h1 (by omega)
  · exact h1 (by omega)
  · exact h1 (by omega)
  · exact h2 (by omega)
  · exact List.mem_cons_self
  · intro h
    rcases List.mem_cons.mp h with h | h
    · exact h2 (by omega) h
    · exact h2 (x := n + 4) (y := a) (by omega) (List.mem_singleton.mp h)
  · intro h
    rcases List.mem_cons.mp h with h | h
    · exact h2 (by omega) h
    · exact h2 (x := n + 3) (y := a) (by omega) (List.mem_singleton.mp h)
  · exact h2 (by omega)
  · exact List.mem_cons_self
  · intro h
    rcases List.mem_cons.mp h with h | h
    · exact h2 (x := n + 4) (y := n + 1) (by omega) h
    · exact h2 (x := n + 4) (y := b) (by omega) (List.mem_singleton.mp h)
  · intro h
    rcases List.mem_cons.mp h with h | h
    · exact h2 (x := n + 3) (y := n + 1) (by omega) h
    · exact h2 (x := n + 3) (y := b) (by omega) (List.mem_singleton.mp h)
  · intro h
    rcases List.mem_cons.mp h with h | h
    · exact h1 (x := n) (y := n + 1) (by omega) h
    · exact h2 (x := n) (y := b) (by omega) (List.mem_singleton.mp h)
  · intro h
    rcases List.mem_cons.mp h with h | h
    · exact h2 (x := n + 1) (y := n) (by omega) h
    · exact h2 (x := n + 1) (y := a) (by omega) (List.mem_singleton.mp h)
theorem pi_zipS {X : Cx} {e e2 : Expr} {ta : TA} {p pos tpos kp pc : Pos} {elts : List Expr} {kk kc : Nat} (hg : Gl X "zip") (hm : X.mg "zip" = none) (ha : PA X [e, e2] ta)
    (hs : starEach [e, e2] X.env = (false, eval e X.env) :: starEach [e2] X.env := by rfl) (he : backTo pos (starEach [e, e2] X.env) = (false, eval e X.env) :: backTo pos (starEach [e2] X.env) := by rfl) (hpl : (backTo pos (starEach [e, e2] X.env)).any (·.1) = false := by rfl)
    (hall : (backToKw pos (keywordEach [⟨some (Str.ofString "strict"), .Constant (.bool true) kc pc, kp⟩] X.env)).all (·.1.isSome) = true := by rfl) (hnone : (backToKw pos (keywordEach [⟨some (Str.ofString "strict"), .Constant (.bool true) kc pc, kp⟩] X.env)).any (·.1.isNone) = false := by rfl) (hks : (backToKw pos (keywordEach [⟨some (Str.ofString "strict"), .Constant (.bool true) kc pc, kp⟩] X.env)).filterMap (·.1) = [Str.ofString "strict"] := by rfl) :
    PI X (.Tuple elts kk tpos) (.Call (.Name "zip" p) [e, e2] [⟨some (Str.ofString "strict"), .Constant (.bool true) kc pc, kp⟩] pos) (iZipS X.K ta) := by
  refine ⟨fun pins s σ H R I h => ?_⟩
  refine wpAny_Call_Name_kw (ld_blt I hg hm PyProof.Rows.boot_zip (callWith_type_kw (thn (ha.run pos pins s σ H _ I h) fun us s1 ⟨vs, H1, I1, r1, q1⟩ => ?_) he hpl hall hnone))
  refine thn ((pk_cons (nm := some (Str.ofString "strict")) pe_bl pk_nil).run pos pins s1 σ H1 (fun zs H2 => zs = [.bl true] ∧ H2 = H1) I1 ⟨rfl, rfl⟩) fun ws s2 ⟨zs, H2, I2, r2, ez, eh⟩ => ?_
  subst ez eh
  obtain ⟨b1, b2, a, b, xs, ys, ex, hqx, hqy, q⟩ := q1
  subst ex
  rw [hks]
  cases r2 with
  | cons ru rr =>
    cases rr
    cases ru
    cases r1 with
    | cons r rr =>
      cases rr with
      | cons r' rr =>
        cases rr
        cases r
        cases r'
        obtain ⟨its, rv, p1⟩ := placeB I2 hqx
        obtain ⟨its2, rv2, p2⟩ := placeB I2 hqy
        refine zipS_begins (begB b1 a its.toArray) (begB b2 b its2.toArray) p1 p2 fun h' hz hTI hTO g1 g2 hsz hk => pyIter_zipS hz ?_
        have I3 : L2.Inv X pins σ H2 { s2 with heap := h' } := I2.kept (t' := s2.toks) hk
        have la := p1.lt
        have lb := p2.lt
        refine ⟨s2.heap.objs.size + 4, [s2.heap.objs.size + 4, s2.heap.objs.size + 2, s2.heap.objs.size + 3, s2.heap.objs.size, s2.heap.objs.size + 1], _, _, H2, rfl, I3, turn_zipS (b1 := b1) (b2 := b2) (sepS s2.heap.objs.size la lb) (Nat.ne_of_lt la) (Nat.ne_of_lt (Nat.lt_succ_of_lt lb)), ⟨hz, hTI, ⟨_, _, hTO⟩, iterB_new g1, iterB_new g2⟩, fun c hcm => ?_, q⟩
        have e' : c = s2.heap.objs.size + 4 ∨ c = s2.heap.objs.size + 2 ∨ c = s2.heap.objs.size + 3 ∨ c = s2.heap.objs.size ∨ c = s2.heap.objs.size + 1 := by simpa using hcm
        have hle : s2.heap.objs.size ≤ c := by
          rcases e' with z | z | z | z | z
          · rw [z]; exact Nat.le_add_right _ _
          · rw [z]; exact Nat.le_add_right _ _
          · rw [z]; exact Nat.le_add_right _ _
          · rw [z]; exact Nat.le_refl _
          · rw [z]; exact Nat.le_add_right _ _
        exact I2.fpOk hle (I2.hok.fresh hle)
/-! ### the layer's rule -/
def seqD (b : Bool) (xs : List D) : D := match b with
  | true => .tuple xs
  | false => .list xs
theorem rp_seq {K : PySem.W.Frag} {F : Hp} {b : Bool} {v : V} {ds : List D} (r : Rp F v (seqD b ds)) : ∃ a xs, v = .ref a ∧ (∀ H, Ex F H → SqB K b H a xs) ∧ RpA F xs ds := by
  cases b with
  | true =>
    cases r with
    | tup ha rv => exact ⟨_, _, rfl, fun H k => .inl (.inl (k _ _ ha)), rv⟩
  | false =>
    cases r with
    | lst ha rv => exact ⟨_, _, rfl, fun H k => .inl (.inl (k _ _ ha)), rv⟩
def zipD (xs ys : List D) : List D := List.zipWith (fun x y => .tuple [x, y]) xs ys
theorem its2_d {K : PySem.W.Frag} {B F : Hp} {b1 b2 : Bool} {a b : Addr} {vs ws : List V} {xs ys : List D} (h1 : ∀ H, Ex F H → SqB K b1 H a vs) (h2 : ∀ H, Ex F H → SqB K b2 H b ws) (rv : RpA F vs xs) (rw' : RpA F ws ys) (hl : xs.length = ys.length) : ItD (Its2 K b1 b2 a b) B F (zipD xs ys) := by
  have hz : (zipD xs ys).length = xs.length := by unfold zipD; rw [List.length_zipWith]; omega
  refine ⟨fun i H kb k hi => ⟨vs, ws, h1 H k, h2 H k, by rw [rv.length]; omega, by rw [rw'.length]; omega⟩, fun i H kb k hi => ?_, fun i H x H' kb k y hi => ?_⟩
  · obtain ⟨v, e, _⟩ := rv.get' (i := i) (List.getElem?_eq_getElem (show i < xs.length by omega))
    obtain ⟨w, e2, _⟩ := rw'.get' (i := i) (List.getElem?_eq_getElem (show i < ys.length by omega))
    exact ⟨vs, ws, v, w, h1 H k, h2 H k, e, e2⟩
  · obtain ⟨T, x, y, rfl, n, rfl, f1, f2⟩ := y
    obtain ⟨d, e1, g1⟩ := rv.get (f1 vs (h1 H k))
    obtain ⟨d2, e2, g2⟩ := rw'.get (f2 ws (h2 H k))
    refine .inr (.inl ⟨T, [x, y], [d, d2], rfl, n, rfl, .cons g1 (.cons g2 .nil), ?_⟩)
    unfold zipD
    rw [List.getElem?_zipWith, e1, e2]
section
variable {X : Cx} {r : SR} {S : List Sl}
/-- for x, y in zip(a, b, strict=True), of one length -/
theorem jiZipS {e e2 : Expr} {p pos tpos kp pc : Pos} {elts : List Expr} {kk kc : Nat} {K : List D → List Sl → Prop} (b1 b2 : Bool) (hm : X.mg "zip" = none)
    (h : JE X r e S fun d1 S1 => JE X r e2 S1 fun d2 S2 => ∃ xs ys, d1 = seqD b1 xs ∧ d2 = seqD b2 ys ∧ xs.length = ys.length ∧ K (zipD xs ys) S2) (hg : Gl X "zip" := by rfl)
    (hs : starEach [e, e2] X.env = (false, eval e X.env) :: starEach [e2] X.env := by rfl) (hs2 : starEach [e2] X.env = (false, eval e2 X.env) :: starEach [] X.env := by rfl) (he : backTo pos (starEach [e, e2] X.env) = (false, eval e X.env) :: backTo pos (starEach [e2] X.env) := by rfl) (hpl : (backTo pos (starEach [e, e2] X.env)).any (·.1) = false := by rfl)
    (hall : (backToKw pos (keywordEach [⟨some (Str.ofString "strict"), .Constant (.bool true) kc pc, kp⟩] X.env)).all (·.1.isSome) = true := by rfl) (hnone : (backToKw pos (keywordEach [⟨some (Str.ofString "strict"), .Constant (.bool true) kc pc, kp⟩] X.env)).any (·.1.isNone) = false := by rfl) (hks : (backToKw pos (keywordEach [⟨some (Str.ofString "strict"), .Constant (.bool true) kc pc, kp⟩] X.env)).filterMap (·.1) = [Str.ofString "strict"] := by rfl) :
    JI X r (.Tuple elts kk tpos) (.Call (.Name "zip" p) [e, e2] [⟨some (Str.ofString "strict"), .Constant (.bool true) kc pc, kp⟩] pos) S K :=
  fun c F σ H hr E R q => of_pi (pi_zipS hg hm (pa_cons pe_tE (pa_cons pe_tE pa_nil hs2) hs) hs he hpl hall hnone hks) (h c F σ H hr E _ fun v1 d1 F1 H1 S1 h1 E1 k1 r1 => h1 c F1 σ H1 hr E1 _ fun v2 d2 F2 H2 S2 h2 E2 k2 r2 => by
    obtain ⟨xs, ys, rfl, rfl, hl, kd⟩ := h2
    obtain ⟨a, vs, rfl, s1, rv⟩ := rp_seq (K := X.K) (r1.ex k2)
    obtain ⟨b, ws, rfl, s2, rw'⟩ := rp_seq (K := X.K) r2
    exact ⟨b1, b2, a, b, vs, ws, rfl, s1 _ E2.fin.fh, s2 _ E2.fin.fh, q _ _ F2 H2 S2 kd E2 (k1.trans k2) (its2_d s1 s2 rv rw' hl)⟩)
/-- enumerate(x), x a tuple -/
theorem jenumT {e : Expr} {p pos tpos : Pos} {elts : List Expr} {kk : Nat} {K : List D → List Sl → Prop} (hm : X.mg "enumerate" = none) (h : JE X r e S fun d S1 => ∃ ds, d = .tuple ds ∧ K (enumD ds) S1) (hg : Gl X "enumerate" := by rfl) (hs : starEach [e] X.env = [(false, eval e X.env)] := by rfl) : JI X r (.Tuple elts kk tpos) (.Call (.Name "enumerate" p) [e] [] pos) S K :=
  fun c F σ H hr E R q => of_pi (pi_enumT hg hm (pa_cons pe_tE pa_nil hs) hs) (h c F σ H hr E _ fun v d F1 H1 S1 h1 E1 k1 r1 => by
    obtain ⟨ds, rfl, kd⟩ := h1
    cases r1 with
    | @tup a xs _ ha hv => exact ⟨_, xs, rfl, .inl (E1.fin.fh _ _ ha), q _ _ F1 H1 S1 kd E1 k1 (itet_d (.inl ha) hv)⟩)
/-- a in x, x a dict of one's own -/
theorem jtdinO {K : Bool → List Sl → Prop} {a : Expr} {x : Str} {px pos : Pos} {k : Nat} (hr : Room k X.A) (i : Nat) (h : JE X r a S fun d1 S1 => ∃ ky kvs, d1 = tupI ky ∧ S1[i]? = some (.ob (.d kvs)) ∧ K (valD kvs ky).isSome S1)
    (hN : X.N[i]? = some x := by rfl) (hv : Vis X.env.scope x := by first | exact Or.inl rfl | exact Or.inr (Or.inl rfl) | exact Or.inr (Or.inr rfl)) (hd : (x == ("__debug__" : Str)) = false := by decide) (hcd : (x == ("__classdict__" : Str)) = false := by decide) (hm : behindInMarks .In (.Name x px) = false := by rfl) : JT X r (.Compare a [.In] [.Name x px] pos) S K :=
  fun c F σ H hr' E Q q => of_pt (pt_cmp (pc_din (by have := hr.un; omega) pe_tE (pe_var hN hv hd hcd)) hm) (h c F σ H hr' E _ fun v1 d1 F1 H1 S1 h1 E1 k1 r1 => by
    obtain ⟨ky, kvs, rfl, es, kk⟩ := h1
    obtain ⟨y, e1, l, hh, e2, ha, rv, nF, nb, q0⟩ := E1.sl i _ es
    subst e2
    obtain ⟨ws, rfl, rk⟩ := obr_d rv
    refine ⟨_, e1, l, _, rfl, dget_of E1.fin.fh r1 ha, ?_⟩
    rw [(rk.val ky).isSome]
    exact ⟨_, rfl, q _ F1 H1 S1 kk E1 k1⟩)
/-- a, b = {}, [] with a name that a comprehension reads -/
theorem jasgDL {x y : Str} {px py pt pos pa pb : Pos} {kt k2 pt2} {E : DE} {rest : List Stmt} (i j : Nat) (h : JSs X r rest ((S.set i (.ob (.d []))).set j (.own [])) E)
    (hc : X.calm = true := by rfl) (hN : X.N.Nodup := by assumption) (hi : X.N[i]? = some x := by rfl) (hj : X.N[j]? = some y := by rfl) (hij : i ≠ j := by decide) (hxl : Loc X.env.scope x := by first | exact Or.inl rfl | exact Or.inr rfl) (hxf : X.fn x = true ∨ X.env.scope.names.lookup x = some .local := by first | exact .inl rfl | exact .inr rfl) (hyl : Loc X.env.scope y := by first | exact Or.inl rfl | exact Or.inr rfl) (hyf : X.fn y = true ∨ X.env.scope.names.lookup y = some .local := by first | exact .inl rfl | exact .inr rfl)
    (hw : swappedStores [.Tuple [.Name x px, .Name y py] kt pt] (.Tuple [.Dict [] [] pa, .List [] pb] k2 pt2) X.env = pure none := by rfl) (hs : swapsWithSole [.Tuple [.Name x px, .Name y py] kt pt] (.Tuple [.Dict [] [] pa, .List [] pb] k2 pt2) pos.line X.env = pure false := by rfl) (h1 : (assignEach [.Tuple [.Name x px, .Name y py] kt pt] X.env).map (·.2) = [assign (.Tuple [.Name x px, .Name y py] kt pt) X.env] := by rfl)
    (hn : (assignEach [.Name x px, .Name y py] X.env).length = 2 := by rfl) (hst : (assignEach [.Name x px, .Name y py] X.env).findIdx? (·.1) = none := by rfl) (ha1 : (assignEach [.Name x px, .Name y py] X.env).map (·.2) = assign (.Name x px) X.env :: (assignEach [.Name y py] X.env).map (·.2) := by rfl) (ha2 : (assignEach [.Name y py] X.env).map (·.2) = assign (.Name y py) X.env :: (assignEach [] X.env).map (·.2) := by rfl)
    (s1 : starEach [.Dict [] [] pa, .List [] pb] X.env = (false, eval (.Dict [] [] pa) X.env) :: starEach [.List [] pb] X.env := by rfl) (s2 : starEach [.List [] pb] X.env = (false, eval (.List [] pb) X.env) :: starEach [] X.env := by rfl) :
    JSs X r (.Assign [.Tuple [.Name x px, .Name y py] kt pt] (.Tuple [.Dict [] [] pa, .List [] pb] k2 pt2) pos :: rest) S E := jss_cons fun c F σ H hr Ev G g =>
  of_ps (ps_asg (pe_tup (pa_cons pe_tE (pa_cons pe_tE pa_nil s2) s1)) (pg_tup (n := 2) hc (pgs_cons (pg_name hN hi hxl hxf) (pgs_cons (pg_name hN hj hyl hyf) pgs_nil ha2) ha1) hn hst) hs hw h1) ((jemptyD (K := fun o S1 => o = .d [] ∧ S1 = S) ⟨rfl, rfl⟩) c F σ H hr Ev _ fun p1 o F1 H1 S1 h1 n1 k1 => by
    obtain ⟨rfl, rfl⟩ := h1
    obtain ⟨hh1, E1, hp1, hv1, nF1, b1, q1, no1⟩ := n1
    have f01 : c.F0 p1 = none := by
      cases z : c.F0 p1 with
      | none => rfl
      | some u => have := E1.fin.f0 _ _ z; rw [nF1] at this; cases this
    refine (jn_lst (K := fun ds S2 => ds = [] ∧ S2 = S1) (jA0 ⟨[], rfl, Nat.zero_le _, rfl, rfl⟩)) (c.hold p1 hh1) F1 σ H1 (r.st c p1 hh1 b1 hr) (E1.hold hp1 nF1 q1 no1) _ fun p2 ds F2 H2 S2 h2 n2 k2 => ?_
    obtain ⟨rfl, rfl⟩ := h2
    obtain ⟨hh2, E2, hp2, hv2, nF2, b2, q2, no2⟩ := n2
    obtain ⟨ws1, rfl, _⟩ := obr_d hv1
    obtain ⟨ws2, rfl, _⟩ := obr_l hv2
    obtain ⟨E3, hp1', nF1', q1', no1'⟩ := E2.unhold (vs := .dT ws1) (fun xs z => nomatch z) b1 f01
    have hne : p1 ≠ p2 := fun z => by
      rw [z, hp2] at hp1'; cases hp1'
    have b2' : c.B p2 = none := by
      have : upd c.B p1 (.dT ws1) p2 = none := b2
      rw [upd_ne (fun z => hne z.symm)] at this; exact this
    refine ⟨by show 2 ≤ sizeLine; decide, fun t ht => ?_⟩
    have e1 : upd H2 t (.tup [.ref p1, .ref p2]) p1 = some (.dT ws1) := by rw [upd_ne (ne_of_none hp1' ht)]; exact hp1'
    have e2 : upd H2 t (.tup [.ref p1, .ref p2]) p2 = some (.lst ws2) := by rw [upd_ne (ne_of_none hp2 ht)]; exact hp2
    refine ⟨t, [.ref p1, .ref p2], rfl, .inl (.inl upd_same), rfl, .ref p1, [.ref p2], rfl, .ref p2, [], rfl, rfl, ?_⟩
    have E4 := E3.laid (o := .tup [.ref p1, .ref p2]) ht
    have E6 := E4.setOwn (i := i) e1 (hv1.ex k2) nF1' b1 q1' no1'
    have E7 := E6.setOwn (i := j) e2 hv2 nF2 b2' q2 (fun m xs em => by
      by_cases hm : i = m
      · subst hm
        by_cases hlen : i < σ.length
        · rw [List.getElem?_set_self hlen]
          intro z
          injection z with z
          injection z with z
          injection z with z
          exact hne z
        · rw [List.getElem?_eq_none (by rw [List.length_set]; omega)]
          intro z; cases z
      · rw [List.getElem?_set_ne hm] at em ⊢
        exact no2 m xs em)
    exact g.nx F2 _ _ _ h E7 (k1.trans k2))
/-- a, b = e, [] with a name that a comprehension reads -/
theorem jasgVL {x y : Str} {e : Expr} {px py pt pos pb : Pos} {kt k2 pt2} {E : DE} {rest : List Stmt} (i j : Nat) (h : JE X r e S fun d S1 => i < S1.length ∧ JSs X r rest ((S1.set i (.val d)).set j (.own [])) E)
    (hc : X.calm = true := by rfl) (hN : X.N.Nodup := by assumption) (hi : X.N[i]? = some x := by rfl) (hj : X.N[j]? = some y := by rfl) (hij : i ≠ j := by decide) (hxl : Loc X.env.scope x := by first | exact Or.inl rfl | exact Or.inr rfl) (hxf : X.fn x = true ∨ X.env.scope.names.lookup x = some .local := by first | exact .inl rfl | exact .inr rfl) (hyl : Loc X.env.scope y := by first | exact Or.inl rfl | exact Or.inr rfl) (hyf : X.fn y = true ∨ X.env.scope.names.lookup y = some .local := by first | exact .inl rfl | exact .inr rfl)
    (hw : swappedStores [.Tuple [.Name x px, .Name y py] kt pt] (.Tuple [e, .List [] pb] k2 pt2) X.env = pure none := by rfl) (hs : swapsWithSole [.Tuple [.Name x px, .Name y py] kt pt] (.Tuple [e, .List [] pb] k2 pt2) pos.line X.env = pure false := by rfl) (h1 : (assignEach [.Tuple [.Name x px, .Name y py] kt pt] X.env).map (·.2) = [assign (.Tuple [.Name x px, .Name y py] kt pt) X.env] := by rfl)
    (hn : (assignEach [.Name x px, .Name y py] X.env).length = 2 := by rfl) (hst : (assignEach [.Name x px, .Name y py] X.env).findIdx? (·.1) = none := by rfl) (ha1 : (assignEach [.Name x px, .Name y py] X.env).map (·.2) = assign (.Name x px) X.env :: (assignEach [.Name y py] X.env).map (·.2) := by rfl) (ha2 : (assignEach [.Name y py] X.env).map (·.2) = assign (.Name y py) X.env :: (assignEach [] X.env).map (·.2) := by rfl)
    (s1 : starEach [e, .List [] pb] X.env = (false, eval e X.env) :: starEach [.List [] pb] X.env := by rfl) (s2 : starEach [.List [] pb] X.env = (false, eval (.List [] pb) X.env) :: starEach [] X.env := by rfl) :
    JSs X r (.Assign [.Tuple [.Name x px, .Name y py] kt pt] (.Tuple [e, .List [] pb] k2 pt2) pos :: rest) S E := jss_cons fun c F σ H hr Ev G g =>
  of_ps (ps_asg (pe_tup (pa_cons pe_tE (pa_cons pe_tE pa_nil s2) s1)) (pg_tup (n := 2) hc (pgs_cons (pg_name hN hi hxl hxf) (pgs_cons (pg_name hN hj hyl hyf) pgs_nil ha2) ha1) hn hst) hs hw h1) (h c F σ H hr Ev _ fun v d F1 H1 S1 h1 E1 k1 r1 => by
    refine (jn_lst (K := fun ds S2 => ds = [] ∧ S2 = S1) (jA0 ⟨[], rfl, Nat.zero_le _, rfl, rfl⟩)) c F1 σ H1 hr E1 _ fun p2 ds F2 H2 S2 h2 n2 k2 => ?_
    obtain ⟨rfl, rfl⟩ := h2
    obtain ⟨hh2, E2, hp2, hv2, nF2, b2, q2, no2⟩ := n2
    obtain ⟨ws2, rfl, _⟩ := obr_l hv2
    refine ⟨by show 2 ≤ sizeLine; decide, fun t ht => ?_⟩
    have e2 : upd H2 t (.tup [v, .ref p2]) p2 = some (.lst ws2) := by rw [upd_ne (ne_of_none hp2 ht)]; exact hp2
    refine ⟨t, [v, .ref p2], rfl, .inl (.inl upd_same), rfl, v, [.ref p2], rfl, .ref p2, [], rfl, rfl, ?_⟩
    have E4 := E2.laid (o := .tup [v, .ref p2]) ht
    have E6 := E4.set (i := i) (r1.ex k2)
    have E7 := E6.setOwn (i := j) e2 hv2 nF2 b2 q2 (fun m xs em => by
      by_cases hm : i = m
      · subst hm
        rw [List.getElem?_set_self h1.1] at em; cases em
      · rw [List.getElem?_set_ne hm] at em ⊢
        exact no2 m xs em)
    exact g.nx F2 _ _ _ h1.2 E7 (k1.trans k2))
/-- a, b = [], e -/
theorem jpar2LV {x y : Str} {e : Expr} {px py pt pos pa : Pos} {kt k2 pt2} {E : DE} {rest : List Stmt} (i j : Nat) (h : JE X r e S fun d S3 => JSs X r rest ((S3.set i (.own [])).set j (.val d)) E)
    (hc : X.calm = true := by rfl) (hN : X.N.Nodup := by assumption) (hi : X.N[i]? = some x := by rfl) (hj : X.N[j]? = some y := by rfl) (hij : i ≠ j := by decide) (hx : X.env.scope.names.lookup x = some .local := by rfl) (hy : X.env.scope.names.lookup y = some .local := by rfl)
    (hw : swappedStores [.Tuple [.Name x px, .Name y py] kt pt] (.Tuple [.List [] pa, e] k2 pt2) X.env = pure (some [x, y]) := by rfl) (hs : swapsWithSole [.Tuple [.Name x px, .Name y py] kt pt] (.Tuple [.List [] pa, e] k2 pt2) pos.line X.env = pure false := by rfl)
    (s1 : starEach [.List [] pa, e] X.env = (false, eval (.List [] pa) X.env) :: starEach [e] X.env := by rfl) (s2 : starEach [e] X.env = (false, eval e X.env) :: starEach [] X.env := by rfl) :
    JSs X r (.Assign [.Tuple [.Name x px, .Name y py] kt pt] (.Tuple [.List [] pa, e] k2 pt2) pos :: rest) S E := jss_cons fun c F σ H hr Ev G g =>
  of_ps (ps_par hc hN hi hj hij hx hy (pa_cons pe_tE (pa_cons pe_tE pa_nil s2) s1) hw hs) ((jn_lst (K := fun ds S1 => ds = [] ∧ S1 = S) (jA0 ⟨[], rfl, Nat.zero_le _, rfl, rfl⟩)) c F σ H hr Ev _ fun p1 ds F1 H1 S1 h1 n1 k1 => by
    obtain ⟨rfl, rfl⟩ := h1
    obtain ⟨hh1, E1, hp1, hv1, nF1, b1, q1, no1⟩ := n1
    have f01 : c.F0 p1 = none := by
      cases z : c.F0 p1 with
      | none => rfl
      | some u => have := E1.fin.f0 _ _ z; rw [nF1] at this; cases this
    refine h (c.hold p1 hh1) F1 σ H1 (r.st c p1 hh1 b1 hr) (E1.hold hp1 nF1 q1 no1) _ fun v d F3 H3 S3 h3 E3 k3 r3 => ?_
    obtain ⟨ws1, rfl, _⟩ := obr_l hv1
    obtain ⟨E5, hp1', nF1', q1', no1'⟩ := E3.unhold (vs := .lst ws1) (fun xs z => nomatch z) b1 f01
    exact ⟨.ref p1, v, rfl, g.nx F3 _ H3 _ h3 ((E5.setOwn (i := i) hp1' (hv1.ex k3) nF1' b1 q1' no1').set r3) (k1.trans k3)⟩)
end
end DL

/-! DL: comprehensions over a list of one's own that stays so: `for x in xs`, `for i, x in enumerate(xs)`. -/
namespace DL
open PySem L2
theorem perm_map {α : Type} {f : α → D} {l : List α} {es : List D} (h : es.Perm (l.map f)) : ∃ ms : List α, es = ms.map f ∧ ms.Perm l := by
  generalize e : l.map f = ds at h
  induction h generalizing l with
  | nil => cases l with
    | nil => exact ⟨[], rfl, .nil⟩
    | cons _ _ => cases e
  | @cons x l1 l2 h ih => cases l with
    | nil => cases e
    | cons a l =>
      rw [List.map_cons] at e
      injection e with e1 e2
      obtain ⟨ms, rfl, hp⟩ := ih e2
      exact ⟨a :: ms, by rw [List.map_cons, e1], hp.cons a⟩
  | @swap x y l1 => cases l with
    | nil => cases e
    | cons a l => cases l with
      | nil => rw [List.map_cons] at e; injection e with e1 e2; cases e2
      | cons b l =>
        rw [List.map_cons, List.map_cons] at e
        injection e with e1 e2
        injection e2 with e2 e3
        exact ⟨b :: a :: l, by rw [List.map_cons, List.map_cons, e1, e2, e3], .swap _ _ _⟩
  | @trans l1 l2 l3 h1 h2 ih1 ih2 =>
    obtain ⟨ms, e2, hp⟩ := ih2 e
    obtain ⟨ms', e3, hp'⟩ := ih1 e2.symm
    exact ⟨ms', e3, hp'.trans hp⟩
section
variable {X : Cx} {r : SR} {S : List Sl}
theorem itl_dB {K : PySem.W.Frag} {B F : Hp} {a : Addr} {vs : List V} {ds : List D} (h : B a = some (.lst vs)) (rv : RpA F vs ds) : ItD (Itl K a) B F ds :=
  ⟨fun i H kb k hi => ⟨vs, .inl (.inl (kb _ _ h)), by rw [rv.length]; exact hi⟩,
   fun i H kb k hi => by
    obtain ⟨v, e, _⟩ := rv.get' (i := i) (List.getElem?_eq_getElem hi)
    exact ⟨vs, v, .inl (.inl (kb _ _ h)), e⟩,
   fun i H x H' kb k y hi => by
    obtain ⟨e, f⟩ := y
    obtain ⟨d, e1, e2⟩ := rv.get (f vs (.inl (.inl (kb _ _ h))))
    exact .inl ⟨e, d, e1, e2⟩⟩
theorem ite_dB {K : PySem.W.Frag} {B F : Hp} {a : Addr} {vs : List V} {ds : List D} (h : B a = some (.lst vs)) (rv : RpA F vs ds) : ItD (Ite K a) B F (enumD ds) := by
  have hl : (enumD ds).length = ds.length := by unfold enumD; rw [List.length_map, List.length_range]
  refine ⟨fun i H kb k hi => ⟨vs, .inl (.inl (kb _ _ h)), by rw [rv.length, ← hl]; exact hi⟩, fun i H kb k hi => ?_, fun i H x H' kb k y hi => ?_⟩
  · obtain ⟨v, e, _⟩ := rv.get' (i := i) (List.getElem?_eq_getElem (by rw [← hl]; exact hi))
    exact ⟨vs, v, .inl (.inl (kb _ _ h)), e⟩
  · obtain ⟨T, z, e1, e2, e3, f⟩ := y
    obtain ⟨d, g1, g2⟩ := rv.get (f vs (.inl (.inl (kb _ _ h))))
    refine .inr (.inl ⟨T, _, [.int (i : Nat), d], e1, e2, e3, .cons (.int _) (.one g2), ?_⟩)
    unfold enumD
    rw [List.getElem?_map, List.getElem?_range (by rw [← hl]; exact hi)]
    show some (PyData.tuple [.int (i : Nat), ds.getD i .none]) = _
    rw [List.getD_eq_getElem?_getD, g1]
    rfl
/-- a comprehension whose walk goes over a list of one's own (slot i), which stays so -/
theorem jn_lcOw {elt tg iter : Expr} {ifs : List Expr} {scope : Scope} {wi : TI} {pos : Pos} (hp : PI X tg iter wi) (i : Nat) (own : List (Str × Nat)) (ts : List Nat) {K : List D → List Sl → Prop} {xs : List D} (es : List D) (e : S[i]? = some (.own xs))
    (hw : ∀ (σ : St) (H : Hp) (a : Addr) (vs : List V) (R : It → Hp → Prop), σ[i]? = some (some (.ref a)) → H a = some (.lst vs) → (∀ J, (∀ B F : Hp, B a = some (.lst vs) → RpA F vs xs → ItD J B F es) → R J H) → wi σ H R)
    (h : ∃ I : Nat → List D → List Sl → Prop, I 0 [] (S.set i .emp) ∧ (∀ j acc S', I j acc S' → j ≤ es.length → acc.length < sizeLine ∧ S'[i]? = some .emp ∧ ∀ j ∈ own.map (·.2), ∀ xs, S'[j]? ≠ some (.ob xs)) ∧
      (∀ j d acc S', es[j]? = some d → I j acc S' → LcTurn X r scope tg elt ifs (own.map (·.2)) ts d S' (fun y S4 => I (j + 1) (acc ++ [y]) S4) fun S4 => I (j + 1) acc S4) ∧ ∀ acc S', I es.length acc S' → K acc (S'.set i (.own xs)))
    (hc : X.calm = true) (hN : X.N.Nodup) (ok : BlkOk X.N X.env.scope scope own) (hs : ∀ y, foldedSetIterable iter X.env y = pure y) (hts : ∀ j ∈ ts, j ∈ own.map (·.2)) :
    JN X r (.ListComp elt [⟨tg, iter, ifs, 0⟩] scope pos) S K := fun c F σ H hr E Q q => by
  obtain ⟨y, e1, d, hh, e2, ha, rv, nF, nB, ns⟩ := E.sl i _ e
  subst e2
  obtain ⟨vs, rfl, rv⟩ : ∃ vs, hh = .lst vs ∧ RpA F vs xs := obr_l rv
  have hl : i < S.length := (List.getElem?_eq_some_iff.mp e).1
  have nF0 : c.F0 d = none := E.fin.f0.back nF
  have E0 := E.hide (i := i) hl
  have no : ∀ (j : Nat) xs, (S.set i .emp)[j]? = some (.ob xs) → σ[j]? ≠ some (some (.ref d)) := fun j xs ej ea => by
    by_cases hj : i = j
    · subst hj; rw [List.getElem?_set_self hl] at ej; cases ej
    · rw [List.getElem?_set_ne hj] at ej
      exact hj (E.ds i j _ _ d e ej e1 ea)
  obtain ⟨I, i0, side, step, fin⟩ := h
  refine of_pe (pe_lc hc hN hp ok pg_tGb pts_tTsb pe_tEb hs) ?_
  have E2 := E0.hold ha nF ns no
  have run : JIw wi (c.hold d (.lst vs)) F σ H fun ds S' => (∃ I : Nat → List D → List Sl → Prop, I 0 [] S' ∧ (∀ i acc S', I i acc S' → i ≤ ds.length → acc.length < sizeLine ∧ ∀ j ∈ own.map (·.2), ∀ xs, S'[j]? ≠ some (.ob xs)) ∧
      (∀ i d acc S', ds[i]? = some d → I i acc S' → LcTurn X r scope tg elt ifs (own.map (·.2)) ts d S' (fun y S4 => I (i + 1) (acc ++ [y]) S4) fun S4 => I (i + 1) acc S4) ∧ ∀ acc S', I ds.length acc S' → (S'[i]? = some .emp ∧ K acc (S'.set i (.own xs)))) := fun R k => by
    refine hw σ H d vs R e1 ha fun J hJ => ?_
    refine k J es F H _ ⟨I, i0, fun j acc S' hI hj => ?_, step, fun acc S' hI => ?_⟩ E2 (Ex.refl F) (hJ _ _ upd_same rv)
    · obtain ⟨s1, _, s2⟩ := side j acc S' hI hj
      exact ⟨s1, s2⟩
    · exact ⟨(side _ acc S' hI (Nat.le_refl _)).2.1, fin acc S' hI⟩
  refine lc_runc (r := r) (K := fun acc S' => S'[i]? = some .emp ∧ K acc (S'.set i (.own xs))) ts hts (c.hold d (.lst vs)) F σ _ (r.st _ _ _ nB hr) _ (fun p ds F' H' S' kk n kF => ?_) run
  obtain ⟨e3, kk⟩ := kk
  obtain ⟨h9, E3, g1, g2, g3, g4, g5, g6⟩ := n
  have hpd : p ≠ d := fun z => by rw [z, show (c.hold d (.lst vs)).B d = some _ from upd_same] at g4; cases g4
  obtain ⟨E4, f1, f2, f3, f4⟩ := E3.unhold (vs := .lst vs) (fun _ z => nomatch z) nB nF0
  have es' : σ.set i (some (.ref d)) = σ := by
    apply List.ext_getElem?
    intro j
    by_cases hj : i = j
    · subst hj
      rw [List.getElem?_set_self (by rw [E.len]; exact hl), e1]
    · rw [List.getElem?_set_ne hj]
  have rv' : RpA F' vs xs := rv.ex kF
  have E6 := E4.setOwn (i := i) (a := d) (vs := .lst vs) (ds := .l xs) f1 rv' f2 nB f3 f4
  rw [es'] at E6
  refine q p _ F' _ _ kk ⟨h9, E6, g1, g2, g3, ?_, g5, fun j xs ej ea => ?_⟩ kF
  · have g4' : upd c.B d (.lst vs) p = none := g4
    rw [upd_ne hpd] at g4'; exact g4'
  · by_cases hj : i = j
    · subst hj
      rw [e1] at ea
      cases ea
      exact hpd rfl
    · rw [List.getElem?_set_ne hj] at ej
      exact g6 j xs ej ea
/-- [.. for i, y in enumerate(x)], x a list of one's own that stays so -/
theorem jn_lcEO {elt : Expr} {elts : List Expr} {kk : Nat} {tpos : Pos} {ifs : List Expr} {scope : Scope} {x : Str} {px p ipos pos : Pos} (i : Nat) (own : List (Str × Nat)) (ts : List Nat) {K : List D → List Sl → Prop} {xs : List D} (hm : X.mg "enumerate" = none) (e : S[i]? = some (.own xs))
    (h : ∃ I : Nat → List D → List Sl → Prop, I 0 [] (S.set i .emp) ∧ (∀ j acc S', I j acc S' → j ≤ (enumD xs).length → acc.length < sizeLine ∧ S'[i]? = some .emp ∧ ∀ j ∈ own.map (·.2), ∀ xs, S'[j]? ≠ some (.ob xs)) ∧
      (∀ j d acc S', (enumD xs)[j]? = some d → I j acc S' → LcTurn X r scope (.Tuple elts kk tpos) elt ifs (own.map (·.2)) ts d S' (fun y S4 => I (j + 1) (acc ++ [y]) S4) fun S4 => I (j + 1) acc S4) ∧ ∀ acc S', I (enumD xs).length acc S' → K acc (S'.set i (.own xs)))
    (hc : X.calm = true := by rfl) (hN : X.N.Nodup := by assumption) (ok : BlkOk X.N X.env.scope scope own := by exact blkOk_by rfl) (hs : ∀ y, foldedSetIterable (.Call (.Name "enumerate" p) [.Name x px] [] ipos) X.env y = pure y := by intro _; rfl) (hts : ∀ j ∈ ts, j ∈ own.map (·.2) := by decide)
    (hNi : X.N[i]? = some x := by rfl) (hg : Gl X "enumerate" := by rfl) (hst : starEach [.Name x px] X.env = [(false, eval (.Name x px) X.env)] := by rfl) (hv : Vis X.env.scope x := by first | exact Or.inl rfl | exact Or.inr (Or.inl rfl) | exact Or.inr (Or.inr rfl)) (hd : (x == ("__debug__" : Str)) = false := by decide) (hcd : (x == ("__classdict__" : Str)) = false := by decide) :
    JN X r (.ListComp elt [⟨.Tuple elts kk tpos, .Call (.Name "enumerate" p) [.Name x px] [] ipos, ifs, 0⟩] scope pos) S K :=
  jn_lcOw (pi_enum hg hm (pa_cons (pe_var hNi hv hd hcd) pa_nil hst) hst) i own ts (enumD xs) e (fun σ H a vs R e1 ha k => by
    refine ⟨.ref a, e1, ?_⟩
    exact ⟨a, vs, rfl, .inl (.inl ha), k _ fun B F hB rv => ite_dB hB rv⟩) h hc hN ok hs hts
/-- [.. for y in x], x a list of one's own that stays so -/
theorem jn_lcO {elt tg : Expr} {ifs : List Expr} {scope : Scope} {x : Str} {px pos : Pos} (i : Nat) (own : List (Str × Nat)) (ts : List Nat) {K : List D → List Sl → Prop} {xs : List D} (e : S[i]? = some (.own xs))
    (h : ∃ I : Nat → List D → List Sl → Prop, I 0 [] (S.set i .emp) ∧ (∀ j acc S', I j acc S' → j ≤ xs.length → acc.length < sizeLine ∧ S'[i]? = some .emp ∧ ∀ j ∈ own.map (·.2), ∀ xs, S'[j]? ≠ some (.ob xs)) ∧
      (∀ j d acc S', xs[j]? = some d → I j acc S' → LcTurn X r scope tg elt ifs (own.map (·.2)) ts d S' (fun y S4 => I (j + 1) (acc ++ [y]) S4) fun S4 => I (j + 1) acc S4) ∧ ∀ acc S', I xs.length acc S' → K acc (S'.set i (.own xs)))
    (hc : X.calm = true := by rfl) (hN : X.N.Nodup := by assumption) (ok : BlkOk X.N X.env.scope scope own := by exact blkOk_by rfl) (hs : ∀ y, foldedSetIterable (.Name x px) X.env y = pure y := by intro _; rfl) (hts : ∀ j ∈ ts, j ∈ own.map (·.2) := by decide)
    (hNi : X.N[i]? = some x := by rfl) (hv : Vis X.env.scope x := by first | exact Or.inl rfl | exact Or.inr (Or.inl rfl) | exact Or.inr (Or.inr rfl)) (hd : (x == ("__debug__" : Str)) = false := by decide) (hcd : (x == ("__classdict__" : Str)) = false := by decide) :
    JN X r (.ListComp elt [⟨tg, .Name x px, ifs, 0⟩] scope pos) S K :=
  jn_lcOw (pi_list (pe_var hNi hv hd hcd)) i own ts xs e (fun σ H a vs R e1 ha k => by
    refine ⟨.ref a, e1, ?_⟩
    exact ⟨a, rfl, ⟨vs, .inl (.inl ha)⟩, k _ fun B F hB rv => itl_dB hB rv⟩) h hc hN ok hs hts
theorem lc_pureE {scope : Scope} {tg elt : Expr} {ifs : List Expr} {vs ts : List Nat} {ds : List D} {K : List D → List Sl → Prop} {i : Nat} (hi : S[i]? = some .emp) (hv : ∀ j ∈ vs, ∀ xs, S[j]? ≠ some (.ob xs)) (h : LcAll X r scope tg elt ifs vs ts ds S fun zs => K zs S) :
    ∃ I : Nat → List D → List Sl → Prop, I 0 [] S ∧ (∀ j acc S', I j acc S' → j ≤ ds.length → acc.length < sizeLine ∧ S'[i]? = some .emp ∧ ∀ j ∈ vs, ∀ xs, S'[j]? ≠ some (.ob xs)) ∧
      (∀ i d acc S', ds[i]? = some d → I i acc S' → LcTurn X r scope tg elt ifs vs ts d S' (fun y S4 => I (i + 1) (acc ++ [y]) S4) fun S4 => I (i + 1) acc S4) ∧ ∀ acc S', I ds.length acc S' → K acc S' := by
  obtain ⟨α, as, enc, p, g, rfl, hl, turn, fin⟩ := h
  refine ⟨fun i acc S' => S' = S ∧ acc = ((as.take i).filter p).map g, ⟨rfl, rfl⟩, fun i acc S' hI hi => ?_, fun i d acc S' hd hI => ?_, fun acc S' hI => ?_⟩
  · obtain ⟨rfl, rfl⟩ := hI
    refine ⟨?_, by assumption, hv⟩
    rw [List.length_map]
    refine Nat.lt_of_le_of_lt (List.length_filter_le _ _) ?_
    rw [List.length_take]
    have : sizeLine = 16777216 := sizeLine_eq
    have := Nat.min_le_right i as.length
    omega
  · obtain ⟨rfl, rfl⟩ := hI
    rw [List.getElem?_map] at hd
    cases ha : as[i]? with
    | none => rw [ha] at hd; cases hd
    | some a =>
      rw [ha] at hd
      cases hd
      have t := turn a (List.mem_of_getElem? ha)
      have tk : as.take (i + 1) = as.take i ++ [a] := by rw [List.take_add_one, ha]; rfl
      intro s H C cl fp
      refine (t s H C cl fp).mono fun S2 t2 s1 H1 C1 cl1 fp1 => (t2 s1 H1 C1 cl1 fp1).mono fun b S3 t3 => ?_
      obtain ⟨rfl, t3, t4⟩ := t3
      cases hp : p a with
      | false =>
        rw [if_neg Bool.false_ne_true]
        refine ⟨t3 hp, ?_⟩
        rw [tk, List.filter_append, List.map_append]
        simp [hp]
      | true =>
        rw [if_pos rfl]
        intro s2 H2 C2 cl2 fp2
        refine (t4 hp s2 H2 C2 cl2 fp2).mono fun z S4 t5 => ?_
        obtain ⟨rfl, t5⟩ := t5
        refine ⟨t5, ?_⟩
        rw [tk, List.filter_append, List.map_append]
        simp [hp]
  · obtain ⟨rfl, rfl⟩ := hI
    rw [List.length_map, List.take_length]
    exact fin
/-- .. each turn changes nothing -/
theorem jlcEO {elt : Expr} {elts : List Expr} {kk : Nat} {tpos : Pos} {ifs : List Expr} {scope : Scope} {x : Str} {px p ipos pos : Pos} (i : Nat) (own : List (Str × Nat)) (ts : List Nat) {K : List D → List Sl → Prop} {xs : List D} (hm : X.mg "enumerate" = none)
    (h : (∀ j ∈ own.map (·.2), ∀ xs, (S.set i .emp)[j]? ≠ some (.ob xs)) ∧ LcAll X r scope (.Tuple elts kk tpos) elt ifs (own.map (·.2)) ts (enumD xs) (S.set i .emp) fun zs => K zs S) (e : S[i]? = some (.own xs) := by rfl)
    (hc : X.calm = true := by rfl) (hN : X.N.Nodup := by assumption) (ok : BlkOk X.N X.env.scope scope own := by exact blkOk_by rfl) (hs : ∀ y, foldedSetIterable (.Call (.Name "enumerate" p) [.Name x px] [] ipos) X.env y = pure y := by intro _; rfl) (hts : ∀ j ∈ ts, j ∈ own.map (·.2) := by decide)
    (hNi : X.N[i]? = some x := by rfl) (hg : Gl X "enumerate" := by rfl) (hst : starEach [.Name x px] X.env = [(false, eval (.Name x px) X.env)] := by rfl) (hv : Vis X.env.scope x := by first | exact Or.inl rfl | exact Or.inr (Or.inl rfl) | exact Or.inr (Or.inr rfl)) (hd : (x == ("__debug__" : Str)) = false := by decide) (hcd : (x == ("__classdict__" : Str)) = false := by decide) :
    JN X r (.ListComp elt [⟨.Tuple elts kk tpos, .Call (.Name "enumerate" p) [.Name x px] [] ipos, ifs, 0⟩] scope pos) S K := by
  refine jn_lcEO i own ts hm e ?_ hc hN ok hs hts hNi hg hst hv hd hcd
  have hl : i < S.length := (List.getElem?_eq_some_iff.mp e).1
  have es : (S.set i .emp).set i (.own xs) = S := by rw [List.set_set]; exact set_at e
  refine lc_pureE (K := fun zs S' => K zs (S'.set i (.own xs))) (List.getElem?_set_self hl) h.1 ?_
  rw [es]
  exact h.2
/-- .. over the list itself -/
theorem jlcO {elt tg : Expr} {ifs : List Expr} {scope : Scope} {x : Str} {px pos : Pos} (i : Nat) (own : List (Str × Nat)) (ts : List Nat) {K : List D → List Sl → Prop} {xs : List D}
    (h : (∀ j ∈ own.map (·.2), ∀ xs, (S.set i .emp)[j]? ≠ some (.ob xs)) ∧ LcAll X r scope tg elt ifs (own.map (·.2)) ts xs (S.set i .emp) fun zs => K zs S) (e : S[i]? = some (.own xs) := by rfl)
    (hc : X.calm = true := by rfl) (hN : X.N.Nodup := by assumption) (ok : BlkOk X.N X.env.scope scope own := by exact blkOk_by rfl) (hs : ∀ y, foldedSetIterable (.Name x px) X.env y = pure y := by intro _; rfl) (hts : ∀ j ∈ ts, j ∈ own.map (·.2) := by decide)
    (hNi : X.N[i]? = some x := by rfl) (hv : Vis X.env.scope x := by first | exact Or.inl rfl | exact Or.inr (Or.inl rfl) | exact Or.inr (Or.inr rfl)) (hd : (x == ("__debug__" : Str)) = false := by decide) (hcd : (x == ("__classdict__" : Str)) = false := by decide) :
    JN X r (.ListComp elt [⟨tg, .Name x px, ifs, 0⟩] scope pos) S K := by
  refine jn_lcO i own ts e ?_ hc hN ok hs hts hNi hv hd hcd
  have hl : i < S.length := (List.getElem?_eq_some_iff.mp e).1
  have es : (S.set i .emp).set i (.own xs) = S := by rw [List.set_set]; exact set_at e
  refine lc_pureE (K := fun zs S' => K zs (S'.set i (.own xs))) (List.getElem?_set_self hl) h.1 ?_
  rw [es]
  exact h.2
/-- xs[:k] of a list -/
theorem jn_cutTo {K : List D → List Sl → Prop} {e hi : Expr} {p2 pos : Pos} (h : JE X r e S fun d S1 => JE X r hi S1 fun d2 S2 => ∃ (ds : List D) (k : Nat), d = .list ds ∧ d2 = .int k ∧ K (ds.take k) S2) : JN X r (.Subscript e (.Slice none (some hi) none p2) pos) S K :=
  jn_cutL (h.mono fun d S1 h1 => (show JE X r hi S1 _ from h1.mono fun d2 S2 ⟨ds, k, e1, e2, kk⟩ => ⟨k, e2, ds, e1, by rw [cutD_to]; exact kk⟩))
/-- a, b = [], e with a name that a comprehension reads -/
theorem jasgLV {x y : Str} {e : Expr} {px py pt pos pa : Pos} {kt k2 pt2} {E : DE} {rest : List Stmt} (i j : Nat) (h : JE X r e S fun d S1 => JSs X r rest ((S1.set i (.own [])).set j (.val d)) E)
    (hc : X.calm = true := by rfl) (hN : X.N.Nodup := by assumption) (hi : X.N[i]? = some x := by rfl) (hj : X.N[j]? = some y := by rfl) (hij : i ≠ j := by decide) (hxl : Loc X.env.scope x := by first | exact Or.inl rfl | exact Or.inr rfl) (hxf : X.fn x = true ∨ X.env.scope.names.lookup x = some .local := by first | exact .inl rfl | exact .inr rfl) (hyl : Loc X.env.scope y := by first | exact Or.inl rfl | exact Or.inr rfl) (hyf : X.fn y = true ∨ X.env.scope.names.lookup y = some .local := by first | exact .inl rfl | exact .inr rfl)
    (hw : swappedStores [.Tuple [.Name x px, .Name y py] kt pt] (.Tuple [.List [] pa, e] k2 pt2) X.env = pure none := by rfl) (hs : swapsWithSole [.Tuple [.Name x px, .Name y py] kt pt] (.Tuple [.List [] pa, e] k2 pt2) pos.line X.env = pure false := by rfl) (h1 : (assignEach [.Tuple [.Name x px, .Name y py] kt pt] X.env).map (·.2) = [assign (.Tuple [.Name x px, .Name y py] kt pt) X.env] := by rfl)
    (hn : (assignEach [.Name x px, .Name y py] X.env).length = 2 := by rfl) (hst : (assignEach [.Name x px, .Name y py] X.env).findIdx? (·.1) = none := by rfl) (ha1 : (assignEach [.Name x px, .Name y py] X.env).map (·.2) = assign (.Name x px) X.env :: (assignEach [.Name y py] X.env).map (·.2) := by rfl) (ha2 : (assignEach [.Name y py] X.env).map (·.2) = assign (.Name y py) X.env :: (assignEach [] X.env).map (·.2) := by rfl)
    (s1 : starEach [.List [] pa, e] X.env = (false, eval (.List [] pa) X.env) :: starEach [e] X.env := by rfl) (s2 : starEach [e] X.env = (false, eval e X.env) :: starEach [] X.env := by rfl) :
    JSs X r (.Assign [.Tuple [.Name x px, .Name y py] kt pt] (.Tuple [.List [] pa, e] k2 pt2) pos :: rest) S E := jss_cons fun c F σ H hr Ev G g =>
  of_ps (ps_asg (pe_tup (pa_cons pe_tE (pa_cons pe_tE pa_nil s2) s1)) (pg_tup (n := 2) hc (pgs_cons (pg_name hN hi hxl hxf) (pgs_cons (pg_name hN hj hyl hyf) pgs_nil ha2) ha1) hn hst) hs hw h1) ((jn_lst (K := fun ds S1 => ds = [] ∧ S1 = S) (jA0 ⟨[], rfl, Nat.zero_le _, rfl, rfl⟩)) c F σ H hr Ev _ fun p1 ds F1 H1 S1 h1 n1 k1 => by
    obtain ⟨rfl, rfl⟩ := h1
    obtain ⟨hh1, E1, hp1, hv1, nF1, b1, q1, no1⟩ := n1
    have f01 : c.F0 p1 = none := by
      cases z : c.F0 p1 with
      | none => rfl
      | some u => have := E1.fin.f0 _ _ z; rw [nF1] at this; cases this
    refine h (c.hold p1 hh1) F1 σ H1 (r.st c p1 hh1 b1 hr) (E1.hold hp1 nF1 q1 no1) _ fun v d F3 H3 S3 h3 E3 k3 r3 => ?_
    obtain ⟨ws1, rfl, _⟩ := obr_l hv1
    obtain ⟨E5, hp1', nF1', q1', no1'⟩ := E3.unhold (vs := .lst ws1) (fun xs z => nomatch z) b1 f01
    refine ⟨by show 2 ≤ sizeLine; decide, fun t ht => ?_⟩
    have e2 : upd H3 t (.tup [.ref p1, v]) p1 = some (.lst ws1) := by rw [upd_ne (ne_of_none hp1' ht)]; exact hp1'
    refine ⟨t, [.ref p1, v], rfl, .inl (.inl upd_same), rfl, .ref p1, [v], rfl, v, [], rfl, rfl, ?_⟩
    have E4 := E5.laid (o := .tup [.ref p1, v]) ht
    exact g.nx F3 _ _ _ h3 ((E4.setOwn (i := i) e2 (hv1.ex k3) nF1' b1 q1' no1').set r3) (k1.trans k3))
end
end DL

/-! DL: zip(x, y) of two tuples; x.count(y) of a tuple. -/
namespace DL
open PySem L2 RZ
theorem rp_wtA {K : PySem.W.Frag} {p : Bool} {F : Hp} {v : V} {d : D} {ds : List D} (w : WT p d ds) (r : Rp F v d) : ∃ a xs, v = .ref a ∧ (∀ H, Ex F H → SqT K H a xs) ∧ RpA F xs ds := by
  rcases w with rfl | ⟨_, rfl⟩
  · cases r with
    | tup ha rv => exact ⟨_, _, rfl, fun H k => .inl (.inl (k _ _ ha)), rv⟩
  · obtain ⟨a, o, xs, rfl, ha, _, rv⟩ := rp_ft r
    exact ⟨_, _, rfl, fun H k => .inl (.inr ⟨o, k _ _ ha⟩), rv⟩
theorem itzT_d {K : PySem.W.Frag} {B F : Hp} {a b : Addr} {vs ws : List V} {xs ys : List D} (h1 : ∀ H, Ex F H → SqT K H a vs) (h2 : ∀ H, Ex F H → SqT K H b ws) (rv : RpA F vs xs) (rw' : RpA F ws ys) (hl : xs.length = ys.length) : ItD (ItzT K a b) B F (zipD xs ys) := by
  have hz : (zipD xs ys).length = xs.length := by unfold zipD; rw [List.length_zipWith]; omega
  refine ⟨fun i H kb k hi => ⟨vs, ws, h1 H k, h2 H k, .inl (by rw [rv.length]; omega)⟩, fun i H kb k hi => ?_, fun i H x H' kb k y hi => ?_⟩
  · obtain ⟨v, e, _⟩ := rv.get' (i := i) (List.getElem?_eq_getElem (show i < xs.length by omega))
    obtain ⟨w, e2, _⟩ := rw'.get' (i := i) (List.getElem?_eq_getElem (show i < ys.length by omega))
    exact ⟨vs, ws, v, w, h1 H k, h2 H k, e, e2⟩
  · obtain ⟨T, x, y, rfl, n, rfl, f1, f2⟩ := y
    obtain ⟨d, e1, g1⟩ := rv.get (f1 vs (h1 H k))
    obtain ⟨d2, e2, g2⟩ := rw'.get (f2 ws (h2 H k))
    refine .inr (.inl ⟨T, [x, y], [d, d2], rfl, n, rfl, .cons g1 (.cons g2 .nil), ?_⟩)
    unfold zipD
    rw [List.getElem?_zipWith, e1, e2]
section
variable {X : Cx} {r : SR} {S : List Sl}
/-- for x, y in zip(a, b), tuples of one length -/
theorem jiZipT {p1 p2 : Bool} {e e2 : Expr} {p pos tpos : Pos} {elts : List Expr} {kk : Nat} {K : List D → List Sl → Prop} (hm : X.mg "zip" = none)
    (h : JE X r e S fun d1 S1 => JE X r e2 S1 fun d2 S2 => ∃ xs ys, WT p1 d1 xs ∧ WT p2 d2 ys ∧ xs.length = ys.length ∧ K (zipD xs ys) S2) (hg : Gl X "zip" := by rfl)
    (hs : starEach [e, e2] X.env = (false, eval e X.env) :: starEach [e2] X.env := by rfl) (hs2 : starEach [e2] X.env = (false, eval e2 X.env) :: starEach [] X.env := by rfl) (hpl : (backTo pos (starEach [e2] X.env)).any (·.1) = false := by rfl) :
    JI X r (.Tuple elts kk tpos) (.Call (.Name "zip" p) [e, e2] [] pos) S K :=
  fun c F σ H hr E R q => of_pi (pi_zipA hg hm (pa_cons pe_tE (pa_cons pe_tE pa_nil hs2) hs) hs hpl) (h c F σ H hr E _ fun v1 d1 F1 H1 S1 h1 E1 k1 r1 => h1 c F1 σ H1 hr E1 _ fun v2 d2 F2 H2 S2 h2 E2 k2 r2 => by
    obtain ⟨xs, ys, w1, w2, hl, kd⟩ := h2
    obtain ⟨a, vs, rfl, s1, rv⟩ := rp_wtA (K := X.K) w1 (r1.ex k2)
    obtain ⟨b, ws, rfl, s2, rw'⟩ := rp_wtA (K := X.K) w2 r2
    exact ⟨a, b, vs, ws, rfl, .inr ⟨s1 _ E2.fin.fh, s2 _ E2.fin.fh, q _ _ F2 H2 S2 kd E2 (k1.trans k2) (itzT_d s1 s2 rv rw' hl)⟩⟩)
/-! ### x.count(y) of a tuple known to have no dict -/
def rCntF (X : Cx) : V → List V → Hp → VK → Prop := fun x xs H Q => ∃ (F : Hp) (y : V) (d : D) (ds : List D), xs = [y] ∧ Ex F H ∧ Rp F x (ft ds) ∧ Rp F y d ∧ PyData.plainAll ds = true ∧ d.plain = true ∧
  X.A.units + 1 + min (PyData.depthAll ds) d.depth < cLine ∧ Q (.int ((ds.countP fun y => PyData.eqv y d : Nat) : Int)) H
theorem mt_cntF : MtR X "tuple.count" (rCntF X) := by
  intro pins s σ H x xs v us Q I rx rxs h
  obtain ⟨F, y, d, ds, rfl, k, rl, ry, hp, hd, hu, q⟩ := h
  obtain ⟨uy, rfl, ruy⟩ := vals1 rxs
  obtain ⟨bs, r1⟩ := Rp.reads k I.hok ry ruy hd
  obtain ⟨as, r2⟩ := ft_reads k I.hok rl rx hp
  cases r2 with
  | tuple h1 h2 h3 h4 =>
    exact PySem.SeqAt.count_tuple_data ⟨_, h1, h2, _, h3⟩ h4 r1 hp hd hu ⟨.int _, H, I.tok _, ⟨_, rfl⟩, q⟩
theorem je_cntF {K : D → List Sl → Prop} {o e : Expr} {apos cpos : Pos} {k : Nat} (hr : Room k X.A) (h : JE X r o S fun d0 S0 => ∃ ds : List D, d0 = ft ds ∧ JE X r e S0 fun d1 S1 => (∀ d ∈ ds, Nice 50 d) ∧ Nice 50 d1 ∧ K (.int ((ds.countP fun y => PyData.eqv y d1 : Nat) : Int)) S1)
    (hp : ∀ {rr : V → List V → Hp → VK → Prop}, MtR X "tuple.count" rr → PE X (.Call (.Attribute o "count" apos) [e] [] cpos) (tBMF rr (tE X o) (tCons (tE X e) tNil)) := by exact fun hm => pe_bmF PySem.F.plainAttrs_tuple PySem.F.slot_tuple_count PySem.F.type_tuple_count hm pe_tE (pa_cons pe_tE pa_nil)) :
    JE X r (.Call (.Attribute o "count" apos) [e] [] cpos) S K := fun c F σ H hr' E Q q =>
  of_pe (hp mt_cntF) (h c F σ H hr' E _ fun v0 d0 F0 H0 S0 h0 E0 k0 r0 => by
    obtain ⟨ds, rfl, h0⟩ := h0
    refine ⟨?_, h0 c F0 σ H0 hr' E0 _ fun v1 d1 F1 H1 S1 h1 E1 k1 r1 => ?_⟩
    · obtain ⟨a, ob, ws, rfl, ha, hod, rv⟩ := rp_ft r0
      exact ⟨a, ob, ws, rfl, E0.fin.fh _ _ ha, hod⟩
    · obtain ⟨n1, n2, kk⟩ := h1
      refine ⟨F1, v1, d1, ds, rfl, E1.fin.fh, r0.ex k1, r1, plainAll_of fun d hd => (n1 d hd).pl, n2.pl, ?_, q _ _ F1 H1 S1 kk E1 (k0.trans k1) (.int _)⟩
      have h50 : min (PyData.depthAll ds) d1.depth ≤ 50 := Nat.le_trans (Nat.min_le_right _ _) n2.dp
      have := units_le hr (n := 50) (by decide)
      omega)
end
/-! ### repr of a tuple, or a list, above such tuples -/
def UT (p : Bool) (d v : D) : Prop := ∃ ds vs, d = .tuple ds ∧ v = .tuple vs ∧ UWA p ds vs
theorem UT.shows {P : Program} {w : World} {F H : Hp} {h : Heap} {p : Bool} {B L : Nat} (k : Ex F H) (ok : HOk P w H h) {a : Addr} {d v : D} (hd : UT p d v) (r : Rp F (.ref a) d) (hp : okD B L v = true) (hs : v.showable = true) (hsz : v.shown.length ≤ sizeLine) : ∃ T idr, ShowsBy P w h a v T idr := by
  obtain ⟨ds, vs, rfl, rfl, hu⟩ := hd
  cases r with
  | @tup a' xs ds q r =>
    obtain ⟨_, its, rw', o', ho, hc, n, hd⟩ := ok _ _ (k _ _ q)
    rw [okD, Bool.and_eq_true] at hp
    have hz' : (tupleText (PyData.shownAll vs)).length ≤ sizeLine := by simpa only [PyData.shown] using hsz
    obtain ⟨bs, hb, hk⟩ := UWA.reprK k ok hu r rw' hp.2 (by simpa [PyData.showable] using hs) (fun t ht => Nat.le_trans (tupleText_mem_le ht) hz')
    obtain ⟨as, hr⟩ := UWA.reads k ok hu r rw' hp.2
    have rr : Reads h (.ref a) (.tuple vs) as := .tuple ho hc hd (by simpa using hr)
    have hna : a ∉ bs := not_mem_of_deeper rr (by simp only [PyData.depth]; omega) hb
    refine ⟨"tuple", "tuple.__repr__", PySem.F.slot_tuple_repr, PySem.F.slot_tuple_str, PySem.F.slot_tuple_format, fun s hk0 => ⟨_, hk0 _ _ ho, hc⟩, fun A E s Q hg hu hk0 hQ => ?_⟩
    simp only [PyData.depth] at hu
    simp only [PyData.shown] at hQ
    exact call_tuple_reprK ho hc hd hna (by simpa using hk) hg (fun b _ => Clear.nil b) hu hk0 hQ hz'
section
variable {X : Cx} {r : SR} {S : List Sl} {p : Bool}
def rReprT (X : Cx) (p : Bool) : List V → Hp → VK → Prop := fun vs H Q => ∃ F x d v B L, vs = [x] ∧ Ex F H ∧ Rp F x d ∧ UT p d v ∧ okD B L v = true ∧ v.showable = true ∧ X.A.units + (v.depth + 1) < cLine ∧ v.shown.length ≤ sizeLine ∧ Q (.str v.shown) H
theorem call_reprT (hg : X.A.guards = some []) : CallR X (.builtin "repr") (rReprT X p) := by
  intro pins s σ H xs us Q I rr h
  obtain ⟨F, x, d, v, B, L, rfl, k, rp, hul, hpl, hs, hu, hz, q⟩ := h
  obtain ⟨u, rfl, rx⟩ := vals1 rr
  obtain ⟨a, rfl⟩ : ∃ a, x = V.ref a := by
    obtain ⟨ds, vs, rfl, rfl, hu⟩ := hul
    cases rp with
    | tup _ _ => exact ⟨_, rfl⟩
  cases rx
  obtain ⟨T, idr, S⟩ := UT.shows k I.hok hul rp hpl hs hz
  exact call_repr_slot (by omega) (S.typeIs s fun _ _ e => e) S.slotRepr (S.call X.A.in1 X.xe s _ hg (by show X.A.units + 1 + v.depth < cLine; omega) (fun _ _ e => e) fun h' u tk hk => ⟨_, _, rfl, ⟨.str _, H, I.kept hk, ⟨_, rfl⟩, q⟩⟩)
theorem jreprT {K : D → List Sl → Prop} {a : Expr} {pp pos : Pos} {k : Nat} (hg0 : X.A.guards = some []) (hr : Room k X.A) (hm : X.mg "repr" = none) (h : JE X r a S fun d S1 => ∃ v, UT p d v ∧ ShW v ∧ K (.str v.shown) S1)
    (hg : Gl X "repr" := by rfl) (hs : starEach [a] X.env = (false, eval a X.env) :: starEach [] X.env := by rfl) : JE X r (.Call (.Name "repr" pp) [a] [] pos) S K :=
  jB (call_reprT (p := p) hg0) hm (ja1 (h.mono fun d S' ⟨v, hu, sh, k⟩ => ⟨[d], rfl, fun F H vs kF rv Q q => by
    obtain ⟨B, L, h, hB, hk, hw⟩ := sh.ex
    cases rv with
    | cons r1 t =>
      cases t
      exact ⟨F, _, d, v, B, L, rfl, kF, r1, hu, h, okD_show hB h, by have := hr.un; omega, PyData.shown_fits (B := 13) (by decide) (by decide) (okD_short hB h) hw, q _ _ F H k (Grow.refl kF) (.str _)⟩⟩) hs) hg (he := hs)
/-- sorted(t), t a tuple of tuples of ints -/
theorem jsortTG {pp : Bool} {K : List D → List Sl → Prop} {a : Expr} {p pos : Pos} {k : Nat} (hr : Room k X.A) (hm : X.mg "sorted" = none) (h : JE X r a S fun d S1 => ∃ ls : List (List Int), WT pp d (ls.map tupI) ∧ K ((sortL ls).map tupI) S1) (hg : Gl X "sorted" := by rfl) (hs : starEach [a] X.env = (false, eval a X.env) :: starEach [] X.env := by rfl) : JN X r (.Call (.Name "sorted" p) [a] [] pos) S K :=
  jnB (call_sortG (pp := pp)) hm (ja1 (h.mono fun d S1 ⟨ls, w, kk⟩ => ⟨[d], rfl, by
    intro F H vs kF rv Q q
    cases rv with
    | cons r1 t =>
      cases t
      refine ⟨F, _, d, _, rfl, kF, w, r1, PySem.W.AllAlike.of alike_tupI, fun d hd => ?_, fun d hd => ?_, by have := hr.un; omega, fun p ws rw' n => q p ws _ kk n ?_⟩
      · obtain ⟨c, _, rfl⟩ := List.mem_map.mp hd
        exact ⟨_, rfl⟩
      · obtain ⟨c, _, rfl⟩ := List.mem_map.mp hd
        exact ⟨(nice_tupI (n := 1) c).pl, by rw [depth_tupI c]; decide⟩
      · rw [sort_map dataLe_tupI] at rw'
        exact rw'⟩) hs) hg (by decide +kernel) (by decide) (by decide) hs rfl
theorem eqv_tupI (a b : List Int) : PyData.eqv (tupI a) (tupI b) = decide (a = b) := PySem.W.Datum.eqv (⟨a⟩ : PySem.W.Tup Int) ⟨b⟩ |>.trans (decide_eq_decide.mpr ⟨fun e => by injection e, fun e => by rw [e]⟩)
end
end DL

namespace K61
open PySem L2 DL
def topS (i : Nat) : Stmt := PySem.Challenge.pw_shelledlots_k61_road_sums.main.body.getD i (.Pass ⟨0, 0, 0, 0⟩)
theorem sc_law_source : FnScope ["script", "mixed", "cell"] ["script"] (defScope (topS 13)) := ⟨rfl, rfl, rfl, by decide +kernel, rfl, by decide +kernel, by decide +kernel⟩
theorem sc_law_pick : FnScope ["source", "many", "left", "mixed"] ["source", "many"] (defScope (topS 14)) := ⟨rfl, rfl, rfl, by decide +kernel, rfl, by decide +kernel, by decide +kernel⟩
structure Txt (mg : Str → Option Value) : Prop where
  ran : mg "range" = none
  tup : mg "tuple" = none
  all : mg "all" = none
  len : mg "len" = none
  lst : mg "list" = none
  enu : mg "enumerate" = none
/-! ### data -/
def lotD (l : List Int) : D := .tuple (l.map .int)
def ordD (n : Nat) (lots : List (List Int)) : D := .tuple [.int n, .tuple (lots.map lotD)]
def optD : Option Int → D
  | none => .none
  | some i => .int i
theorem nice_lot {k : Nat} (l : List Int) : Nice (k + 1) (lotD l) := nice_tup (nice_map fun a => nice_int a)
theorem lot_at {lots : List (List Int)} {a : Nat} (h : a < lots.length) : (lots.map lotD)[a]? = some (lotD (lots.getD a [])) := by
  rw [List.getElem?_map, List.getElem?_eq_getElem h, List.getD_eq_getElem?_getD, List.getElem?_eq_getElem h]
  rfl
theorem lot_atI {lots : List (List Int)} {a : Int} (h0 : 0 ≤ a) (h : a < lots.length) : atI (lots.map lotD) a = some (lotD (lots.getD a.toNat [])) := by
  obtain ⟨j, rfl⟩ : ∃ j : Nat, a = j := ⟨a.toNat, by omega⟩
  exact atI_nn (lot_at (by omega))
/-- x under y -/
def leB (lots : List (List Int)) (x y : Int) : Bool := decide (x ∈ lots.getD y.toNat [])
def ups (n : Nat) (lots : List (List Int)) (lot : List Int) : List Int := ((List.range n).filter fun (y : Nat) => lot.all fun x => leB lots x (y : Int)).map Int.ofNat
def downs (n : Nat) (lots : List (List Int)) (lot : List Int) : List Int := ((List.range n).filter fun (x : Nat) => lot.all fun y => leB lots (x : Int) y).map Int.ofNat
def leasts (lots : List (List Int)) (l : List Int) : List Int := l.filter fun x => l.all fun y => leB lots x y
def greats (lots : List (List Int)) (l : List Int) : List Int := l.filter fun x => l.all fun y => leB lots y x
def joinO (n : Nat) (lots : List (List Int)) (lot : List Int) : Option Int := (leasts lots (ups n lots lot)).head?
def meetO (n : Nat) (lots : List (List Int)) (lot : List Int) : Option Int := (greats lots (downs n lots lot)).head?
def inR (n : Nat) (l : List Int) : Prop := ∀ x ∈ l, 0 ≤ x ∧ x < n
theorem ups_inR (n : Nat) (lots : List (List Int)) (lot : List Int) : inR n (ups n lots lot) := fun x hx => by
  obtain ⟨a, ha, rfl⟩ := List.mem_map.mp hx
  have := List.mem_range.mp (List.mem_filter.mp ha).1
  exact ⟨Int.natCast_nonneg a, by exact Int.ofNat_lt.mpr this⟩
theorem downs_inR (n : Nat) (lots : List (List Int)) (lot : List Int) : inR n (downs n lots lot) := fun x hx => by
  obtain ⟨a, ha, rfl⟩ := List.mem_map.mp hx
  have := List.mem_range.mp (List.mem_filter.mp ha).1
  exact ⟨Int.natCast_nonneg a, by exact Int.ofNat_lt.mpr this⟩
theorem ups_len (n : Nat) (lots : List (List Int)) (lot : List Int) : (ups n lots lot).length ≤ n := by
  unfold ups
  rw [List.length_map]
  have h := List.length_filter_le (fun (y : Nat) => lot.all fun x => leB lots x (y : Int)) (List.range n)
  rw [List.length_range] at h
  exact h
theorem downs_len (n : Nat) (lots : List (List Int)) (lot : List Int) : (downs n lots lot).length ≤ n := by
  unfold downs
  rw [List.length_map]
  have h := List.length_filter_le (fun (y : Nat) => lot.all fun x => leB lots (y : Int) x) (List.range n)
  rw [List.length_range] at h
  exact h
theorem map_ofNat (l : List Nat) : l.map (fun i : Nat => PyData.int (i : Int)) = (l.map Int.ofNat).map .int := by
  rw [List.map_map]; rfl
section
variable {P : Program} {w : World} {K : PySem.W.Frag} {mg : Str → Option Value} {base : Heap}
/-! ### the package -/
def φA : List Ar → (D → Prop) → Prop := fun as Kd => ∃ (n : Nat) (lots : List (List Int)) (lot : List Int), as = [.d (ordD n lots), .d (lotD lot)] ∧ lots.length = n ∧ n ≤ 1000 ∧ lot.length ≤ 1000 ∧ Kd (lotD (ups n lots lot))
def φU : List Ar → (D → Prop) → Prop := fun as Kd => ∃ (n : Nat) (lots : List (List Int)) (lot : List Int), as = [.d (ordD n lots), .d (lotD lot)] ∧ lots.length = n ∧ n ≤ 1000 ∧ lot.length ≤ 1000 ∧ inR n lot ∧ Kd (lotD (downs n lots lot))
def φJ : List Ar → (D → Prop) → Prop := fun as Kd => ∃ (n : Nat) (lots : List (List Int)) (lot : List Int), as = [.d (ordD n lots), .d (lotD lot)] ∧ lots.length = n ∧ n ≤ 1000 ∧ lot.length ≤ 1000 ∧ Kd (optD (joinO n lots lot))
def φM : List Ar → (D → Prop) → Prop := fun as Kd => ∃ (n : Nat) (lots : List (List Int)) (lot : List Int), as = [.d (ordD n lots), .d (lotD lot)] ∧ lots.length = n ∧ n ≤ 1000 ∧ lot.length ≤ 1000 ∧ inR n lot ∧ Kd (optD (meetO n lots lot))
/-- is an order a lattice -/
def isLatB (n : Nat) (lots : List (List Int)) : Bool := (List.range n).all fun x => (List.range (x + 1)).all fun y => (joinO n lots [(x : Int), (y : Int)]).isSome && (meetO n lots [(x : Int), (y : Int)]).isSome
theorem isNone_opt (o : Option Int) : isNone (optD o) = !o.isSome := by cases o <;> rfl
def φOrd (g : Nat → List (List Int) → D) : List Ar → (D → Prop) → Prop := fun as Kd => ∃ (n : Nat) (lots : List (List Int)), as = [.d (ordD n lots)] ∧ lots.length = n ∧ n ≤ 1000 ∧ Kd (g n lots)
/-! ### the law's own looks -/
def φUn : List Ar → (D → Prop) → Prop := fun as Kd => ∃ (n : Nat) (lots : List (List Int)) (x y : Int), as = [.d (ordD n lots), .d (.int x), .d (.int y)] ∧ lots.length = n ∧ 0 ≤ y ∧ y < n ∧ Kd (.bool (leB lots x y))
theorem isEmpty_filter_not {α : Type} (l : List α) (p : α → Bool) : (l.filter fun x => !p x).isEmpty = l.all p := by
  induction l with
  | nil => rfl
  | cons x l ih =>
    rw [List.filter_cons, List.all_cons]
    cases p x with
    | true => simpa using ih
    | false => rfl
theorem isEmpty_map {α β : Type} (l : List α) (g : α → β) : (l.map g).isEmpty = l.isEmpty := by cases l <;> rfl
/-- a lattice by the pairs of two -/
def isLatL (n : Nat) (lots : List (List Int)) : Bool := (List.range n).all fun x => (List.range x).all fun y => (joinO n lots [(x : Int), (y : Int)]).isSome && (meetO n lots [(x : Int), (y : Int)]).isSome
def turn (n : Nat) (lots : List (List Int)) : List (List Int) := (List.range n).map fun (x : Nat) => ups n lots [(x : Int)]
def within (one other : List Int) : Bool := one.all fun x => decide (x ∈ other)
def φW : List Ar → (D → Prop) → Prop := fun as Kd => ∃ (one other : List Int), as = [.d (lotD one), .d (lotD other)] ∧ one.length ≤ 1000 ∧ Kd (.bool (within one other))
def ofLots (ls : List (List Int)) : List (List Int) := ls.map fun one => ((List.range ls.length).filter fun k => within (ls.getD k []) one).map Int.ofNat
theorem enumD_lots (ls : List (List Int)) : enumD (ls.map lotD) = (List.range ls.length).map fun (i : Nat) => PyData.tuple [.int (i : Int), lotD (ls.getD i [])] := by
  unfold enumD
  rw [List.length_map]
  refine List.map_congr_left fun i hi => ?_
  have := List.mem_range.mp hi
  rw [List.getD_eq_getElem?_getD, lot_at this]
  rfl
def φOL : List Ar → (D → Prop) → Prop := fun as Kd => ∃ (ls : List (List Int)), as = [.d (.list (ls.map lotD))] ∧ ls.length ≤ 1000 ∧ (∀ l ∈ ls, l.length ≤ 1000) ∧ Kd (ordD ls.length (ofLots ls))
end
end K61

namespace K61
open PySem L2 DL
structure Txs (mg : Str → Option Value) : Prop where
  len : mg "len" = none
  max : mg "max" = none
  int : mg "int" = none
  abs : mg "abs" = none
section
variable {P : Program} {w : World} {K : PySem.W.Frag} {mg : Str → Option Value} {base : Heap}
theorem ok_pick {f : Addr} {fd : FuncData} (F : Fun K "_law_pick" "_law_pick" (topS 14) f fd) (T : Txs mg) : FnOk P w K mg base CX0 1 f fd ["source", "many"] (SpD φPick) := by
  have sc := sc_law_pick
  refine F.ok sc (fun vs H Q E h => ?_) (fun cdv A outer s H vs Q E hr h => ?_)
  · obtain ⟨c, as, Kd, fn, ra, ⟨many, rfl, _⟩, _⟩ := h
    rw [ra.length]; rfl
  · obtain ⟨c, as, Kd, fn, ra, ⟨many, rfl, hm, k⟩, q⟩ := h
    have hu := hu_of hr
    cases ra with
    | @cons v1 _ vs1 _ r1 t1 =>
    cases t1 with
    | @cons v2 _ vs2 _ r2 t2 =>
    cases t2
    obtain ⟨p, ep, rfl⟩ := r1
    have r2 : Rp c.F0 v2 (.int many) := r2
    cases r2
    obtain ⟨⟨cs0, a0, b0, c0, h1, h2⟩, f1, f2, b1, b2⟩ := fn.src p ep
    have at0 : At p H H cs0.length := ⟨⟨cs0, a0, b0, c0, rfl, h1, h2⟩, fun _ _ _ _ e => e⟩
    have fin : ∀ {H' : Hp} {n : Nat} (v : Int), At p H H' n → 0 ≤ v → v < (if many > 1 then many else 1) → Q (.int v) H' := fun {H' n} v h v0 v1 => by
      refine q _ _ c.F0 H' (k v v0 v1) ?_ (.int v)
      obtain ⟨⟨cs, x, y, z, _, g1, g2⟩, kk⟩ := h
      refine ⟨Ex.refl _, fun a o e => kk a o ?_ ?_ (fn.fh a o e), fun a o e => kk a o ?_ ?_ (fn.bh a o e), fun _ _ _ => .inl rfl, fun p' ep' => ?_⟩
      · intro z; rw [z, f1] at e; cases e
      · intro z; rw [z, f2] at e; cases e
      · intro z; rw [z, b1] at e; cases e
      · intro z; rw [z, b2] at e; cases e
      · rw [ep] at ep'; cases ep'
        exact ⟨⟨cs, x, y, z, g1, g2⟩, f1, f2, b1, b2⟩
    refine ⟨_, pss_cons (ps_while PassesOwn.never (PW.pt (pw_and (pt_cmpR op_gt (pv 1) pe_int (nomark _)) (pw_and (pt_cmpR op_lt (pe_dget hu (pv 0) pe_str (fun _ _ => rfl)) pe_int (nomark _))
        (pw_and1 (pt_cmpR op_gt (pe_callB call_len_seq (by rfl) T.len PySem.boot_len (pa_cons (pe_dget hu (pv 0) pe_str (fun _ _ => rfl)) pa_nil)) pe_int (nomark _))))))
        (pss_one (ps_dput hu (pv 0) pe_str (pe_bm0 PySem.F.plainAttrs_list PySem.F.slot_list_pop PySem.F.type_list_pop mt_pop (pe_dget hu (pv 0) pe_str (fun _ _ => rfl))) rfl)))
      (pss_cons (ps_set (i := 2) sc.nd rfl (.inl rfl) (pe_dget hu (pv 0) pe_str (fun _ _ => rfl)))
      (pss_cons (ps_if (PW.pt (pw_or (pt_cmpR op_lt (pv 1) pe_int (nomark _)) (pw_or1 (pt_cmpR op_gt (pv 2) pe_int (nomark _)))))
        (pss_cons (ps_dput hu (pv 0) pe_str (pe_op op_fdiv (pv 2) (pe_callB (call_max2 rfl) (by rfl) T.max (by decide +kernel) (pa_cons pe_int (pa_cons (pv 1) pa_nil)))) rfl)
          (pss_one (ps_ret (pe_op op_mod (pe_callTy call_int1 (by rfl) T.int (by decide +kernel) (pa_cons (pv 2) pa_nil)) (pe_callB (call_max2 rfl) (by rfl) T.max (by decide +kernel) (pa_cons pe_int (pa_cons (pv 1) pa_nil))))))) pss_nil)
      (pss_cons (ps_dput hu (pv 0) pe_str (pe_op op_add (pe_dget hu (pv 0) pe_str (fun _ _ => rfl)) pe_int) rfl)
      (pss_cons (ps_set (i := 3) sc.nd rfl (.inl rfl) (pe_op op_mod (pe_callTy call_int1 (by rfl) T.int (by decide +kernel) (pa_cons (pe_op op_add (pe_dget hu (pv 0) pe_str (fun _ _ => rfl)) (pe_op op_mul (pe_dget hu (pv 0) pe_str (fun _ _ => rfl)) pe_int)) pa_nil)) pe_int))
      (pss_cons (ps_set (i := 3) sc.nd rfl (.inl rfl) (pe_op op_mod (pe_callTy call_int1 (by rfl) T.int (by decide +kernel) (pa_cons (pe_op op_add (pe_op op_mul (pv 3) (pv 3)) (pe_op op_mul (pe_dget hu (pv 0) pe_str (fun _ _ => rfl)) pe_int)) pa_nil)) pe_int))
      (pss_cons (ps_dput hu (pv 0) pe_str (pv 3) rfl)
      (pss_one (ps_ret (pe_op op_mod (pe_callTy call_int1 (by rfl) T.int (by decide +kernel) (pa_cons (pe_op op_fdiv (pv 3) pe_int) pa_nil)) (pv 1)))))))))), ?_⟩
    -- the loop
    refine whl (fun m σ H' => σ = [some (.ref p.1), some (.int many), none, none] ∧ At p H H' m) cs0.length ⟨rfl, at0⟩ ?_ ?_
    · rintro m σ H' ⟨rfl, hat⟩
      obtain ⟨⟨cs, x, y, z, el, g1, g2⟩, _⟩ := id hat
      -- left = source['left']
      refine ⟨_, rfl, _, _, rfl, dgL g1, ?_⟩
      -- if many < 2 or left > 1
      have hlast : 0 < (if many > 1 then many else 1) := by split <;> omega
      have thn : ∀ b : Bool, (b = true → tSeq (sDPut (tVar 0) (tC (.str "left")) (tOp (rI CDiv fun i j => .int (i / j)) (tVar 2) (tCB (fun xs H Q => ∃ i j, xs = [.int i, .int j] ∧ Q (.int (if j > i then j else i)) H) (tCons (tC (.int 1)) (tCons (tVar 1) tNil)))))
          (tRet (tOp (rI (fun _ j => 0 < j) fun i j => .int (i % j)) (tCB (fun xs H Q => (∃ i, xs = [.int i] ∧ Q (.int i) H) ∨ ∃ k, xs = [.bl k] ∧ Q (.int (if k then 1 else 0)) H) (tCons (tVar 2) tNil)) (tCB (fun xs H Q => ∃ i j, xs = [.int i, .int j] ∧ Q (.int (if j > i then j else i)) H) (tCons (tC (.int 1)) (tCons (tVar 1) tNil))))) { nx := fun _ H' => Q .non H', rt := Q } [some (.ref p.1), some (.int many), some (.int x), none] H') := fun b _ => by
        refine ⟨.int x, rfl, .int many, rfl, 1, many, rfl, x, _, rfl, rfl, ⟨hlast, ?_⟩, ?_⟩
        · split <;> omega
        · refine ⟨_, rfl, p.1, _, rfl, dpL _ g1, ?_⟩
          refine ⟨_, rfl, Or.inl ⟨x, rfl, .int many, rfl, 1, many, rfl, x, _, rfl, rfl, hlast, ?_⟩⟩
          exact fin _ (hat.put _ _ _) (Int.emod_nonneg _ (by omega)) (Int.emod_lt_of_pos _ hlast)
      refine ⟨_, rfl, many, 2, rfl, rfl, _, rfl, ?_⟩
      refine ite2 (fun h1 => iteT (thn true rfl)) (fun h1 => ?_)
      refine ⟨_, rfl, x, 1, rfl, rfl, _, rfl, ?_⟩
      refine ite2 (fun h2 => thn true rfl) (fun h2 => ?_)
      have hm2 : 1 < many := by
        have := of_decide_eq_false (Bool.not_eq_true _ ▸ h1)
        omega
      -- turn, mixed
      refine ⟨_, rfl, p.1, _, rfl, dgT g1, z, 1, rfl, rfl, _, rfl, p.1, _, rfl, dpT _ g1, ?_⟩
      have hat1 := hat.put x y (z + 1)
      have g3 : (upd H' p.1 (srcO p.2 x y (z + 1))) p.1 = some (srcO p.2 x y (z + 1)) := upd_same
      generalize upd H' p.1 (srcO p.2 x y (z + 1)) = H1 at *
      refine ⟨_, rfl, p.1, _, rfl, dgM g3, _, rfl, p.1, _, rfl, dgT g3, z + 1, 104729, rfl, rfl, .inr ⟨by decide, by decide⟩, y, _, rfl, rfl, Or.inl ⟨_, rfl, _, 998244353, rfl, rfl, by show (0 : Int) < 998244353; decide, ?_⟩⟩
      have e0 := Int.emod_nonneg (y + (z + 1) * 104729) (show (998244353 : Int) ≠ 0 by decide)
      have e1 := Int.emod_lt_of_pos (y + (z + 1) * 104729) (show (0 : Int) < 998244353 by decide)
      refine ⟨.int ((y + (z + 1) * 104729) % 998244353), rfl, .int ((y + (z + 1) * 104729) % 998244353), rfl, ((y + (z + 1) * 104729) % 998244353), ((y + (z + 1) * 104729) % 998244353), rfl, rfl, .inl ⟨by omega, by omega⟩, _, rfl, p.1, _, rfl, dgT g3, z + 1, 17, rfl, rfl, .inr ⟨by decide, by decide⟩, _, _, rfl, rfl, Or.inl ⟨_, rfl, _, 2147483647, rfl, rfl, by show (0 : Int) < 2147483647; decide, ?_⟩⟩
      refine ⟨.int ((((y + (z + 1) * 104729) % 998244353) * ((y + (z + 1) * 104729) % 998244353) + (z + 1) * 17) % 2147483647), rfl, _, rfl, p.1, _, rfl, dpM ((((y + (z + 1) * 104729) % 998244353) * ((y + (z + 1) * 104729) % 998244353) + (z + 1) * 17) % 2147483647) g3, ?_⟩
      refine ⟨.int ((((y + (z + 1) * 104729) % 998244353) * ((y + (z + 1) * 104729) % 998244353) + (z + 1) * 17) % 2147483647), rfl, ((((y + (z + 1) * 104729) % 998244353) * ((y + (z + 1) * 104729) % 998244353) + (z + 1) * 17) % 2147483647), 16, rfl, rfl, ⟨by decide, by decide⟩, Or.inl ⟨_, rfl, _, rfl, _, many, rfl, rfl, by omega, ?_⟩⟩
      have hlast : (if many > 1 then many else 1) = many := if_pos hm2
      refine fin _ (hat1.put _ _ _) (Int.emod_nonneg _ (by omega)) ?_
      rw [hlast]
      exact Int.emod_lt_of_pos _ (by omega)
    · rintro X hX m σ H' ⟨rfl, hat⟩
      obtain ⟨⟨cs, x, y, z, el, g1, g2⟩, _⟩ := id hat
      refine ⟨_, rfl, _, _, rfl, rfl, _, rfl, ?_⟩
      refine ite2 (fun h1 => ?_) (fun h1 => iteF (hX m _ _ ⟨rfl, hat⟩))
      refine ⟨_, rfl, p.1, _, rfl, dgL g1, _, _, rfl, rfl, _, rfl, ?_⟩
      refine ite2 (fun h2 => ?_) (fun h2 => iteF (hX m _ _ ⟨rfl, hat⟩))
      refine ⟨_, rfl, p.1, _, rfl, dgC g1, p.2, _, rfl, Or.inl (Or.inl (Or.inl g2)), _, _, rfl, rfl, _, rfl, ?_⟩
      refine ite2 (fun h3 => ?_) (fun h3 => hX m _ _ ⟨rfl, hat⟩)
      refine ⟨fun σ' H2 => σ' = [some (.ref p.1), some (.int many), none, none] ∧ At p H H2 cs.dropLast.length, fun σ' H2 ⟨e, h⟩ => ⟨cs.dropLast.length, ?_, e, h⟩, ?_⟩
      · have := of_decide_eq_true h3
        rw [List.length_map] at this
        rw [List.length_dropLast]
        omega
      · have hpos : 0 < cs.length := by
          have := of_decide_eq_true h3
          rw [List.length_map] at this
          omega
        refine ⟨_, rfl, p.1, _, rfl, dgC g1, Or.inl ⟨rfl, _, Or.inl (Or.inl g2)⟩, p.2, _, .int (cs.getLast (by intro e; rw [e] at hpos; cases hpos)), rfl, rfl, g2, ?_, ?_⟩
        · rw [List.length_map, List.getElem?_map, ← List.getLast?_eq_getElem?, List.getLast?_eq_some_getLast]
          rfl
        · have hp := hat.pop (cs := cs.dropLast) g1
          have e2 : (cs.map V.int).dropLast = cs.dropLast.map V.int := List.map_dropLast.symm
          rw [e2]
          have g1' : (upd H' p.2 (.lst (cs.dropLast.map V.int))) p.1 = some (srcO p.2 x y z) := by rw [upd_ne hat.ne.symm]; exact g1
          refine ⟨_, rfl, p.1, _, rfl, dpL _ g1', rfl, ?_⟩
          exact hp.put _ _ _
theorem ok_source {f : Addr} {fd : FuncData} (F : Fun K "_law_source" "_law_source" (topS 13) f fd) (T : Txs mg) : FnOk P w K mg base CX0 1 f fd ["script"] (spSource K) := by
  have sc := sc_law_source
  refine F.ok sc (fun vs H Q E h => ?_) (fun cdv A outer s H vs Q E hr h => ?_)
  · obtain ⟨a, ns, rfl, _⟩ := h
    rfl
  · obtain ⟨a, ns, rfl, hS, hl, q⟩ := h
    refine ⟨_, pss_cons (ps_set (i := 1) sc.nd rfl (.inl rfl) pe_int)
      (pss_cons (ps_for PassesOwn.never rfl (pi_list (pv 0)) (pg_name (i := 2) sc.nd rfl (.inl rfl)) (pss_one (ps_set (i := 1) sc.nd rfl (.inl rfl)
        (pe_op op_mod (pe_callTy call_int1 (by rfl) T.int (by decide +kernel) (pa_cons (pe_op op_add (pe_op op_add (pe_op op_mul (pv 1) pe_int) (pe_op op_mul (pv 2) pe_int)) pe_int) pa_nil)) pe_int))))
      (pss_one (ps_ret (pe_disp (pps_cons pe_str (pe_revL (pe_lc (own := [("cell", 2)]) (g := gName 2) (tt := tYes) rfl sc.nd (pi_list (pv 0)) (blkOk_by rfl) (fun _ _ _ _ _ => pg_name (i := 2) sc.nd rfl (Or.inl rfl)) (fun _ _ _ _ _ => pts_nil)
          (fun _ _ _ _ _ => pe_callB call_abs (by rfl) T.abs (by decide +kernel) (pa_cons (pv 2) pa_nil))))
        (pps_cons pe_str pe_int (pps_cons pe_str (pv 1) (pps_cons pe_str pe_int pps_nil)))) rfl rfl (by intro e; cases e) (by decide))))), ?_⟩
    refine ⟨_, rfl, a, rfl, ⟨_, hS⟩, for_list (K := K) (a := a) (xs := ns.map V.int) (fun i σ H' => H' = H ∧ ∃ (m : Int) (y : Option V), 0 ≤ m ∧ m < 2147483629 ∧ σ = [some (.ref a), some (.int m), y]) ⟨rfl, 11, none, by decide, by decide, rfl⟩ (fun i σ H' _ h => by rw [h.1]; exact hS) ?_ ?_⟩
    · rintro i x σ H' hx ⟨rfl, m, y, m0, m1, rfl⟩
      obtain ⟨u, rfl⟩ : ∃ u, x = V.int u := by
        rw [List.getElem?_map] at hx
        cases e : ns[i]? with
        | none => rw [e] at hx; cases hx
        | some u => rw [e] at hx; exact ⟨u, (Option.some.inj hx).symm⟩
      refine ⟨.int m, rfl, m, 69069, rfl, rfl, .inr ⟨by decide, by decide⟩, .int u, rfl, u, 31, rfl, rfl, .inr ⟨by decide, by decide⟩, _, _, rfl, rfl, _, 5, rfl, rfl, Or.inl ⟨_, rfl, _, 2147483629, rfl, rfl, by show (0 : Int) < 2147483629; decide, ?_⟩⟩
      exact ⟨rfl, _, _, Int.emod_nonneg _ (by decide), Int.emod_lt_of_pos _ (by decide), rfl⟩
    · rintro σ H' ⟨rfl, m, y, m0, m1, rfl⟩
      intro p hp
      have s1 : Same H' (upd H' p (.dK [])) := same_upd hp
      refine ⟨_, rfl, a, rfl, ⟨_, s1.seq hS⟩, fun D nD => ?_⟩
      have nDp : D ≠ p := fun e => by rw [e, upd_same] at nD; cases nD
      have nD0 : H' D = none := by rw [upd_ne nDp] at nD; exact nD
      refine lc_list (K := K) (a := a) (xs := ns.map V.int) (fun i H2 => Same H' H2 ∧ H2 p = some (.dK []) ∧ ∃ cs : List Int, cs.length = i ∧ H2 D = some (.lst (cs.map V.int))) ⟨same_upd2 s1 nD0, by rw [upd_ne nDp.symm]; exact upd_same, [], rfl, upd_same⟩ (fun i H2 _ h => h.1.seq hS) ?_ ?_
      · rintro i x H2 hx ⟨sm, hp2, cs, ec, hD⟩
        have hi : i < ns.length := by
          have := (List.getElem?_eq_some_iff.mp hx).1
          rw [List.length_map] at this; exact this
        obtain ⟨u, rfl⟩ : ∃ u, x = V.int u := by
          rw [List.getElem?_map] at hx
          cases e : ns[i]? with
          | none => rw [e] at hx; cases hx
          | some u => rw [e] at hx; exact ⟨u, (Option.some.inj hx).symm⟩
        refine ⟨rfl, ?_⟩
        unfold tYes
        dsimp only
        rw [if_pos rfl]
        refine ⟨.int u, rfl, u, rfl, cs.map V.int, hD, ?_, ?_⟩
        · rw [List.length_map, ec]
          have : sizeLine = 16777216 := sizeLine_eq
          omega
        · refine ⟨same_upd2 sm nD0, by rw [upd_ne nDp.symm]; exact hp2, cs ++ [if u < 0 then -u else u], by rw [List.length_append, ec]; rfl, ?_⟩
          rw [upd_same, List.map_append]
          rfl
      · rintro H2 ⟨sm, hp2, cs, ec, hD⟩
        refine ⟨D, cs.map V.int, rfl, .inl (.inl hD), fun l nl => ?_⟩
        have nlp : l ≠ p := fun e => by rw [e, hp2] at nl; cases nl
        have nl0 : H' l = none := sm.free nl
        refine ⟨.int m, rfl, ?_⟩
        refine ⟨by rw [upd_ne nlp.symm]; exact hp2, [(kC, V.ref l), (kL, .int 1), (kM, .int m), (kT, .int 0)], rfl, by show 4 ≤ 15; decide, ?_⟩
        rw [merge4]
        refine q _ (p, l) (same_upd2 (same_upd2 sm nl0) hp) hp nl0 ⟨cs.reverse, 1, m, 0, upd_same, ?_⟩
        show (upd (upd H2 l _) p _) l = _
        rw [upd_ne nlp, upd_same, List.map_reverse]
end
end K61

namespace K61
open PySem L2 DL
def pairD (p : Nat × Nat) : D := .tuple [.int p.1, .int p.2]
def φClosed : List Ar → (D → Prop) → Prop := fun as Kd => ∃ (n : Nat) (pairs : List (Nat × Nat)), as = [.d (.int n), .d (.list (pairs.map pairD))] ∧ n ≤ 60 ∧ pairs.length ≤ 100000 ∧ (∀ p ∈ pairs, p.1 < n ∧ p.2 < n ∧ p.1 ≠ p.2) ∧
  ∀ lots : List (List Int), lots.length = n → (∀ y, y < n → (lots.getD y []).Perm ((closedU n pairs).getD y []) ∧ (lots.getD y []).Pairwise (· ≤ ·)) → Kd (ordD n lots)
theorem lapsU_get {n : Nat} {pairs : List (Nat × Nat)} (hp : ∀ p ∈ pairs, p.1 < n) (k : Nat) : WfU n (lapsU pairs k (startU n)) := wfU_laps (wfU_start n) hp k
section
variable {P : Program} {w : World} {K : PySem.W.Frag} {mg : Str → Option Value} {base : Heap}
theorem bDict : bootBuiltins "dict" = some (.type "dict") := by decide +kernel
theorem bSorted : bootBuiltins "sorted" = some (.builtin "sorted") := by decide +kernel
structure Txd (mg : Str → Option Value) : Prop where
  dct : mg "dict" = none
  srt : mg "sorted" = none
end
end K61

namespace K61
open PySem L2 DL
section
variable {P : Program} {w : World} {K : PySem.W.Frag} {mg : Str → Option Value} {base : Heap}
def φOf : List Ar → (D → Prop) → Prop := fun as Kd => ∃ ds : List D, as = [.src, .d (.list ds)] ∧ ds ≠ [] ∧ ds.length ≤ 1000000 ∧ ∀ d ∈ ds, Kd d
theorem pick_at {α : Type} {ds : List α} (h0 : ds ≠ []) {v : Int} (h1 : 0 ≤ v) (h2 : v < (if (ds.length : Int) > 1 then (ds.length : Int) else 1)) : v.toNat < ds.length := by
  have : 0 < ds.length := List.length_pos_iff.mpr h0
  split at h2 <;> omega
def φMix : List Ar → (D → Prop) → Prop := fun as Kd => ∃ ds : List D, as = [.src, .d (.list ds)] ∧ ds.length ≤ 1000000 ∧ ∀ es : List D, es.Perm ds → Kd (.list es)
end
end K61

namespace K61
open PySem L2 DL
section
variable {P : Program} {w : World} {K : PySem.W.Frag} {mg : Str → Option Value} {base : Heap}
def φLot : List Ar → (D → Prop) → Prop := fun as Kd => ∃ n : Nat, as = [.src, .d (.int n)] ∧ n ≤ 1000 ∧ ∀ lot : List Int, lot.Pairwise (· < ·) → inR n lot → lot.length ≤ n → Kd (lotD lot)
theorem rangeD_ints (n : Nat) : rangeD 0 n = ((List.range n).map Int.ofNat).map .int := by
  rw [rangeD0, List.map_map]; rfl
theorem nodup_range_int (n : Nat) : ((List.range n).map Int.ofNat).Nodup := by
  rw [List.nodup_iff_pairwise_ne, List.pairwise_map]
  exact (List.nodup_iff_pairwise_ne.mp List.nodup_range).imp fun h e => h (Int.ofNat.inj e)
theorem perm_ints {ns : List Int} : ∀ {es : List D}, es.Perm (ns.map .int) → ∃ ms : List Int, es = ms.map .int ∧ ms.Perm ns := fun {es} h => by
  have hm : ∀ d ∈ es, ∃ i, d = PyData.int i := fun d hd => by
    obtain ⟨i, _, rfl⟩ := List.mem_map.mp (h.mem_iff.mp hd)
    exact ⟨i, rfl⟩
  have : ∃ ms : List Int, es = ms.map .int := by
    clear h
    induction es with
    | nil => exact ⟨[], rfl⟩
    | cons d es ih =>
      obtain ⟨i, rfl⟩ := hm d List.mem_cons_self
      obtain ⟨ms, rfl⟩ := ih fun d hd => hm d (List.mem_cons_of_mem _ hd)
      exact ⟨i :: ms, rfl⟩
  obtain ⟨ms, rfl⟩ := this
  refine ⟨ms, rfl, ?_⟩
  let un : D → Int := fun d => match d with
    | .int i => i
    | _ => 0
  have e : ∀ l : List Int, (l.map PyData.int).map un = l := fun l => by
    rw [List.map_map]
    conv => rhs; rw [← List.map_id l]
    rfl
  have h2 := h.map un
  rw [e, e] at h2
  exact h2
theorem cutD_map {α : Type} (enc : α → D) (l : List α) (lo hi : Option Int) : ∃ m : List α, cutD (l.map enc) lo hi = m.map enc ∧ m.Sublist l := by
  unfold cutD
  rw [← List.map_drop, ← List.map_take]
  exact ⟨_, rfl, (List.take_sublist _ _).trans (List.drop_sublist _ _)⟩
theorem sorted_lt {l : List Int} (h : l.Pairwise (· ≤ ·)) (n : l.Nodup) : l.Pairwise (· < ·) := by
  have := h.and (List.nodup_iff_pairwise_ne.mp n)
  exact this.imp fun ⟨a, b⟩ => by omega
end
end K61


/-! k31: parts, lots left, signs. -/
namespace K61
open PySem L2 DL
theorem sc_sides_of : FnScope ["lot", "k"] ["lot"] (defScope (topS 1)) := ⟨rfl, rfl, rfl, by decide +kernel, rfl, by decide +kernel, by decide +kernel⟩
/-! ### what they compute -/
def rangeI (n : Nat) : List Int := (List.range n).map Int.ofNat
def partsS (found : List (List Int)) (x : Int) : List (List Int) := found ++ found.map (· ++ [x])
def partsL (lot : List Int) : List (List Int) := lot.foldl partsS [[]]
def restL (n : Nat) (lot : List Int) : List Int := (rangeI n).filter fun x => !decide (x ∈ lot)
def signL (lot : List Int) : Int := 1 - 2 * ((lot.map (· % 2)).sum % 2)
def signL2 (lot : List Int) : Int := 1 - 2 * (((lot.filter fun x => decide (x % 2 = 1)).length : Nat) % 2)
def allL (n : Nat) : List (List Int) := sortL (partsL (rangeI n))
def famD (n : Nat) (fam : List (List Int)) : D := .tuple [.int n, .tuple (fam.map tupI)]
def turnL (n : Nat) (fam : List (List Int)) : List (List Int) := (allL n).filter fun l => !decide (restL n l ∈ fam)
def turnL2 (n : Nat) (fam : List (List Int)) : List (List Int) := sortL ((partsL (rangeI n)).filter fun l => !decide (restL n l ∈ fam))
structure Txf (mg : Str → Option Value) : Prop where
  isi : mg "isinstance" = none
  sum : mg "sum" = none
  bol : mg "bool" = none
theorem partsL_snoc (l : List Int) (x : Int) : partsL (l ++ [x]) = partsS (partsL l) x := by unfold partsL; rw [List.foldl_append]; rfl
theorem partsL_len (l : List Int) : (partsL l).length = 2 ^ l.length := by
  suffices h : ∀ (l : List Int) (a : List (List Int)), (l.foldl partsS a).length = a.length * 2 ^ l.length by
    have := h l [[]]
    rw [List.length_singleton, Nat.one_mul] at this
    exact this
  intro l
  induction l with
  | nil => intro a; simp
  | cons x l ih =>
    intro a
    rw [List.foldl_cons, ih, List.length_cons, Nat.pow_succ]
    unfold partsS
    rw [List.length_append, List.length_map, ← Nat.two_mul, Nat.mul_comm 2, Nat.mul_assoc, Nat.mul_comm 2]
theorem mem_partsS {p : List Int} {found : List (List Int)} {x : Int} : p ∈ partsS found x ↔ p ∈ found ∨ ∃ q ∈ found, p = q ++ [x] := by
  unfold partsS
  rw [List.mem_append, List.mem_map]
  refine or_congr Iff.rfl ⟨fun ⟨q, h, e⟩ => ⟨q, h, e.symm⟩, fun ⟨q, h, e⟩ => ⟨q, h, e.symm⟩⟩
theorem snoc_ind {α : Type} {p : List α → Prop} (h0 : p []) (h1 : ∀ l x, p l → p (l ++ [x])) : ∀ l, p l := fun l => by
  have : ∀ m : List α, p m.reverse := fun m => by
    induction m with
    | nil => exact h0
    | cons x m ih => rw [List.reverse_cons]; exact h1 _ _ ih
  have := this l.reverse
  rwa [List.reverse_reverse] at this
/-- the parts of a lot are what lies in it -/
theorem mem_partsL {p : List Int} : ∀ {l : List Int}, p ∈ partsL l ↔ p.Sublist l := fun {l} => by
  revert p
  refine snoc_ind (p := fun l => ∀ {p : List Int}, p ∈ partsL l ↔ p.Sublist l) ?_ ?_ l
  · intro p
    show p ∈ [[]] ↔ _
    rw [List.mem_singleton, List.sublist_nil]
  · intro l x ih p
    rw [partsL_snoc, mem_partsS]
    constructor
    · rintro (h | ⟨q, h, rfl⟩)
      · exact (ih.mp h).trans (List.sublist_append_left _ _)
      · exact (ih.mp h).append (List.Sublist.refl _)
    · intro h
      obtain ⟨a, b, rfl, h1, h2⟩ := List.sublist_append_iff.mp h
      cases h2 with
      | cons _ h2 => rw [List.sublist_nil.mp h2, List.append_nil]; exact .inl (ih.mpr h1)
      | cons_cons _ h2 => rw [List.sublist_nil.mp h2]; exact .inr ⟨a, ih.mpr h1, rfl⟩
theorem rangeI_len (n : Nat) : (rangeI n).length = n := by unfold rangeI; rw [List.length_map, List.length_range]
theorem rangeD_tup (n : Nat) : PyData.tuple (rangeD 0 n) = tupI (rangeI n) := by rw [rangeD_ints]; rfl
theorem mem_rangeI {n : Nat} {x : Int} : x ∈ rangeI n ↔ 0 ≤ x ∧ x < n := by
  unfold rangeI
  rw [List.mem_map]
  constructor
  · rintro ⟨a, h, rfl⟩
    have := List.mem_range.mp h
    exact ⟨Int.natCast_nonneg a, Int.ofNat_lt.mpr this⟩
  · rintro ⟨h1, h2⟩
    exact ⟨x.toNat, List.mem_range.mpr (by omega), by show ((x.toNat : Nat) : Int) = x; omega⟩
section
variable {P : Program} {w : World} {K : PySem.W.Frag} {mg : Str → Option Value} {base : Heap}
/-! ### the parts -/
def φParts : List Ar → (D → Prop) → Prop := fun as Kd => ∃ lot : List Int, as = [.d (tupI lot)] ∧ lot.length ≤ 12 ∧ Kd (.list ((partsL lot).map tupI))
theorem small12 {n : Nat} (h : n ≤ 12) : 2 ^ n ≤ 4096 := Nat.pow_le_pow_right (by decide) h
theorem parts_le {lot : List Int} {i : Nat} (hl : lot.length ≤ 12) : (partsL (lot.take i)).length ≤ 4096 := by
  rw [partsL_len]
  refine small12 (Nat.le_trans ?_ hl)
  rw [List.length_take]; exact Nat.min_le_right _ _
theorem take_snoc {lot : List Int} {i : Nat} {x : Int} (h : lot[i]? = some x) : lot.take (i + 1) = lot.take i ++ [x] := by
  rw [List.take_succ, h]; rfl
/-! ### what lots leave -/
def φRest : List Ar → (D → Prop) → Prop := fun as Kd => ∃ (n : Nat) (lot : List Int), as = [.d (.int n), .d (tupI lot)] ∧ n ≤ 1000 ∧ Kd (tupI (restL n lot))
theorem rest_filter (n : Nat) (lot : List Int) : ((List.range n).filter fun (i : Nat) => !decide ((i : Int) ∈ lot)).map (fun i : Nat => PyData.int (i : Int)) = (restL n lot).map .int := by
  unfold restL rangeI
  rw [List.filter_map, List.map_map]
  rfl
end
end K61

/-! k31: all lots, the turned family, what is a family. -/
namespace K61
open PySem L2 DL
/-- a lot of so many things -/
def LotOk (n : Nat) (l : List Int) : Prop := l.Pairwise (· < ·) ∧ inR n l
def sidesL (l : List Int) : List (List Int) := (List.range l.length).map fun k => l.eraseIdx k
structure FamOk (n : Nat) (fam : List (List Int)) : Prop where
  lots : ∀ l ∈ fam, LotOk n l
  asc : fam.Pairwise fun a b => ltL a b = true
  down : ∀ l ∈ fam, ∀ s ∈ sidesL l, s ∈ fam
section
variable {P : Program} {w : World} {K : PySem.W.Frag} {mg : Str → Option Value} {base : Heap}
def φAll : List Ar → (D → Prop) → Prop := fun as Kd => ∃ n : Nat, as = [.d (.int n)] ∧ n ≤ 12 ∧ Kd (.tuple ((allL n).map tupI))
theorem allL_len (n : Nat) : (allL n).length = 2 ^ n := by
  unfold allL
  rw [(sortL_perm _).length_eq, partsL_len, rangeI_len]
/-! ### the turned family -/
def φTurn (g : Nat → List (List Int) → List (List Int)) : List Ar → (D → Prop) → Prop := fun as Kd => ∃ (n : Nat) (fam : List (List Int)), as = [.d (famD n fam)] ∧ n ≤ 12 ∧ fam.length ≤ 4096 ∧ Kd (famD n (g n fam))
theorem fam_map (ls : List (List Int)) (p : List Int → Bool) (n : Nat) : PyData.tuple [.int n, .tuple ((ls.filter p).map tupI)] = famD n (ls.filter p) := rfl
/-! ### signs -/
def φSign (g : List Int → Int) : List Ar → (D → Prop) → Prop := fun as Kd => ∃ lot : List Int, as = [.d (tupI lot)] ∧ lot.length ≤ 1000 ∧ Kd (.int (g lot))
/-! ### what is a family -/
def φThing : List Ar → (D → Prop) → Prop := fun as Kd => ∃ x n : Int, as = [.d (.int x), .d (.int n)] ∧ 0 ≤ x ∧ x < n ∧ Kd (.bool true)
def φLotOf : List Ar → (D → Prop) → Prop := fun as Kd => ∃ (n : Nat) (l : List Int), as = [.d (.int n), .d (tupI l)] ∧ l.length ≤ 1000 ∧ LotOk n l ∧ Kd (.bool true)
def φSides : List Ar → (D → Prop) → Prop := fun as Kd => ∃ l : List Int, as = [.d (tupI l)] ∧ l.length ≤ 1000 ∧ Kd (.list ((sidesL l).map tupI))
theorem ok_sides {f : Addr} {fd : FuncData} (F : Fun K "sides_of" "sides_of" (topS 1) f fd) (T : Txt mg) : FnOk P w K mg base CX0 1 f fd ["lot"] (SpD φSides) := by
  refine fn_D F sc_sides_of (fun as Kd h => ?_) (fun as Kd r cdv A outer s H E hr h => ?_)
  · obtain ⟨l, rfl, _⟩ := h
    rfl
  · obtain ⟨l, rfl, hl, k⟩ := h
    have nd := sc_sides_of.nd
    have hz : sizeLine = 16777216 := sizeLine_eq
    refine jret <| JN.je <| jlc [("k", 1)] [1] <| jrange1 T.ran <| jlen T.len <| jv 0 ⟨l.map .int, .inr rfl, (l.length : Nat), by rw [List.length_map], by omega, by omega, lcR (m := l.length) (fun _ => true) (fun i => tupI (l.eraseIdx i)) (fun a ha => lp0 1 ?_) ?_⟩
    · intro _ _ _ _ _
      refine je_op op_catA <| je_cutTo <| jv 0 <| jv 1 ⟨l.map .int, a, rfl, rfl, je_cutFrom <| jv 0 <| je_op op_add <| jv 1 <| je_int <| od_I0 ⟨l.map .int, a + 1, rfl, rfl, od_catT ?_ ⟨?_, rfl⟩⟩⟩
      · rw [← List.map_take, ← List.map_drop, List.length_map, List.length_map, List.length_take, List.length_drop]
        omega
      · rw [← List.map_take, ← List.map_drop, ← List.map_append, ← List.eraseIdx_eq_take_drop_succ]; rfl
    · rw [filter_true]
      have e : (List.range l.length).map (fun i => tupI (l.eraseIdx i)) = (sidesL l).map tupI := by unfold sidesL; rw [List.map_map]; rfl
      rw [e]; exact k
def φFam : List Ar → (D → Prop) → Prop := fun as Kd => ∃ (n : Nat) (fam : List (List Int)), as = [.d (famD n fam)] ∧ n ≤ 12 ∧ fam.length ≤ 4096 ∧ FamOk n fam ∧ Kd (.bool true)
theorem lotOk_len {n : Nat} {l : List Int} (h : LotOk n l) : l.length ≤ n := nodup_len (List.nodup_iff_pairwise_ne.mpr (h.1.imp fun h => by omega)) h.2
theorem fam_at {fam : List (List Int)} {i : Nat} (h : i < fam.length) : atI (fam.map tupI) (i : Int) = some (tupI fam[i]) := atI_nn (by rw [List.getElem?_map, List.getElem?_eq_getElem h]; rfl)
end
end K61

/-! k31: the plain law. -/
namespace K61
open PySem L2 DL
theorem rangeI_lt (n : Nat) : (rangeI n).Pairwise (· < ·) := by
  unfold rangeI
  rw [List.pairwise_map]
  refine List.Pairwise.imp (fun {a b} h => ?_) (List.pairwise_lt_range (n := n))
  exact Int.ofNat_lt.mpr h
theorem sub_of_sorted : ∀ {q p : List Int}, p.Pairwise (· < ·) → q.Pairwise (· < ·) → (∀ x ∈ p, x ∈ q) → p.Sublist q
  | [], [], _, _, _ => List.Sublist.refl _
  | [], x :: p, _, _, h => absurd (h x List.mem_cons_self) List.not_mem_nil
  | y :: q, [], _, _, _ => List.nil_sublist _
  | y :: q, x :: p, hp, hq, h => by
    rw [List.pairwise_cons] at hp hq
    by_cases e : x = y
    · subst e
      refine (sub_of_sorted hp.2 hq.2 fun z hz => ?_).cons_cons x
      rcases List.mem_cons.mp (h z (List.mem_cons_of_mem _ hz)) with e | hz2
      · have := hp.1 z hz
        omega
      · exact hz2
    · refine (sub_of_sorted (List.pairwise_cons.mpr hp) hq.2 fun z hz => ?_).cons y
      have hx : x ∈ q := (List.mem_cons.mp (h x List.mem_cons_self)).resolve_left e
      have hyx := hq.1 x hx
      rcases List.mem_cons.mp (h z hz) with e2 | hz2
      · subst e2
        rcases List.mem_cons.mp hz with e3 | hz3
        · omega
        · have := hp.1 z hz3
          omega
      · exact hz2
theorem eq_of_sorted {p q : List Int} (hp : p.Pairwise (· < ·)) (hq : q.Pairwise (· < ·)) (h : ∀ x, x ∈ p ↔ x ∈ q) : p = q :=
  (sub_of_sorted hp hq fun x hx => (h x).mp hx).eq_of_length_le (sub_of_sorted hq hp fun x hx => (h x).mpr hx).length_le
theorem lotOk_iff {n : Nat} {l : List Int} : LotOk n l ↔ l.Sublist (rangeI n) := by
  constructor
  · rintro ⟨h1, h2⟩
    exact sub_of_sorted h1 (rangeI_lt n) fun x hx => mem_rangeI.mpr (h2 x hx)
  · intro h
    exact ⟨(rangeI_lt n).sublist h, fun x hx => mem_rangeI.mp (h.subset hx)⟩
theorem partsL_nodup {l : List Int} : l.Nodup → (partsL l).Nodup := by
  refine snoc_ind (p := fun l => l.Nodup → (partsL l).Nodup) ?_ ?_ l
  · intro _
    show ([[]] : List (List Int)).Nodup
    exact List.nodup_cons.mpr ⟨List.not_mem_nil, List.nodup_nil⟩
  · intro l x ih h
    rw [List.nodup_append] at h
    rw [partsL_snoc]
    unfold partsS
    rw [List.nodup_append]
    refine ⟨ih h.1, ?_, ?_⟩
    · rw [List.nodup_iff_pairwise_ne, List.pairwise_map]
      exact (List.nodup_iff_pairwise_ne.mp (ih h.1)).imp fun hne e => hne (List.append_cancel_right e)
    · intro a ha b hb e
      obtain ⟨c, hc, rfl⟩ := List.mem_map.mp hb
      subst e
      have : x ∈ l := (mem_partsL.mp ha).subset (by simp)
      exact h.2.2 x this x (by simp) rfl
theorem allL_nodup (n : Nat) : (partsL (rangeI n)).Nodup := partsL_nodup (nodup_range_int n)
theorem allL_lt (n : Nat) : (allL n).Pairwise fun a b => ltL a b = true := sortL_lt (allL_nodup n)
theorem mem_allL {n : Nat} {l : List Int} : l ∈ allL n ↔ l.Sublist (rangeI n) := by
  unfold allL
  rw [(sortL_perm _).mem_iff, mem_partsL]
theorem restL_sub (n : Nat) (l : List Int) : (restL n l).Sublist (rangeI n) := List.filter_sublist
theorem restL_mem (n : Nat) (l : List Int) : restL n l ∈ allL n := mem_allL.mpr (restL_sub n l)
theorem mem_restL {n : Nat} {l : List Int} {x : Int} : x ∈ restL n l ↔ x ∈ rangeI n ∧ x ∉ l := by
  unfold restL
  rw [List.mem_filter]
  simp
theorem restL_lt (n : Nat) (l : List Int) : (restL n l).Pairwise (· < ·) := (rangeI_lt n).sublist (restL_sub n l)
theorem rest_rest {n : Nat} {l : List Int} (h : l.Sublist (rangeI n)) : restL n (restL n l) = l := by
  refine eq_of_sorted (restL_lt _ _) ((rangeI_lt n).sublist h) fun x => ?_
  rw [mem_restL, mem_restL]
  constructor
  · rintro ⟨h1, h2⟩
    exact Classical.byContradiction fun h3 => h2 ⟨h1, h3⟩
  · intro h1
    exact ⟨h.subset h1, fun h2 => h2.2 h1⟩
theorem rest_anti {n : Nat} {s l : List Int} (h : s.Sublist l) : (restL n l).Sublist (restL n s) :=
  sub_of_sorted (restL_lt _ _) (restL_lt _ _) fun x hx => by
    rw [mem_restL] at hx ⊢
    exact ⟨hx.1, fun hs => hx.2 (h.subset hs)⟩
/-- a family: ascending lots of so many things, with all their parts -/
structure FamP (n : Nat) (fam : List (List Int)) : Prop where
  sub : ∀ l ∈ fam, l.Sublist (rangeI n)
  asc : fam.Pairwise fun a b => ltL a b = true
  down : ∀ l ∈ fam, ∀ s, s.Sublist l → s ∈ fam
theorem nodup_of_lt {fam : List (List Int)} (h : fam.Pairwise fun a b => ltL a b = true) : fam.Nodup := List.nodup_iff_pairwise_ne.mpr (h.imp fun {a b} h e => by
  subst e
  rw [ltL_irrefl] at h; cases h)
theorem FamP.ok {n : Nat} {fam : List (List Int)} (h : FamP n fam) : FamOk n fam := ⟨fun l hl => lotOk_iff.mpr (h.sub l hl), h.asc, fun l hl s hs => by
  unfold sidesL at hs
  obtain ⟨k, _, rfl⟩ := List.mem_map.mp hs
  exact h.down l hl _ (List.eraseIdx_sublist l k)⟩
theorem len_of_mem {a b : List (List Int)} (ha : a.Nodup) (hb : b.Nodup) (h : ∀ x, x ∈ a ↔ x ∈ b) : a.length = b.length := by
  have : sortL a = sortL b := sorted_one (sortL_lt ha) (sortL_lt hb) fun x => by rw [(sortL_perm a).mem_iff, (sortL_perm b).mem_iff]; exact h x
  rw [← (sortL_perm a).length_eq, this, (sortL_perm b).length_eq]
theorem FamP.len {n : Nat} {fam : List (List Int)} (h : FamP n fam) : fam.length ≤ 2 ^ n := by
  have e : fam = (allL n).filter fun l => decide (l ∈ fam) := sorted_one h.asc ((allL_lt n).sublist List.filter_sublist) fun x => by
    rw [List.mem_filter, decide_eq_true_eq, mem_allL]
    exact ⟨fun hx => ⟨h.sub x hx, hx⟩, fun hx => hx.2⟩
  rw [e, ← allL_len n]
  exact List.length_filter_le _ _
theorem mem_turn {n : Nat} {fam : List (List Int)} {l : List Int} : l ∈ turnL n fam ↔ l.Sublist (rangeI n) ∧ restL n l ∉ fam := by
  unfold turnL
  rw [List.mem_filter, mem_allL]
  simp
theorem turn_lt (n : Nat) (fam : List (List Int)) : (turnL n fam).Pairwise fun a b => ltL a b = true := (allL_lt n).sublist List.filter_sublist
theorem turn_turn2 (n : Nat) (fam : List (List Int)) : turnL2 n fam = turnL n fam := by
  refine sorted_one (sortL_lt ((allL_nodup n).sublist List.filter_sublist)) (turn_lt n fam) fun x => ?_
  unfold turnL2
  rw [(sortL_perm _).mem_iff, mem_turn, List.mem_filter, mem_partsL]
  simp
theorem turn_fam {n : Nat} {fam : List (List Int)} (h : FamP n fam) : FamP n (turnL n fam) := ⟨fun l hl => (mem_turn.mp hl).1, turn_lt n fam, fun l hl s hs => by
  obtain ⟨h1, h2⟩ := mem_turn.mp hl
  exact mem_turn.mpr ⟨hs.trans h1, fun h3 => h2 (h.down _ h3 _ (rest_anti hs))⟩⟩
theorem turn_turn {n : Nat} {fam : List (List Int)} (h : FamP n fam) : turnL n (turnL n fam) = fam := by
  refine sorted_one (turn_lt _ _) h.asc fun x => ?_
  rw [mem_turn, mem_turn]
  constructor
  · rintro ⟨h1, h2⟩
    rw [rest_rest h1] at h2
    exact Classical.byContradiction fun h3 => h2 ⟨restL_sub _ _, h3⟩
  · intro hx
    have h1 := h.sub x hx
    refine ⟨h1, fun h2 => h2.2 ?_⟩
    rw [rest_rest h1]; exact hx
theorem turn_len {n : Nat} {fam : List (List Int)} (h : FamP n fam) : (turnL n fam).length + fam.length = 2 ^ n := by
  have e1 := List.length_eq_countP_add_countP (fun l => !decide (restL n l ∈ fam)) (l := allL n)
  rw [allL_len, List.countP_eq_length_filter, List.countP_eq_length_filter] at e1
  have e2 : ((allL n).filter fun l => decide ¬(!decide (restL n l ∈ fam)) = true).length = (fam.map (restL n)).length := by
    refine len_of_mem ((nodup_of_lt (allL_lt n)).sublist List.filter_sublist) ?_ fun x => ?_
    · rw [List.nodup_iff_pairwise_ne, List.pairwise_map]
      refine List.Pairwise.imp_of_mem ?_ (List.nodup_iff_pairwise_ne.mp (nodup_of_lt h.asc))
      intro a b ha hb hne e
      have := congrArg (restL n) e
      rw [rest_rest (h.sub a ha), rest_rest (h.sub b hb)] at this
      exact hne this
    · rw [List.mem_filter, mem_allL, List.mem_map]
      constructor
      · rintro ⟨h1, h2⟩
        exact ⟨restL n x, by simpa using h2, rest_rest h1⟩
      · rintro ⟨a, ha, rfl⟩
        exact ⟨restL_sub _ _, by rw [rest_rest (h.sub a ha)]; simpa using ha⟩
  rw [List.length_map] at e2
  rw [e2] at e1
  exact e1.symm
theorem turn_in {n : Nat} {fam : List (List Int)} {l : List Int} (h : l.Sublist (rangeI n)) : decide (restL n l ∈ turnL n fam) = !decide (l ∈ fam) := by
  rw [Bool.eq_iff_iff, decide_eq_true_eq, mem_turn, rest_rest h]
  simp [restL_sub]
theorem turn_all (n : Nat) : turnL n (allL n) = [] := List.filter_eq_nil_iff.mpr fun l _ h => by
  rw [decide_eq_true (restL_mem n l)] at h
  cases h
theorem turn_none (n : Nat) : turnL n [] = allL n := List.filter_eq_self.mpr fun l _ => rfl
theorem rest_nil_iff {n : Nat} {l : List Int} (h : l.Sublist (rangeI n)) : restL n l = [] ↔ ¬ l.length < n := by
  constructor
  · intro e hl
    have h1 := rest_rest h
    rw [e] at h1
    have h2 : restL n [] = rangeI n := List.filter_eq_self.mpr fun x _ => by simp
    rw [h2] at h1
    rw [← h1, rangeI_len] at hl
    omega
  · intro hl
    have h1 : l = rangeI n := h.eq_of_length_le (by rw [rangeI_len]; omega)
    subst h1
    exact List.filter_eq_nil_iff.mpr fun x hx => by simp [hx]
theorem turn_one (n : Nat) : turnL n [[]] = (allL n).filter fun l => decide (l.length < n) := by
  unfold turnL
  refine List.filter_congr fun l hl => ?_
  have := rest_nil_iff (mem_allL.mp hl)
  rw [Bool.eq_iff_iff, decide_eq_true_eq, Bool.not_eq_true', decide_eq_false_iff_not, List.mem_singleton, this]
  omega
theorem sign_sign (l : List Int) : signL l = signL2 l := by
  unfold signL signL2
  congr 2
  suffices h : (l.map (· % 2)).sum = (((l.filter fun x => decide (x % 2 = 1)).length : Nat) : Int) by rw [h]
  induction l with
  | nil => rfl
  | cons x l ih =>
    rw [List.map_cons, List.sum_cons, ih, List.filter_cons]
    by_cases e : x % 2 = 1
    · rw [if_pos (decide_eq_true e), List.length_cons, e]
      omega
    · rw [if_neg (by rw [decide_eq_false e]; exact Bool.false_ne_true)]
      omega
theorem all_three : allL 3 = [[], [0], [0, 1], [0, 1, 2], [0, 2], [1], [1, 2], [2]] := by
  have hp : ([[], [0], [0, 1], [0, 1, 2], [0, 2], [1], [1, 2], [2]] : List (List Int)).Perm (partsL (rangeI 3)) := by decide +kernel
  refine sorted_one (allL_lt 3) (by decide +kernel) fun x => ?_
  unfold allL
  rw [(sortL_perm _).mem_iff, hp.mem_iff]
theorem turn_three : turnL 3 [[], [0], [0, 1], [0, 2], [1], [1, 2], [2]] = [[]] := by
  unfold turnL
  rw [all_three]
  decide +kernel
/-! ### made of lots -/
def madeK (lots : List (List Int)) : List (List Int) := lots.foldl (fun ks l => uni ks (uni [] (partsL l))) []
theorem madeK_snoc (ls : List (List Int)) (l : List Int) : madeK (ls ++ [l]) = uni (madeK ls) (uni [] (partsL l)) := by unfold madeK; rw [List.foldl_append]; rfl
theorem madeK_nodup (lots : List (List Int)) : (madeK lots).Nodup := by
  refine snoc_ind (p := fun lots => (madeK lots).Nodup) List.nodup_nil (fun ls l ih => ?_) lots
  rw [madeK_snoc]
  exact nodup_uni _ _ ih
theorem mem_madeK {p : List Int} (lots : List (List Int)) : p ∈ madeK lots ↔ ∃ l ∈ lots, p.Sublist l := by
  refine snoc_ind (p := fun lots => p ∈ madeK lots ↔ ∃ l ∈ lots, p.Sublist l) ?_ (fun ls l ih => ?_) lots
  · constructor
    · intro h; cases h
    · rintro ⟨_, h, _⟩; cases h
  · rw [madeK_snoc, mem_uni, mem_uni, ih, mem_partsL]
    constructor
    · rintro (⟨m, h1, h2⟩ | h | h)
      · exact ⟨m, List.mem_append_left _ h1, h2⟩
      · cases h
      · exact ⟨l, by simp, h⟩
    · rintro ⟨m, h1, h2⟩
      rcases List.mem_append.mp h1 with h1 | h1
      · exact .inl ⟨m, h1, h2⟩
      · rw [List.mem_singleton] at h1
        subst h1
        exact .inr (.inr h2)
theorem made_fam {n : Nat} {lots : List (List Int)} (h : ∀ l ∈ lots, l.Sublist (rangeI n)) : FamP n (sortL (madeK lots)) := by
  have hm : ∀ p, p ∈ sortL (madeK lots) ↔ ∃ l ∈ lots, p.Sublist l := fun p => by rw [(sortL_perm _).mem_iff, mem_madeK]
  refine ⟨fun l hl => ?_, sortL_lt (madeK_nodup lots), fun l hl s hs => ?_⟩
  · obtain ⟨m, h1, h2⟩ := (hm l).mp hl
    exact h2.trans (h m h1)
  · obtain ⟨m, h1, h2⟩ := (hm l).mp hl
    exact (hm s).mpr ⟨m, h1, hs.trans h2⟩
theorem madeK_len {lots : List (List Int)} (h : ∀ l ∈ lots, l.length ≤ 12) : (madeK lots).length ≤ lots.length * 4096 := by
  revert h
  refine snoc_ind (p := fun lots => (∀ l ∈ lots, l.length ≤ 12) → (madeK lots).length ≤ lots.length * 4096) (fun _ => Nat.zero_le _) (fun ls l ih h => ?_) lots
  rw [madeK_snoc, List.length_append, List.length_singleton]
  have h1 := ih fun l hl => h l (List.mem_append_left _ hl)
  have h2 := uni_len (uni [] (partsL l)) (madeK ls)
  have h3 := uni_len (partsL l) []
  rw [partsL_len] at h3
  have h4 : 2 ^ l.length ≤ 4096 := small12 (h l (by simp))
  rw [List.length_nil] at h3
  omega
/-- no two lots of up to seven things have one hash -/
theorem hash7 : ((partsL (rangeI 7)).map hI).Nodup := by decide +kernel
theorem hash_inj {p q : List Int} (h1 : p.Sublist (rangeI 7)) (h2 : q.Sublist (rangeI 7)) (e : hI p = hI q) : p = q := by
  have n1 := hash7
  rw [List.nodup_iff_pairwise_ne, List.pairwise_map] at n1
  have h1 := mem_partsL.mpr h1
  have h2 := mem_partsL.mpr h2
  generalize partsL (rangeI 7) = L at *
  induction L with
  | nil => cases h1
  | cons a L ih =>
    rw [List.pairwise_cons] at n1
    rcases List.mem_cons.mp h1 with e1 | g1
    · rcases List.mem_cons.mp h2 with e2 | g2
      · rw [e1, e2]
      · subst e1; exact absurd e (n1.1 q g2)
    · rcases List.mem_cons.mp h2 with e2 | g2
      · subst e2; exact absurd e.symm (n1.1 p g1)
      · exact ih n1.2 g1 g2
theorem hash_nodup {l : List Int} (h : l.Sublist (rangeI 7)) : ((uni [] (partsL l)).map hI).Nodup := by
  have n1 := nodup_uni (partsL l) [] List.nodup_nil
  rw [List.nodup_iff_pairwise_ne, List.pairwise_map]
  refine List.Pairwise.imp_of_mem ?_ (List.nodup_iff_pairwise_ne.mp n1)
  intro a b ha hb hne e
  have ha : a.Sublist l := by
    rcases (mem_uni _ _).mp ha with h | h
    · cases h
    · exact mem_partsL.mp h
  have hb : b.Sublist l := by
    rcases (mem_uni _ _).mp hb with h | h
    · cases h
    · exact mem_partsL.mp h
  exact hne (hash_inj (ha.trans h) (hb.trans h) e)
end K61


namespace K61
open PySem L2 DL
section
variable {P : Program} {w : World} {K : PySem.W.Frag} {mg : Str → Option Value} {base : Heap}
theorem sc_law_of : FnScope ["source", "some"] ["source", "some"] (defScope (topS 15)) := ⟨rfl, rfl, rfl, by decide +kernel, rfl, by decide +kernel, by decide +kernel⟩
theorem ok_of {f fP : Addr} {fd fdP : FuncData} (F : Fun K "_law_of" "_law_of" (topS 15) f fd) (T : Txs mg) (NP : Dn K mg "_law_pick" (topS 14) ["source", "many"] fP fdP) : FnOk P w K mg base CX0 2 f fd ["source", "some"] (SpD φOf) := by
  refine fn_D F sc_law_of (fun as Kd h => ?_) (fun as Kd r cdv A outer s H E hr h => ?_)
  · obtain ⟨ds, rfl, _⟩ := h
    rfl
  · obtain ⟨ds, rfl, h0, hl, k⟩ := h
    have nd := sc_law_of.nd
    refine jret (jix ix_list (jv 1 (jcall hr NP (ok_pick NP.F T) (jAs 0 (ja1 (jlen T.len (jv 1 ⟨_, .inl rfl, (ds.length : Nat), rfl, by omega, fun v h1 h2 => ?_⟩)))))))
    have hv := pick_at h0 h1 h2
    obtain ⟨j, rfl⟩ : ∃ j : Nat, v = j := ⟨v.toNat, by omega⟩
    exact od_ixL (atI_nn (List.getElem?_eq_getElem (by omega))) (k _ (List.getElem_mem _))
end
end K61

/-! k01: odd values: numbers, what is bent. -/
namespace K61
open PySem L2 DL
/-! ### kinds -/
section
variable {P : Program} {w : World} {K : PySem.W.Frag} {mg : Str → Option Value} {base : Heap}
def φNum : List Ar → (D → Prop) → Prop := fun as Kd => ∃ (d : D), as = [.d d] ∧ noF d = true ∧ Kd (.bool (isInt d))
/-! ### bent -/
def φBent (B : Nat) (ws : List Nat) : List Ar → (D → Prop) → Prop := fun as Kd => ∃ d : D, as = [.src, .d d] ∧ okW B ws d = true ∧ ∀ d', okW (B + 2) (grW ws) d' = true → Kd d'
def oddL : List D := [.none, .int 0, .int 1, .int 2, .bool true, .int (-1), .str "a", .str "filled", .str "test", .str "rows", .str "round", .tuple [], .tuple [.int 0], .tuple [.int 0, .int 0], .list [], dctD [], .int 1000000]
theorem okW_oddL {B w : Nat} {ws : List Nat} (hB : 1000000 ≤ B) (hw : 2 ≤ w) : ∀ d ∈ oddL, okW B (w :: ws) d = true := by
  unfold oddL
  simp only [List.forall_mem_cons]
  have h0 : ∀ i : Int, i.natAbs ≤ 1000000 → ∀ {ws : List Nat}, okW B ws (.int i) = true := fun i h => okW_int (by omega)
  refine ⟨okW_none, h0 _ (by decide), h0 _ (by decide), h0 _ (by decide), okW_bool _, h0 _ (by decide), okW_atom ?_, okW_atom ?_, okW_atom ?_, okW_atom ?_, okW_atom ?_, okW_tup (Nat.zero_le _) (fun x hx => nomatch hx), okW_tup ?_ (fun x hx => ?_), okW_tup ?_ (fun x hx => ?_), okW_list (Nat.zero_le _) (fun x hx => nomatch hx), okW_atom rfl, h0 _ (by decide), fun d hd => by cases hd⟩
  · exact atom_mono (B := 0) (Nat.zero_le _) (by decide +kernel)
  · exact atom_mono (B := 0) (Nat.zero_le _) (by decide +kernel)
  · exact atom_mono (B := 0) (Nat.zero_le _) (by decide +kernel)
  · exact atom_mono (B := 0) (Nat.zero_le _) (by decide +kernel)
  · exact atom_mono (B := 0) (Nat.zero_le _) (by decide +kernel)
  · show 1 ≤ w; omega
  · rw [List.mem_singleton.mp hx]; exact h0 _ (by decide)
  · exact hw
  · rcases List.mem_cons.mp hx with rfl | hx
    · exact h0 _ (by decide)
    · rw [List.mem_singleton.mp hx]; exact h0 _ (by decide)
theorem okW_oddG {B : Nat} (hB : 1000000 ≤ B) : ∀ {ws : List Nat}, (∀ w ∈ ws, 2 ≤ w) → ∀ d ∈ oddL, okW (B + 2) (grW ws) d = true
  | [], _ => okW_oddL (by omega) (Nat.le_refl 2)
  | w :: ws, h => okW_oddL (by omega) (Nat.le_succ_of_le (h w List.mem_cons_self))
end
end K61

/-! k01: what is a lot, over odd values. -/
namespace K61
open PySem L2 DL
theorem getD_at {l : List Int} {i : Nat} (h : i < l.length) : l.getD i 0 = l[i] := by
  rw [List.getD_eq_getElem?_getD, List.getElem?_eq_getElem h]; rfl
def iD : D → Int
  | .int i => i
  | _ => 0
def intsD : D → List Int
  | .tuple q => q.map iD
  | _ => []
def ascB (l : List Int) : Bool := decide (l.Pairwise (· < ·))
def lotV (m : Int) : D → Bool
  | .tuple q => (q.all fun d => nbD d m) && ascB (q.map iD)
  | _ => false
theorem ints_of {m : Int} {q : List D} (h : (q.all fun d => nbD d m) = true) : ∃ is : List Int, q = is.map .int ∧ ∀ i ∈ is, 0 ≤ i ∧ i < m := by
  induction q with
  | nil => exact ⟨[], rfl, fun _ h => nomatch h⟩
  | cons d q ih =>
    rw [List.all_cons, Bool.and_eq_true] at h
    obtain ⟨is, rfl, hs⟩ := ih h.2
    have h1 := h.1
    cases d <;> first | cases h1 | skip
    rename_i i
    have h1 : (decide (0 ≤ i) && decide (i < m)) = true := h1
    rw [Bool.and_eq_true, decide_eq_true_eq, decide_eq_true_eq] at h1
    refine ⟨i :: is, rfl, fun x hx => ?_⟩
    rcases List.mem_cons.mp hx with rfl | hx
    · exact h1
    · exact hs x hx
theorem iD_map (is : List Int) : (is.map PyData.int).map iD = is := by
  rw [List.map_map]
  conv => rhs; rw [← List.map_id is]
  rfl
/-- one after another up: all of them up -/
theorem asc_of {α : Type} {r : α → α → Prop} (tr : ∀ a b c, r a b → r b c → r a c) : ∀ {l : List α}, (∀ a (h : a + 1 < l.length), r l[a] l[a + 1]) → l.Pairwise r
  | [], _ => .nil
  | [x], _ => List.pairwise_singleton _ _
  | x :: y :: l, h => by
    have ih : (y :: l).Pairwise r := asc_of tr fun a ha => h (a + 1) (by rw [List.length_cons]; omega)
    have h0 : r x y := h 0 (by rw [List.length_cons, List.length_cons]; omega)
    refine List.pairwise_cons.mpr ⟨fun z hz => ?_, ih⟩
    rcases List.mem_cons.mp hz with rfl | hz
    · exact h0
    · exact tr _ _ _ h0 ((List.pairwise_cons.mp ih).1 z hz)
theorem asc_range {α : Type} {r : α → α → Prop} (tr : ∀ a b c, r a b → r b c → r a c) (l : List α) (p : Nat → Bool) (hp : ∀ a (h : a + 1 < l.length), p a = true ↔ ¬ r l[a] l[a + 1]) : (((List.range (l.length - 1)).filter p).isEmpty = true) ↔ l.Pairwise r := by
  rw [List.isEmpty_iff, List.filter_eq_nil_iff]
  constructor
  · intro h
    refine asc_of tr fun a ha => ?_
    have h1 := h a (List.mem_range.mpr (by omega))
    exact Classical.byContradiction fun hn => h1 ((hp a ha).mpr hn)
  · intro h a ha hpa
    have ha := List.mem_range.mp ha
    exact (hp a (by omega)).mp hpa (List.pairwise_iff_getElem.mp h a (a + 1) (by omega) (by omega) (by omega))
theorem sort_asc {is ys : List Int} (hp : ys.Perm (uni [] is)) (hs : ys.Pairwise (· ≤ ·)) : decide (is = ys) = ascB is := by
  have nd : ys.Nodup := hp.nodup_iff.mpr (nodup_uni is [] List.nodup_nil)
  have hlt := sorted_lt hs nd
  unfold ascB
  by_cases h : is.Pairwise (· < ·)
  · rw [decide_eq_true h]
    refine decide_eq_true (eq_of_sorted h hlt fun x => ?_)
    rw [hp.mem_iff, mem_uni]
    simp
  · rw [decide_eq_false h]
    refine decide_eq_false fun e => h ?_
    rw [e]; exact hlt
section
variable {P : Program} {w : World} {K : PySem.W.Frag} {mg : Str → Option Value} {base : Heap}
def φIsThing : List Ar → (D → Prop) → Prop := fun as Kd => ∃ (d : D) (m : Int), as = [.d d, .d (.int m)] ∧ noF d = true ∧ Kd (.bool (nbD d m))
def φIsLot : List Ar → (D → Prop) → Prop := fun as Kd => ∃ (m : Int) (v : D), as = [.d (.int m), .d v] ∧ noF v = true ∧ (∀ q, v = .tuple q → q.length ≤ 60 ∧ ∀ d ∈ q, noF d = true) ∧ Kd (.bool (lotV m v))
end
end K61

/-! k01: what is a family, over odd values. -/
namespace K61
open PySem L2 DL
def AscL (lots : List (List Int)) : Prop := lots.Pairwise fun a b => ltL a b = true
instance (lots : List (List Int)) : Decidable (AscL lots) := inferInstanceAs (Decidable (List.Pairwise _ _))
def downB (lots : List (List Int)) : Bool := lots.all fun l => (sidesL l).all fun s => decide (s ∈ lots)
def famV : D → Bool
  | .tuple [.int m, .tuple ls] => decide (0 ≤ m) && (ls.all (lotV m) && (decide (AscL (ls.map intsD)) && downB (ls.map intsD)))
  | _ => false
theorem famV_eq (m : Int) (ls : List D) : famV (.tuple [.int m, .tuple ls]) = (decide (0 ≤ m) && (ls.all (lotV m) && (decide (AscL (ls.map intsD)) && downB (ls.map intsD)))) := rfl
theorem famV_len {q : List D} (h : q.length ≠ 2) : famV (.tuple q) = false := by
  match q, h with
  | [], _ => rfl
  | [a], _ => cases a <;> rfl
  | a :: b :: c :: t, _ => cases a <;> first | rfl | (cases b <;> rfl)
  | [_, _], h => exact absurd rfl h
theorem famV_snd {a b : D} (h : isTup b = false) : famV (.tuple [a, b]) = false := by
  cases a <;> first | rfl | (cases b <;> first | rfl | cases h)
theorem famV_fst {a b : D} (h : isInt a = false) : famV (.tuple [a, b]) = false := by
  cases a <;> first | rfl | cases h
theorem lots_of {m : Int} {ls : List D} (h : ls.all (lotV m) = true) : ∃ lots : List (List Int), ls = lots.map tupI ∧ ∀ l ∈ lots, l.Pairwise (· < ·) := by
  induction ls with
  | nil => exact ⟨[], rfl, fun _ h => nomatch h⟩
  | cons d q ih =>
    rw [List.all_cons, Bool.and_eq_true] at h
    obtain ⟨lots, rfl, hs⟩ := ih h.2
    have h1 := h.1
    cases d <;> first | cases h1 | skip
    rename_i is
    have h1 : ((is.all fun d => nbD d m) && ascB (is.map iD)) = true := h1
    rw [Bool.and_eq_true] at h1
    obtain ⟨l, rfl, _⟩ := ints_of h1.1
    have h2 := h1.2
    rw [iD_map] at h2
    refine ⟨l :: lots, rfl, fun x hx => ?_⟩
    rcases List.mem_cons.mp hx with rfl | hx
    · exact of_decide_eq_true h2
    · exact hs x hx
theorem intsD_map (lots : List (List Int)) : (lots.map tupI).map intsD = lots := by
  rw [List.map_map]
  conv => rhs; rw [← List.map_id lots]
  refine List.map_congr_left fun l _ => ?_
  show (l.map PyData.int).map iD = id l
  rw [iD_map]; rfl
theorem getL_at {l : List (List Int)} {i : Nat} (h : i < l.length) : l.getD i [] = l[i] := by
  rw [List.getD_eq_getElem?_getD, List.getElem?_eq_getElem h]; rfl
theorem eqv_lots (a b : List (List Int)) : PyData.eqv (.list (a.map tupI)) (.list (b.map tupI)) = decide (a = b) := by
  have h := PySem.W.Datum.eqv (α := List (PySem.W.Tup Int)) (a.map fun l => ⟨l⟩) (b.map fun l => ⟨l⟩)
  have e : ∀ c : List (List Int), (PySem.W.Datum.toD (c.map fun l => (⟨l⟩ : PySem.W.Tup Int))) = PyData.list (c.map tupI) := fun c => by
    show PyData.list ((c.map _).map _) = _
    rw [List.map_map]; rfl
  rw [e, e] at h
  rw [h, Bool.eq_iff_iff, decide_eq_true_eq, decide_eq_true_eq]
  refine ⟨fun z => ?_, fun z => by rw [z]⟩
  have h2 := congrArg (List.map PySem.W.Tup.items) z
  rw [List.map_map, List.map_map] at h2
  have e2 : ∀ c : List (List Int), c.map (PySem.W.Tup.items ∘ fun l => (⟨l⟩ : PySem.W.Tup Int)) = c := fun c => by
    conv => rhs; rw [← List.map_id c]
    rfl
  rw [e2, e2] at h2
  exact h2
section
variable {P : Program} {w : World} {K : PySem.W.Frag} {mg : Str → Option Value} {base : Heap}
/-- a value to be asked of: what are tuples at the lots' place are short -/
def φIsFam : List Ar → (D → Prop) → Prop := fun as Kd => ∃ (v : D) (B : Nat), as = [.d v] ∧ okW B [3, 129, 8, 2] v = true ∧ Kd (.bool (famV v))
theorem olot_at {B : Nat} {d : D} (h : okW B [8, 2] d = true) : noF d = true ∧ ∀ q, d = .tuple q → q.length ≤ 60 ∧ ∀ e ∈ q, noF e = true :=
  ⟨okW_noF h, fun q e => by subst e; exact ⟨Nat.le_trans (okW_tupE h).1 (by decide), fun x hx => okW_noF ((okW_tupE h).2 x hx)⟩⟩
end
end K61

/-! k01: what is a family, the law's own. -/
namespace K61
open PySem L2 DL
theorem mem_sides {l s : List Int} : s ∈ sidesL l ↔ ∃ k, k < l.length ∧ s = l.eraseIdx k := by
  unfold sidesL
  rw [List.mem_map]
  constructor
  · rintro ⟨k, hk, rfl⟩; exact ⟨k, List.mem_range.mp hk, rfl⟩
  · rintro ⟨k, hk, rfl⟩; exact ⟨k, List.mem_range.mpr hk, rfl⟩
/-- a shorter part lies in a side -/
theorem sub_side {s : List Int} : ∀ {l : List Int}, s.Sublist l → s.length < l.length → ∃ k, k < l.length ∧ s.Sublist (l.eraseIdx k) := by
  intro l h
  induction h with
  | slnil => intro h; cases h
  | @cons s l a h ih => intro _; exact ⟨0, Nat.zero_lt_succ _, h⟩
  | @cons_cons s l a h ih =>
    intro hl
    obtain ⟨k, hk, hs⟩ := ih (by simpa using hl)
    exact ⟨k + 1, by simpa using hk, hs.cons₂ a⟩
/-- closed under sides: closed under parts -/
theorem down_parts {lots : List (List Int)} (h : ∀ l ∈ lots, ∀ s ∈ sidesL l, s ∈ lots) : ∀ (n : Nat) (l : List Int), l.length ≤ n → l ∈ lots → ∀ s, s.Sublist l → s ∈ lots
  | n, l, hn, hl, s, hs => by
    by_cases e : s.length < l.length
    · obtain ⟨k, hk, h2⟩ := sub_side hs e
      match n with
      | 0 => omega
      | n + 1 => exact down_parts h n (l.eraseIdx k) (by rw [List.length_eraseIdx]; split <;> omega) (h l hl _ (mem_sides.mpr ⟨k, hk, rfl⟩)) s h2
    · rw [hs.eq_of_length (by have := hs.length_le; omega)]
      exact hl
theorem downB_eq (lots : List (List Int)) : downB lots = lots.all fun l => (partsL l).all fun s => decide (s ∈ lots) := by
  rw [Bool.eq_iff_iff]
  unfold downB
  simp only [List.all_eq_true, decide_eq_true_eq]
  constructor
  · intro h l hl s hs
    exact down_parts h l.length l (Nat.le_refl _) hl s (mem_partsL.mp hs)
  · intro h l hl s hs
    obtain ⟨k, hk, rfl⟩ := mem_sides.mp hs
    exact h l hl _ (mem_partsL.mpr (List.eraseIdx_sublist l k))
theorem sort_asc_lots (lots : List (List Int)) : decide (lots = sortL (uni [] lots)) = decide (AscL lots) := by
  have nd : (uni [] lots).Nodup := nodup_uni lots [] List.nodup_nil
  rw [Bool.eq_iff_iff, decide_eq_true_eq, decide_eq_true_eq]
  constructor
  · intro e
    have h := sortL_lt nd
    rw [← e] at h; exact h
  · intro h
    refine sorted_one h (sortL_lt nd) fun x => ?_
    rw [(sortL_perm _).mem_iff, mem_uni]
    simp
theorem all_uni (lots : List (List Int)) (p : List Int → Bool) : (uni [] lots).all p = lots.all p := by
  rw [Bool.eq_iff_iff, List.all_eq_true, List.all_eq_true]
  constructor
  · intro h l hl; exact h l ((mem_uni _ _).mpr (.inr hl))
  · intro h l hl; exact h l (by simpa using (mem_uni _ _).mp hl)
theorem mem_uni0 {lots : List (List Int)} {s : List Int} : decide (s ∈ uni [] lots) = decide (s ∈ lots) := by
  congr 1
  rw [mem_uni]; simp
theorem kvL_keys (ks : List (List Int)) : (kvL ks).map (·.1) = ks := by
  unfold kvL
  rw [List.map_map]
  conv => rhs; rw [← List.map_id ks]
  rfl
section
variable {P : Program} {w : World} {K : PySem.W.Frag} {mg : Str → Option Value} {base : Heap}
end
end K61

/-! k01: the family of lots, its greatest lots, its sizes. -/
namespace DL
open PySem L2
/-- over a local name that holds a tuple or a list -/
theorem jiV {X : Cx} {r : SR} {S : List Sl} {tg : Expr} {x : Str} {pos : Pos} {K : List D → List Sl → Prop} (i : Nat) {d : D} {ds : List D} (h : d = .tuple ds ∨ d = .list ds) (k : K ds S) (e : S[i]? = some (.val d) := by rfl) (hN : X.N[i]? = some x := by rfl) (hv : Vis X.env.scope x := by first | exact Or.inl rfl | exact Or.inr (Or.inl rfl) | exact Or.inr (Or.inr rfl)) (hd : (x == ("__debug__" : Str)) = false := by decide) (hcd : (x == ("__classdict__" : Str)) = false := by decide) : JI X r tg (.Name x pos) S K := by
  rcases h with h | h
  · exact jiT (jv i ⟨ds, h, k⟩ e hN hv hd hcd)
  · exact jiL (jv i ⟨ds, h, k⟩ e hN hv hd hcd)
end DL
namespace K61
open PySem L2 DL
theorem uni_snoc {α : Type} [DecidableEq α] (a g : List α) (x : α) : uni a (g ++ [x]) = if x ∈ uni a g then uni a g else uni a g ++ [x] := by unfold uni; rw [List.foldl_append]; rfl
theorem uni_uni {α : Type} [DecidableEq α] (a g : List α) : uni a (uni [] g) = uni a g := by
  have : ∀ m : List α, uni a (uni [] m.reverse) = uni a m.reverse := fun m => by
    induction m with
    | nil => rfl
    | cons x m ih =>
      rw [List.reverse_cons]
      generalize m.reverse = g at *
      rw [uni_snoc [] g x, uni_snoc a g x]
      by_cases h : x ∈ uni [] g
      · have h2 : x ∈ uni a g := (mem_uni _ _).mpr (.inr (((mem_uni _ _).mp h).resolve_left (by intro z; cases z)))
        rw [if_pos h, if_pos h2, ih]
      · rw [if_neg h, uni_snoc, ih]
  have := this g.reverse
  rwa [List.reverse_reverse] at this
theorem sub_len {α : Type} [DecidableEq α] : ∀ {a b : List α}, a.Nodup → (∀ x ∈ a, x ∈ b) → a.length ≤ b.length
  | [], _, _, _ => Nat.zero_le _
  | x :: a, b, nd, h => by
    have nd := List.nodup_cons.mp nd
    have hx := h x List.mem_cons_self
    have h2 := sub_len (a := a) (b := b.erase x) nd.2 fun y hy => (List.mem_erase_of_ne (fun (e : y = x) => nd.1 (by rw [← e]; exact hy))).mpr (h y (List.mem_cons_of_mem _ hy))
    rw [List.length_erase_of_mem hx] at h2
    have := List.length_pos_of_mem hx
    rw [List.length_cons]
    omega
theorem keyL_len (kvs : List (List Int × D)) : (keyL kvs).length = kvs.length := by unfold keyL; rw [List.length_map]
theorem at_map {α : Type} {f : α → D} {l : List α} {i : Nat} {d : D} (h : (l.map f)[i]? = some d) : ∃ x, l[i]? = some x ∧ d = f x := by
  rw [List.getElem?_map] at h
  cases e : l[i]? with
  | none => rw [e] at h; cases h
  | some x => rw [e] at h; exact ⟨x, rfl, (Option.some.inj h).symm⟩
theorem take_at {α : Type} {l : List α} {i : Nat} {x : α} (h : l[i]? = some x) : l.take (i + 1) = l.take i ++ [x] := by rw [List.take_succ, h]; rfl
/-! ### what they compute -/
def topsL (fam : List (List Int)) : List (List Int) := fam.filter fun l => !fam.any fun t => decide (l ∈ sidesL t)
def lens (ls : List (List Int)) : List Int := ls.map fun l => (l.length : Int)
def topSz (tops : List (List Int)) : D := match tops with
  | [] => .none
  | t :: ts => if (t :: ts).all (fun l => decide (l.length = t.length)) = true then .int t.length else .none
def sized (fam : List (List Int)) (k : Int) : List (List Int) := fam.filter fun l => decide ((l.length : Int) = k)
def IsMost (fam : List (List Int)) (m : Int) : Prop := m ∈ (-1 :: lens fam) ∧ ∀ y ∈ (-1 :: lens fam), y ≤ m
def signF (fam : List (List Int)) : Int := (fam.map fun l => (1 : Int) - 2 * ((l.length : Int) % 2)).sum
theorem most_one {fam : List (List Int)} {a b : Int} (ha : IsMost fam a) (hb : IsMost fam b) : a = b := by
  have := ha.2 b hb.1
  have := hb.2 a ha.1
  omega
theorem most_lo {fam : List (List Int)} {a : Int} (ha : IsMost fam a) : -1 ≤ a := ha.2 _ List.mem_cons_self
theorem most_hi {fam : List (List Int)} {a : Int} {n : Nat} (ha : IsMost fam a) (h : ∀ l ∈ fam, l.length ≤ n) : a ≤ n := by
  rcases List.mem_cons.mp ha.1 with rfl | h1
  · omega
  · obtain ⟨l, hl, rfl⟩ := List.mem_map.mp h1
    have := h l hl; omega
/-- one size alone -/
theorem one_size {tops : List (List Int)} {ys : List Int} (hp : ys.Perm (uni [] (lens tops))) : (ys.length = 1 ∧ ∃ k, ys = [k] ∧ topSz tops = .int k) ∨ (ys.length ≠ 1 ∧ topSz tops = .none) := by
  have nd : ys.Nodup := hp.nodup_iff.mpr (nodup_uni _ [] List.nodup_nil)
  have hm : ∀ x, x ∈ ys ↔ x ∈ lens tops := fun x => by rw [hp.mem_iff, mem_uni]; simp
  cases tops with
  | nil =>
    right
    cases ys with
    | nil => exact ⟨by decide, rfl⟩
    | cons y ys => exact absurd ((hm y).mp List.mem_cons_self) (by intro h; cases h)
  | cons t ts =>
    cases ha : (t :: ts).all (fun l => decide (l.length = t.length)) with
    | true =>
      left
      have hall : ∀ x ∈ ys, x = (t.length : Int) := fun x hx => by
        obtain ⟨l, hl, rfl⟩ := List.mem_map.mp ((hm x).mp hx)
        have := of_decide_eq_true (List.all_eq_true.mp ha l hl)
        rw [this]
      have ht : (t.length : Int) ∈ ys := (hm _).mpr (List.mem_map.mpr ⟨t, List.mem_cons_self, rfl⟩)
      match ys, nd, hall, ht with
      | [y], _, hall, _ =>
        have := hall y List.mem_cons_self
        subst this
        refine ⟨rfl, _, rfl, ?_⟩
        show (if (t :: ts).all (fun l => decide (l.length = t.length)) = true then PyData.int t.length else .none) = _
        rw [if_pos ha]
      | y :: z :: ys, nd, hall, _ =>
        have h1 := hall y List.mem_cons_self
        have h2 := hall z (List.mem_cons_of_mem _ List.mem_cons_self)
        exact absurd (h1.trans h2.symm) (by intro e; subst e; exact (List.nodup_cons.mp nd).1 List.mem_cons_self)
    | false =>
      right
      refine ⟨fun h1 => ?_, ?_⟩
      · obtain ⟨y, rfl⟩ : ∃ y, ys = [y] := by
          match ys, h1 with
          | [y], _ => exact ⟨y, rfl⟩
        have hall : ∀ l ∈ t :: ts, (l.length : Int) = y := fun l hl => by
          have := (hm (l.length : Int)).mpr (List.mem_map.mpr ⟨l, hl, rfl⟩)
          simpa using this
        have : (t :: ts).all (fun l => decide (l.length = t.length)) = true := List.all_eq_true.mpr fun l hl => decide_eq_true (by
          have h1 := hall l hl
          have h2 := hall t List.mem_cons_self
          omega)
        rw [this] at ha; cases ha
      · show (if (t :: ts).all (fun l => decide (l.length = t.length)) = true then PyData.int t.length else .none) = _
        rw [if_neg (by rw [ha]; decide)]
structure Txm (mg : Str → Option Value) : Prop where
  max : mg "max" = none
section
variable {P : Program} {w : World} {K : PySem.W.Frag} {mg : Str → Option Value} {base : Heap}
def φFamOf : List Ar → (D → Prop) → Prop := fun as Kd => ∃ (n : Nat) (lots : List (List Int)) (d : D), as = [.d (.int n), .d d] ∧ (d = .tuple (lots.map tupI) ∨ d = .list (lots.map tupI)) ∧ lots.length ≤ 1000 ∧ (∀ l ∈ lots, l.length ≤ 12) ∧ Kd (famD n (sortL (madeK lots)))
def φGreat : List Ar → (D → Prop) → Prop := fun as Kd => ∃ (n : Nat) (fam : List (List Int)), as = [.d (famD n fam)] ∧ fam.length ≤ 4096 ∧ (∀ l ∈ fam, l.length ≤ 12) ∧ Kd (.tuple ((topsL fam).map tupI))
theorem sides_len (l : List Int) : (sidesL l).length = l.length := by unfold sidesL; rw [List.length_map, List.length_range]
def φTopSz : List Ar → (D → Prop) → Prop := fun as Kd => ∃ (n : Nat) (fam : List (List Int)), as = [.d (famD n fam)] ∧ fam.length ≤ 4096 ∧ (∀ l ∈ fam, l.length ≤ 12) ∧ Kd (topSz (topsL fam))
theorem uni_lens {ls : List (List Int)} (h : ∀ l ∈ ls, l.length ≤ 12) : (uni [] (lens ls)).length ≤ 13 := by
  have := sub_len (a := uni [] (lens ls)) (b := rangeI 13) (nodup_uni _ [] List.nodup_nil) fun x hx => by
    have hx : x ∈ lens ls := by simpa using (mem_uni _ _).mp hx
    obtain ⟨l, hl, rfl⟩ := List.mem_map.mp hx
    have := h l hl
    rw [mem_rangeI]; omega
  rwa [rangeI_len] at this
def φSized (g : List (List Int) → D) : List Ar → (D → Prop) → Prop := fun as Kd => ∃ (n : Nat) (fam : List (List Int)) (m : Int), as = [.d (famD n fam), .d (.int m)] ∧ fam.length ≤ 4096 ∧ Kd (g (sized fam m))
def φMost : List Ar → (D → Prop) → Prop := fun as Kd => ∃ (n : Nat) (fam : List (List Int)), as = [.d (famD n fam)] ∧ fam.length ≤ 4096 ∧ ∀ m : Int, IsMost fam m → Kd (.int m)
def sizesD (fam : List (List Int)) (m : Int) : D := .tuple ((List.range (m + 1).toNat).map fun (k : Nat) => .int ((sized fam k).length : Nat))
def φSizes : List Ar → (D → Prop) → Prop := fun as Kd => ∃ (n : Nat) (fam : List (List Int)), as = [.d (famD n fam)] ∧ fam.length ≤ 4096 ∧ (∀ l ∈ fam, l.length ≤ 12) ∧ ∀ m : Int, IsMost fam m → Kd (sizesD fam m)
def φSignF : List Ar → (D → Prop) → Prop := fun as Kd => ∃ (n : Nat) (fam : List (List Int)), as = [.d (famD n fam)] ∧ fam.length ≤ 4096 ∧ Kd (.int (signF fam))
end
end K61

/-! k01: drawn families. -/
namespace DL
open PySem L2
variable {X : Cx} {r : SR} {S : List Sl}
/-- min(a, b) -/
theorem jmin2 {K : D → List Sl → Prop} {a b : Expr} {p pos : Pos} (hm : X.mg "min" = none) (h : JE X r a S fun d1 S1 => JE X r b S1 fun d2 S2 => ∃ i j : Int, d1 = .int i ∧ d2 = .int j ∧ K (.int (if j < i then j else i)) S2) (hc : X.calm = true := by rfl) (hg : Gl X "min" := by rfl)
    (hs : starEach [a, b] X.env = (false, eval a X.env) :: starEach [b] X.env := by rfl) (hs2 : starEach [b] X.env = (false, eval b X.env) :: starEach [] X.env := by rfl) (hpl : (backTo pos (starEach [b] X.env)).any (·.1) = false := by rfl) : JE X r (.Call (.Name "min" p) [a, b] [] pos) S K :=
  jB (call_min2 hc) hm (jA (h.mono fun d1 S1 h1 => ja1 (h1.mono fun d2 S2 ⟨i, j, e1, e2, kk⟩ => ⟨[d1, d2], rfl, by
    subst e1 e2
    intro F H vs kF rv Q q
    cases rv with
    | cons r1 t =>
      cases t with
      | cons r2 t =>
        cases t
        cases r1
        cases r2
        exact ⟨i, j, rfl, q _ _ F H kk (Grow.refl kF) (.int _)⟩⟩) hs2) hs) hg (by decide +kernel) (by decide) (by decide) hs hpl
/-- [x for x in .. if ..], draws in the test -/
theorem jn_lcS {elt tg iter : Expr} {ifs : List Expr} {scope : Scope} {pos : Pos} (own : List (Str × Nat)) (ts : List Nat) {K : List D → List Sl → Prop} (h : JI X r tg iter S fun ds S1 => noOwn (own.map (·.2)) S1 = true ∧ ds.length ≤ 1000000 ∧ (∀ d ∈ ds, Blk X scope fun Y => JG Y r tg ts d (wipeS S1 (own.map (·.2))) fun S2 => Blk X scope fun Y => JTs Y r ifs S2 fun b S3 => if b = true then Blk X scope fun Y => JE Y r elt S3 fun y S4 => y = d ∧ mrg (own.map (·.2)) S1 S4 = S1 else mrg (own.map (·.2)) S1 S3 = S1) ∧ ∀ zs : List D, zs.Sublist ds → K zs S1)
    (hc : X.calm = true := by rfl) (hN : X.N.Nodup := by assumption) (ok : BlkOk X.N X.env.scope scope own := by exact blkOk_by rfl) (hs : ∀ x, foldedSetIterable iter X.env x = pure x := by intro _; rfl) (hts : ∀ j ∈ ts, j ∈ own.map (·.2) := by decide) : JN X r (.ListComp elt [⟨tg, iter, ifs, 0⟩] scope pos) S K :=
  jn_lc own ts hc hN ok hs hts (h.mono fun ds S1 ⟨ho, hl, ht, hk⟩ => ⟨fun i acc S' => S' = S1 ∧ acc.Sublist (ds.take i), ⟨rfl, List.nil_sublist _⟩, fun i acc S' ⟨e, ha⟩ hi => by
    subst e
    refine ⟨?_, noOwn_of ho⟩
    have hz : sizeLine = 16777216 := sizeLine_eq
    have := ha.length_le
    rw [List.length_take] at this
    omega, fun i d acc S' hd ⟨e, ha⟩ => by
    subst e
    have tk : ds.take (i + 1) = ds.take i ++ [d] := by rw [List.take_succ, hd]; rfl
    intro s1 H1 C1 cl1 fp1
    refine (ht d (List.mem_of_getElem? hd) s1 H1 C1 cl1 fp1).mono fun S2 h2 => ?_
    intro s2 H2 C2 cl2 fp2
    refine (h2 s2 H2 C2 cl2 fp2).mono fun b S3 h3 => ?_
    cases b with
    | true =>
      rw [if_pos rfl] at h3 ⊢
      intro s3 H3 C3 cl3 fp3
      refine (h3 s3 H3 C3 cl3 fp3).mono fun y S4 ⟨hy, hm⟩ => ⟨hm, ?_⟩
      rw [tk, hy]
      exact ha.append (List.Sublist.refl _)
    | false =>
      rw [if_neg Bool.false_ne_true] at h3 ⊢
      refine ⟨h3, ?_⟩
      rw [tk]
      exact ha.trans (List.sublist_append_left _ _), fun acc S' ⟨e, ha⟩ => by
    subst e
    rw [List.take_length] at ha
    exact hk acc ha⟩)
/-- sorted(x), the ints told -/
theorem jsortIM {K : List D → List Sl → Prop} {a : Expr} {p pos : Pos} {k : Nat} (hr : Room k X.A) (hm : X.mg "sorted" = none) (h : JE X r a S fun d S1 => ∃ ns : List Int, d = .list (ns.map .int) ∧ K ((ns.mergeSort fun a b => decide (a ≤ b)).map .int) S1) (hg : Gl X "sorted" := by rfl) (hs : starEach [a] X.env = (false, eval a X.env) :: starEach [] X.env := by rfl) : JN X r (.Call (.Name "sorted" p) [a] [] pos) S K :=
  jsorted hr hm (h.mono fun d S1 ⟨ns, e, k⟩ => ⟨_, e, nice_map fun a => nice_int a, alike_map fun a b => by simp [PySem.W.alike], PySem.W.Sortable.others fun b => ⟨(by intro z; cases z), (by intro _ z; cases z)⟩, by
    rw [sort_map (PySem.W.dataLe_int fun b => b)]
    exact k⟩) hg hs
end DL
namespace K61
open PySem L2 DL
structure Txn (mg : Str → Option Value) : Prop where
  min : mg "min" = none
def wordsP : List Str := Txt.split "012 013 024 035 045 125 134 145 234 235" " "
def digs (w : Str) : List Int := w.cps.toList.map fun (c : Nat) => ((c : Int) - 48)
def planeL : List (List Int) := wordsP.map digs
theorem words_ok : ∀ w ∈ wordsP, ∀ c ∈ w.cps.toList, PySem.intText? ⟨#[c]⟩ = some ((c : Int) - 48) := by
  have h : (wordsP.all fun w => w.cps.toList.all fun c => decide (PySem.intText? ⟨#[c]⟩ = some ((c : Int) - 48))) = true := by decide +kernel
  exact fun w hw c hc => of_decide_eq_true (List.all_eq_true.mp (List.all_eq_true.mp h w hw) c hc)
theorem plane_ok : ∀ l ∈ planeL, l.Nodup ∧ ∀ x ∈ l, 0 ≤ x ∧ x < 6 := by
  have h : (planeL.all fun l => decide l.Nodup && l.all fun x => decide (0 ≤ x ∧ x < 6)) = true := by decide +kernel
  intro l hl
  have h1 := List.all_eq_true.mp h l hl
  rw [Bool.and_eq_true, decide_eq_true_eq, List.all_eq_true] at h1
  exact ⟨h1.1, fun x hx => of_decide_eq_true (h1.2 x hx)⟩
theorem plane_len : planeL.length = 10 := by decide +kernel
theorem rangeI_succ (n : Nat) : rangeI (n + 1) = rangeI n ++ [(n : Int)] := by
  unfold rangeI
  rw [List.range_succ, List.map_append]; rfl
theorem rangeI_mono {m n : Nat} (h : m ≤ n) : (rangeI m).Sublist (rangeI n) := sub_of_sorted (rangeI_lt m) (rangeI_lt n) fun x hx => by
  rw [mem_rangeI] at hx ⊢
  omega
theorem sorted_sub {q ys : List Int} {n : Nat} (nd : q.Nodup) (hr : ∀ x ∈ q, 0 ≤ x ∧ x < n) (hp : ys.Perm q) (hs : ys.Pairwise (· ≤ ·)) : ys.Sublist (rangeI n) :=
  lotOk_iff.mp ⟨sorted_lt hs (hp.nodup_iff.mpr nd), fun x hx => hr x (hp.mem_iff.mp hx)⟩
theorem ms_sorted (q : List Int) : (q.mergeSort fun a b => decide (a ≤ b)).Pairwise (· ≤ ·) := by
  have := List.pairwise_mergeSort (le := fun a b : Int => decide (a ≤ b)) (by intro a b c; simp; omega) (by intro a b; simp; omega) q
  simpa using this
def namedL (ms l : List Int) : List Int := (l.map fun x => ms.getD x.toNat 0).mergeSort fun a b => decide (a ≤ b)
theorem named_sub {ms l : List Int} (hp : ms.Perm (rangeI 6)) (hl : l.Nodup) (h6 : ∀ x ∈ l, 0 ≤ x ∧ x < 6) : (namedL ms l).Sublist (rangeI 6) := by
  have hlen : ms.length = 6 := by rw [hp.length_eq, rangeI_len]
  have hnd : ms.Nodup := hp.nodup_iff.mpr (by decide +kernel)
  have hpw := List.pairwise_iff_getElem.mp (List.nodup_iff_pairwise_ne.mp hnd)
  have inj : ∀ i j : Nat, i < 6 → j < 6 → ms.getD i 0 = ms.getD j 0 → i = j := fun i j hi hj e => by
    rw [getD_at (show i < ms.length by omega), getD_at (show j < ms.length by omega)] at e
    rcases Nat.lt_trichotomy i j with h | h | h
    · exact absurd e (hpw i j (by omega) (by omega) h)
    · exact h
    · exact absurd e.symm (hpw j i (by omega) (by omega) h)
  refine sorted_sub (q := l.map fun (x : Int) => ms.getD x.toNat 0) ?_ (fun x hx => ?_) (by unfold namedL; exact List.mergeSort_perm _ _) (by unfold namedL; exact ms_sorted _)
  · refine List.nodup_iff_pairwise_ne.mpr (List.pairwise_map.mpr ((List.nodup_iff_pairwise_ne.mp hl).imp_of_mem fun {a b} ha hb hab e => ?_))
    have h1 := h6 a ha
    have h2 := h6 b hb
    have := inj a.toNat b.toNat (by omega) (by omega) e
    omega
  · obtain ⟨y, hy, rfl⟩ := List.mem_map.mp hx
    have h1 := h6 y hy
    rw [getD_at (show y.toNat < ms.length by omega)]
    have := hp.mem_iff.mp (List.getElem_mem (show y.toNat < ms.length by omega))
    rw [mem_rangeI] at this
    exact this
section
variable {P : Program} {w : World} {K : PySem.W.Frag} {mg : Str → Option Value} {base : Heap}
def φMade : List Ar → (D → Prop) → Prop := fun as Kd => ∃ (n : Nat) (lots : List (List Int)), as = [.d (.int n), .d (.list (lots.map tupI))] ∧ lots.length ≤ 200 ∧ (∀ l ∈ lots, l.Sublist (rangeI 7)) ∧ Kd (famD n (sortL (madeK lots)))
theorem sub7_len {l : List Int} (h : l.Sublist (rangeI 7)) : l.length ≤ 12 := Nat.le_trans h.length_le (by rw [rangeI_len]; decide)
theorem mergeD_nil_kvL (b : List (List Int)) : mergeD [] (kvL b) = kvL (uni [] b) := mergeD_kvL b []
def φPlane : List Ar → (D → Prop) → Prop := fun as Kd => as = [] ∧ Kd (.list (planeL.map tupI))
def φFamily : List Ar → (D → Prop) → Prop := fun as Kd => ∃ most size : Nat, as = [.src, .d (.int most), .d (.int size)] ∧ most ≤ 7 ∧ size ≤ 7 ∧ ∀ (n : Nat) (fam : List (List Int)), n ≤ most → FamP n fam → Kd (famD n fam)
end
end K61



namespace K61
open PySem L2 DL
/-! ### data -/
section
variable {P : Program} {w : World} {K : PySem.W.Frag} {mg : Str → Option Value} {base : Heap}
/-! ### the package -/
/-! ### the law's own looks -/
end
end K61

namespace K61
open PySem L2 DL
section
variable {P : Program} {w : World} {K : PySem.W.Frag} {mg : Str → Option Value} {base : Heap}
end
end K61

namespace K61
open PySem L2 DL
section
variable {P : Program} {w : World} {K : PySem.W.Frag} {mg : Str → Option Value} {base : Heap}
end
end K61

namespace K61
open PySem L2 DL
section
variable {P : Program} {w : World} {K : PySem.W.Frag} {mg : Str → Option Value} {base : Heap}
end
end K61

namespace K61
open PySem L2 DL
section
variable {P : Program} {w : World} {K : PySem.W.Frag} {mg : Str → Option Value} {base : Heap}
end
end K61


/-! k31: parts, lots left, signs. -/
namespace K61
open PySem L2 DL
/-! ### what they compute -/
section
variable {P : Program} {w : World} {K : PySem.W.Frag} {mg : Str → Option Value} {base : Heap}
/-! ### the parts -/
/-! ### what lots leave -/
end
end K61

/-! k31: all lots, the turned family, what is a family. -/
namespace K61
open PySem L2 DL
section
variable {P : Program} {w : World} {K : PySem.W.Frag} {mg : Str → Option Value} {base : Heap}
/-! ### the turned family -/
/-! ### signs -/
/-! ### what is a family -/
end
end K61

/-! k31: the plain law. -/
namespace K61
open PySem L2 DL
/-! ### made of lots -/
end K61


/-! k32: chains, in plain Lean. -/
namespace K61
open PySem L2 DL
/-! ### sums -/
def sm {α : Type} (l : List α) (g : α → Int) : Int := (l.map g).sum
section
variable {α β : Type}
theorem sm_nil (g : α → Int) : sm [] g = 0 := rfl
theorem sm_cons (a : α) (l : List α) (g : α → Int) : sm (a :: l) g = g a + sm l g := by unfold sm; rw [List.map_cons, List.sum_cons]
theorem sm_congr {l : List α} {g h : α → Int} (e : ∀ a ∈ l, g a = h a) : sm l g = sm l h := by unfold sm; rw [List.map_congr_left e]
theorem sm_add (l : List α) (g h : α → Int) : sm l (fun a => g a + h a) = sm l g + sm l h := by
  induction l with
  | nil => rfl
  | cons a l ih => rw [sm_cons, sm_cons, sm_cons, ih]; omega
theorem sm_neg (l : List α) (g : α → Int) : sm l (fun a => - g a) = - sm l g := by
  induction l with
  | nil => rfl
  | cons a l ih => rw [sm_cons, sm_cons, ih]; omega
theorem sm_mul (l : List α) (g : α → Int) (c : Int) : sm l (fun a => g a * c) = sm l g * c := by
  induction l with
  | nil => rw [sm_nil, sm_nil, Int.zero_mul]
  | cons a l ih => rw [sm_cons, sm_cons, ih, Int.add_mul]
theorem sm_zero {l : List α} {g : α → Int} (e : ∀ a ∈ l, g a = 0) : sm l g = 0 := by
  rw [sm_congr e]
  induction l with
  | nil => rfl
  | cons a l ih => rw [sm_cons, ih fun b hb => e b (List.mem_cons_of_mem _ hb)]; rfl
theorem sm_comm (l : List α) (m : List β) (g : α → β → Int) : sm l (fun a => sm m fun b => g a b) = sm m fun b => sm l fun a => g a b := by
  induction l with
  | nil => rw [sm_nil, sm_zero]; intro a _; rfl
  | cons a l ih => rw [sm_cons, ih, ← sm_add]; exact sm_congr fun b _ => by rw [sm_cons]
theorem sm_map (l : List α) (f : α → β) (g : β → Int) : sm (l.map f) g = sm l fun a => g (f a) := by unfold sm; rw [List.map_map]; rfl
theorem sm_append (l m : List α) (g : α → Int) : sm (l ++ m) g = sm l g + sm m g := by
  induction l with
  | nil => rw [List.nil_append, sm_nil, Int.zero_add]
  | cons a l ih => rw [List.cons_append, sm_cons, sm_cons, ih]; omega
theorem sm_flat (l : List α) (f : α → List β) (g : β → Int) : sm (l.flatMap f) g = sm l fun a => sm (f a) g := by
  induction l with
  | nil => rfl
  | cons a l ih => rw [List.flatMap_cons, sm_append, sm_cons, ih]
theorem sm_filter (l : List α) (p : α → Bool) (g : α → Int) : sm (l.filter p) g = sm l fun a => if p a = true then g a else 0 := by
  induction l with
  | nil => rfl
  | cons a l ih =>
    rw [List.filter_cons, sm_cons]
    by_cases h : p a = true
    · rw [if_pos h, if_pos h, sm_cons, ih]
    · rw [if_neg h, if_neg h, ih, Int.zero_add]
/-- one term alone -/
theorem sm_one {l : List α} (nd : l.Nodup) {a0 : α} (h0 : a0 ∈ l) {g : α → Int} (e : ∀ a ∈ l, a ≠ a0 → g a = 0) : sm l g = g a0 := by
  induction l with
  | nil => cases h0
  | cons a l ih =>
    rw [List.nodup_cons] at nd
    rw [sm_cons]
    rcases List.mem_cons.mp h0 with rfl | h0
    · rw [sm_zero fun b hb => e b (List.mem_cons_of_mem _ hb) fun z => nd.1 (z ▸ hb), Int.add_zero]
    · rw [e a List.mem_cons_self (fun z => nd.1 (z ▸ h0)), ih nd.2 h0 fun b hb => e b (List.mem_cons_of_mem _ hb), Int.zero_add]
theorem rangeI_nd (n : Nat) : (rangeI n).Nodup := nodup_range_int n
theorem sm_anti : ∀ (l : List α) {g : α → α → Int}, (∀ a ∈ l, ∀ b ∈ l, g a b = - g b a) → sm l (fun a => sm l fun b => g a b) = 0
  | [], _, _ => rfl
  | x :: l, g, e => by
    have ih := sm_anti l (g := g) fun a ha b hb => e a (List.mem_cons_of_mem _ ha) b (List.mem_cons_of_mem _ hb)
    rw [sm_cons, sm_cons]
    have h1 : sm l (fun a => sm (x :: l) fun b => g a b) = sm l (fun a => g a x) + sm l fun a => sm l fun b => g a b := by
      rw [← sm_add]
      exact sm_congr fun a _ => sm_cons _ _ _
    have h2 : sm l (fun a => g a x) = - sm l fun b => g x b := by
      rw [← sm_neg]
      exact sm_congr fun a ha => e a (List.mem_cons_of_mem _ ha) x List.mem_cons_self
    have h3 := e x List.mem_cons_self x List.mem_cons_self
    rw [h1, h2, ih]
    omega
end
theorem sm_bound {α : Type} {l : List α} {g : α → Int} {B : Int} (h : ∀ a ∈ l, -B ≤ g a ∧ g a ≤ B) : -(l.length * B) ≤ sm l g ∧ sm l g ≤ l.length * B := by
  induction l with
  | nil => rw [sm_nil]; simp
  | cons a l ih =>
    have h1 := h a List.mem_cons_self
    have h2 := ih fun b hb => h b (List.mem_cons_of_mem _ hb)
    rw [sm_cons, List.length_cons]
    have : ((l.length + 1 : Nat) : Int) * B = l.length * B + B := by rw [Int.natCast_add, Int.add_mul]; simp
    omega
/-! ### chains of so many things, by what they have at each lot -/
def canon (n : Nat) (f : List Int → Int) : DI := ((allL n).filter fun l => decide (f l ≠ 0)).map fun l => (l, f l)
theorem allL_nd (n : Nat) : (allL n).Nodup := nodup_of_lt (allL_lt n)
theorem keyI_canon (n : Nat) (f : List Int → Int) : keyI (canon n f) = (allL n).filter fun l => decide (f l ≠ 0) := by
  unfold keyI canon
  rw [List.map_map]
  conv => rhs; rw [← List.map_id ((allL n).filter fun l => decide (f l ≠ 0))]
  rfl
theorem canon_nd (n : Nat) (f : List Int → Int) : (keyI (canon n f)).Nodup := by rw [keyI_canon]; exact (allL_nd n).sublist List.filter_sublist
theorem canon_ext {n : Nat} {f g : List Int → Int} (h : ∀ l ∈ allL n, f l = g l) : canon n f = canon n g := by
  unfold canon
  have e : (allL n).filter (fun l => decide (f l ≠ 0)) = (allL n).filter fun l => decide (g l ≠ 0) := List.filter_congr fun l hl => by rw [h l hl]
  rw [e]
  exact List.map_congr_left fun l hl => by rw [h l (List.mem_filter.mp hl).1]
theorem mem_canon {n : Nat} {f : List Int → Int} {p : List Int × Int} : p ∈ canon n f ↔ p.1 ∈ allL n ∧ p.2 = f p.1 ∧ p.2 ≠ 0 := by
  unfold canon
  rw [List.mem_map]
  constructor
  · rintro ⟨l, hl, rfl⟩
    rw [List.mem_filter, decide_eq_true_eq] at hl
    exact ⟨hl.1, rfl, hl.2⟩
  · rintro ⟨h1, h2, h3⟩
    refine ⟨p.1, List.mem_filter.mpr ⟨h1, decide_eq_true (h2 ▸ h3)⟩, ?_⟩
    rw [← h2]
theorem canon_len (n : Nat) (f : List Int → Int) : (canon n f).length ≤ 2 ^ n := by
  unfold canon
  rw [List.length_map, ← allL_len]
  exact List.length_filter_le _ _
theorem sm_canon {n : Nat} {f : List Int → Int} (F : List Int → Int → Int) (h : ∀ l, F l 0 = 0) : sm (canon n f) (fun p => F p.1 p.2) = sm (allL n) fun l => F l (f l) := by
  unfold canon
  rw [sm_map, sm_filter]
  refine sm_congr fun l _ => ?_
  by_cases e : f l = 0
  · rw [if_neg (by simp [e]), e, h]
  · rw [if_pos (decide_eq_true e)]
theorem getI_mem {ps : DI} (nd : (keyI ps).Nodup) {k : List Int} {c : Int} (h : (k, c) ∈ ps) : getI ps k = c := by
  induction ps with
  | nil => cases h
  | cons p ps ih =>
    have nd' : (p.1 :: keyI ps).Nodup := nd
    rw [List.nodup_cons] at nd'
    unfold getI
    rcases List.mem_cons.mp h with e | h
    · subst e
      rw [List.find?_cons_of_pos (by simp)]; rfl
    · rw [List.find?_cons_of_neg]
      · exact ih nd'.2 h
      · intro e
        have e := of_decide_eq_true e
        exact nd'.1 (by rw [e]; exact List.mem_map.mpr ⟨_, h, rfl⟩)
theorem getI_canon {n : Nat} {f : List Int → Int} {l : List Int} (h : l ∈ allL n) : getI (canon n f) l = f l := by
  by_cases e : f l = 0
  · rw [getI_none, e]
    rw [keyI_canon, List.mem_filter]
    simp [e]
  · exact getI_mem (canon_nd n f) (mem_canon.mpr ⟨h, rfl, e⟩)
/-- what told_chain tells -/
def toldM (m : DI) : DI := ((sortL (keyI m)).filter fun l => decide (getI m l ≠ 0)).map fun l => (l, getI m l)
theorem told_canon {n : Nat} {m : DI} (nd : (keyI m).Nodup) (sub : ∀ l ∈ keyI m, l ∈ allL n) : toldM m = canon n (getI m) := by
  unfold toldM canon
  congr 1
  refine sorted_one ((sortL_lt nd).sublist List.filter_sublist) ((allL_lt n).sublist List.filter_sublist) fun l => ?_
  rw [List.mem_filter, List.mem_filter, (sortL_perm _).mem_iff, decide_eq_true_eq]
  constructor
  · rintro ⟨h1, h2⟩
    exact ⟨sub l h1, h2⟩
  · rintro ⟨h1, h2⟩
    refine ⟨Classical.byContradiction fun h3 => h2 (getI_none h3), h2⟩
/-- a dict of pairs, told -/
theorem told_pairs {n : Nat} {ps : DI} (nd : (keyI ps).Nodup) (sub : ∀ l ∈ keyI ps, l ∈ allL n) : toldM (mergeI [] ps) = canon n (getI ps) := by
  rw [told_canon (nodup_mergeI ps (m := []) (show (keyI []).Nodup from List.nodup_nil)) (fun l hl => sub l (((mem_mergeI ps []).mp hl).resolve_left (by intro h; cases h)))]
  refine canon_ext fun l _ => ?_
  rw [getI_merge ps nd]
  split
  · rfl
  · rename_i h
    rw [getI_none h]; rfl
/-! ### led over, led back -/
def overF (n : Nat) (f : List Int → Int) : List Int → Int := fun M => f (restL n M) * signL (restL n M)
def backF (n : Nat) (f : List Int → Int) : List Int → Int := fun L => f (restL n L) * signL L
def overP (n : Nat) (ch : DI) : DI := ch.map fun p => (restL n p.1, p.2 * signL p.1)
def backP (n : Nat) (ch : DI) : DI := ch.map fun p => (restL n p.1, p.2 * signL (restL n p.1))
theorem rest_keys {n : Nat} {f : List Int → Int} (g : List Int × Int → Int) : (keyI ((canon n f).map fun p => (restL n p.1, g p))).Nodup ∧ ∀ l ∈ keyI ((canon n f).map fun p => (restL n p.1, g p)), l ∈ allL n := by
  have e : keyI ((canon n f).map fun p => (restL n p.1, g p)) = (keyI (canon n f)).map (restL n) := by
    unfold keyI
    rw [List.map_map, List.map_map]; rfl
  rw [e]
  constructor
  · rw [List.nodup_iff_pairwise_ne, List.pairwise_map]
    refine List.Pairwise.imp_of_mem ?_ (List.nodup_iff_pairwise_ne.mp (canon_nd n f))
    intro a b ha hb hne z
    have hs : ∀ a ∈ keyI (canon n f), a.Sublist (rangeI n) := fun a ha => by
      rw [keyI_canon] at ha
      exact mem_allL.mp (List.mem_filter.mp ha).1
    have := congrArg (restL n) z
    rw [rest_rest (hs a ha), rest_rest (hs b hb)] at this
    exact hne this
  · intro l hl
    obtain ⟨a, _, rfl⟩ := List.mem_map.mp hl
    exact restL_mem n a
theorem told_rest (n : Nat) (f : List Int → Int) (g : List Int × Int → Int) (G : List Int → Int) (h0 : ∀ M ∈ allL n, f (restL n M) = 0 → G M = 0) (h1 : ∀ M ∈ allL n, g (restL n M, f (restL n M)) = G M) :
    toldM (mergeI [] ((canon n f).map fun p => (restL n p.1, g p))) = canon n G := by
  obtain ⟨k1, k2⟩ := rest_keys (n := n) (f := f) g
  rw [told_pairs k1 k2]
  refine canon_ext fun M hM => ?_
  have hs := mem_allL.mp hM
  by_cases e : f (restL n M) = 0
  · rw [h0 M hM e]
    refine getI_none fun hk => ?_
    obtain ⟨p, hp, ep⟩ := List.mem_map.mp hk
    obtain ⟨q, hq, rfl⟩ := List.mem_map.mp hp
    obtain ⟨q1, q2, q3⟩ := mem_canon.mp hq
    have := congrArg (restL n) ep
    rw [rest_rest (mem_allL.mp q1)] at this
    rw [q2, this] at q3
    exact q3 e
  · refine getI_mem k1 (List.mem_map.mpr ⟨(restL n M, f (restL n M)), mem_canon.mpr ⟨restL_mem n M, rfl, e⟩, ?_⟩)
    rw [h1 M hM, rest_rest hs]
theorem told_over (n : Nat) (f : List Int → Int) : toldM (mergeI [] (overP n (canon n f))) = canon n (overF n f) :=
  told_rest n f (fun p => p.2 * signL p.1) (overF n f) (fun M _ e => by unfold overF; rw [e, Int.zero_mul]) fun M _ => rfl
theorem told_back (n : Nat) (f : List Int → Int) : toldM (mergeI [] (backP n (canon n f))) = canon n (backF n f) :=
  told_rest n f (fun p => p.2 * signL (restL n p.1)) (backF n f) (fun M _ e => by unfold backF; rw [e, Int.zero_mul]) fun M hM => by
    show f (restL n M) * signL (restL n (restL n M)) = _
    rw [rest_rest (mem_allL.mp hM)]; rfl
theorem sign_sq (l : List Int) : signL l * signL l = 1 := by
  unfold signL
  have : (List.map (fun x => x % 2) l).sum % 2 = 0 ∨ (List.map (fun x => x % 2) l).sum % 2 = 1 := by omega
  rcases this with h | h <;> rw [h] <;> rfl
theorem back_over (n : Nat) (f : List Int → Int) : canon n (backF n (overF n f)) = canon n f := canon_ext fun l hl => by
  unfold backF overF
  rw [rest_rest (mem_allL.mp hl), Int.mul_assoc, sign_sq, Int.mul_one]
theorem over_back (n : Nat) (f : List Int → Int) : canon n (overF n (backF n f)) = canon n f := canon_ext fun l hl => by
  show f (restL n (restL n l)) * signL (restL n l) * signL (restL n l) = f l
  rw [rest_rest (mem_allL.mp hl), Int.mul_assoc, sign_sq, Int.mul_one]
/-! ### borders -/
def sg (k : Int) : Int := 1 - 2 * (k % 2)
theorem sg_add (a b : Int) : sg (a + b) = sg a * sg b := by
  unfold sg
  have ha : a % 2 = 0 ∨ a % 2 = 1 := by omega
  have hb : b % 2 = 0 ∨ b % 2 = 1 := by omega
  rcases ha with ha | ha <;> rcases hb with hb | hb <;> rw [ha, hb] <;> omega
theorem sg_sq (a : Int) : sg a * sg a = 1 := by
  rw [← sg_add]; unfold sg; omega
def addI (m : DI) (k : List Int) (c : Int) : DI := putI m k (getI m k + c)
def addAll (m : DI) (qs : DI) : DI := qs.foldl (fun m q => addI m q.1 q.2) m
theorem addAll_append (m a b : DI) : addAll m (a ++ b) = addAll (addAll m a) b := by unfold addAll; rw [List.foldl_append]
theorem getI_addAll {S : List Int} : ∀ (qs m : DI), getI (addAll m qs) S = getI m S + sm qs fun q => if q.1 = S then q.2 else 0
  | [], m => by rw [sm_nil, Int.add_zero]; rfl
  | q :: qs, m => by
    show getI (addAll (addI m q.1 q.2) qs) S = _
    rw [getI_addAll qs, sm_cons]
    unfold addI
    rw [getI_put]
    by_cases e : q.1 = S
    · subst e
      rw [if_pos rfl, if_pos rfl]; omega
    · rw [if_neg (fun z => e z.symm), if_neg e]; omega
theorem keys_addAll {k : List Int} : ∀ (qs m : DI), k ∈ keyI (addAll m qs) ↔ k ∈ keyI m ∨ k ∈ keyI qs
  | [], m => ⟨.inl, fun h => h.elim id fun h => by cases h⟩
  | q :: qs, m => by
    show k ∈ keyI (addAll (addI m q.1 q.2) qs) ↔ _
    rw [keys_addAll qs]
    unfold addI
    rw [mem_keyI_put]
    show _ ↔ k ∈ keyI m ∨ k ∈ q.1 :: keyI qs
    rw [List.mem_cons, or_assoc]
theorem nodup_addAll : ∀ (qs : DI) {m : DI}, (keyI m).Nodup → (keyI (addAll m qs)).Nodup
  | [], _, h => h
  | q :: qs, _, h => nodup_addAll qs (nodup_put h _ _)
def termsL (p : List Int × Int) : DI := (List.range p.1.length).map fun k => (p.1.eraseIdx k, p.2 * sg k)
def terms (ch : DI) : DI := ch.flatMap termsL
def bordF (n : Nat) (f : List Int → Int) : List Int → Int := fun S => sm (allL n) fun L => sm (List.range L.length) fun k => if L.eraseIdx k = S then f L * sg k else 0
theorem erase_mem {n : Nat} {l : List Int} (h : l ∈ allL n) (k : Nat) : l.eraseIdx k ∈ allL n := mem_allL.mpr ((List.eraseIdx_sublist l k).trans (mem_allL.mp h))
theorem mem_termsL {p q : List Int × Int} (h : q ∈ termsL p) : ∃ k, q = (p.1.eraseIdx k, p.2 * sg k) := by
  unfold termsL at h
  obtain ⟨k, _, rfl⟩ := List.mem_map.mp h
  exact ⟨k, rfl⟩
theorem told_border (n : Nat) (f : List Int → Int) : toldM (addAll [] (terms (canon n f))) = canon n (bordF n f) := by
  rw [told_canon (n := n) (nodup_addAll _ (m := []) (show (keyI []).Nodup from List.nodup_nil)) fun l hl => ?_]
  · refine canon_ext fun S _ => ?_
    rw [getI_addAll]
    show 0 + _ = _
    rw [Int.zero_add]
    unfold terms
    rw [sm_flat]
    have := sm_canon (n := n) (f := f) (fun L c => sm (termsL (L, c)) fun q => if q.1 = S then q.2 else 0) (fun L => by
      refine sm_zero fun q hq => ?_
      obtain ⟨k, rfl⟩ := mem_termsL hq
      show (if _ then (0 : Int) * sg k else 0) = 0
      rw [Int.zero_mul]; split <;> rfl)
    refine this.trans (sm_congr fun L _ => ?_)
    unfold termsL
    rw [sm_map]
  · rcases (keys_addAll _ _).mp hl with h | h
    · cases h
    · obtain ⟨q, hq, rfl⟩ := List.mem_map.mp h
      unfold terms at hq
      obtain ⟨p, hp, hq⟩ := List.mem_flatMap.mp hq
      obtain ⟨k, rfl⟩ := mem_termsL hq
      exact erase_mem (mem_canon.mp hp).1 k
/-- .. thing by thing -/
def cnt (S : List Int) (y : Int) : Int := (S.filter fun x => decide (x < y)).length
def del (y : Int) (S : List Int) : List Int := S.filter fun x => decide (x ≠ y)
def ins (n : Nat) (y : Int) (S : List Int) : List Int := (rangeI n).filter fun x => decide (x = y ∨ x ∈ S)
theorem lot_lt {n : Nat} {l : List Int} (h : l ∈ allL n) : l.Pairwise (· < ·) := (rangeI_lt n).sublist (mem_allL.mp h)
theorem mem_del {x y : Int} {S : List Int} : x ∈ del y S ↔ x ∈ S ∧ x ≠ y := by unfold del; rw [List.mem_filter, decide_eq_true_eq]
theorem mem_ins {n : Nat} {x y : Int} {S : List Int} : x ∈ ins n y S ↔ x ∈ rangeI n ∧ (x = y ∨ x ∈ S) := by unfold ins; rw [List.mem_filter, decide_eq_true_eq]
theorem ins_mem (n : Nat) (y : Int) (S : List Int) : ins n y S ∈ allL n := mem_allL.mpr List.filter_sublist
theorem del_mem {n : Nat} {S : List Int} (h : S ∈ allL n) (y : Int) : del y S ∈ allL n := mem_allL.mpr (List.filter_sublist.trans (mem_allL.mp h))
theorem lot_ext {n : Nat} {a b : List Int} (ha : a ∈ allL n) (hb : b ∈ allL n) (h : ∀ x ∈ rangeI n, x ∈ a ↔ x ∈ b) : a = b :=
  eq_of_sorted (lot_lt ha) (lot_lt hb) fun x => ⟨fun hx => (h x ((mem_allL.mp ha).subset hx)).mp hx, fun hx => (h x ((mem_allL.mp hb).subset hx)).mpr hx⟩
theorem erase_del {L : List Int} (hL : L.Pairwise (· < ·)) {k : Nat} (hk : k < L.length) : L.eraseIdx k = del L[k] L ∧ cnt L L[k] = k := by
  have hd : L = L.take k ++ L[k] :: L.drop (k + 1) := by rw [← List.drop_eq_getElem_cons hk, List.take_append_drop]
  have h1 : ∀ x ∈ L.take k, x < L[k] := fun x hx => by
    rw [hd, List.pairwise_append] at hL
    exact hL.2.2 x hx _ List.mem_cons_self
  have h2 : ∀ x ∈ L.drop (k + 1), L[k] < x := fun x hx => by
    rw [hd, List.pairwise_append, List.pairwise_cons] at hL
    exact hL.2.1.1 x hx
  generalize L[k] = y at *
  rw [List.eraseIdx_eq_take_drop_succ]
  have e1 : (L.take k).filter (fun x => decide (x ≠ y)) = L.take k := List.filter_eq_self.mpr fun x hx => decide_eq_true (by have := h1 x hx; omega)
  have e2 : (L.drop (k + 1)).filter (fun x => decide (x ≠ y)) = L.drop (k + 1) := List.filter_eq_self.mpr fun x hx => decide_eq_true (by have := h2 x hx; omega)
  have e3 : (L.take k).filter (fun x => decide (x < y)) = L.take k := List.filter_eq_self.mpr fun x hx => decide_eq_true (h1 x hx)
  have e4 : (L.drop (k + 1)).filter (fun x => decide (x < y)) = [] := List.filter_eq_nil_iff.mpr fun x hx h => by have := of_decide_eq_true h; have := h2 x hx; omega
  have hl : (L.take k).length = k := by rw [List.length_take]; omega
  constructor
  · unfold del
    conv => rhs; rw [hd]
    rw [List.filter_append, List.filter_cons_of_neg (by simp), e1, e2]
  · unfold cnt
    conv => lhs; rw [hd]
    rw [List.filter_append, List.filter_cons_of_neg (by simp), e3, e4, List.append_nil, hl]
theorem sm_idx (L : List Int) (g : Int → Int) : sm (List.range L.length) (fun k => g (L.getD k 0)) = sm L g := by
  have : (List.range L.length).map (fun k => L.getD k 0) = L := List.ext_getElem (by simp) fun i h1 h2 => by simp [List.getD_eq_getElem?_getD, List.getElem?_eq_getElem h2]
  rw [← sm_map (List.range L.length) (fun k => L.getD k 0) g, this]
theorem sm_in {n : Nat} {L : List Int} (hL : L ∈ allL n) (g : Int → Int) : sm L g = sm (rangeI n) fun y => if y ∈ L then g y else 0 := by
  have e : L = (rangeI n).filter fun y => decide (y ∈ L) := eq_of_sorted (lot_lt hL) ((rangeI_lt n).sublist List.filter_sublist) fun x => by
    rw [List.mem_filter, decide_eq_true_eq]
    exact ⟨fun h => ⟨(mem_allL.mp hL).subset h, h⟩, fun h => h.2⟩
  conv => lhs; rw [e, sm_filter]
  exact sm_congr fun y _ => by by_cases h : y ∈ L <;> simp [h]
theorem sm_sides {n : Nat} {L : List Int} (hL : L ∈ allL n) (h : List Int → Int → Int) : sm (List.range L.length) (fun k => h (L.eraseIdx k) k) = sm (rangeI n) fun y => if y ∈ L then h (del y L) (cnt L y) else 0 := by
  rw [← sm_in hL (fun y => h (del y L) (cnt L y)), ← sm_idx L]
  refine sm_congr fun k hk => ?_
  have hk := List.mem_range.mp hk
  obtain ⟨e1, e2⟩ := erase_del (lot_lt hL) hk
  have e0 : L.getD k 0 = L[k] := by rw [List.getD_eq_getElem?_getD, List.getElem?_eq_getElem hk]; rfl
  rw [e0, e1, e2]
theorem cnt_ins {n : Nat} {y z : Int} {S : List Int} (hS : S ∈ allL n) (hz : z ∈ rangeI n) (hn : z ∉ S) : cnt (ins n z S) y = cnt S y + if z < y then 1 else 0 := by
  have hlen : ∀ {T : List Int}, T ∈ allL n → cnt T y = sm (rangeI n) fun x => if x ∈ T then (if x < y then 1 else 0) else 0 := fun {T} hT => by
    rw [← sm_in hT]
    unfold cnt
    generalize T = T
    induction T with
    | nil => rfl
    | cons x T ih =>
      rw [sm_cons, List.filter_cons]
      by_cases h : x < y
      · rw [if_pos (decide_eq_true h), if_pos h, List.length_cons]
        omega
      · rw [if_neg (by simpa using h), if_neg h]
        omega
  rw [hlen (ins_mem n z S), hlen hS]
  have : sm (rangeI n) (fun x => if x = z then (if x < y then (1 : Int) else 0) else 0) = if z < y then 1 else 0 := by
    rw [sm_one (rangeI_nd n) (show z ∈ rangeI n from hz) (fun a _ ha => if_neg ha), if_pos rfl]
  rw [← this, ← sm_add]
  refine sm_congr fun x hx => ?_
  by_cases e : x = z
  · subst e
    rw [if_pos (mem_ins.mpr ⟨hx, .inl rfl⟩), if_neg hn, if_pos rfl]; omega
  · by_cases e2 : x ∈ S
    · rw [if_pos (mem_ins.mpr ⟨hx, .inr e2⟩), if_pos e2, if_neg e]; omega
    · rw [if_neg (fun h => (mem_ins.mp h).2.elim e e2), if_neg e2, if_neg e]; omega
theorem del_ins {n : Nat} {y : Int} {S : List Int} (hS : S ∈ allL n) (hy : y ∈ rangeI n) (hn : y ∉ S) : del y (ins n y S) = S := lot_ext (del_mem (ins_mem n y S) y) hS fun x hx => by
  rw [mem_del, mem_ins]
  constructor
  · rintro ⟨⟨_, h⟩, h2⟩
    exact h.resolve_left h2
  · intro h
    exact ⟨⟨hx, .inr h⟩, fun e => hn (e ▸ h)⟩
theorem ins_del {n : Nat} {y : Int} {L : List Int} (hL : L ∈ allL n) (hy : y ∈ L) : ins n y (del y L) = L := lot_ext (ins_mem n y _) hL fun x hx => by
  rw [mem_ins, mem_del]
  constructor
  · rintro ⟨_, rfl | h⟩
    · exact hy
    · exact h.1
  · intro h
    refine ⟨hx, ?_⟩
    by_cases e : x = y
    · exact .inl e
    · exact .inr ⟨h, e⟩
theorem bord_y {n : Nat} {f : List Int → Int} {S : List Int} (hS : S ∈ allL n) : bordF n f S = sm (rangeI n) fun y => if y ∈ S then 0 else f (ins n y S) * sg (cnt S y) := by
  unfold bordF
  have e1 : sm (allL n) (fun L => sm (List.range L.length) fun k => if L.eraseIdx k = S then f L * sg k else 0) = sm (allL n) fun L => sm (rangeI n) fun y => if y ∈ L then (if del y L = S then f L * sg (cnt L y) else 0) else 0 :=
    sm_congr fun L hL => sm_sides hL (fun T k => if T = S then f L * sg k else 0)
  rw [e1, sm_comm]
  refine sm_congr fun y hy => ?_
  by_cases h : y ∈ S
  · rw [if_pos h]
    refine sm_zero fun L hL => ?_
    split
    · rw [if_neg (fun e => by rw [← e] at h; exact (mem_del.mp h).2 rfl)]
    · rfl
  · rw [if_neg h, sm_one (allL_nd n) (ins_mem n y S)]
    · rw [if_pos (mem_ins.mpr ⟨hy, .inl rfl⟩), if_pos (del_ins hS hy h), cnt_ins hS hy h, if_neg (Int.lt_irrefl _), Int.add_zero]
    · intro L hL hne
      split
      · rename_i hyL
        rw [if_neg]
        intro e
        apply hne
        rw [← e, ins_del hL hyL]
      · rfl
/-! ### a border has no border -/
theorem ins_comm {n : Nat} (y z : Int) (S : List Int) : ins n z (ins n y S) = ins n y (ins n z S) := by
  refine lot_ext (ins_mem n _ _) (ins_mem n _ _) fun x hx => ?_
  rw [mem_ins, mem_ins, mem_ins, mem_ins]
  constructor
  · rintro ⟨_, h | ⟨_, h | h⟩⟩
    · exact ⟨hx, .inr ⟨hx, .inl h⟩⟩
    · exact ⟨hx, .inl h⟩
    · exact ⟨hx, .inr ⟨hx, .inr h⟩⟩
  · rintro ⟨_, h | ⟨_, h | h⟩⟩
    · exact ⟨hx, .inr ⟨hx, .inl h⟩⟩
    · exact ⟨hx, .inl h⟩
    · exact ⟨hx, .inr ⟨hx, .inr h⟩⟩
theorem bord_bord {n : Nat} {f : List Int → Int} {S : List Int} (hS : S ∈ allL n) : bordF n (bordF n f) S = 0 := by
  rw [bord_y hS]
  have e : ∀ y ∈ rangeI n, (if y ∈ S then 0 else bordF n f (ins n y S) * sg (cnt S y)) = sm (rangeI n) fun z => if y ∈ S ∨ z ∈ S ∨ z = y then 0 else f (ins n z (ins n y S)) * sg (cnt (ins n y S) z) * sg (cnt S y) := fun y hy => by
    by_cases h : y ∈ S
    · rw [if_pos h, sm_zero]
      intro z _
      exact if_pos (.inl h)
    · rw [if_neg h, bord_y (ins_mem n y S), ← sm_mul]
      refine sm_congr fun z hz => ?_
      by_cases h2 : z ∈ ins n y S
      · rw [if_pos h2, if_pos, Int.zero_mul]
        exact .inr ((mem_ins.mp h2).2.elim .inr .inl)
      · rw [if_neg h2, if_neg]
        rintro (h3 | h3 | h3)
        · exact h h3
        · exact h2 (mem_ins.mpr ⟨hz, .inr h3⟩)
        · exact h2 (mem_ins.mpr ⟨hz, .inl h3⟩)
  rw [sm_congr e]
  refine sm_anti _ fun y hy z hz => ?_
  by_cases h : y ∈ S ∨ z ∈ S ∨ z = y
  · rw [if_pos h, if_pos (h.elim (fun h => .inr (.inl h)) fun h => h.elim .inl fun h => .inr (.inr h.symm))]; rfl
  · have hyS : y ∉ S := fun z => h (.inl z)
    have hzS : z ∉ S := fun z => h (.inr (.inl z))
    have hne : z ≠ y := fun z => h (.inr (.inr z))
    rw [if_neg h, if_neg (fun h' => h'.elim hzS fun h' => h'.elim hyS fun e => hne e.symm), ins_comm y z, cnt_ins hS hy hyS, cnt_ins hS hz hzS, sg_add, sg_add]
    have : sg (if y < z then 1 else 0) = - sg (if z < y then 1 else 0) := by
      rcases Int.lt_or_gt_of_ne hne with h | h
      · rw [if_neg (by omega), if_pos h]; rfl
      · rw [if_pos h, if_neg (by omega)]; rfl
    rw [this]
    generalize f _ = a
    generalize sg (cnt S z) = b
    generalize sg (cnt S y) = c
    generalize sg _ = d
    rw [Int.mul_neg, Int.mul_neg, Int.neg_mul]
    congr 1
    ac_rfl
/-! ### the told filling -/
def fillF (f : List Int → Int) : List Int → Int := fun L => if (0 : Int) ∈ L then f (del 0 L) else 0
theorem zero_in {n : Nat} (h : 1 ≤ n) : (0 : Int) ∈ rangeI n := mem_rangeI.mpr ⟨Int.le_refl _, by omega⟩
theorem cnt_zero {n : Nat} {S : List Int} (hS : S ∈ allL n) : cnt S 0 = 0 := by
  unfold cnt
  rw [List.filter_eq_nil_iff.mpr fun x hx h => by
    have := of_decide_eq_true h
    have := (mem_rangeI.mp ((mem_allL.mp hS).subset hx)).1
    omega]
  rfl
theorem bord_fill {n : Nat} {g : List Int → Int} (h1 : 1 ≤ n) (hg : ∀ S ∈ allL n, bordF n g S = 0) {S : List Int} (hS : S ∈ allL n) : bordF n (fillF g) S = g S := by
  have h0 := zero_in h1
  rw [bord_y hS]
  by_cases h : (0 : Int) ∈ S
  · have hS' := del_mem hS 0
    have hn : (0 : Int) ∉ del 0 S := fun z => (mem_del.mp z).2 rfl
    have hb := hg _ hS'
    rw [bord_y hS'] at hb
    have e : sm (rangeI n) (fun y => if y ∈ S then 0 else fillF g (ins n y S) * sg (cnt S y)) = sm (rangeI n) fun y => -(if y ∈ del 0 S then 0 else g (ins n y (del 0 S)) * sg (cnt (del 0 S) y)) + if y = 0 then g S else 0 := by
      refine sm_congr fun y hy => ?_
      by_cases e : y = 0
      · subst e
        rw [if_pos h, if_neg hn, if_pos rfl, ins_del hS h, cnt_zero hS']
        show 0 = -(g S * 1) + g S
        omega
      · rw [if_neg e]
        by_cases e2 : y ∈ S
        · rw [if_pos e2, if_pos (mem_del.mpr ⟨e2, e⟩)]; rfl
        · have e3 : y ∉ del 0 S := fun z => e2 (mem_del.mp z).1
          rw [if_neg e2, if_neg e3]
          have d1 : fillF g (ins n y S) = g (ins n y (del 0 S)) := by
            unfold fillF
            rw [if_pos (mem_ins.mpr ⟨h0, .inr h⟩)]
            congr 1
            refine lot_ext (del_mem (ins_mem n y S) 0) (ins_mem n y _) fun x hx => ?_
            rw [mem_del, mem_ins, mem_ins, mem_del]
            constructor
            · rintro ⟨⟨_, h | h⟩, h2⟩
              · exact ⟨hx, .inl h⟩
              · exact ⟨hx, .inr ⟨h, h2⟩⟩
            · rintro ⟨_, h | h⟩
              · exact ⟨⟨hx, .inl h⟩, fun z => e (h.symm.trans z)⟩
              · exact ⟨⟨hx, .inr h.1⟩, h.2⟩
          have d2 : cnt S y = cnt (del 0 S) y + 1 := by
            have := cnt_ins (n := n) (y := y) hS' h0 hn
            rw [ins_del hS h, if_pos (by have := (mem_rangeI.mp hy).1; omega)] at this
            exact this
          rw [d1, d2, sg_add]
          show _ * (_ * (-1)) = _
          rw [Int.mul_neg_one, Int.mul_neg, Int.add_zero]
    rw [e, sm_add, sm_neg, hb, sm_one (rangeI_nd n) (show (0 : Int) ∈ rangeI n from h0) (fun a _ ha => if_neg ha), if_pos rfl]
    omega
  · rw [sm_one (rangeI_nd n) (show (0 : Int) ∈ rangeI n from h0)]
    · rw [if_neg h, cnt_zero hS]
      unfold fillF
      rw [if_pos (mem_ins.mpr ⟨h0, .inl rfl⟩), del_ins hS h0 h]
      show g S * 1 = g S
      omega
    · intro y hy hne
      split
      · rfl
      · unfold fillF
        rw [if_neg, Int.zero_mul]
        intro z
        exact (mem_ins.mp z).2.elim (fun e => hne e.symm) h
/-! ### steps up -/
def pairF (M : List Int) (f : List Int → Int) : Int := sm (List.range M.length) fun k => sg k * f (M.eraseIdx k)
def stepF (n size : Nat) (f : List Int → Int) : List Int → Int := fun M => if M.length = size + 1 then pairF M f else 0
def oneF (M : List Int) : List Int → Int := fun l => if l = M then 1 else 0
theorem one_canon {n : Nat} {M : List Int} (h : M ∈ allL n) : canon n (oneF M) = [(M, 1)] := by
  have e : (allL n).filter (fun l => decide (oneF M l ≠ 0)) = [M] := by
    refine sorted_one ((allL_lt n).sublist List.filter_sublist) (List.pairwise_cons.mpr ⟨fun a ha => (by cases ha), List.Pairwise.nil⟩) fun x => ?_
    rw [List.mem_filter, List.mem_singleton, decide_eq_true_eq]
    unfold oneF
    constructor
    · intro h
      exact Classical.byContradiction fun z => h.2 (if_neg z)
    · intro e
      subst e
      exact ⟨h, by rw [if_pos rfl]; decide⟩
  unfold canon
  rw [e]
  show [(M, oneF M M)] = _
  unfold oneF
  rw [if_pos rfl]
theorem read_border {n : Nat} {M : List Int} (hM : M ∈ allL n) (f : List Int → Int) : sm (canon n (bordF n (oneF M))) (fun p => p.2 * f p.1) = pairF M f := by
  rw [sm_canon (fun l c => c * f l) (fun l => Int.zero_mul _)]
  have e1 : sm (allL n) (fun l => bordF n (oneF M) l * f l) = sm (allL n) fun l => sm (List.range M.length) fun k => if M.eraseIdx k = l then sg k * f l else 0 := by
    refine sm_congr fun l _ => ?_
    unfold bordF
    rw [sm_one (allL_nd n) hM]
    · rw [← sm_mul]
      refine sm_congr fun k _ => ?_
      unfold oneF
      rw [if_pos rfl]
      split
      · rw [Int.one_mul]
      · rw [Int.zero_mul]
    · intro L _ hne
      refine sm_zero fun k _ => ?_
      unfold oneF
      rw [if_neg hne, Int.zero_mul]; split <;> rfl
  rw [e1, sm_comm]
  unfold pairF
  refine sm_congr fun k _ => ?_
  rw [sm_one (allL_nd n) (erase_mem hM k) (fun l _ hne => if_neg fun e => hne e.symm), if_pos rfl]
/-! ### the border led over is the step up of what is led over -/
theorem sign_sg (l : List Int) : signL l = sg ((l.map (· % 2)).sum) := rfl
theorem sign_ins {n : Nat} {y : Int} {S : List Int} (hS : S ∈ allL n) (hy : y ∈ rangeI n) (hn : y ∉ S) : signL (ins n y S) = signL S * sg y := by
  have hs : ∀ {T : List Int}, T ∈ allL n → (T.map (· % 2)).sum = sm (rangeI n) fun x => if x ∈ T then x % 2 else 0 := fun {T} hT => by
    rw [← sm_in hT]; rfl
  have hy2 : sg y = sg (y % 2) := by unfold sg; omega
  rw [sign_sg, sign_sg, hy2, ← sg_add, hs (ins_mem n y S), hs hS]
  congr 1
  have : sm (rangeI n) (fun x => if x = y then x % 2 else 0) = y % 2 := by
    rw [sm_one (rangeI_nd n) (show y ∈ rangeI n from hy) (fun a _ ha => if_neg ha), if_pos rfl]
  rw [← this, ← sm_add]
  refine sm_congr fun x hx => ?_
  by_cases e : x = y
  · subst e
    rw [if_pos (mem_ins.mpr ⟨hx, .inl rfl⟩), if_neg hn, if_pos rfl]; omega
  · by_cases e2 : x ∈ S
    · rw [if_pos (mem_ins.mpr ⟨hx, .inr e2⟩), if_pos e2, if_neg e]; omega
    · rw [if_neg (fun h => (mem_ins.mp h).2.elim e e2), if_neg e2, if_neg e]; omega
theorem cnt_both {n : Nat} {y : Int} {M : List Int} (hM : M ∈ allL n) (hy : y ∈ rangeI n) : cnt (restL n M) y + cnt M y = y := by
  have hlen : ∀ {T : List Int}, T ∈ allL n → cnt T y = sm (rangeI n) fun x => if x ∈ T then (if x < y then 1 else 0) else 0 := fun {T} hT => by
    rw [← sm_in hT]
    unfold cnt
    generalize T = T
    induction T with
    | nil => rfl
    | cons x T ih =>
      rw [sm_cons, List.filter_cons]
      by_cases h : x < y
      · rw [if_pos (decide_eq_true h), if_pos h, List.length_cons]
        omega
      · rw [if_neg (by simpa using h), if_neg h]
        omega
  rw [hlen (restL_mem n M), hlen hM, ← sm_add]
  have e : ∀ x ∈ rangeI n, ((if x ∈ restL n M then (if x < y then (1 : Int) else 0) else 0) + if x ∈ M then (if x < y then 1 else 0) else 0) = if x < y then 1 else 0 := fun x hx => by
    by_cases h : x ∈ M
    · rw [if_neg (fun z => (mem_restL.mp z).2 h), if_pos h]; omega
    · rw [if_pos (mem_restL.mpr ⟨hx, h⟩), if_neg h]; omega
  rw [sm_congr e]
  obtain ⟨h0, h1⟩ := mem_rangeI.mp hy
  have : ∀ m : Nat, sm (rangeI m) (fun x => if x < y then (1 : Int) else 0) = if (m : Int) ≤ y then (m : Int) else y := fun m => by
    induction m with
    | zero => rw [if_pos (by omega)]; rfl
    | succ m ih =>
      have es : rangeI (m + 1) = rangeI m ++ [(m : Int)] := by unfold rangeI; rw [List.range_succ, List.map_append]; rfl
      rw [es, sm_append, ih, sm_cons, sm_nil]
      split <;> split <;> split <;> omega
  rw [this n]
  split <;> omega
theorem over_border {n size : Nat} {f : List Int → Int} (hf : ∀ L ∈ allL n, L.length ≠ size → f L = 0) (hs : size ≤ n) {M : List Int} (hM : M ∈ allL n) : overF n (bordF n f) M = if M.length = n - size + 1 then pairF M (overF n f) else 0 := by
  have hR := restL_mem n M
  have hlR : (restL n M).length + M.length = n := by
    have h1 : ∀ {T : List Int}, T ∈ allL n → (T.length : Int) = sm (rangeI n) fun x => if x ∈ T then 1 else 0 := fun {T} hT => by
      rw [← sm_in hT]
      generalize T = T
      induction T with
      | nil => rfl
      | cons x T ih => rw [sm_cons, List.length_cons, ← ih]; omega
    have h2 := h1 hR
    have h3 := h1 hM
    have h4 : sm (rangeI n) (fun _ => (1 : Int)) = n := by
      unfold sm
      have : ∀ l : List Int, (l.map fun _ => (1 : Int)).sum = l.length := fun l => by
        induction l with
        | nil => rfl
        | cons a l ih => rw [List.map_cons, List.sum_cons, ih, List.length_cons]; omega
      rw [this, rangeI_len]
    have h5 : sm (rangeI n) (fun x => (if x ∈ restL n M then (1 : Int) else 0) + if x ∈ M then 1 else 0) = n := by
      rw [← h4]
      refine sm_congr fun x hx => ?_
      by_cases h : x ∈ M
      · rw [if_neg (fun z => (mem_restL.mp z).2 h), if_pos h]; omega
      · rw [if_pos (mem_restL.mpr ⟨hx, h⟩), if_neg h]; omega
    rw [sm_add, ← h2, ← h3] at h5
    omega
  have hli : ∀ {T : List Int} {y : Int}, T ∈ allL n → y ∈ rangeI n → y ∉ T → (ins n y T).length = T.length + 1 := fun {T y} hT hy hn => by
    have h1 := cnt_ins (n := n) (y := n) hT hy hn
    have h2 : ∀ {U : List Int}, U ∈ allL n → cnt U n = U.length := fun {U} hU => by
      unfold cnt
      rw [List.filter_eq_self.mpr fun x hx => decide_eq_true (mem_rangeI.mp ((mem_allL.mp hU).subset hx)).2]
    rw [h2 (ins_mem n y T), h2 hT, if_pos (mem_rangeI.mp hy).2] at h1
    omega
  show bordF n f (restL n M) * signL (restL n M) = _
  rw [bord_y hR]
  by_cases hl : M.length = n - size + 1
  · rw [if_pos hl]
    unfold pairF
    rw [sm_sides hM (fun T k => sg k * overF n f T), ← sm_mul]
    refine sm_congr fun y hy => ?_
    by_cases h : y ∈ M
    · have hn : y ∉ restL n M := fun z => (mem_restL.mp z).2 h
      rw [if_neg hn, if_pos h]
      have er : restL n (del y M) = ins n y (restL n M) := lot_ext (restL_mem n _) (ins_mem n _ _) fun x hx => by
        rw [mem_restL, mem_ins, mem_restL, mem_del]
        constructor
        · rintro ⟨_, h2⟩
          refine ⟨hx, ?_⟩
          by_cases e : x = y
          · exact .inl e
          · exact .inr ⟨hx, fun z => h2 ⟨z, e⟩⟩
        · rintro ⟨_, h2⟩
          exact ⟨hx, fun z => h2.elim z.2 fun h2 => h2.2 z.1⟩
      unfold overF
      rw [er, sign_ins hR hy hn]
      have hc := cnt_both hM hy
      have hsg : sg (cnt (restL n M) y) = sg (cnt M y) * sg y := by
        rw [← sg_add]
        unfold sg; omega
      rw [hsg]
      generalize f _ = a
      generalize sg (cnt M y) = b
      generalize sg y = c
      generalize signL _ = d
      ac_rfl
    · rw [if_pos (mem_restL.mpr ⟨hy, h⟩), if_neg h, Int.zero_mul]
  · rw [if_neg hl, sm_zero, Int.zero_mul]
    intro y hy
    split
    · rfl
    · rename_i hn
      rw [hf _ (ins_mem n y _), Int.zero_mul]
      rw [hli hR hy hn]
      omega
end K61

/-! k32: walks of chains. -/
namespace K61
open PySem L2 DL
theorem sc_told_chain : FnScope ["numbers", "lot"] ["numbers"] (defScope (topS 2)) := ⟨rfl, rfl, rfl, by decide +kernel, rfl, by decide +kernel, by decide +kernel⟩
theorem sc_border_of : FnScope ["chain", "found", "lot", "number", "k", "side"] ["chain"] (defScope (topS 3)) := ⟨rfl, rfl, rfl, by decide +kernel, rfl, by decide +kernel, by decide +kernel⟩
/-! ### the data -/
def entI (p : List Int × Int) : D := .tuple [tupI p.1, .int p.2]
theorem map_entI (m : DI) : (dI m).map entD = m.map entI := by unfold dI; rw [List.map_map]; rfl
def chD (ch : DI) : D := ft (ch.map entI)
theorem dI_len (m : DI) : (dI m).length = m.length := by unfold dI; rw [List.length_map]
theorem mergeI_len (ps m : DI) : (mergeI m ps).length ≤ m.length + ps.length := by
  have := mergeD_len (dI ps) (dI m)
  rw [dI_merge, dI_len, dI_len, dI_len] at this
  exact this
theorem mergeI_snoc (m ps : DI) (p : List Int × Int) : mergeI m (ps ++ [p]) = putI (mergeI m ps) p.1 p.2 := by unfold mergeI; rw [List.foldl_append]; rfl
theorem dI_mergeE (ps : DI) : mergeD [] (dI ps) = dI (mergeI [] ps) := dI_merge ps []
theorem canon_at {n : Nat} {f : List Int → Int} {p : List Int × Int} (h : p ∈ canon n f) : p.1.length ≤ n := by
  have := (mem_allL.mp (mem_canon.mp h).1).length_le
  rw [rangeI_len] at this; exact this
theorem canon_le {n : Nat} (h : n ≤ 12) (f : List Int → Int) : (canon n f).length ≤ 4096 := Nat.le_trans (canon_len n f) (small12 h)
theorem getI_dict {n : Nat} {f : List Int → Int} {l : List Int} (h : l ∈ allL n) : getI (mergeI [] (canon n f)) l = f l := by
  rw [getI_merge _ (canon_nd n f)]
  split
  · exact getI_canon h
  · rename_i hk
    rw [← getI_canon (f := f) h, getI_none hk]; rfl
theorem told_sel (n : Nat) (p : List Int → Bool) (v : List Int → Int) : toldM (mergeI [] (((allL n).filter p).map fun l => (l, v l))) = canon n fun M => if p M = true then v M else 0 := by
  have ek : keyI (((allL n).filter p).map fun l => (l, v l)) = (allL n).filter p := by
    unfold keyI
    rw [List.map_map]
    conv => rhs; rw [← List.map_id ((allL n).filter p)]
    rfl
  have nd : (keyI (((allL n).filter p).map fun l => (l, v l))).Nodup := by rw [ek]; exact (allL_nd n).sublist List.filter_sublist
  rw [told_pairs nd (fun l hl => by rw [ek] at hl; exact (List.mem_filter.mp hl).1)]
  refine canon_ext fun M hM => ?_
  by_cases h : p M = true
  · rw [if_pos h]
    exact getI_mem nd (List.mem_map.mpr ⟨M, List.mem_filter.mpr ⟨hM, h⟩, rfl⟩)
  · rw [if_neg h]
    exact getI_none (by rw [ek, List.mem_filter]; exact fun z => h z.2)
/-- the pairs of the told filling -/
def fillP (ch : DI) : DI := (ch.filter fun p => !decide ((0 : Int) ∈ p.1)).map fun p => (0 :: p.1, p.2)
theorem zero_cons {n : Nat} (h1 : 1 ≤ n) {l : List Int} (h : l ∈ allL n) (h0 : (0 : Int) ∉ l) : 0 :: l = ins n 0 l := by
  have hs := mem_allL.mp h
  refine eq_of_sorted (List.pairwise_cons.mpr ⟨fun x hx => ?_, lot_lt h⟩) (lot_lt (ins_mem n 0 l)) fun x => ?_
  · have := (mem_rangeI.mp (hs.subset hx)).1
    have : x ≠ 0 := fun e => h0 (e ▸ hx)
    omega
  · rw [mem_ins, List.mem_cons]
    constructor
    · rintro (rfl | hx)
      · exact ⟨zero_in h1, .inl rfl⟩
      · exact ⟨hs.subset hx, .inr hx⟩
    · exact fun z => z.2
theorem fill_eq {n : Nat} (h1 : 1 ≤ n) (g : List Int → Int) : fillP (canon n g) = canon n (fillF g) := by
  have hk : keyI (fillP (canon n g)) = (keyI ((canon n g).filter fun p => !decide ((0 : Int) ∈ p.1))).map fun l => 0 :: l := by
    unfold fillP keyI
    rw [List.map_map, List.map_map]; rfl
  have hc : (keyI ((canon n g).filter fun p => !decide ((0 : Int) ∈ p.1))).Pairwise fun a b => ltL a b = true := by
    have h2 : (keyI (canon n g)).Pairwise fun a b => ltL a b = true := by rw [keyI_canon]; exact (allL_lt n).sublist List.filter_sublist
    exact h2.sublist (List.filter_sublist.map _)
  have hlt : (keyI (fillP (canon n g))).Pairwise fun a b => ltL a b = true := by
    rw [hk, List.pairwise_map]
    exact hc.imp fun {a b} h => by rw [ltL_cons, if_pos rfl]; exact h
  have hmem : ∀ p, p ∈ fillP (canon n g) ↔ p ∈ canon n (fillF g) := fun p => by
    unfold fillP
    rw [List.mem_map, mem_canon]
    constructor
    · rintro ⟨q, hq, rfl⟩
      rw [List.mem_filter] at hq
      obtain ⟨h2, h3⟩ := hq
      obtain ⟨a1, a2, a3⟩ := mem_canon.mp h2
      have h0 : (0 : Int) ∉ q.1 := by simpa using h3
      refine ⟨by rw [zero_cons h1 a1 h0]; exact ins_mem n 0 _, ?_, a3⟩
      show q.2 = fillF g (0 :: q.1)
      unfold fillF
      rw [if_pos List.mem_cons_self, zero_cons h1 a1 h0, del_ins a1 (zero_in h1) h0]
      exact a2
    · rintro ⟨a1, a2, a3⟩
      have h0 : (0 : Int) ∈ p.1 := by
        refine Classical.byContradiction fun z => a3 ?_
        rw [a2]
        exact if_neg z
      have e : p.2 = g (del 0 p.1) := by rw [a2]; exact if_pos h0
      have hd : (0 : Int) ∉ del 0 p.1 := fun z => (mem_del.mp z).2 rfl
      refine ⟨(del 0 p.1, p.2), List.mem_filter.mpr ⟨mem_canon.mpr ⟨del_mem a1 0, e, a3⟩, by simpa using hd⟩, ?_⟩
      show (0 :: del 0 p.1, p.2) = p
      rw [zero_cons h1 (del_mem a1 0) hd, ins_del a1 h0]
  -- two lists of pairs, ascending by keys, of the same members
  have hlt2 : (keyI (canon n (fillF g))).Pairwise fun a b => ltL a b = true := by rw [keyI_canon]; exact (allL_lt n).sublist List.filter_sublist
  have ek : keyI (fillP (canon n g)) = keyI (canon n (fillF g)) := sorted_one hlt hlt2 fun x => by
    unfold keyI
    rw [List.mem_map, List.mem_map]
    exact ⟨fun ⟨p, h, e⟩ => ⟨p, (hmem p).mp h, e⟩, fun ⟨p, h, e⟩ => ⟨p, (hmem p).mpr h, e⟩⟩
  have back : ∀ {ps : DI} (F : List Int → Int), (∀ p ∈ ps, p.2 = F p.1) → ps = (keyI ps).map fun l => (l, F l) := fun {ps} F h => by
    unfold keyI
    rw [List.map_map]
    conv => lhs; rw [← List.map_id ps]
    refine List.map_congr_left fun p hp => ?_
    show p = (p.1, F p.1)
    rw [← h p hp]
  rw [back (ps := fillP (canon n g)) (fillF g) (fun p hp => (mem_canon.mp ((hmem p).mp hp)).2.1), ek, ← back (ps := canon n (fillF g)) (fillF g) (fun p hp => (mem_canon.mp hp).2.1)]
theorem told_self (n : Nat) (f : List Int → Int) : toldM (mergeI [] (canon n f)) = canon n f := by
  rw [told_pairs (canon_nd n f) (fun l hl => by rw [keyI_canon] at hl; exact (List.mem_filter.mp hl).1)]
  exact canon_ext fun l hl => getI_canon hl
theorem told_fill {n : Nat} (h1 : 1 ≤ n) (g : List Int → Int) : toldM (mergeI [] (fillP (canon n g))) = canon n (fillF g) := by rw [fill_eq h1, told_self]
section
variable {P : Program} {w : World} {K : PySem.W.Frag} {mg : Str → Option Value} {base : Heap}
/-! ### told -/
def φTold : List Ar → (D → Prop) → Prop := fun as Kd => ∃ m : DI, as = [.d (dctD (dI m))] ∧ m.length ≤ 100000 ∧ Kd (chD (toldM m))
theorem told_test (m : DI) (l : List Int) : (!decide (getI m l = 0)) = decide (getI m l ≠ 0) := by by_cases h : getI m l = 0 <;> simp [h]
theorem sortL_len (ls : List (List Int)) : (sortL ls).length = ls.length := (sortL_perm ls).length_eq
theorem keyI_len (m : DI) : (keyI m).length = m.length := by unfold keyI; rw [List.length_map]
theorem toldM_map (m : DI) : (((sortL (keyI m)).filter fun l => decide (getI m l ≠ 0)).map fun l => entI (l, getI m l)) = (toldM m).map entI := by unfold toldM; rw [List.map_map]; rfl
theorem ok_told {f : Addr} {fd : FuncData} (F : Fun K "told_chain" "told_chain" (topS 2) f fd) (T : Txt mg) (T3 : Txd mg) : FnOk P w K mg base CX0 1 f fd ["numbers"] (SpD φTold) := by
  refine fn_D F sc_told_chain (fun as Kd h => ?_) (fun as Kd r cdv A outer s H E hr h => ?_)
  · obtain ⟨m, rfl, _⟩ := h
    rfl
  · obtain ⟨m, rfl, hm, k⟩ := h
    have nd := sc_told_chain.nd
    refine jret <| jtupF T.tup <| jlc [("lot", 1)] [1] <| jiN <| jsortK hr rfl T3.srt <| jv 0 ⟨dI m, rfl, ?_⟩
    rw [show (dI m).map (·.1) = keyI m from keyL_dI m]
    refine lcL (sortL (keyI m)) tupI (fun l => decide (getI m l ≠ 0)) (fun l => entI (l, getI m l)) (fun l hl => lp1 1 ?_) ?_ (by rw [sortL_len, keyI_len]; omega)
    · have hk : l ∈ keyI m := (sortL_perm _).mem_iff.mp hl
      intro _ _ _ _ _
      refine jtcmp op_neD <| je_subD hr <| jv 0 <| jv 1 ⟨l, dI m, .int (getI m l), rfl, rfl, by rw [valD_dI, if_pos hk], je_int <| od_ne (α := Int) hr (by decide) ⟨_, rfl, told_test m l, fun _ => rfl, fun _ => ?_⟩⟩
      intro _ _ _ _ _
      exact jtup2 <| jv 1 <| je_subD hr <| jv 0 <| jv 1 ⟨l, dI m, .int (getI m l), rfl, rfl, by rw [valD_dI, if_pos hk], rfl, rfl⟩
    · rw [toldM_map]; exact k
/-! ### led over, led back -/
def φLed (g : Nat → (List Int → Int) → List Int → Int) : List Ar → (D → Prop) → Prop := fun as Kd => ∃ (n : Nat) (f : List Int → Int), as = [.d (.int n), .d (chD (canon n f))] ∧ n ≤ 12 ∧ Kd (chD (canon n (g n f)))
theorem sign_one (l : List Int) : -1 ≤ signL l ∧ signL l ≤ 1 := by unfold signL; omega
theorem mul_sign (a : Int) (l : List Int) : CMul a (signL l) := by
  have := sign_one l
  exact .inr ⟨by omega, by omega⟩
end
end K61

/-! k32: borders, readings, steps up, drawn chains, the told filling. -/
namespace K61
open PySem L2 DL
theorem termsL_len (p : List Int × Int) : (termsL p).length = p.1.length := by unfold termsL; rw [List.length_map, List.length_range]
theorem terms_len {ch : DI} (h : ∀ p ∈ ch, p.1.length ≤ 12) : (terms ch).length ≤ ch.length * 12 := by
  induction ch with
  | nil => exact Nat.zero_le _
  | cons p ch ih =>
    have h1 := h p List.mem_cons_self
    have h2 := ih fun q hq => h q (List.mem_cons_of_mem _ hq)
    unfold terms at h2 ⊢
    rw [List.flatMap_cons, List.length_append, termsL_len, List.length_cons]
    omega
theorem putI_len (m : DI) (k : List Int) (c : Int) : (putI m k c).length ≤ m.length + 1 := by
  unfold putI
  split
  · rw [List.length_map]; omega
  · rw [List.length_append]; exact Nat.le_refl _
theorem addAll_len : ∀ (qs m : DI), (addAll m qs).length ≤ m.length + qs.length
  | [], _ => Nat.le_refl _
  | q :: qs, m => by
    have h1 := addAll_len qs (addI m q.1 q.2)
    have h2 := putI_len m q.1 (getI m q.1 + q.2)
    show (addAll (addI m q.1 q.2) qs).length ≤ _
    unfold addI at h1 ⊢
    rw [List.length_cons]
    omega
theorem terms_snoc (a : DI) (p : List Int × Int) : terms (a ++ [p]) = terms a ++ termsL p := by
  unfold terms
  rw [List.flatMap_append]
  simp
theorem addAll_snoc (m qs : DI) (q : List Int × Int) : addAll m (qs ++ [q]) = addI (addAll m qs) q.1 q.2 := by rw [addAll_append]; rfl
theorem termsL_take (p : List Int × Int) (k : Nat) (h : k < p.1.length) : (termsL p).take (k + 1) = (termsL p).take k ++ [(p.1.eraseIdx k, p.2 * sg k)] := by
  have : (termsL p)[k]? = some (p.1.eraseIdx k, p.2 * sg k) := by
    unfold termsL
    rw [List.getElem?_map, List.getElem?_range h]; rfl
  rw [List.take_succ, this]; rfl
theorem enumD_sides (l : List Int) {k : Nat} {d : D} (h : (enumD ((sidesL l).map tupI))[k]? = some d) : k < l.length ∧ d = .tuple [.int k, tupI (l.eraseIdx k)] := by
  have hl : (sidesL l).length = l.length := by unfold sidesL; rw [List.length_map, List.length_range]
  unfold enumD at h
  rw [List.length_map, hl, List.getElem?_map] at h
  cases e : (List.range l.length)[k]? with
  | none => rw [e] at h; cases h
  | some j =>
    rw [e] at h
    obtain ⟨hj, ej⟩ := List.getElem?_eq_some_iff.mp e
    rw [List.getElem_range] at ej
    subst ej
    rw [List.length_range] at hj
    refine ⟨hj, ?_⟩
    have := Option.some.inj h
    rw [← this]
    show PyData.tuple [.int (k : Int), ((sidesL l).map tupI).getD k .none] = _
    rw [List.getD_eq_getElem?_getD, List.getElem?_map]
    unfold sidesL
    rw [List.getElem?_map, List.getElem?_range hj]; rfl
theorem enumD_len (ds : List D) : (enumD ds).length = ds.length := by unfold enumD; rw [List.length_map, List.length_range]
theorem sg_small (k : Int) : -1 ≤ sg k ∧ sg k ≤ 1 := by unfold sg; omega
theorem sg_mul (a k : Int) : CMul a (sg k) := by
  have := sg_small k
  exact .inr ⟨by omega, by omega⟩
section
variable {P : Program} {w : World} {K : PySem.W.Frag} {mg : Str → Option Value} {base : Heap}
def φBorder : List Ar → (D → Prop) → Prop := fun as Kd => ∃ (n : Nat) (f : List Int → Int), as = [.d (chD (canon n f))] ∧ n ≤ 12 ∧ Kd (chD (canon n (bordF n f)))
theorem ok_border {f fS fT : Addr} {fd fdS fdT : FuncData} (F : Fun K "border_of" "border_of" (topS 3) f fd) (T : Txt mg) (T3 : Txd mg) (NS : Dn K mg "sides_of" (topS 1) ["lot"] fS fdS) (NT : Dn K mg "told_chain" (topS 2) ["numbers"] fT fdT) : FnOk P w K mg base CX0 2 f fd ["chain"] (SpD φBorder) := by
  refine fn_D F sc_border_of (fun as Kd h => ?_) (fun as Kd r cdv A outer s H E hr h => ?_)
  · obtain ⟨n, g, rfl, _⟩ := h
    rfl
  · obtain ⟨n, g, rfl, hn, k⟩ := h
    have nd := sc_border_of.nd
    have hl := canon_le hn g
    have hz : sizeLine = 16777216 := sizeLine_eq
    refine jsetO 1 <| jemptyD ?_
    refine jfor [2, 3] (jiF (jv 0 ⟨(canon n g).map entI, rfl, fun i S' => ∃ o2 o3 o4 o5, S' = [.val (chD (canon n g)), .ob (.d (dI (addAll [] (terms ((canon n g).take i))))), o2, o3, o4, o5], ⟨.emp, .emp, .emp, .emp, rfl⟩, ?_, ?_⟩))
    · rintro i d S' hd ⟨o2, o3, o4, o5, rfl⟩
      obtain ⟨p, hp, hpi, rfl⟩ := get_map hd
      have hc := canon_at hp
      have e0 : (canon n g).take (i + 1) = (canon n g).take i ++ [p] := by rw [List.take_succ, hpi]; rfl
      have hlen : (addAll [] (terms ((canon n g).take i))).length ≤ 60000 := by
        have h1 := addAll_len (terms ((canon n g).take i)) []
        have h2 := terms_len (ch := (canon n g).take i) fun q hq => Nat.le_trans (canon_at (List.mem_of_mem_take hq)) hn
        have h3 : ((canon n g).take i).length ≤ (canon n g).length := by rw [List.length_take]; omega
        rw [List.length_nil] at h1
        omega
      refine jgT (jgs (jg 2 (jgs (jg 3 (jgs_nil ?_)))))
      refine jfor [4, 5] (jenum T.enu <| jcall hr NS (ok_sides NS.F T) <| ja1 <| jv 2 ⟨p.1, rfl, by omega, (sidesL p.1).map tupI, rfl, fun j S' => ∃ o4 o5, S' = [.val (chD (canon n g)), .ob (.d (dI (addAll (addAll [] (terms ((canon n g).take i))) ((termsL p).take j)))), .val (tupI p.1), .val (.int p.2), o4, o5], ⟨o4, o5, rfl⟩, ?_, ?_⟩)
      · rintro j d S' hd ⟨o4, o5, rfl⟩
        obtain ⟨hj, rfl⟩ := enumD_sides p.1 hd
        refine jgT (jgs (jg 4 (jgs (jg 5 (jgs_nil ?_)))))
        have hlj : (addAll (addAll [] (terms ((canon n g).take i))) ((termsL p).take j)).length ≤ 100000 := by
          have h1 := addAll_len ((termsL p).take j) (addAll [] (terms ((canon n g).take i)))
          rw [List.length_take, termsL_len] at h1
          omega
        have e1 : addAll (addAll [] (terms ((canon n g).take i))) ((termsL p).take (j + 1)) = putI (addAll (addAll [] (terms ((canon n g).take i))) ((termsL p).take j)) (p.1.eraseIdx j) (getI (addAll (addAll [] (terms ((canon n g).take i))) ((termsL p).take j)) (p.1.eraseIdx j) + p.2 * sg j) := by
          rw [termsL_take p j hj, addAll_snoc]; rfl
        generalize addAll (addAll [] (terms ((canon n g).take i))) ((termsL p).take j) = m at *
        refine jdput hr 1 (.d (dI m)) <| je_op op_add <| je_getO hr 1 (dI m) <| jv 5 <| je_int ⟨p.1.eraseIdx j, dI m, rfl, rfl, ?_⟩
        rw [valD_getD]
        refine je_op op_mul <| jv 3 <| je_op op_sub <| je_int <| je_op op_mul <| je_int <| je_op op_mod <| jv 4 <| je_int <| od_I (by decide) <| od_I (.inl ⟨by decide, by decide⟩) <| od_I0 <| od_I (sg_mul _ _) <| od_I0 <| jv 5 ⟨p.1.eraseIdx j, dI m, rfl, rfl, by rw [dI_len]; omega, jss_nil ⟨.val (.int j), .val (tupI (p.1.eraseIdx j)), ?_⟩⟩
        rw [dI_put, e1]; rfl
      · rintro S' ⟨o4, o5, rfl⟩
        rw [enumD_len, List.length_map]
        have es : (sidesL p.1).length = (termsL p).length := by unfold sidesL; rw [List.length_map, List.length_range, termsL_len]
        rw [es, List.take_length]
        refine jss_nil ⟨.val (tupI p.1), .val (.int p.2), o4, o5, ?_⟩
        rw [e0, terms_snoc, addAll_append]
    · rintro S' ⟨o2, o3, o4, o5, rfl⟩
      rw [List.length_map, List.take_length]
      refine jret <| jcall hr NT (ok_told NT.F T T3) <| ja1 <| joO 1 ⟨addAll [] (terms (canon n g)), rfl, ?_, by rw [told_border]; exact k⟩
      have h1 := addAll_len (terms (canon n g)) []
      have h2 := terms_len (ch := canon n g) fun q hq => Nat.le_trans (canon_at hq) hn
      rw [List.length_nil] at h1
      omega
end
end K61

/-! k32: the law's border, readings, steps up, drawn chains, the told filling. -/
namespace K61
open PySem L2 DL
theorem one_small {n : Nat} {M S : List Int} (hM : M ∈ allL n) : -(n : Int) ≤ bordF n (oneF M) S ∧ bordF n (oneF M) S ≤ n := by
  have hl := (mem_allL.mp hM).length_le
  rw [rangeI_len] at hl
  unfold bordF
  rw [sm_one (allL_nd n) hM]
  · have := sm_bound (l := List.range M.length) (g := fun (k : Nat) => if M.eraseIdx k = S then oneF M M * sg k else 0) (B := 1) fun k _ => by
      have := sg_small k
      unfold oneF
      rw [if_pos rfl, Int.one_mul]
      split <;> omega
    rw [List.length_range] at this
    omega
  · intro L _ hne
    refine sm_zero fun k _ => ?_
    unfold oneF
    rw [if_neg hne, Int.zero_mul]; split <;> rfl
theorem side_eq (l : List Int) (j : Nat) : PyData.tuple ((l.map PyData.int).take j ++ (l.map PyData.int).drop (j + 1)) = tupI (l.eraseIdx j) := by
  rw [← List.map_take, ← List.map_drop, ← List.map_append, ← List.eraseIdx_eq_take_drop_succ]; rfl
section
variable {P : Program} {w : World} {K : PySem.W.Frag} {mg : Str → Option Value} {base : Heap}
/-! ### readings, steps up -/
def φRead : List Ar → (D → Prop) → Prop := fun as Kd => ∃ (n : Nat) (f g : List Int → Int), as = [.d (chD (canon n f)), .d (chD (canon n g))] ∧ n ≤ 12 ∧ (∀ l, -1000000000000 ≤ g l ∧ g l ≤ 1000000000000) ∧ Kd (.int (sm (canon n g) fun p => p.2 * f p.1))
theorem sum_sm {α : Type} (l : List α) (g : α → Int) : (l.map g).sum = sm l g := rfl
def φSize : List Ar → (D → Prop) → Prop := fun as Kd => ∃ (n : Nat) (fam : List (List Int)) (m : Int), as = [.d (famD n fam), .d (.int m)] ∧ fam.length ≤ 4096 ∧ Kd (.tuple ((fam.filter fun l => decide ((l.length : Int) = m)).map tupI))
def stepI (k : Int) (f : List Int → Int) : List Int → Int := fun M => if decide ((M.length : Int) = k) = true then pairF M f else 0
def φStep : List Ar → (D → Prop) → Prop := fun as Kd => ∃ (n : Nat) (m : Int) (f : List Int → Int), as = [.d (famD n (allL n)), .d (.int m), .d (chD (canon n f))] ∧ n ≤ 12 ∧ Kd (chD (canon n (stepI (m + 1) f)))
theorem allL_le {n : Nat} (h : n ≤ 12) : (allL n).length ≤ 4096 := by rw [allL_len]; exact small12 h
theorem mem_at {n : Nat} {l : List Int} (h : l ∈ allL n) : l.length ≤ n := by
  have := (mem_allL.mp h).length_le
  rw [rangeI_len] at this; exact this
def φLStep : List Ar → (D → Prop) → Prop := fun as Kd => ∃ (n : Nat) (p : List Int → Bool) (f : List Int → Int), as = [.d (.list (((allL n).filter p).map tupI)), .d (chD (canon n f))] ∧ n ≤ 12 ∧ Kd (chD (canon n fun M => if p M = true then pairF M f else 0))
/-! ### drawn chains -/
def φDrawn : List Ar → (D → Prop) → Prop := fun as Kd => ∃ (n : Nat) (ls : List (List Int)), as = [.src, .d (.list (ls.map tupI))] ∧ n ≤ 12 ∧ ls.Nodup ∧ ls.length ≤ 4096 ∧ (∀ l ∈ ls, l ∈ allL n) ∧ ∀ f : List Int → Int, (∀ l, -100 ≤ f l ∧ f l ≤ 100) → (∀ l, l ∉ ls → f l = 0) → Kd (chD (canon n f))
/-! ### the told filling -/
def φFill : List Ar → (D → Prop) → Prop := fun as Kd => ∃ (n : Nat) (g : List Int → Int), as = [.d (chD (canon n g))] ∧ 1 ≤ n ∧ n ≤ 12 ∧ Kd (chD (canon n (fillF g)))
theorem fillP_len (ch : DI) : (fillP ch).length ≤ ch.length := by
  unfold fillP
  rw [List.length_map]
  exact List.length_filter_le _ _
end
end K61



/-! k02: sums of chains, closed ones, steps up, drawn chains. -/
namespace K61
open PySem L2 DL
theorem told_add (n : Nat) (f g : List Int → Int) (t : Int) : toldM (addAll (mergeI [] (canon n f)) ((canon n g).map fun p => (p.1, t * p.2))) = canon n fun l => f l + t * g l := by
  have hk : ∀ (h : List Int → Int), ∀ l ∈ keyI (canon n h), l ∈ allL n := fun h l hl => by rw [keyI_canon] at hl; exact (List.mem_filter.mp hl).1
  have ek : keyI ((canon n g).map fun p => (p.1, t * p.2)) = keyI (canon n g) := by unfold keyI; rw [List.map_map]; rfl
  rw [told_canon (n := n) (nodup_addAll _ (nodup_mergeI _ (m := []) (show (keyI []).Nodup from List.nodup_nil))) fun l hl => ?_]
  · refine canon_ext fun l hl => ?_
    rw [getI_addAll, getI_dict hl, sm_map]
    rw [show (sm (canon n g) fun a => if a.1 = l then t * a.2 else 0) = sm (allL n) fun S => if S = l then t * g S else 0 from sm_canon (fun S x => if S = l then t * x else 0) (fun S => by split <;> simp)]
    rw [sm_one (allL_nd n) hl (fun a _ h => if_neg h), if_pos rfl]
  · rcases (keys_addAll _ _).mp hl with h | h
    · exact hk f l (((mem_mergeI _ []).mp h).resolve_left (by intro h; cases h))
    · rw [ek] at h; exact hk g l h
theorem keyI_fn (ls : List (List Int)) (v : List Int → Int) : keyI (ls.map fun l => (l, v l)) = ls := by
  unfold keyI
  rw [List.map_map]
  conv => rhs; rw [← List.map_id ls]
  rfl
theorem told_fn {n : Nat} {ls : List (List Int)} (nd : ls.Nodup) (sub : ∀ l ∈ ls, l ∈ allL n) (v : List Int → Int) : toldM (mergeI [] (ls.map fun l => (l, v l))) = canon n fun M => if M ∈ ls then v M else 0 := by
  rw [told_pairs (n := n) (by rw [keyI_fn]; exact nd) (by rw [keyI_fn]; exact sub)]
  refine canon_ext fun l _ => ?_
  by_cases h : l ∈ ls
  · rw [if_pos h]; exact getI_mem (by rw [keyI_fn]; exact nd) (List.mem_map.mpr ⟨l, h, rfl⟩)
  · rw [if_neg h, getI_none (by rw [keyI_fn]; exact h)]
theorem adj (n : Nat) (g f : List Int → Int) : sm (allL n) (fun M => g M * pairF M f) = sm (allL n) fun S => bordF n g S * f S := by
  have e2 : ∀ S, bordF n g S * f S = sm (allL n) fun L => sm (List.range L.length) fun k => (if L.eraseIdx k = S then g L * sg k else 0) * f S := fun S => by
    unfold bordF
    rw [← sm_mul]
    exact sm_congr fun L _ => by rw [← sm_mul]
  rw [sm_congr fun S _ => e2 S, sm_comm]
  refine sm_congr fun L hL => ?_
  rw [sm_comm]
  unfold pairF
  rw [Int.mul_comm, ← sm_mul]
  refine sm_congr fun k _ => ?_
  rw [sm_one (allL_nd n) (erase_mem hL k) (fun S _ h => by rw [if_neg (fun e => h e.symm), Int.zero_mul]), if_pos rfl, Int.mul_comm _ (g L), Int.mul_assoc]
theorem bord_add (n : Nat) (f g : List Int → Int) (t : Int) (S : List Int) : bordF n (fun l => f l + t * g l) S = bordF n f S + t * bordF n g S := by
  unfold bordF
  rw [Int.mul_comm t, ← sm_mul, ← sm_add]
  refine sm_congr fun L _ => ?_
  rw [← sm_mul, ← sm_add]
  refine sm_congr fun k _ => ?_
  split
  · rw [Int.add_mul, Int.mul_assoc, Int.mul_comm t]
  · simp
def stepS (ls : List (List Int)) (f : List Int → Int) : List Int → Int := fun M => if M ∈ ls then pairF M f else 0
theorem mem_sized {fam : List (List Int)} {k : Int} {l : List Int} : l ∈ sized fam k ↔ l ∈ fam ∧ (l.length : Int) = k := by unfold sized; rw [List.mem_filter, decide_eq_true_eq]
theorem fam_all {n : Nat} {fam : List (List Int)} (hf : FamP n fam) {l : List Int} (h : l ∈ fam) : l ∈ allL n := mem_allL.mpr (hf.sub l h)
theorem sized_all {n : Nat} {fam : List (List Int)} (hf : FamP n fam) {k : Int} : ∀ l ∈ sized fam k, l ∈ allL n := fun l h => fam_all hf (mem_sized.mp h).1
theorem sized_nd {n : Nat} {fam : List (List Int)} (hf : FamP n fam) (k : Int) : (sized fam k).Nodup := (nodup_of_lt hf.asc).sublist List.filter_sublist
theorem pair_pair {n : Nat} {M : List Int} (hM : M ∈ allL n) (f : List Int → Int) : pairF M (fun S => pairF S f) = 0 := by
  rw [← read_border hM, sm_canon (fun S x => x * pairF S f) (fun S => Int.zero_mul _), adj]
  exact sm_zero fun S hS => by rw [bord_bord hS, Int.zero_mul]
theorem step_step {n : Nat} {fam : List (List Int)} (hf : FamP n fam) (k : Int) (f : List Int → Int) : canon n (stepS (sized fam (k + 1 + 1)) (stepS (sized fam (k + 1)) f)) = [] := by
  have h0 : ∀ M ∈ allL n, stepS (sized fam (k + 1 + 1)) (stepS (sized fam (k + 1)) f) M = 0 := fun M hM => by
    by_cases h : M ∈ sized fam (k + 1 + 1)
    · show (if M ∈ sized fam (k + 1 + 1) then pairF M (stepS (sized fam (k + 1)) f) else 0) = 0
      obtain ⟨h1, h2⟩ := mem_sized.mp h
      rw [if_pos h, ← pair_pair hM f]
      show sm (List.range M.length) (fun j => sg j * stepS (sized fam (k + 1)) f (M.eraseIdx j)) = sm (List.range M.length) fun j => sg j * pairF (M.eraseIdx j) f
      refine sm_congr fun j hj => ?_
      have hj := List.mem_range.mp hj
      show sg j * (if M.eraseIdx j ∈ sized fam (k + 1) then pairF (M.eraseIdx j) f else 0) = _
      rw [if_pos (mem_sized.mpr ⟨hf.down M h1 _ (List.eraseIdx_sublist M j), by rw [List.length_eraseIdx, if_pos hj]; omega⟩)]
    · exact if_neg h
  rw [canon_ext (g := fun _ => 0) h0]
  unfold canon
  rw [List.filter_eq_nil_iff.mpr (by intro a _; simp)]
  rfl
theorem read_step {n : Nat} {ls : List (List Int)} {f g : List Int → Int} (hg : ∀ l, l ∉ ls → g l = 0) : sm (canon n g) (fun p => p.2 * stepS ls f p.1) = sm (canon n (bordF n g)) fun p => p.2 * f p.1 := by
  rw [sm_canon (fun S x => x * stepS ls f S) (fun S => Int.zero_mul _), sm_canon (fun S x => x * f S) (fun S => Int.zero_mul _), ← adj]
  refine sm_congr fun M _ => ?_
  unfold stepS
  by_cases h : M ∈ ls
  · rw [if_pos h]
  · rw [if_neg h, hg M h, Int.zero_mul, Int.zero_mul]
section
variable {P : Program} {w : World} {K : PySem.W.Frag} {mg : Str → Option Value} {base : Heap}
/-! ### sums -/
def φSum : List Ar → (D → Prop) → Prop := fun as Kd => ∃ (n : Nat) (f g : List Int → Int) (t : Int), as = [.d (chD (canon n f)), .d (chD (canon n g)), .d (.int t)] ∧ n ≤ 12 ∧ -1000000 ≤ t ∧ t ≤ 1000000 ∧ Kd (chD (canon n fun l => f l + t * g l))
theorem sum_len {n : Nat} (hn : n ≤ 12) (f : List Int → Int) (qs : DI) : (addAll (mergeI [] (canon n f)) qs).length ≤ 4096 + qs.length := by
  have h1 := addAll_len qs (mergeI [] (canon n f))
  have h2 := mergeI_len (canon n f) []
  have h3 := canon_le hn f
  rw [List.length_nil] at h2
  omega
/-! ### closed -/
def φShut : List Ar → (D → Prop) → Prop := fun as Kd => ∃ (n : Nat) (f : List Int → Int), as = [.d (chD (canon n f))] ∧ n ≤ 12 ∧ Kd (.bool (canon n (bordF n f)).isEmpty)
/-! ### steps up -/
def φStepF : List Ar → (D → Prop) → Prop := fun as Kd => ∃ (n : Nat) (fam : List (List Int)) (m : Int) (f : List Int → Int), as = [.d (famD n fam), .d (.int m), .d (chD (canon n f))] ∧ n ≤ 12 ∧ FamP n fam ∧ Kd (chD (canon n (stepS (sized fam (m + 1)) f)))
theorem fam_len {n : Nat} (hn : n ≤ 12) {fam : List (List Int)} (hf : FamP n fam) : fam.length ≤ 4096 := Nat.le_trans hf.len (small12 hn)
theorem sized_len {n : Nat} (hn : n ≤ 12) {fam : List (List Int)} (hf : FamP n fam) (k : Int) : (sized fam k).length ≤ 4096 := Nat.le_trans (List.length_filter_le _ _) (fam_len hn hf)
/-! ### readings by the law -/
/-! ### drawn chains -/
def φChainL : List Ar → (D → Prop) → Prop := fun as Kd => ∃ (n : Nat) (fam : List (List Int)) (m far : Int), as = [.src, .d (famD n fam), .d (.int m), .d (.int far)] ∧ n ≤ 12 ∧ FamP n fam ∧ 0 ≤ far ∧ far ≤ 1000000 ∧ ∀ f : List Int → Int, (∀ l, -far ≤ f l ∧ f l ≤ far) → (∀ l, l ∉ sized fam m → f l = 0) → Kd (chD (canon n f))
end
end K61


/-! k61: road sums multiplied, in plain Lean. -/
namespace K61
open PySem L2 DL
theorem sm_mulL {α : Type} (l : List α) (g : α → Int) (c : Int) : c * sm l g = sm l fun a => c * g a := by
  rw [Int.mul_comm, ← sm_mul]
  exact sm_congr fun a _ => Int.mul_comm _ _
theorem sm_sub {α : Type} (l : List α) (g h : α → Int) : sm l (fun a => g a - h a) = sm l g - sm l h := by
  have e : ∀ a ∈ l, g a - h a = g a + - h a := fun a _ => by omega
  rw [sm_congr e, sm_add, sm_neg]; omega
/-! ### lots put together -/
def unL (n : Nat) (a b : List Int) : List Int := (rangeI n).filter fun x => decide (x ∈ a ∨ x ∈ b)
theorem mem_un {n : Nat} {a b : List Int} {x : Int} : x ∈ unL n a b ↔ x ∈ rangeI n ∧ (x ∈ a ∨ x ∈ b) := by unfold unL; rw [List.mem_filter, decide_eq_true_eq]
theorem un_mem (n : Nat) (a b : List Int) : unL n a b ∈ allL n := mem_allL.mpr List.filter_sublist
theorem in_range {n : Nat} {a : List Int} (ha : a ∈ allL n) {x : Int} (h : x ∈ a) : x ∈ rangeI n := (mem_allL.mp ha).subset h
def dj (a b : List Int) : Prop := ∀ x ∈ a, x ∉ b
instance (a b : List Int) : Decidable (dj a b) := by unfold dj; exact inferInstance
theorem dj_symm {a b : List Int} (h : dj a b) : dj b a := fun x hx hy => h x hy hx
theorem sm_un {n : Nat} {a b : List Int} (ha : a ∈ allL n) (hb : b ∈ allL n) (h : dj a b) (g : Int → Int) : sm (unL n a b) g = sm a g + sm b g := by
  rw [sm_in (un_mem n a b), sm_in ha, sm_in hb, ← sm_add]
  refine sm_congr fun y hy => ?_
  by_cases h1 : y ∈ a
  · rw [if_pos (mem_un.mpr ⟨hy, .inl h1⟩), if_pos h1, if_neg (h y h1), Int.add_zero]
  · by_cases h2 : y ∈ b
    · rw [if_pos (mem_un.mpr ⟨hy, .inr h2⟩), if_neg h1, if_pos h2, Int.zero_add]
    · rw [if_neg (fun z => (mem_un.mp z).2.elim h1 h2), if_neg h1, if_neg h2]; rfl
theorem sm_del {n : Nat} {a : List Int} (ha : a ∈ allL n) {y : Int} (hy : y ∈ a) (g : Int → Int) : sm a g = sm (del y a) g + g y := by
  rw [sm_in ha, sm_in (del_mem ha y)]
  have e : g y = sm (rangeI n) fun x => if x = y then g x else 0 := by
    rw [sm_one (rangeI_nd n) (in_range ha hy) (fun x _ hx => if_neg hx), if_pos rfl]
  rw [e, ← sm_add]
  refine sm_congr fun x _ => ?_
  by_cases h : x = y
  · subst h
    rw [if_pos hy, if_neg (fun z => (mem_del.mp z).2 rfl), if_pos rfl, Int.zero_add]
  · by_cases h2 : x ∈ a
    · rw [if_pos h2, if_pos (mem_del.mpr ⟨h2, h⟩), if_neg h, Int.add_zero]
    · rw [if_neg h2, if_neg (fun z => h2 (mem_del.mp z).1), if_neg h]; rfl
theorem cnt_sm (T : List Int) (y : Int) : cnt T y = sm T fun x => if x < y then 1 else 0 := by
  unfold cnt
  induction T with
  | nil => rfl
  | cons x T ih =>
    rw [sm_cons, List.filter_cons]
    by_cases h : x < y
    · rw [if_pos (decide_eq_true h), if_pos h, List.length_cons]; omega
    · rw [if_neg (by simpa using h), if_neg h]; omega
theorem len_sm (T : List Int) : (T.length : Int) = sm T fun _ => 1 := by
  induction T with
  | nil => rfl
  | cons x T ih => rw [sm_cons, List.length_cons]; omega
def gt (T : List Int) (y : Int) : Int := sm T fun x => if y < x then 1 else 0
theorem cnt_gt {T : List Int} {y : Int} (h : y ∉ T) : cnt T y + gt T y = T.length := by
  rw [cnt_sm, len_sm]
  unfold gt
  rw [← sm_add]
  refine sm_congr fun x hx => ?_
  have : x ≠ y := fun z => h (z ▸ hx)
  rcases Int.lt_or_gt_of_ne this with h | h
  · rw [if_pos h, if_neg (by omega)]; rfl
  · rw [if_neg (by omega), if_pos h]; rfl
theorem cnt_gt_in {n : Nat} {T : List Int} (hT : T ∈ allL n) {y : Int} (h : y ∈ T) : cnt T y + gt T y + 1 = T.length := by
  have h1 := cnt_gt (T := del y T) (y := y) fun z => (mem_del.mp z).2 rfl
  have h2 := sm_del hT h fun x => if x < y then 1 else 0
  have h3 := sm_del hT h fun x => if y < x then 1 else 0
  have h4 := sm_del hT h fun _ => 1
  rw [← len_sm, ← len_sm] at h4
  rw [← cnt_sm, ← cnt_sm, if_neg (by omega)] at h2
  rw [if_neg (by omega)] at h3
  unfold gt at *
  omega
/-- exchanges -/
def inv (a b : List Int) : Int := sm a fun r => cnt b r
def sgn (a b : List Int) : Int := sg (inv a b)
section
variable {n : Nat} {a b c : List Int}
theorem cnt_un (ha : a ∈ allL n) (hb : b ∈ allL n) (h : dj a b) (y : Int) : cnt (unL n a b) y = cnt a y + cnt b y := by rw [cnt_sm, sm_un ha hb h, ← cnt_sm, ← cnt_sm]
theorem inv_unl (ha : a ∈ allL n) (hb : b ∈ allL n) (h : dj a b) : inv (unL n a b) c = inv a c + inv b c := sm_un ha hb h _
theorem inv_unr (ha : a ∈ allL n) (hb : b ∈ allL n) (h : dj a b) : inv c (unL n a b) = inv c a + inv c b := by
  unfold inv
  rw [← sm_add]
  exact sm_congr fun r _ => cnt_un ha hb h r
theorem cnt_del (hb : b ∈ allL n) {y : Int} (hy : y ∈ b) (r : Int) : cnt b r = cnt (del y b) r + if y < r then 1 else 0 := by
  rw [cnt_sm, sm_del hb hy, ← cnt_sm]
theorem inv_dell (ha : a ∈ allL n) {y : Int} (hy : y ∈ a) : inv a b = inv (del y a) b + cnt b y := sm_del ha hy _
theorem inv_delr (hb : b ∈ allL n) {y : Int} (hy : y ∈ b) : inv a b = inv a (del y b) + gt a y := by
  unfold inv gt
  rw [← sm_add]
  exact sm_congr fun r _ => cnt_del hb hy r
theorem inv_inv (h : dj a b) : inv a b + inv b a = a.length * b.length := by
  have h1 : inv b a = sm a fun r => gt b r := by
    unfold inv gt
    rw [sm_comm]
    exact sm_congr fun s _ => cnt_sm _ _
  rw [h1]
  unfold inv
  rw [← sm_add, sm_congr (h := fun _ => (1 : Int) * b.length) fun r hr => by rw [cnt_gt (h r hr)]; omega, sm_mul, ← len_sm]
theorem un_assoc : unL n (unL n a b) c = unL n a (unL n b c) := lot_ext (un_mem _ _ _) (un_mem _ _ _) fun x hx => by
  rw [mem_un, mem_un, mem_un, mem_un]
  constructor
  · rintro ⟨_, ⟨_, h | h⟩ | h⟩
    · exact ⟨hx, .inl h⟩
    · exact ⟨hx, .inr ⟨hx, .inl h⟩⟩
    · exact ⟨hx, .inr ⟨hx, .inr h⟩⟩
  · rintro ⟨_, h | ⟨_, h | h⟩⟩
    · exact ⟨hx, .inl ⟨hx, .inl h⟩⟩
    · exact ⟨hx, .inl ⟨hx, .inr h⟩⟩
    · exact ⟨hx, .inr h⟩
theorem dj_unl (ha : a ∈ allL n) (hb : b ∈ allL n) : dj (unL n a b) c ↔ dj a c ∧ dj b c := by
  constructor
  · intro h
    exact ⟨fun x hx => h x (mem_un.mpr ⟨in_range ha hx, .inl hx⟩), fun x hx => h x (mem_un.mpr ⟨in_range hb hx, .inr hx⟩)⟩
  · rintro ⟨h1, h2⟩ x hx
    exact (mem_un.mp hx).2.elim (h1 x) (h2 x)
theorem dj_unr (hb : b ∈ allL n) (hc : c ∈ allL n) : dj a (unL n b c) ↔ dj a b ∧ dj a c := by
  constructor
  · intro h
    exact ⟨fun x hx hy => h x hx (mem_un.mpr ⟨in_range hb hy, .inl hy⟩), fun x hx hy => h x hx (mem_un.mpr ⟨in_range hc hy, .inr hy⟩)⟩
  · rintro ⟨h1, h2⟩ x hx hy
    exact (mem_un.mp hy).2.elim (h1 x hx) (h2 x hx)
end
/-! ### products -/
def prodF (n : Nat) (f g : List Int → Int) : List Int → Int := fun K => sm (allL n) fun A => sm (allL n) fun B => if dj A B ∧ unL n A B = K then f A * g B * sgn A B else 0
section
variable {n : Nat} {f g h : List Int → Int}
theorem prod_lin (F : List Int → Int) : sm (allL n) (fun D => prodF n f g D * F D) = sm (allL n) fun A => sm (allL n) fun B => if dj A B then f A * g B * sgn A B * F (unL n A B) else 0 := by
  have e : ∀ D, prodF n f g D * F D = sm (allL n) fun A => sm (allL n) fun B => (if dj A B ∧ unL n A B = D then f A * g B * sgn A B else 0) * F D := fun D => by
    unfold prodF
    rw [← sm_mul]
    exact sm_congr fun A _ => by rw [← sm_mul]
  rw [sm_congr fun D _ => e D, sm_comm]
  refine sm_congr fun A _ => ?_
  rw [sm_comm]
  refine sm_congr fun B _ => ?_
  by_cases hd : dj A B
  · rw [if_pos hd, sm_one (allL_nd n) (un_mem n A B) (fun D _ hD => by rw [if_neg (fun z => hD z.2.symm), Int.zero_mul]), if_pos ⟨hd, rfl⟩]
  · rw [if_neg hd]
    exact sm_zero fun D _ => by rw [if_neg (fun z => hd z.1), Int.zero_mul]
theorem prod_assoc (K : List Int) : prodF n (prodF n f g) h K = prodF n f (prodF n g h) K := by
  have e1 : prodF n (prodF n f g) h K = sm (allL n) fun D => prodF n f g D * sm (allL n) fun C => if dj D C ∧ unL n D C = K then h C * sgn D C else 0 := by
    show (sm (allL n) fun D => sm (allL n) fun C => if dj D C ∧ unL n D C = K then prodF n f g D * h C * sgn D C else 0) = _
    refine sm_congr fun D _ => ?_
    rw [sm_mulL]
    refine sm_congr fun C _ => ?_
    split
    · rw [Int.mul_assoc]
    · rw [Int.mul_zero]
  have e2 : prodF n f (prodF n g h) K = sm (allL n) fun A => sm (allL n) fun E => prodF n g h E * if dj A E ∧ unL n A E = K then f A * sgn A E else 0 := by
    refine sm_congr fun A _ => sm_congr fun E _ => ?_
    split
    · rw [Int.mul_comm (f A), Int.mul_assoc]
    · rw [Int.mul_zero]
  rw [e1, e2, prod_lin]
  refine sm_congr fun A hA => ?_
  rw [prod_lin]
  refine sm_congr fun B hB => ?_
  have e3 : (if dj A B then f A * g B * sgn A B * (sm (allL n) fun C => if dj (unL n A B) C ∧ unL n (unL n A B) C = K then h C * sgn (unL n A B) C else 0) else 0) = sm (allL n) fun C => if dj A B then f A * g B * sgn A B * (if dj (unL n A B) C ∧ unL n (unL n A B) C = K then h C * sgn (unL n A B) C else 0) else 0 := by
    split
    · rw [sm_mulL]
    · rw [sm_zero]; intro _ _; rfl
  rw [e3]
  refine sm_congr fun C hC => ?_
  by_cases h3 : dj A B ∧ dj A C ∧ dj B C
  · obtain ⟨h1, h2, h3⟩ := h3
    rw [if_pos h1, if_pos h3]
    by_cases hK : unL n (unL n A B) C = K
    · rw [if_pos ⟨(dj_unl hA hB).mpr ⟨h2, h3⟩, hK⟩, if_pos ⟨(dj_unr hB hC).mpr ⟨h1, h2⟩, by rw [← un_assoc]; exact hK⟩]
      have s1 : sgn (unL n A B) C = sgn A C * sgn B C := by unfold sgn; rw [inv_unl hA hB h1, sg_add]
      have s2 : sgn A (unL n B C) = sgn A B * sgn A C := by unfold sgn; rw [inv_unr hB hC h3, sg_add]
      rw [s1, s2]
      generalize sgn A B = p, sgn A C = q, sgn B C = r, f A = x, g B = y, h C = z
      simp only [Int.mul_assoc, Int.mul_left_comm, Int.mul_comm]
    · rw [if_neg (fun z => hK z.2), if_neg (fun z => hK (by rw [un_assoc]; exact z.2)), Int.mul_zero, Int.mul_zero]
  · have l0 : (if dj A B then f A * g B * sgn A B * (if dj (unL n A B) C ∧ unL n (unL n A B) C = K then h C * sgn (unL n A B) C else 0) else 0) = 0 := by
      split
      · rename_i h1
        rw [if_neg, Int.mul_zero]
        rintro ⟨h2, _⟩
        exact h3 ⟨h1, (dj_unl hA hB).mp h2⟩
      · rfl
    rw [l0]
    symm
    split
    · rename_i h1
      rw [if_neg, Int.mul_zero]
      rintro ⟨h2, _⟩
      obtain ⟨h4, h5⟩ := (dj_unr hB hC).mp h2
      exact h3 ⟨h4, h5, h1⟩
    · rfl
/-! ### the border of a product -/
def turnF (f : List Int → Int) : List Int → Int := fun L => f L * sg L.length
theorem pair_y {M : List Int} (hM : M ∈ allL n) (F : List Int → Int) : pairF M F = sm (rangeI n) fun y => if y ∈ M then sg (cnt M y) * F (del y M) else 0 := sm_sides hM fun T k => sg k * F T
def dlt (n : Nat) (L K : List Int) : Int := sm (rangeI n) fun y => if y ∈ L ∧ del y L = K then sg (cnt L y) else 0
theorem bord_dlt (K : List Int) : bordF n f K = sm (allL n) fun L => f L * dlt n L K := by
  unfold bordF dlt
  refine sm_congr fun L hL => ?_
  have e1 := sm_sides hL fun T k => if T = K then f L * sg k else 0
  rw [sm_mulL]
  refine e1.trans (sm_congr fun y _ => ?_)
  by_cases h1 : y ∈ L
  · rw [if_pos h1]
    by_cases h2 : del y L = K
    · rw [if_pos h2, if_pos ⟨h1, h2⟩]
    · rw [if_neg h2, if_neg (fun z => h2 z.2), Int.mul_zero]
  · rw [if_neg h1, if_neg (fun z => h1 z.1), Int.mul_zero]
theorem bord_lin (F : List Int → Int) : sm (allL n) (fun S => bordF n f S * F S) = sm (allL n) fun A => f A * sm (rangeI n) fun y => if y ∈ A then sg (cnt A y) * F (del y A) else 0 := by
  rw [← adj]
  exact sm_congr fun A hA => by rw [pair_y hA]
/-- the terms of the border of a product, by their roads -/
def tmL (n : Nat) (A B K : List Int) (y : Int) : Int := if y ∈ A ∧ dj (del y A) B ∧ unL n (del y A) B = K then sg (cnt A y) * sgn (del y A) B else 0
def tmR (n : Nat) (A B K : List Int) (y : Int) : Int := if y ∈ B ∧ dj A (del y B) ∧ unL n A (del y B) = K then sg (cnt B y) * sgn A (del y B) else 0
theorem tm_key {A B K : List Int} (hA : A ∈ allL n) (hB : B ∈ allL n) : (if dj A B then sgn A B * dlt n (unL n A B) K else 0) = sm (rangeI n) fun y => tmL n A B K y + sg A.length * tmR n A B K y := by
  by_cases hd : dj A B
  · rw [if_pos hd]
    unfold dlt
    rw [sm_mulL]
    refine sm_congr fun y hy => ?_
    unfold tmL tmR
    by_cases h1 : y ∈ A
    · have h2 : y ∉ B := hd y h1
      have eu : unL n (del y A) B = del y (unL n A B) := lot_ext (un_mem _ _ _) (del_mem (un_mem _ _ _) _) fun x hx => by
        rw [mem_un, mem_del, mem_del, mem_un]
        constructor
        · rintro ⟨_, ⟨h, h'⟩ | h⟩
          · exact ⟨⟨hx, .inl h⟩, h'⟩
          · exact ⟨⟨hx, .inr h⟩, fun e => h2 (e ▸ h)⟩
        · rintro ⟨⟨_, h | h⟩, h'⟩
          · exact ⟨hx, .inl ⟨h, h'⟩⟩
          · exact ⟨hx, .inr h⟩
      rw [if_neg (c := y ∈ B ∧ _) (fun z => h2 z.1), Int.mul_zero, Int.add_zero, eu]
      by_cases hK : del y (unL n A B) = K
      · rw [if_pos ⟨mem_un.mpr ⟨hy, .inl h1⟩, hK⟩, if_pos ⟨h1, fun x hx => hd x (mem_del.mp hx).1, hK⟩, cnt_un hA hB hd]
        unfold sgn
        rw [inv_dell hA h1, ← sg_add, ← sg_add]
        unfold sg; omega
      · rw [if_neg (fun z => hK z.2), if_neg (fun z => hK z.2.2), Int.mul_zero]
    · by_cases h2 : y ∈ B
      · have eu : unL n A (del y B) = del y (unL n A B) := lot_ext (un_mem _ _ _) (del_mem (un_mem _ _ _) _) fun x hx => by
          rw [mem_un, mem_del, mem_del, mem_un]
          constructor
          · rintro ⟨_, h | ⟨h, h'⟩⟩
            · exact ⟨⟨hx, .inl h⟩, fun e => h1 (e ▸ h)⟩
            · exact ⟨⟨hx, .inr h⟩, h'⟩
          · rintro ⟨⟨_, h | h⟩, h'⟩
            · exact ⟨hx, .inl h⟩
            · exact ⟨hx, .inr ⟨h, h'⟩⟩
        rw [if_neg (c := y ∈ A ∧ dj (del y A) B ∧ _) (fun z => h1 z.1), Int.zero_add, eu]
        by_cases hK : del y (unL n A B) = K
        · rw [if_pos ⟨mem_un.mpr ⟨hy, .inr h2⟩, hK⟩, if_pos ⟨h2, fun x hx hx2 => hd x hx (mem_del.mp hx2).1, hK⟩, cnt_un hA hB hd]
          unfold sgn
          have h3 := cnt_gt h1
          rw [inv_delr hB h2, ← sg_add, ← sg_add, ← sg_add]
          unfold sg; omega
        · rw [if_neg (fun z => hK z.2), if_neg (fun z => hK z.2.2), Int.mul_zero, Int.mul_zero]
      · rw [if_neg (fun z => (mem_un.mp z.1).2.elim h1 h2), if_neg (fun z => h1 z.1), if_neg (fun z => h2 z.1), Int.mul_zero, Int.mul_zero]; rfl
  · rw [if_neg hd]
    symm
    refine sm_zero fun y hy => ?_
    have hx : ∃ x, x ∈ A ∧ x ∈ B := Classical.byContradiction fun h => hd fun x h1 h2 => h ⟨x, h1, h2⟩
    obtain ⟨x, xA, xB⟩ := hx
    unfold tmL tmR
    have only : ∀ {y : Int}, (y ∈ A ∧ y ∈ B ∧ ∀ z ∈ A, z ∈ B → z = y) → dj (del y A) B ∧ dj A (del y B) := fun {y} ⟨_, _, h⟩ => ⟨fun z h1 h2 => (mem_del.mp h1).2 (h z (mem_del.mp h1).1 h2), fun z h1 h2 => (mem_del.mp h2).2 (h z h1 (mem_del.mp h2).1)⟩
    have c1 : y ∈ A → dj (del y A) B → y ∈ A ∧ y ∈ B ∧ ∀ z ∈ A, z ∈ B → z = y := fun h1 h2 => by
      have h3 : ∀ z ∈ A, z ∈ B → z = y := fun z hz hz2 => Classical.byContradiction fun h => h2 z (mem_del.mpr ⟨hz, h⟩) hz2
      exact ⟨h1, h3 x xA xB ▸ xB, h3⟩
    have c2 : y ∈ B → dj A (del y B) → y ∈ A ∧ y ∈ B ∧ ∀ z ∈ A, z ∈ B → z = y := fun h1 h2 => by
      have h3 : ∀ z ∈ A, z ∈ B → z = y := fun z hz hz2 => Classical.byContradiction fun h => h2 z hz (mem_del.mpr ⟨hz2, h⟩)
      exact ⟨h3 x xA xB ▸ xA, h1, h3⟩
    by_cases hc : y ∈ A ∧ y ∈ B ∧ ∀ z ∈ A, z ∈ B → z = y
    · obtain ⟨d1, d2⟩ := only hc
      obtain ⟨yA, yB, _⟩ := hc
      have eu : unL n (del y A) B = unL n A (del y B) := lot_ext (un_mem _ _ _) (un_mem _ _ _) fun x hx => by
        rw [mem_un, mem_un, mem_del, mem_del]
        by_cases e : x = y
        · subst e
          exact ⟨fun _ => ⟨hx, .inl yA⟩, fun _ => ⟨hx, .inr yB⟩⟩
        · constructor
          · rintro ⟨_, h | h⟩
            · exact ⟨hx, .inl h.1⟩
            · exact ⟨hx, .inr ⟨h, e⟩⟩
          · rintro ⟨_, h | h⟩
            · exact ⟨hx, .inl ⟨h, e⟩⟩
            · exact ⟨hx, .inr h.1⟩
      by_cases hK : unL n (del y A) B = K
      · rw [if_pos ⟨yA, d1, hK⟩, if_pos ⟨yB, d2, by rw [← eu]; exact hK⟩]
        unfold sgn
        have h1 := inv_dell (b := B) hA yA
        have h2 := inv_delr (a := A) hB yB
        have h3 := cnt_gt_in hA yA
        rw [← sg_add, ← sg_add, ← sg_add]
        unfold sg; omega
      · rw [if_neg (fun z => hK z.2.2), if_neg (fun z => hK (by rw [eu]; exact z.2.2)), Int.mul_zero]; rfl
    · rw [if_neg (fun z => hc (c1 z.1 z.2.1)), if_neg (fun z => hc (c2 z.1 z.2.1)), Int.mul_zero]; rfl
theorem prod_bord (K : List Int) : bordF n (prodF n f g) K = prodF n (bordF n f) g K + 1 * prodF n (turnF f) (bordF n g) K := by
  have e1 : prodF n (bordF n f) g K = sm (allL n) fun D => bordF n f D * sm (allL n) fun B => if dj D B ∧ unL n D B = K then g B * sgn D B else 0 := by
    refine sm_congr fun D _ => ?_
    rw [sm_mulL]
    refine sm_congr fun C _ => ?_
    split
    · rw [Int.mul_assoc]
    · rw [Int.mul_zero]
  have e2 : prodF n (turnF f) (bordF n g) K = sm (allL n) fun A => sm (allL n) fun E => bordF n g E * if dj A E ∧ unL n A E = K then turnF f A * sgn A E else 0 := by
    refine sm_congr fun A _ => sm_congr fun E _ => ?_
    split
    · rw [Int.mul_comm (turnF f A), Int.mul_assoc]
    · rw [Int.mul_zero]
  rw [bord_dlt, prod_lin, e1, e2, bord_lin, Int.one_mul, ← sm_add]
  refine sm_congr fun A hA => ?_
  rw [bord_lin, sm_mulL]
  have e3 : (sm (rangeI n) fun y => f A * if y ∈ A then sg (cnt A y) * (sm (allL n) fun B => if dj (del y A) B ∧ unL n (del y A) B = K then g B * sgn (del y A) B else 0) else 0) = sm (allL n) fun B => sm (rangeI n) fun y => f A * g B * tmL n A B K y := by
    rw [sm_comm]
    refine sm_congr fun y _ => ?_
    unfold tmL
    by_cases h1 : y ∈ A
    · rw [if_pos h1, sm_mulL, sm_mulL]
      refine sm_congr fun B _ => ?_
      by_cases h2 : dj (del y A) B ∧ unL n (del y A) B = K
      · rw [if_pos h2, if_pos ⟨h1, h2⟩]
        generalize sgn (del y A) B = p, sg (cnt A y) = q, f A = x, g B = z
        simp only [Int.mul_assoc, Int.mul_left_comm, Int.mul_comm]
      · rw [if_neg h2, if_neg (fun z => h2 z.2), Int.mul_zero, Int.mul_zero, Int.mul_zero]
    · rw [if_neg h1, Int.mul_zero]
      symm
      exact sm_zero fun B _ => by rw [if_neg (fun z => h1 z.1), Int.mul_zero]
  rw [e3, ← sm_add]
  refine sm_congr fun B hB => ?_
  have e4 : (if dj A B then f A * g B * sgn A B * dlt n (unL n A B) K else 0) = f A * g B * if dj A B then sgn A B * dlt n (unL n A B) K else 0 := by
    split
    · rw [Int.mul_assoc]
    · rw [Int.mul_zero]
  rw [e4, tm_key hA hB, sm_mulL, sm_mulL, ← sm_add]
  refine sm_congr fun y _ => ?_
  rw [Int.mul_add]
  congr 1
  unfold tmR turnF
  by_cases h1 : y ∈ B
  · rw [if_pos h1]
    by_cases h2 : dj A (del y B) ∧ unL n A (del y B) = K
    · rw [if_pos h2, if_pos ⟨h1, h2⟩]
      generalize sgn A (del y B) = p, sg (cnt B y) = q, f A = x, g B = z, sg (A.length : Int) = u
      simp only [Int.mul_assoc, Int.mul_left_comm, Int.mul_comm]
    · rw [if_neg h2, if_neg (fun z => h2 z.2), Int.mul_zero, Int.mul_zero, Int.mul_zero, Int.mul_zero]
  · rw [if_neg h1, if_neg (fun z => h1 z.1), Int.mul_zero, Int.mul_zero, Int.mul_zero]
end
end K61

/-! DMN: x.items() of a dict with tuple keys; a def that takes a dict of the caller's over. -/
namespace DL
open PySem L2 PyProof.Rows
/-! ### the pairs of a dict with tuple keys -/
def Itit (d : Addr) (o : Obj) (kvs : List (List L2.Key × V)) (qs : List Addr) : It :=
  ⟨fun i H => H d = some (.frz o (.dT kvs)) ∧ i < kvs.length, fun i H x H' => ∃ T k v q, kvs[i]? = some (k, v) ∧ qs[i]? = some q ∧ x = .ref T ∧ H T = none ∧ H' = upd H T (.tup [.ref q, v]), fun i H => H d = some (.frz o (.dT kvs)) ∧ kvs.length ≤ i⟩
theorem frzT2 {X : Cx} {pins : List (Addr × Obj)} {σ : L2.St} {H : Hp} {s : Shared} {d : Addr} {o : Obj} {kvs : List (List L2.Key × V)} (I : Inv X pins σ H s) (h : H d = some (.frz o (.dT kvs))) :
    (d == sysModules) = false ∧ s.heap.get? d = some o ∧ o.ExactDict ∧ ∃ (es : Array DictEntry) (ep : Nat), o.data = .dict es ep ∧ es.size = kvs.length ∧
      ∀ (i : Nat) (k : List L2.Key) (v : V), kvs[i]? = some (k, v) → ∃ (en : DictEntry) (q : Addr), es[i]? = some en ∧ en.key = .ref q ∧ H q = some (.tup (k.map kV)) ∧ RelV v en.val := by
  obtain ⟨hd, z, hs, xs, pr, o', es, ep, ho, hx, hdt, he, _⟩ := I.hok d _ h
  rw [hd] at ho
  cases ho
  refine ⟨hs, hd, hx, es, ep, hdt, ?_, fun i k v e => ?_⟩
  · have l1 : es.size = xs.length := size_of_entries he
    have l2 : kvs.length = xs.length := Paired.length pr
    omega
  · obtain ⟨b, hb, e1, e2, e3⟩ := L2.paired_get pr e
    have q := entry_at he i
    rw [hb] at q
    exact ⟨_, b.2.1, q, rfl, e2, e3⟩
theorem turn_itemsT {P : Program} {w : World} {K : PySem.W.Frag} {d : Addr} {o : Obj} {es : Array DictEntry} {ep : Nat} {kvs : List (List L2.Key × V)} {qs : List Addr} {elts : List Expr} {kk : Nat} {tpos : Pos} (it : Addr) (hod : o.data = .dict es ep) (hq : ∀ (i : Nat) en, es[i]? = some en → ∃ q, qs[i]? = some q ∧ en.key = .ref q) :
    Turn P w K (.Tuple elts kk tpos) (Itit d o kvs qs) [it] it (fun i h => ∃ ok ov, h.get? it = some (DVw.itmOb d .none i kvs.length ep ok ov)) where
  mem := by simp
  obj := fun i h st b hb => by
    have e : b = it := by simpa using hb
    subst e
    obtain ⟨ok, ov, e⟩ := st
    exact ⟨_, e, fun v z => nomatch z⟩
  keep := fun i h h' st k => let ⟨ok, ov, e⟩ := st; ⟨ok, ov, k it (by simp) _ e⟩
  item := by
    intro X hP hw hK hc i pins s σ H E I hf st hg
    subst hP hw hK
    obtain ⟨hd, hi⟩ := hg
    obtain ⟨hs, hgd, hx, es', ep', hdt, hsz, ent⟩ := frzT2 I hd
    obtain ⟨rfl, rfl⟩ := dict_ep hod hdt
    obtain ⟨⟨k, v⟩, hkv⟩ : ∃ p, kvs[i]? = some p := ⟨kvs[i], List.getElem?_eq_getElem hi⟩
    obtain ⟨e, q, he, hkey, hqt, ru⟩ := ent i k v hkv
    obtain ⟨q2, hq2, hk2⟩ := hq i e he
    rw [hkey] at hk2
    cases hk2
    obtain ⟨ok, ov, hit⟩ := st
    have hlt : it < s.heap.objs.size := Heap.lt_size hit
    refine DVw.itm_item hit hgd hdt hsz he fun h' b1 b2 b3 b4 => ?_
    refine ⟨_, rfl, wpAny_letOwnedTupleGo_items (s := { s with heap := h' }) (d := d) (i := i + 1) (n := kvs.length) (ep := ep') (ok := e.key) (ov := e.val) b1 fun h'' he' sb => ?_⟩
    have hT2 : h''.get? s.heap.objs.size = some { cls := .type "tuple", data := .seq #[e.key, e.val] } := (sb.2 _ (Nat.ne_of_gt hlt)).trans b2
    have new : ObjOk X.prog X.w (upd H s.heap.objs.size (.tup [.ref q, v])) h'' s.heap.objs.size (.tup [.ref q, v]) :=
      ⟨by show 2 ≤ sizeLine; decide, [e.key, e.val], .cons (show e.key = Value.ref q from hkey) (.cons ru .nil), ⟨_, hT2, rfl, _, rfl⟩⟩
    have I1 : Inv X pins σ (upd H s.heap.objs.size (.tup [.ref q, v])) { s with heap := h'' } :=
      I.turnedNew (t' := s.toks) (ch := [it]) (fun b ob hb z => (sb.2 b (by simpa using hb)).trans (b4 b ob (by simpa using hb) z)) hf (Nat.le_refl _) new
    refine ⟨.ref s.heap.objs.size, _, I1, rfl, ⟨_, k, v, q, hkv, hq2, rfl, I.hok.fresh (Nat.le_refl _), rfl⟩, ⟨e.key, e.val, he'⟩, fun b hb => ?_⟩
    have z : b = it := by simpa using hb
    rw [z, upd_ne (Nat.ne_of_lt hlt)]
    exact (hf it (by simp)).1
  done := by
    intro X hP hw hK hc i pins s σ H E I hf st hg
    subst hP hw hK
    obtain ⟨hd, hi⟩ := hg
    obtain ⟨f0, f1, f2, f3, f4, f5⟩ := hf it (by simp)
    obtain ⟨hs, hgd, hx, es', ep', hdt, hsz, ent⟩ := frzT2 I hd
    obtain ⟨rfl, rfl⟩ := dict_ep hod hdt
    obtain ⟨ok, ov, hit⟩ := st
    have he : es'[i]? = none := Array.getElem?_eq_none (by rw [hsz]; exact hi)
    exact DVw.itm_end (I.ok.hd hc) hit hgd hdt hsz he fun h' eb => ⟨rfl, I.turned (t' := s.toks) (fun b ob hb e => eb b ob hb e) f0 f1 f3 f4 f5⟩
  self := fun A i s Q E st h => let ⟨_, _, e⟩ := st; PySem.W.kcp_self e h
/-- .. in e.items(), the dict locked -/
def iItemsT (td : TE) : TI := fun σ H R => td σ H fun x H1 => ∃ d o kvs, x = .ref d ∧ H1 d = some (.frz o (.dT kvs)) ∧ ∀ qs : List Addr, qs.length = kvs.length → (∀ (i : Nat) q p, qs[i]? = some q → kvs[i]? = some p → H1 q = some (.tup (p.1.map kV))) → R (Itit d o kvs qs) H1
def keyAddr (en : DictEntry) : Addr := match en.key with
  | .ref q => q
  | _ => 0
theorem pi_itemsT {X : Cx} {e : Expr} {td : TE} {apos cpos : Pos} {elts : List Expr} {kk : Nat} {tpos : Pos} (he : PE X e td) (hbase : attributeBase e "items" X.env (eval e X.env) = eval e X.env := by rfl) (hline : (apos.endLine == cpos.line) = true := by rfl) :
    PI X (.Tuple elts kk tpos) (.Call (.Attribute e "items" apos) [] [] cpos) (iItemsT td) := by
  refine ⟨fun pins s σ H R I h => ?_⟩
  refine wpAny_Call_method (T := "dict") (id := "dict.items") hbase rfl hline PySem.F.plainAttrs_dict PySem.F.slot_dict_items PySem.F.type_dict_items (thn (he.run pins s σ H _ I h) fun u s1 ⟨x, H1, I1, rx, d, o, kvs, ex, hd, q⟩ => ?_)
  subst ex
  obtain rfl : u = Value.ref d := rx
  obtain ⟨hs, hgd, hx, es, ep, hdt, hsz, ent⟩ := frzT2 I1 hd
  have raw : DT.Raw s1.heap d es ep := ⟨o, hgd, hx, hdt⟩
  refine ⟨raw.typeIs, fun a e => by cases e; exact ⟨o, hgd, hx.2.1⟩, ?_⟩
  have I2 : Inv X pins σ H1 { s1 with heap := s1.heap.push { cls := .type "dict_items", data := .fields #[.ref d] } } := I1.kept (t' := s1.toks) fun b ob q => Heap.get?_push_of_some _ q
  have hkeys : ∀ (i : Nat) en, es[i]? = some en → ∃ p, kvs[i]? = some p ∧ en.key = .ref (keyAddr en) ∧ H1 (keyAddr en) = some (.tup (p.1.map kV)) := fun i en hen => by
    have hi : i < kvs.length := by
      have := (Array.getElem?_eq_some_iff.mp hen).1
      omega
    obtain ⟨en2, q2, h1, h2, h3, _⟩ := ent i _ _ (List.getElem?_eq_getElem hi)
    rw [hen] at h1
    cases h1
    refine ⟨_, List.getElem?_eq_getElem hi, ?_, ?_⟩
    · unfold keyAddr; rw [h2]
    · unfold keyAddr; rw [h2]; exact h3
  have qq := q (es.toList.map keyAddr) (by rw [List.length_map, Array.length_toList, hsz]) fun i qa p h1 h2 => by
    rw [List.getElem?_map] at h1
    cases hen : es.toList[i]? with
    | none => rw [hen] at h1; cases h1
    | some en =>
      rw [hen] at h1
      cases h1
      obtain ⟨p2, g1, _, g3⟩ := hkeys i en (by rw [Array.getElem?_toList] at hen; exact hen)
      rw [h2] at g1
      cases g1
      exact g3
  have fin : wpAny (model X.prog X.w) X.A (pyIter (.ref s1.heap.objs.size)) (PIE X pins σ (.Tuple elts kk tpos) R) X.xe { s1 with heap := s1.heap.push { cls := .type "dict_items", data := .fields #[.ref d] } } := by
    refine DT.iterI (d := d) (es := es) (ep := ep) ⟨_, Heap.get?_push_size _ rfl, rfl, rfl⟩ (raw.push _) (pi_one (tk := s1.toks) I2 _ (turn_itemsT (qs := es.toList.map keyAddr) _ hdt fun i en hen => ?_) ⟨.none, .none, ?_⟩ qq)
    · obtain ⟨p, _, g2, _⟩ := hkeys i en hen
      refine ⟨keyAddr en, ?_, g2⟩
      rw [List.getElem?_map, Array.getElem?_toList, hen]
      rfl
    · rw [← hsz]
      exact Heap.get?_push_size _ rfl
  show wpAny _ _ (callWith cpos (.builtin "dict.items") [.ref d] [] []) _ X.xe s1
  exact method_meetsIn PySem.F.slot_dict_items PySem.F.entry_dict_items rfl (PySem.evalArgs_none ⟨rfl, raw.typeIs, PySem.F.args_dict_items_1 _, _, DT.meetsItems (es := es) (ep := ep) hs, ⟨raw, fin⟩⟩)
def itemsD (kvs : List (List Int × D)) : List D := kvs.map fun p => .tuple [tupI p.1, p.2]
theorem RpK.at' {F : Hp} : ∀ {ws : List (List L2.Key × V)} {kvs : List (List Int × D)} {i : Nat} {k : List L2.Key} {v : V}, RpK F ws kvs → ws[i]? = some (k, v) → ∃ k0 d, kvs[i]? = some (k0, d) ∧ k = kI k0 ∧ Rp F v d
  | _, _, _, _, _, .nil, e => by simp at e
  | _, _, 0, _, _, .cons r _, e => by
    simp at e
    obtain ⟨e1, e2⟩ := e
    subst e2
    exact ⟨_, _, rfl, e1.symm, r⟩
  | _, _, i + 1, k, v, .cons _ t, e => by
    obtain ⟨k0, d, h1, h2⟩ := RpK.at' (i := i) (k := k) (v := v) t (by simpa using e)
    exact ⟨k0, d, by simpa using h1, h2⟩
theorem itit_d {B F : Hp} {d : Addr} {od : Obj} {ws : List (List L2.Key × V)} {kvs : List (List Int × D)} {qs : List Addr} (hb : B d = some (.frz od (.dT ws))) (rk : RpK F ws kvs) (rq : RpA F (qs.map V.ref) ((kvs.map (·.1)).map tupI)) : ItD (Itit d od ws qs) B F (itemsD kvs) := by
  have hl : (itemsD kvs).length = ws.length := by unfold itemsD; rw [List.length_map, rk.length]
  refine ⟨fun i H kb k hi => ⟨kb _ _ hb, by omega⟩, fun i H kb k hi => ⟨kb _ _ hb, by omega⟩, fun i H x H' kb k y hi => ?_⟩
  obtain ⟨T, kk, v, q, h1, h2, h3, h4, h5⟩ := y
  obtain ⟨k0, d0, g1, g2, g3⟩ := rk.at' h1
  have e1 : (qs.map V.ref)[i]? = some (V.ref q) := by rw [List.getElem?_map, h2]; rfl
  obtain ⟨dk, f1, f2⟩ := rq.get e1
  have e2 : ((kvs.map (·.1)).map tupI)[i]? = some (tupI k0) := by rw [List.getElem?_map, List.getElem?_map, g1]; rfl
  rw [e2] at f1
  cases f1
  refine .inr (.inl ⟨T, _, [tupI k0, d0], h3, h4, h5, .cons f2 (.one g3), ?_⟩)
  unfold itemsD
  rw [List.getElem?_map, g1]
  rfl
section
variable {X : Cx} {r : SR} {S : List Sl}
/-- [.. for y in x.items()], x a dict of one's own -/
theorem jn_lcIt {elt : Expr} {ifs : List Expr} {scope : Scope} {x : Str} {px pos apos cpos tpos : Pos} {elts : List Expr} {kk : Nat} (i : Nat) (own : List (Str × Nat)) (ts : List Nat) {K : List D → List Sl → Prop} {kvs : List (List Int × D)} (e : S[i]? = some (.ob (.d kvs)))
    (h : (∀ j ∈ own.map (·.2), ∀ xs, (S.set i .emp)[j]? ≠ some (.ob xs)) ∧ LcAll X r scope (.Tuple elts kk tpos) elt ifs (own.map (·.2)) ts (itemsD kvs) (S.set i .emp) fun zs => K zs S)
    (hc : X.calm = true := by rfl) (hN : X.N.Nodup := by assumption) (ok : BlkOk X.N X.env.scope scope own := by exact blkOk_by rfl) (hs : ∀ y, foldedSetIterable (.Call (.Attribute (.Name x px) "items" apos) [] [] cpos) X.env y = pure y := by intro _; rfl) (hts : ∀ j ∈ ts, j ∈ own.map (·.2) := by decide)
    (hNi : X.N[i]? = some x := by rfl) (hv : Vis X.env.scope x := by first | exact Or.inl rfl | exact Or.inr (Or.inl rfl) | exact Or.inr (Or.inr rfl)) (hd : (x == ("__debug__" : Str)) = false := by decide) (hcd : (x == ("__classdict__" : Str)) = false := by decide)
    (hit : PI X (.Tuple elts kk tpos) (.Call (.Attribute (.Name x px) "items" apos) [] [] cpos) (iItemsT (tVar i)) := by exact pi_itemsT (pv _)) :
    JN X r (.ListComp elt [⟨.Tuple elts kk tpos, .Call (.Attribute (.Name x px) "items" apos) [] [] cpos, ifs, 0⟩] scope pos) S K := fun c F σ H hr E Q q => by
  obtain ⟨y, e1, d, hh, e2, ha, rv, nF, nB, ns⟩ := E.sl i _ e
  subst e2
  obtain ⟨ws, rfl, rk⟩ := obr_d rv
  have hl : i < S.length := (List.getElem?_eq_some_iff.mp e).1
  have nF0 : c.F0 d = none := E.fin.f0.back nF
  have E0 := E.hide (i := i) hl
  have no : ∀ (j : Nat) xs, (S.set i .emp)[j]? = some (.ob xs) → σ[j]? ≠ some (some (.ref d)) := fun j xs ej ea => by
    by_cases hj : i = j
    · subst hj; rw [List.getElem?_set_self hl] at ej; cases ej
    · rw [List.getElem?_set_ne hj] at ej
      exact hj (E.ds i j _ _ d e ej e1 ea)
  refine of_pe (pe_lock (pe_lc hc hN hit ok pg_tGb pts_tTsb pe_tEb hs)) ⟨d, .dT ws, ha, True.intro, fun od => ?_⟩
  have E1 : EvD c (S.set i .emp) F σ (upd H d (.frz od (.dT ws))) := E0.put nF nB ns no
  have E2 := E1.hold upd_same nF ns no
  have es : (S.set i .emp).set i (.ob (.d kvs)) = S := by
    rw [List.set_set]
    apply List.ext_getElem?
    intro j
    by_cases hj : i = j
    · subst hj; rw [List.getElem?_set_self hl, e]
    · rw [List.getElem?_set_ne hj]
  have run : JIw (iItemsT (tVar i)) (c.hold d (.frz od (.dT ws))) F σ (upd H d (.frz od (.dT ws))) fun ds S' => (∃ I : Nat → List D → List Sl → Prop, I 0 [] S' ∧ (∀ i acc S', I i acc S' → i ≤ ds.length → acc.length < sizeLine ∧ ∀ j ∈ own.map (·.2), ∀ xs, S'[j]? ≠ some (.ob xs)) ∧
      (∀ i d acc S', ds[i]? = some d → I i acc S' → LcTurn X r scope (.Tuple elts kk tpos) elt ifs (own.map (·.2)) ts d S' (fun y S4 => I (i + 1) (acc ++ [y]) S4) fun S4 => I (i + 1) acc S4) ∧ ∀ acc S', I ds.length acc S' → K acc (S'.set i (.ob (.d kvs)))) := fun R k => by
    refine ⟨.ref d, e1, d, od, ws, rfl, upd_same, fun qs hq1 hq2 => ?_⟩
    have hq3 : ∀ (i : Nat) b k, qs[i]? = some b → (kvs.map (·.1))[i]? = some k → (upd H d (.frz od (.dT ws))) b = some (.tup ((kI k).map kV)) := fun i b k h1 h2 => by
      have hi : i < ws.length := by rw [← hq1]; exact (List.getElem?_eq_some_iff.mp h1).1
      have hw : ws[i]? = some (ws[i].1, ws[i].2) := List.getElem?_eq_getElem hi
      obtain ⟨k0, d0, g1, g2, _⟩ := rk.at' hw
      rw [List.getElem?_map, g1] at h2
      cases h2
      rw [hq2 i b _ h1 hw, ← g2]
    obtain ⟨F', kF, E3, ra⟩ := E2.freezeAll hq3 (by rw [hq1, List.length_map, rk.length])
    exact k _ (itemsD kvs) F' _ _ (lc_pure (K := fun zs S' => K zs (S'.set i (.ob (.d kvs)))) h.1 (by rw [es]; exact h.2)) E3 kF (itit_d (show upd c.B d _ d = _ from upd_same) (rk.ex kF) ra)
  refine lc_runc (r := r) (K := fun acc S' => K acc (S'.set i (.ob (.d kvs)))) ts hts (c.hold d (.frz od (.dT ws))) F σ _ (r.st _ _ _ nB hr) _ (fun p ds F' H' S' kk n kF => ?_) run
  obtain ⟨h9, E3, g1, g2, g3, g4, g5, g6⟩ := n
  have hpd : p ≠ d := fun z => by rw [z, show (c.hold d (.frz od (.dT ws))).B d = some _ from upd_same] at g4; cases g4
  obtain ⟨E4, f1, f2, f3, f4⟩ := E3.unhold (vs := .frz od (.dT ws)) (fun _ z => nomatch z) nB nF0
  have E5 : EvD c S' F' σ (upd H' d (.dT ws)) := E4.put f2 nB f3 f4
  have es : σ.set i (some (.ref d)) = σ := by
    apply List.ext_getElem?
    intro j
    by_cases hj : i = j
    · subst hj
      rw [List.getElem?_set_self (by rw [E.len]; exact hl), e1]
    · rw [List.getElem?_set_ne hj]
  have rk' : RpK F' ws kvs := rk.ex kF
  have E6 := E5.setOwn (i := i) (a := d) (vs := .dT ws) (ds := .d kvs) upd_same rk' f2 nB f3 f4
  rw [es] at E6
  refine ⟨f1, q p _ F' _ _ kk ⟨h9, E6, by rw [upd_ne hpd]; exact g1, g2, g3, ?_, g5, fun j xs ej ea => ?_⟩ kF⟩
  · have g4' : upd c.B d (.frz od (.dT ws)) p = none := g4
    rw [upd_ne hpd] at g4'; exact g4'
  · by_cases hj : i = j
    · subst hj
      rw [e1] at ea
      cases ea
      exact hpd rfl
    · rw [List.getElem?_set_ne hj] at ej
      exact g6 j xs ej ea
/-! ### a dict of ints that is walked over and asked -/
theorem rk_dI {F : Hp} : ∀ {ws : List (List L2.Key × V)} {m : DI}, RpK F ws (dI m) → ws = m.map fun p => (kI p.1, V.int p.2)
  | _, [], .nil => rfl
  | _, (k, c) :: m, .cons r t => by
    cases r
    rw [rk_dI (m := m) t]
    rfl
theorem valV_I (m : DI) (ky : List Int) : valV (m.map fun p => (kI p.1, V.int p.2)) (kI ky) = if ky ∈ keyI m then some (V.int (getI m ky)) else none := by
  induction m with
  | nil => rfl
  | cons p m ih =>
    rw [List.map_cons]
    by_cases e : p.1 = ky
    · subst e
      rw [valV_pos (p := (kI p.1, V.int p.2)) rfl, if_pos (show p.1 ∈ keyI (p :: m) from List.mem_cons_self)]
      unfold getI
      rw [List.find?_cons_of_pos (by simp)]
      rfl
    · rw [valV_neg (p := (kI p.1, V.int p.2)) (fun z => e (kI_inj z)), ih]
      have e1 : getI (p :: m) ky = getI m ky := by
        unfold getI
        rw [List.find?_cons_of_neg (by simpa using e)]
      have e2 : ky ∈ keyI (p :: m) ↔ ky ∈ keyI m := by
        show ky ∈ p.1 :: keyI m ↔ _
        rw [List.mem_cons]
        exact ⟨fun h => h.resolve_left fun z => e z.symm, .inr⟩
      by_cases h : ky ∈ keyI m
      · rw [if_pos h, if_pos (e2.mpr h), e1]
      · rw [if_neg h, if_neg fun z => h (e2.mp z)]
abbrev wsI (m : DI) : List (List L2.Key × V) := m.map fun p => (kI p.1, V.int p.2)
/-- x[a], x a dict of ints that is walked over -/
theorem je_subL {d : Addr} {od : Obj} {m : DI} {K : D → List Sl → Prop} {a : Expr} {x : Str} {px pos : Pos} {k : Nat} (hr : Room k X.A) (i : Nat)
    (h : ∃ ky, JE X (srK r d (.frz od (.dT (wsI m)))) a S (fun d1 S1 => d1 = tupI ky ∧ ky ∈ keyI m ∧ K (.int (getI m ky)) S1)) (es : S[i]? = some (.rf d))
    (hN : X.N[i]? = some x := by rfl) (hv : Vis X.env.scope x := by first | exact Or.inl rfl | exact Or.inr (Or.inl rfl) | exact Or.inr (Or.inr rfl)) (hd : (x == ("__debug__" : Str)) = false := by decide) (hcd : (x == ("__classdict__" : Str)) = false := by decide) (hs : NoSl a := by exact fun _ _ => rfl) : JE X (srK r d (.frz od (.dT (wsI m)))) (.Subscript (.Name x px) a pos) S K :=
  fun c F σ H hr' E Q q => of_pe (pe_dget (by have := hr.un; omega) (pe_var hN hv hd hcd) pe_tE hs) (by
    obtain ⟨ky, h⟩ := h
    obtain ⟨y, e1, e2⟩ := E.sl i _ es
    have e2 : y = some (.ref d) := e2
    subst e2
    refine ⟨.ref d, e1, h c F σ H hr' E _ fun v1 d1 F1 H1 S1 h1 E1 k1 r1 => ?_⟩
    obtain ⟨rfl, hk, kk⟩ := h1
    obtain ⟨b, rfl, hb⟩ := rp_tupI r1
    have hd : H1 d = some (.frz od (.dT (wsI m))) := E1.fin.bh _ _ hr'.2
    refine ⟨d, .int (getI m ky), rfl, .inr ⟨wsI m, kI ky, b, .inr ⟨od, hd⟩, rfl, E1.fin.fh _ _ hb, ?_⟩, q _ _ F1 H1 S1 kk E1 k1 (.int _)⟩
    rw [valV_I, if_pos hk])
/-- [.. for y in x], x a dict of ints of one's own that the turns ask -/
theorem jn_lcKv {elt tg : Expr} {ifs : List Expr} {scope : Scope} {x : Str} {px pos : Pos} (i : Nat) (own : List (Str × Nat)) (ts : List Nat) {K : List D → List Sl → Prop} {m : DI} (e : S[i]? = some (.ob (.d (dI m))))
    (h : ∀ (d : Addr) (od : Obj), (∀ j ∈ own.map (·.2), ∀ xs, (S.set i (.rf d))[j]? ≠ some (.ob xs)) ∧ LcAll X (srK r d (.frz od (.dT (wsI m)))) scope tg elt ifs (own.map (·.2)) ts (keysD (dI m)) (S.set i (.rf d)) fun zs => K zs S)
    (hc : X.calm = true := by rfl) (hN : X.N.Nodup := by assumption) (ok : BlkOk X.N X.env.scope scope own := by exact blkOk_by rfl) (hs : ∀ y, foldedSetIterable (.Name x px) X.env y = pure y := by intro _; rfl) (hts : ∀ j ∈ ts, j ∈ own.map (·.2) := by decide)
    (hNi : X.N[i]? = some x := by rfl) (hv : Vis X.env.scope x := by first | exact Or.inl rfl | exact Or.inr (Or.inl rfl) | exact Or.inr (Or.inr rfl)) (hd : (x == ("__debug__" : Str)) = false := by decide) (hcd : (x == ("__classdict__" : Str)) = false := by decide) :
    JN X r (.ListComp elt [⟨tg, .Name x px, ifs, 0⟩] scope pos) S K := fun c F σ H hr E Q q => by
  obtain ⟨y, e1, d, hh, e2, ha, rv, nF, nB, ns⟩ := E.sl i _ e
  subst e2
  obtain ⟨ws, rfl, rk⟩ := obr_d rv
  obtain rfl := rk_dI rk
  have hl : i < S.length := (List.getElem?_eq_some_iff.mp e).1
  have nF0 : c.F0 d = none := E.fin.f0.back nF
  have E0 := E.hide (i := i) hl
  have no : ∀ (j : Nat) xs, (S.set i .emp)[j]? = some (.ob xs) → σ[j]? ≠ some (some (.ref d)) := fun j xs ej ea => by
    by_cases hj : i = j
    · subst hj; rw [List.getElem?_set_self hl] at ej; cases ej
    · rw [List.getElem?_set_ne hj] at ej
      exact hj (E.ds i j _ _ d e ej e1 ea)
  have kl : (keysD (dI m)).length = (dI m).length := by unfold keysD; rw [List.length_map]
  refine of_pe (pe_lock (pe_lc hc hN (pi_keys (pe_var hNi hv hd hcd)) ok pg_tGb pts_tTsb pe_tEb hs)) ⟨d, .dT (wsI m), ha, True.intro, fun od => ?_⟩
  obtain ⟨h1, h2⟩ := h d od
  have E1 : EvD c (S.set i .emp) F σ (upd H d (.frz od (.dT (wsI m)))) := E0.put nF nB ns no
  have E2a := E1.hold upd_same nF ns no
  have E2 : EvD (c.hold d (.frz od (.dT (wsI m)))) (S.set i (.rf d)) F σ (upd H d (.frz od (.dT (wsI m)))) := by
    have := E2a.setRf (i := i) (d := d) (by rw [List.length_set]; exact hl) e1
    rwa [List.set_set] at this
  have es : (S.set i (.rf d)).set i (.ob (.d (dI m))) = S := by rw [List.set_set]; exact set_at e
  obtain ⟨I, i0, side, step, fin⟩ := lc_pure (K := fun zs S' => K zs (S'.set i (.ob (.d (dI m))))) h1 (by rw [es]; exact h2)
  have run : JIw (iKeys (tVar i)) (c.hold d (.frz od (.dT (wsI m)))) F σ (upd H d (.frz od (.dT (wsI m)))) fun ds S' => (∃ I : Nat → List D → List Sl → Prop, I 0 [] S' ∧ (∀ i acc S', I i acc S' → i ≤ ds.length → acc.length < sizeLine ∧ ∀ j ∈ own.map (·.2), ∀ xs, S'[j]? ≠ some (.ob xs)) ∧
      (∀ i dd acc S', ds[i]? = some dd → I i acc S' → LcTurn X (srK r d (.frz od (.dT (wsI m)))) scope tg elt ifs (own.map (·.2)) ts dd S' (fun y S4 => I (i + 1) (acc ++ [y]) S4) fun S4 => I (i + 1) acc S4) ∧ ∀ acc S', I ds.length acc S' → K acc (S'.set i (.ob (.d (dI m))))) := fun R k => by
    refine ⟨.ref d, e1, d, od, rfl, .inr ⟨wsI m, upd_same, k _ (keysD (dI m)) F _ _ ⟨I, i0, side, step, fin⟩ E2 (Ex.refl F) (itkt_d (show upd c.B d _ d = _ from upd_same) rk)⟩⟩
  refine lc_runc (r := srK r d (.frz od (.dT (wsI m)))) (K := fun acc S' => K acc (S'.set i (.ob (.d (dI m))))) ts hts (c.hold d (.frz od (.dT (wsI m)))) F σ _ ⟨r.st _ _ _ nB hr, upd_same⟩ _ (fun p ds F' H' S' kk n kF => ?_) run
  obtain ⟨h9, E3, g1, g2, g3, g4, g5, g6⟩ := n
  have hpd : p ≠ d := fun z => by rw [z, show (c.hold d (.frz od (.dT (wsI m)))).B d = some _ from upd_same] at g4; cases g4
  obtain ⟨E4, f1, f2, f3, f4⟩ := E3.unhold (vs := .frz od (.dT (wsI m))) (fun _ z => nomatch z) nB nF0
  have E5 : EvD c S' F' σ (upd H' d (.dT (wsI m))) := E4.put f2 nB f3 f4
  have es : σ.set i (some (.ref d)) = σ := by
    apply List.ext_getElem?
    intro j
    by_cases hj : i = j
    · subst hj
      rw [List.getElem?_set_self (by rw [E.len]; exact hl), e1]
    · rw [List.getElem?_set_ne hj]
  have E6 := E5.setOwn (i := i) (a := d) (vs := .dT (wsI m)) (ds := .d (dI m)) upd_same (rk.ex kF) f2 nB f3 f4
  rw [es] at E6
  refine ⟨f1, q p _ F' _ _ kk ⟨h9, E6, by rw [upd_ne hpd]; exact g1, g2, g3, ?_, g5, fun j xs ej ea => ?_⟩ kF⟩
  · have g4' : upd c.B d (.frz od (.dT (wsI m))) p = none := g4
    rw [upd_ne hpd] at g4'; exact g4'
  · by_cases hj : i = j
    · subst hj
      rw [e1] at ea
      cases ea
      exact hpd rfl
    · rw [List.getElem?_set_ne hj] at ej
      exact g6 j xs ej ea
end
/-! ### a def that takes a dict of the caller's over -/
def SpO (φ : List (List Int × D) → (D → Prop) → Prop) : Sp := fun vs H Q _ => ∃ (c : C) (a : Addr) (ws : List (List L2.Key × V)) (kvs : List (List Int × D)) (K : D → Prop), vs = [.ref a] ∧ Fin c c.F0 H ∧ H a = some (.dT ws) ∧ RpK c.F0 ws kvs ∧ c.F0 a = none ∧ c.B a = none ∧ (∀ p, c.sr = some p → a ≠ p.1 ∧ a ≠ p.2) ∧ φ kvs K ∧ ∀ v d F' H', K d → Fin c F' H' → Rp F' v d → Q v H'
theorem spo_call {S : List Sl} {φ : List (List Int × D) → (D → Prop) → Prop} {c : C} {F : Hp} {σ : L2.St} {H : Hp} {a0 : Addr} {ws : List (List L2.Key × V)} {kvs : List (List Int × D)} {Q : VK} {XE : XK} {K : D → Prop} (E : EvD c S F σ H) (ha0 : H a0 = some (.dT ws)) (nF0 : F a0 = none) (nB0 : c.B a0 = none) (na0 : ∀ p, c.sr = some p → a0 ≠ p.1 ∧ a0 ≠ p.2) (no : ∀ (j : Nat) xs, S[j]? = some (.ob xs) → σ[j]? ≠ some (some (.ref a0))) (ry : RpK F ws kvs) (h : φ kvs K)
    (q : ∀ v d F' H', K d → EvD c S F' σ H' → Ex F F' → Rp F' v d → Q v H') : SpO φ [.ref a0] H Q XE := by
  have ns : ∀ a, (∃ p, c.sr = some p ∧ (a = p.1 ∨ a = p.2)) → F a = none ∧ c.B a = none := fun a ⟨p, ep, z⟩ => by
    obtain ⟨_, n1, n2, b1, b2⟩ := E.fin.src p ep
    rcases z with z | z <;> subst z
    · exact ⟨n1, b1⟩
    · exact ⟨n2, b2⟩
  let B' : Hp := fun a => if a = a0 then none else match c.sr with
    | none => H a
    | some p => if a = p.1 ∨ a = p.2 then none else H a
  have hB : ∀ a o, B' a = some o → H a = some o := fun a o e => by
    show H a = some o
    by_cases z0 : a = a0
    · simp only [B', if_pos z0] at e; cases e
    · cases hs : c.sr with
      | none => simp only [B', if_neg z0, hs] at e; exact e
      | some p =>
        simp only [B', if_neg z0, hs] at e
        by_cases z : a = p.1 ∨ a = p.2
        · rw [if_pos z] at e; cases e
        · rw [if_neg z] at e; exact e
  have hB2 : ∀ a, a ≠ a0 → (∀ p, c.sr = some p → a ≠ p.1 ∧ a ≠ p.2) → B' a = H a := fun a z0 z => by
    cases hs : c.sr with
    | none => simp only [B', if_neg z0, hs]
    | some p =>
      obtain ⟨z1, z2⟩ := z p hs
      simp only [B', if_neg z0, hs]
      rw [if_neg (by intro q; rcases q with q | q; exact z1 q; exact z2 q)]
  refine ⟨⟨B', F, c.sr⟩, a0, ws, kvs, K, rfl, ⟨Ex.refl F, E.fin.fh, hB, fun _ _ _ => .inl rfl, fun p ep => ?_⟩, ha0, ry, nF0, by simp only [B', if_pos], na0, h, fun v d F' H' kd fn rp => ?_⟩
  · obtain ⟨s, n1, n2, b1, b2⟩ := E.fin.src p ep
    have ep' : c.sr = some p := ep
    obtain ⟨z1, z2⟩ := na0 p ep'
    refine ⟨s, n1, n2, ?_, ?_⟩
    · show B' p.1 = none
      simp [B', ep']
    · show B' p.2 = none
      simp [B', ep']
  · have kF : Ex F F' := fn.f0
    refine q v d F' H' kd ?_ kF rp
    have hk : ∀ a o, a ≠ a0 → (∀ p, c.sr = some p → a ≠ p.1 ∧ a ≠ p.2) → H a = some o → H' a = some o ∧ (F' a = F a ∨ ∃ xs, o = .tup xs) := fun a o z0 z e => by
      have e' : B' a = some o := by rw [hB2 a z0 z]; exact e
      exact ⟨fn.bh a o e', fn.bf a o e'⟩
    have hcB : ∀ a o, c.B a = some o → a ≠ a0 ∧ (∀ p, c.sr = some p → a ≠ p.1 ∧ a ≠ p.2) := fun a o e => ⟨fun z => (by rw [z, nB0] at e; cases e), fun p ep => by
      obtain ⟨_, _, _, b1, b2⟩ := E.fin.src p ep
      exact ⟨fun z => (by rw [z, b1] at e; cases e), fun z => (by rw [z, b2] at e; cases e)⟩⟩
    refine ⟨⟨E.fin.f0.trans kF, fn.fh, fun a o e => (hk a o (hcB a o e).1 (hcB a o e).2 (E.fin.bh a o e)).1, fun a o e => ((hk a o (hcB a o e).1 (hcB a o e).2 (E.fin.bh a o e)).2).elim (fun z => (E.fin.bf a o e).elim (fun y => .inl (z.trans y)) .inr) .inr, fun p ep => ?_⟩, E.len, fun i s e => ?_, E.ds⟩
    · obtain ⟨s, n1, n2, _, _⟩ := fn.src p ep
      obtain ⟨_, _, _, b1, b2⟩ := E.fin.src p ep
      exact ⟨s, n1, n2, b1, b2⟩
    · obtain ⟨x, e1, rr⟩ := E.sl i s e
      refine ⟨x, e1, ?_⟩
      cases s with
      | emp => trivial
      | src => exact rr
      | rf _ => exact rr
      | val d =>
        obtain ⟨v, e2, rr⟩ := rr
        exact ⟨v, e2, rr.ex kF⟩
      | ob ds =>
        obtain ⟨a, ws, e2, h1, r1, n1, b1, q1⟩ := rr
        have za : ∀ p, c.sr = some p → a ≠ p.1 ∧ a ≠ p.2 := q1
        have z0 : a ≠ a0 := fun z => no i ds e (by rw [e1, e2, z])
        obtain ⟨g1, g2⟩ := hk a _ z0 za h1
        rcases g2 with g2 | ⟨xs, g2⟩
        · exact ⟨a, ws, e2, g1, r1.ex kF, by rw [g2]; exact n1, b1, q1⟩
        · have m := r1.mut
          rw [g2] at m
          exact m.elim
def startO (N : List Str) (kvs : List (List Int × D)) : List Sl := .ob (.d kvs) :: List.replicate (N.length - 1) .emp
theorem env_startO {c : C} {H : Hp} {a : Addr} {ws : List (List L2.Key × V)} {kvs : List (List Int × D)} {N : List Str} (fn : Fin c c.F0 H) (ha : H a = some (.dT ws)) (ry : RpK c.F0 ws kvs) (nF : c.F0 a = none) (nB : c.B a = none) (ns : ∀ p, c.sr = some p → a ≠ p.1 ∧ a ≠ p.2) : EvD c (startO N kvs) c.F0 (L2.start N [.ref a]) H := by
  have E0 := env_start (N := N) (vs := [.non]) (as := [.d .none]) fn (.cons .non .nil)
  have E1 := E0.setOwn (i := 0) (a := a) (vs := .dT ws) (ds := .d kvs) ha ry nF nB ns fun j xs ej => by
    unfold startS at ej
    cases j with
    | zero => cases ej
    | succ j =>
      simp only [List.map_cons, List.map_nil, List.singleton_append, List.getElem?_cons_succ] at ej
      rw [List.getElem?_replicate] at ej
      split at ej <;> cases ej
  exact E1
section
variable {P : Program} {w : World} {K : PySem.W.Frag} {mg : Str → Option Value} {base : Heap}
theorem fn_O {x qual : Str} {st : Stmt} {f : Addr} {fd : FuncData} {N ps : List Str} {k : Nat} {φ : List (List Int × D) → (D → Prop) → Prop} (F : Fun K x qual st f fd) (Sc : FnScope N ps (defScope st)) (len : ps.length = 1)
    (hbody : ∀ (kvs : List (List Int × D)) (Kd : D → Prop) (r : SR) (cdv : Value) (A : Around) (outer : List PySem.Env) (s : Shared) (H : Hp) (E : XK), Room k (A.deeper (PyProof.Rows.envOfC qual (defScope st) s.heap.objs.size f cdv)) → φ kvs Kd →
      JSs (cxOf CX0 P w K mg base N qual (defScope st) f cdv A outer s H E).nox r (defBody st) (startO N kvs) { nx := fun _ => Kd .none, rt := Kd }) : FnOk P w K mg base CX0 (k + 1) f fd ps (SpO φ) := by
  refine F.ok Sc (fun vs H Q E h => ?_) (fun cdv A outer s H vs Q E hr h => ?_)
  · obtain ⟨c, a, ws, kvs, Kd, rfl, _⟩ := h
    rw [len]; rfl
  · obtain ⟨c, a, ws, kvs, Kd, rfl, fn, ha, ry, nF, nB, ns, hφ, q⟩ := h
    exact ⟨_, pss_tSs, hbody kvs Kd (srL c) cdv A outer s H E hr hφ c c.F0 _ H (srL_refl c) (env_startO fn ha ry nF nB ns) _ ⟨fun F' σ' H' S' a E' k' => q .non .none F' H' a E'.fin .non, fun v d F' H' a fn' rp => q v d F' H' a fn' rp, fun _ _ _ _ a => a.elim, fun _ _ _ _ a => a.elim⟩⟩
end
section
variable {X : Cx} {r : SR} {S : List Sl}
/-- a dict of one's own, given away -/
theorem jgive {K : OB → List Sl → Prop} {x : Str} {pos : Pos} (i : Nat) {xs : OB} (k : K xs (S.set i .emp)) (e : S[i]? = some (.ob xs) := by rfl) (hN : X.N[i]? = some x := by rfl) (hv : Vis X.env.scope x := by first | exact Or.inl rfl | exact Or.inr (Or.inl rfl) | exact Or.inr (Or.inr rfl)) (hd : (x == ("__debug__" : Str)) = false := by decide) (hcd : (x == ("__classdict__" : Str)) = false := by decide) :
    JO X r (.Name x pos) S K := fun c F σ H hr E Q q => of_pe (pe_var hN hv hd hcd) (by
  obtain ⟨y, e1, d, hh, e2, ha, rv, nF, nB, ns⟩ := E.sl i _ e
  subst e2
  have hl : i < S.length := (List.getElem?_eq_some_iff.mp e).1
  refine ⟨_, e1, q d xs F H _ k ⟨hh, E.hide hl, ha, rv, nF, nB, ns, fun j xs ej ea => ?_⟩ (Ex.refl F)⟩
  by_cases hj : i = j
  · subst hj; rw [List.getElem?_set_self hl] at ej; cases ej
  · rw [List.getElem?_set_ne hj] at ej
    exact hj (E.ds i j _ _ d e ej e1 ea))
/-- f(e), e a dict given away -/
theorem jcallO {K0 : D → List Sl → Prop} {k k' : Nat} {f : Addr} {fd : FuncData} {ps : List Str} {x : Str} {st : Stmt} {p pos : Pos} {e : Expr} {φ : List (List Int × D) → (D → Prop) → Prop} (hr : Room k' X.A) (N : Dn X.K X.mg x st ps f fd) (F : FnOk X.prog X.w X.K X.mg X.base CX0 k f fd ps (SpO φ))
    (h : JO X r e S fun o S1 => ∃ kvs, o = .d kvs ∧ φ kvs fun d => K0 d S1) (hk : k ≤ k' := by decide) (hg : Gl X x := by rfl) (hdb : (x == ("__debug__" : Str)) = false := by decide)
    (he : starEach [e] X.env = (false, eval e X.env) :: starEach [] X.env := by rfl) (hpl : (backTo pos (starEach [] X.env)).any (·.1) = false := by rfl) : JE X r (.Call (.Name x p) [e] [] pos) S K0 :=
  fun c F' σ H hr' E Q q => of_pe (pe_call F (hr.mono hk) hg N.g N.F.kp N.b .nil (E := E0) pass0 (pa_cons pe_tE pa_nil he) hdb he hpl) (h c F' σ H hr' E _ fun p o F1 H1 S1 h1 n k1 => by
    obtain ⟨kvs, rfl, hφ⟩ := h1
    obtain ⟨hh, E1, hp, hv, nF, nB, ns, no⟩ := n
    obtain ⟨ws, rfl, rk⟩ := obr_d hv
    exact spo_call (XE := E0) E1 hp nF nB ns no rk hφ fun v d F2 H2 kd E2 k2 rp => q v d F2 H2 S1 kd E2 (k1.trans k2) rp)
end
/-! ### sorted(..) of pairs of a lot and a number -/
def entE (p : List Int × Int) : D := .tuple [tupI p.1, .int p.2]
abbrev TE2 := PySem.W.Tup Int × Int
def toE (p : List Int × Int) : TE2 := (⟨p.1⟩, p.2)
theorem entE_toD (p : List Int × Int) : entE p = PySem.W.Datum.toD (toE p) := rfl
theorem nice_entE {n : Nat} (p : List Int × Int) : Nice (n + 2) (entE p) := nice_tup (n := n + 1) (nice_cons (nice_tupI p.1) (nice_cons (nice_int _) nice_nil))
def ltE (p q : List Int × Int) : Bool := if p.1 = q.1 then decide (p.2 < q.2) else ltL p.1 q.1
def leE (a b : List Int × Int) : Bool := !ltE b a
theorem lt_toE (a b : List Int × Int) : PySem.W.DatumOrd.lt (toE a) (toE b) = ltE a b := by
  show (if (toE a).1 = (toE b).1 then PySem.W.DatumOrd.lt (toE a).2 (toE b).2 else PySem.W.DatumOrd.lt (toE a).1 (toE b).1) = _
  unfold ltE toE
  by_cases h : a.1 = b.1
  · rw [if_pos h, if_pos (by rw [h])]; rfl
  · rw [if_neg h, if_neg (fun e => h (by injection e))]; rfl
theorem lt_entE (a b : List Int × Int) : PySem.W.dataLt (entE a) (entE b) = ltE a b := (PySem.W.DatumOrd.lt_eq (toE a) (toE b)).trans (lt_toE a b)
theorem dataLe_entE : PySem.W.dataLe false entE = leE := by
  funext a b
  show (!PySem.W.dataLt (entE b) (entE a)) = _
  rw [lt_entE]; rfl
theorem alike_entE (a b : List Int × Int) : PySem.W.alike (entE a) (entE b) = true := PySem.W.DatumOrd.alike (toE a) (toE b)
theorem depth_entE (p : List Int × Int) : (entE p).depth ≤ 2 := (nice_entE (n := 0) p).dp
theorem ltE_trans {a b c : List Int × Int} (h1 : ltE a b = true) (h2 : ltE b c = true) : ltE a c = true := by
  unfold ltE at *
  by_cases e1 : a.1 = b.1
  · rw [if_pos e1] at h1
    by_cases e2 : b.1 = c.1
    · rw [if_pos e2] at h2
      rw [if_pos (e1.trans e2)]
      rw [decide_eq_true_eq] at *
      omega
    · rw [if_neg e2] at h2
      rw [if_neg (fun z => e2 (e1.symm.trans z)), e1]
      exact h2
  · rw [if_neg e1] at h1
    by_cases e2 : b.1 = c.1
    · rw [if_neg (fun z => e1 (z.trans e2.symm)), ← e2]
      exact h1
    · rw [if_neg e2] at h2
      have h3 := ltL_trans h1 h2
      rw [if_neg (fun z => by rw [z, ltL_irrefl] at h3; cases h3)]
      exact h3
theorem ltE_irrefl (a : List Int × Int) : ltE a a = false := by
  unfold ltE
  rw [if_pos rfl, decide_eq_false (Int.lt_irrefl _)]
theorem ltE_tri {a b : List Int × Int} (h1 : ltE a b = false) (h2 : ltE b a = false) : a = b := by
  unfold ltE at h1 h2
  by_cases e : a.1 = b.1
  · rw [if_pos e] at h1
    rw [if_pos e.symm] at h2
    rw [decide_eq_false_iff_not] at h1 h2
    exact Prod.ext e (by omega)
  · rw [if_neg e] at h1
    rw [if_neg (fun z => e z.symm)] at h2
    exact absurd (ltL_tri h1 h2) e
theorem ltE_asymm {a b : List Int × Int} (h : ltE a b = true) : ltE b a = false := by
  cases e : ltE b a with
  | false => rfl
  | true =>
    have := ltE_trans h e
    rw [ltE_irrefl] at this; cases this
theorem leE_trans (a b c : List Int × Int) (h1 : leE a b = true) (h2 : leE b c = true) : leE a c = true := by
  unfold leE at *
  rw [Bool.not_eq_true'] at *
  cases e : ltE c a with
  | false => rfl
  | true =>
    cases e2 : ltE a b with
    | true =>
      have := ltE_trans e e2
      rw [h2] at this; cases this
    | false =>
      have := ltE_tri e2 h1
      subst this
      rw [e] at h2; cases h2
theorem leE_total (a b : List Int × Int) : (leE a b || leE b a) = true := by
  unfold leE
  cases e : ltE b a with
  | false => rfl
  | true => rw [ltE_asymm e]; rfl
def sortE (ls : DI) : DI := ls.mergeSort leE
theorem sortE_perm (ls : DI) : (sortE ls).Perm ls := List.mergeSort_perm _ _
/-- with no lot twice: by their lots -/
theorem sortE_eq {ls out : DI} (nd : (keyI ls).Nodup) (h1 : (keyI out).Pairwise fun a b => ltL a b = true) (h2 : ∀ p, p ∈ out ↔ p ∈ ls) : sortE ls = out := by
  have hle : (sortE ls).Pairwise fun a b => leE a b = true := List.pairwise_mergeSort leE_trans leE_total ls
  have hnd : ((sortE ls).map (·.1)).Nodup := ((sortE_perm ls).map _).nodup_iff.mpr nd
  have hlt : (keyI (sortE ls)).Pairwise fun a b => ltL a b = true := by
    unfold keyI
    rw [List.pairwise_map]
    have hne := List.nodup_iff_pairwise_ne.mp hnd
    rw [List.pairwise_map] at hne
    refine (hle.and hne).imp fun {a b} ⟨x, y⟩ => ?_
    unfold leE ltE at x
    rw [if_neg (fun z => y z.symm), Bool.not_eq_true'] at x
    cases e : ltL a.1 b.1 with
    | true => rfl
    | false => exact absurd (ltL_tri e x) y
  have key : ∀ {a b : DI}, ((keyI a).Pairwise fun x y => ltL x y = true) → ((keyI b).Pairwise fun x y => ltL x y = true) → (∀ p, p ∈ a ↔ p ∈ b) → a = b := by
    intro a
    induction a with
    | nil =>
      intro b _ _ h
      cases b with
      | nil => rfl
      | cons y b => have := (h y).mpr List.mem_cons_self; cases this
    | cons x a ih =>
      intro b h1 h2 h
      cases b with
      | nil => have := (h x).mp List.mem_cons_self; cases this
      | cons y b =>
        have h1' : ((x.1 :: keyI a)).Pairwise fun x y => ltL x y = true := h1
        have h2' : ((y.1 :: keyI b)).Pairwise fun x y => ltL x y = true := h2
        rw [List.pairwise_cons] at h1' h2'
        have kin : ∀ {q : List Int × Int} {l : DI}, q ∈ l → q.1 ∈ keyI l := fun hq => List.mem_map.mpr ⟨_, hq, rfl⟩
        have e : x = y := by
          rcases List.mem_cons.mp ((h x).mp List.mem_cons_self) with e | hx
          · exact e
          · rcases List.mem_cons.mp ((h y).mpr List.mem_cons_self) with e | hy
            · exact e.symm
            · have l1 := h2'.1 _ (kin hx)
              have l2 := h1'.1 _ (kin hy)
              have l3 := ltL_trans l1 l2
              rw [ltL_irrefl] at l3; cases l3
        subst e
        refine congrArg _ (ih h1'.2 h2'.2 fun z => ?_)
        have no : ∀ {l : DI}, (∀ a ∈ keyI l, ltL x.1 a = true) → x ∉ l := fun hl hx => by
          have := hl _ (kin hx)
          rw [ltL_irrefl] at this; cases this
        constructor
        · intro hz
          rcases List.mem_cons.mp ((h z).mp (List.mem_cons_of_mem _ hz)) with e | hz2
          · subst e; exact absurd hz (no h1'.1)
          · exact hz2
        · intro hz
          rcases List.mem_cons.mp ((h z).mpr (List.mem_cons_of_mem _ hz)) with e | hz2
          · subst e; exact absurd hz (no h2'.1)
          · exact hz2
  exact key hlt h1 fun p => ((sortE_perm ls).mem_iff).trans (h2 p).symm
section
variable {X : Cx} {r : SR} {S : List Sl}
/-- sorted(xs), xs a list of pairs of a lot and a number -/
theorem jsortE {K : List D → List Sl → Prop} {a : Expr} {p pos : Pos} {k : Nat} (hr : Room k X.A) (hm : X.mg "sorted" = none) (h : JE X r a S fun d S1 => ∃ ls : DI, d = .list (ls.map entE) ∧ K ((sortE ls).map entE) S1) (hg : Gl X "sorted" := by rfl) (hs : starEach [a] X.env = (false, eval a X.env) :: starEach [] X.env := by rfl) : JN X r (.Call (.Name "sorted" p) [a] [] pos) S K :=
  jnB call_sortA hm (ja1 (h.mono fun d S1 ⟨ls, e, kk⟩ => ⟨[d], rfl, by
    rw [e]
    intro F H vs kF rv Q q
    cases rv with
    | cons r1 t =>
      cases t
      refine ⟨F, _, _, rfl, kF, r1, PySem.W.AllAlike.of alike_entE, fun d hd => ?_, fun d hd => ?_, by have := hr.un; omega, fun p ws rw' n => q p ws _ kk n ?_⟩
      · obtain ⟨c, _, rfl⟩ := List.mem_map.mp hd
        exact ⟨_, rfl⟩
      · obtain ⟨c, _, rfl⟩ := List.mem_map.mp hd
        exact ⟨(nice_entE (n := 1) c).pl, Nat.le_trans (depth_entE c) (by decide)⟩
      · rw [sort_map dataLe_entE] at rw'
        exact rw'⟩) hs) hg (by decide +kernel) (by decide) (by decide) hs rfl
end
end DL

/-! k61: road sums told, added, multiplied. -/
namespace K61
open PySem L2 DL
theorem sortE_told {m : DI} (nd : (keyI m).Nodup) : sortE (m.filter fun p => decide (p.2 ≠ 0)) = toldM m := by
  refine sortE_eq (nd.sublist (List.Sublist.map _ List.filter_sublist)) ?_ fun p => ?_
  · have e : keyI (toldM m) = (sortL (keyI m)).filter fun l => decide (getI m l ≠ 0) := by
      unfold toldM keyI
      rw [List.map_map]
      conv => rhs; rw [← List.map_id ((sortL (m.map (·.1))).filter fun l => decide (getI m l ≠ 0))]
      rfl
    rw [e]
    exact (sortL_lt nd).sublist List.filter_sublist
  · unfold toldM
    rw [List.mem_map, List.mem_filter, decide_eq_true_eq]
    constructor
    · rintro ⟨l, hl, rfl⟩
      rw [List.mem_filter, decide_eq_true_eq, (sortL_perm _).mem_iff] at hl
      obtain ⟨h1, h2⟩ := hl
      obtain ⟨p, hp, rfl⟩ := List.mem_map.mp h1
      have := getI_mem nd (show (p.1, p.2) ∈ m from hp)
      rw [this] at h2 ⊢
      exact ⟨hp, h2⟩
    · rintro ⟨h1, h2⟩
      have := getI_mem nd (show (p.1, p.2) ∈ m from h1)
      refine ⟨p.1, List.mem_filter.mpr ⟨(sortL_perm _).mem_iff.mpr (List.mem_map.mpr ⟨p, h1, rfl⟩), by rw [this]; exact decide_eq_true h2⟩, by rw [this]⟩
theorem sortE_told2 {m : DI} (nd : (keyI m).Nodup) : sortE (((keyI m).filter fun l => decide (getI m l ≠ 0)).map fun l => (l, getI m l)) = toldM m := by
  rw [← sortE_told nd]
  congr 1
  have h : ∀ (m' : DI), (∀ p ∈ m', getI m p.1 = p.2) → ((keyI m').filter fun l => decide (getI m l ≠ 0)).map (fun l => (l, getI m l)) = m'.filter fun p => decide (p.2 ≠ 0) := by
    intro m' h
    induction m' with
    | nil => rfl
    | cons p m' ih =>
      have e := h p List.mem_cons_self
      show ((p.1 :: keyI m').filter _).map _ = _
      rw [List.filter_cons, List.filter_cons, e]
      have ih := ih fun q hq => h q (List.mem_cons_of_mem _ hq)
      split
      · rw [List.map_cons, ih, e]
      · exact ih
  exact h m fun p hp => getI_mem nd (show (p.1, p.2) ∈ m from hp)
/-! ### products, term by term -/
def termsQ (n : Nat) (p : List Int × Int) (ch : DI) : DI := (ch.filter fun q => decide (dj p.1 q.1)).map fun q => (unL n p.1 q.1, p.2 * q.2 * sgn p.1 q.1)
def termsP (n : Nat) (ch ch2 : DI) : DI := ch.flatMap fun p => termsQ n p ch2
theorem termsQ_snoc (n : Nat) (p : List Int × Int) (ch : DI) (q : List Int × Int) : termsQ n p (ch ++ [q]) = termsQ n p ch ++ if dj p.1 q.1 then [(unL n p.1 q.1, p.2 * q.2 * sgn p.1 q.1)] else [] := by
  unfold termsQ
  rw [List.filter_append, List.map_append]
  congr 1
  by_cases h : dj p.1 q.1
  · rw [if_pos h, List.filter_cons_of_pos (by exact decide_eq_true h)]; rfl
  · rw [if_neg h, List.filter_cons_of_neg (by simpa using h)]; rfl
theorem termsP_snoc (n : Nat) (ch ch2 : DI) (p : List Int × Int) : termsP n (ch ++ [p]) ch2 = termsP n ch ch2 ++ termsQ n p ch2 := by
  unfold termsP
  rw [List.flatMap_append, List.flatMap_cons, List.flatMap_nil, List.append_nil]
theorem termsQ_len (n : Nat) (p : List Int × Int) (ch : DI) : (termsQ n p ch).length ≤ ch.length := by
  unfold termsQ
  rw [List.length_map]
  exact List.length_filter_le _ _
theorem termsP_len (n : Nat) (ch ch2 : DI) : (termsP n ch ch2).length ≤ ch.length * ch2.length := by
  induction ch with
  | nil => exact Nat.zero_le _
  | cons p ch ih =>
    unfold termsP at *
    rw [List.flatMap_cons, List.length_append, List.length_cons, Nat.succ_mul]
    have := termsQ_len n p ch2
    omega
theorem told_prod (n : Nat) (f g : List Int → Int) : toldM (addAll [] (termsP n (canon n f) (canon n g))) = canon n (prodF n f g) := by
  rw [told_canon (n := n) (nodup_addAll _ (m := []) (show (keyI []).Nodup from List.nodup_nil)) fun l hl => ?_]
  · refine canon_ext fun S _ => ?_
    rw [getI_addAll]
    show 0 + _ = _
    rw [Int.zero_add]
    unfold termsP
    rw [sm_flat]
    have e1 : ∀ (L : List Int) (c : Int), sm (termsQ n (L, c) (canon n g)) (fun q => if q.1 = S then q.2 else 0) = sm (allL n) fun B => if dj L B then (if unL n L B = S then c * g B * sgn L B else 0) else 0 := fun L c => by
      unfold termsQ
      rw [sm_map, sm_filter]
      refine (sm_congr fun q _ => ?_).trans (sm_canon (n := n) (f := g) (fun B x => if dj L B then (if unL n L B = S then c * x * sgn L B else 0) else 0) fun B => by simp)
      by_cases h : dj L q.1
      · rw [if_pos (decide_eq_true h), if_pos h]
      · rw [if_neg (by simpa using h), if_neg h]
    have e2 := sm_canon (n := n) (f := f) (fun L c => sm (termsQ n (L, c) (canon n g)) fun q => if q.1 = S then q.2 else 0) (fun L => by
      rw [e1]
      exact sm_zero fun B _ => by simp)
    refine e2.trans (sm_congr fun L _ => ?_)
    rw [e1]
    refine sm_congr fun B _ => ?_
    by_cases h : dj L B
    · rw [if_pos h]
      by_cases h2 : unL n L B = S
      · rw [if_pos h2, if_pos ⟨h, h2⟩]
      · rw [if_neg h2, if_neg fun z => h2 z.2]
    · rw [if_neg h, if_neg fun z => h z.1]
  · rcases (keys_addAll _ _).mp hl with h | h
    · cases h
    · obtain ⟨q, hq, rfl⟩ := List.mem_map.mp h
      unfold termsP termsQ at hq
      obtain ⟨p, _, hq⟩ := List.mem_flatMap.mp hq
      obtain ⟨q, _, rfl⟩ := List.mem_map.mp hq
      exact un_mem n _ _
theorem sort_un {n : Nat} {a b s : List Int} (ha : a ∈ allL n) (hb : b ∈ allL n) (hd : dj a b) (hp : s.Perm (a ++ b)) (hs : s.Pairwise (· ≤ ·)) : s = unL n a b := by
  have nd : s.Nodup := by
    rw [hp.nodup_iff, List.nodup_append]
    exact ⟨(lot_lt ha).imp fun h => by omega, (lot_lt hb).imp fun h => by omega, fun x hx y hy e => hd x hx (e ▸ hy)⟩
  refine eq_of_sorted ((hs.and (List.nodup_iff_pairwise_ne.mp nd)).imp fun ⟨h1, h2⟩ => by omega) (lot_lt (un_mem n a b)) fun x => ?_
  rw [hp.mem_iff, List.mem_append, mem_un]
  exact ⟨fun h => ⟨h.elim (in_range ha) (in_range hb), h⟩, fun h => h.2⟩
theorem ne_dec (i : Int) : (!decide (i = 0)) = decide (i ≠ 0) := by by_cases h : i = 0 <;> simp [h]
section
variable {P : Program} {w : World} {K : PySem.W.Frag} {mg : Str → Option Value} {base : Heap}
theorem sc_law_odd : FnScope ["number"] ["number"] (defScope (topS 16)) := ⟨rfl, rfl, rfl, by decide +kernel, rfl, by decide +kernel, by decide +kernel⟩
def φOdd : List Ar → (D → Prop) → Prop := fun as Kd => ∃ i : Int, as = [.d (.int i)] ∧ Kd (.int (i % 2))
theorem ok_odd {f : Addr} {fd : FuncData} (F : Fun K "_law_odd" "_law_odd" (topS 16) f fd) : FnOk P w K mg base CX0 1 f fd ["number"] (SpD φOdd) := by
  refine fn_D F sc_law_odd (fun as Kd h => ?_) (fun as Kd r cdv A outer s H E hr h => ?_)
  · obtain ⟨i, rfl, _⟩ := h
    rfl
  · obtain ⟨i, rfl, k⟩ := h
    refine jret <| je_op op_sub <| jv 0 <| je_op op_mul <| je_op op_fdiv <| jv 0 <| je_int <| od_I ⟨by decide, by decide⟩ <| je_int <| od_I (.inr ⟨by decide, by decide⟩) <| od_I0 ?_
    have e : i - Int.fdiv i 2 * 2 = i % 2 := by
      rw [Int.fdiv_eq_ediv_of_nonneg _ (by decide)]; omega
    first
      | exact (e ▸ k : Kd (.int (i - Int.fdiv i 2 * 2)))
      | (have e2 : i - i / 2 * 2 = i % 2 := by omega
         exact (e2 ▸ k : Kd (.int (i - i / 2 * 2))))
theorem sclots_sign : FnScope ["one", "other", "road", "late"] ["one", "other"] (defScope (topS 7)) := ⟨rfl, rfl, rfl, by decide +kernel, rfl, by decide +kernel, by decide +kernel⟩
theorem sc_law_sign : FnScope ["lot", "late", "r", "s"] ["lot", "late"] (defScope (topS 19)) := ⟨rfl, rfl, rfl, by decide +kernel, rfl, by decide +kernel, by decide +kernel⟩
def φSg : List Ar → (D → Prop) → Prop := fun as Kd => ∃ a b : List Int, as = [.d (tupI a), .d (tupI b)] ∧ a.length ≤ 1000 ∧ b.length ≤ 1000 ∧ Kd (.int (sgn a b))
theorem sum_cnt (a b : List Int) : (a.map fun r => ((b.filter fun s => decide (s < r)).length : Int)).sum = inv a b := rfl
theorem ok_sign {f : Addr} {fd : FuncData} (F : Fun K "lots_sign" "lots_sign" (topS 7) f fd) (T : Txt mg) (T4 : Txf mg) : FnOk P w K mg base CX0 1 f fd ["one", "other"] (SpD φSg) := by
  refine fn_D F sclots_sign (fun as Kd h => ?_) (fun as Kd r cdv A outer s H E hr h => ?_)
  · obtain ⟨a, b, rfl, _⟩ := h
    rfl
  · obtain ⟨a, b, rfl, ha, hb, k⟩ := h
    have nd := sclots_sign.nd
    refine jret <| je_op op_sub <| je_int <| je_op op_mul <| je_int <| je_op op_mod <| jsum rfl T4.sum <| JN.je <| jlc [("road", 2)] [2] <| jiT <| jv 0 ⟨_, rfl, lcL a .int (fun _ => true) (fun r => .int ((b.filter fun s => decide (s < r)).length : Nat)) (fun x hx => lp0 2 ?_) ?_⟩
    · intro _ _ _ _ _
      refine jlen T.len <| JN.je <| jlc [("late", 3)] [3] <| jiT <| jv 1 ⟨_, rfl, lcL b .int (fun s => decide (s < x)) .int (fun y hy => lp1 3 ?_) ⟨_, .inl rfl, by rw [List.length_map], rfl⟩⟩
      intro _ _ _ _ _
      exact jtcmp op_lt <| jv 3 <| jv 2 <| od_B0 ⟨_, rfl, rfl, fun _ => rfl, fun _ _ _ _ _ _ => jv 3 ⟨rfl, rfl⟩⟩
    · rw [filter_true]
      exact ⟨a.map fun r => ((b.filter fun s => decide (s < r)).length : Int), by rw [List.map_map]; rfl, je_int <| od_I (by decide) <| od_I (.inl ⟨by decide, by decide⟩) <| od_I0 (by rw [sum_cnt]; exact k)⟩
theorem ok_lsign {f fO : Addr} {fd fdO : FuncData} (F : Fun K "_law_sign" "_law_sign" (topS 19) f fd) (T : Txt mg) (T4 : Txf mg) (NO : Dn K mg "_law_odd" (topS 16) ["number"] fO fdO) : FnOk P w K mg base CX0 2 f fd ["lot", "late"] (SpD φSg) := by
  refine fn_D F sc_law_sign (fun as Kd h => ?_) (fun as Kd r cdv A outer s H E hr h => ?_)
  · obtain ⟨a, b, rfl, _⟩ := h
    rfl
  · obtain ⟨a, b, rfl, ha, hb, k⟩ := h
    have nd := sc_law_sign.nd
    refine jret <| je_op op_sub <| je_int <| je_op op_mul <| je_int <| jcall hr NO (ok_odd NO.F) <| ja1 <| jsum rfl T4.sum <| JN.je <| jlc [("r", 2)] [2] <| jiT <| jv 0 ⟨_, rfl, lcL a .int (fun _ => true) (fun r => .int ((b.filter fun s => decide (s < r)).length : Nat)) (fun x hx => lp0 2 ?_) ?_⟩
    · intro _ _ _ _ _
      refine jlen T.len <| JN.je <| jlc [("s", 3)] [3] <| jiT <| jv 1 ⟨_, rfl, lcL b .int (fun s => decide (s < x)) .int (fun y hy => lp1 3 ?_) ⟨_, .inl rfl, by rw [List.length_map], rfl⟩⟩
      intro _ _ _ _ _
      exact jtcmp op_lt <| jv 3 <| jv 2 <| od_B0 ⟨_, rfl, rfl, fun _ => rfl, fun _ _ _ _ _ _ => jv 3 ⟨rfl, rfl⟩⟩
    · rw [filter_true]
      exact ⟨a.map fun r => ((b.filter fun s => decide (s < r)).length : Int), by rw [List.map_map]; rfl, _, rfl, od_I (.inl ⟨by decide, by decide⟩) <| od_I0 (by rw [sum_cnt]; exact k)⟩
/-! ### told -/
theorem sctold_sum : FnScope ["numbers", "lot", "number"] ["numbers"] (defScope (topS 5)) := ⟨rfl, rfl, rfl, by decide +kernel, rfl, by decide +kernel, by decide +kernel⟩
theorem sc_law_told : FnScope ["numbers", "lot"] ["numbers"] (defScope (topS 17)) := ⟨rfl, rfl, rfl, by decide +kernel, rfl, by decide +kernel, by decide +kernel⟩
def φToldO : List (List Int × D) → (D → Prop) → Prop := fun kvs Kd => ∃ m : DI, kvs = dI m ∧ (keyI m).Nodup ∧ m.length ≤ 200000 ∧ Kd (chD (toldM m))
theorem itemsD_dI (m : DI) : itemsD (dI m) = m.map entI := by unfold itemsD dI; rw [List.map_map]; rfl
theorem keysD_dI (m : DI) : keysD (dI m) = (keyI m).map tupI := by unfold keysD dI keyI; rw [List.map_map, List.map_map]; rfl
theorem ok_tsum {f : Addr} {fd : FuncData} (F : Fun K "told_sum" "told_sum" (topS 5) f fd) (T : Txt mg) (T3 : Txd mg) : FnOk P w K mg base CX0 1 f fd ["numbers"] (SpO φToldO) := by
  refine fn_O F sctold_sum rfl (fun kvs Kd r cdv A outer s H E hr h => ?_)
  obtain ⟨m, rfl, hnd, hm, k⟩ := h
  have nd := sctold_sum.nd
  refine jret <| jtupF T.tup <| jsortE hr T3.srt <| JN.je <| jn_lcIt 0 [("lot", 1), ("number", 2)] [1, 2] rfl ?_
  rw [itemsD_dI]
  refine lcL m entI (fun p => decide (p.2 ≠ 0)) entI (fun p hp => lp1P 1 2 ?_) ⟨m.filter fun p => decide (p.2 ≠ 0), rfl, ?_⟩ (by omega)
  · intro _ _ _ _ _
    exact jtcmp op_neD <| jv 2 <| je_int <| od_ne (α := Int) hr (by decide) ⟨_, rfl, ne_dec p.2, fun _ => rfl, fun _ _ _ _ _ _ => jtup2 <| jv 1 <| jv 2 ⟨rfl, rfl⟩⟩
  · rw [sortE_told hnd]; exact k
theorem ok_ltold {f : Addr} {fd : FuncData} (F : Fun K "_law_told" "_law_told" (topS 17) f fd) (T : Txt mg) (T3 : Txd mg) : FnOk P w K mg base CX0 1 f fd ["numbers"] (SpO φToldO) := by
  refine fn_O F sc_law_told rfl (fun kvs Kd r cdv A outer s H E hr h => ?_)
  obtain ⟨m, rfl, hnd, hm, k⟩ := h
  have nd := sc_law_told.nd
  refine jret <| jtupF T.tup <| jsortE hr T3.srt <| JN.je <| jn_lcKv 0 [("lot", 1)] [1] rfl fun d od => ?_
  rw [keysD_dI]
  refine lcL (keyI m) tupI (fun l => decide (getI m l ≠ 0)) (fun l => entI (l, getI m l)) (fun l hl => lp1 1 ?_) ⟨((keyI m).filter fun l => decide (getI m l ≠ 0)).map fun l => (l, getI m l), by rw [List.map_map]; rfl, ?_⟩ (by rw [keyI_len]; omega)
  · intro _ _ _ _ _
    refine jtcmp op_neD <| je_subL hr 0 ⟨l, jv 1 ⟨rfl, hl, je_int <| od_ne (α := Int) hr (by decide) ⟨_, rfl, told_test m l, fun _ => rfl, fun _ => ?_⟩⟩⟩ rfl
    intro _ _ _ _ _
    exact jtup2 <| jv 1 <| je_subL hr 0 ⟨l, jv 1 ⟨rfl, hl, rfl, rfl⟩⟩ rfl
  · rw [sortE_told2 hnd]; exact k
end
end K61

/-! k61: signs by exchanges, in plain Lean. -/
namespace K61
open PySem L2 DL
def swapK (l : List Int) (k : Nat) : List Int := (l.take k ++ [l.getD (k + 1) 0, l.getD k 0]) ++ l.drop (k + 2)
def stepB (st : List Int × Int) (k : Nat) : List Int × Int := if st.1.getD k 0 > st.1.getD (k + 1) 0 then (swapK st.1 k, 0 - st.2) else st
def passB (st : List Int × Int) (m : Nat) : List Int × Int := (List.range m).foldl stepB st
def lapsB (st : List Int × Int) (m : Nat) : Nat → List Int × Int
  | 0 => st
  | k + 1 => passB (lapsB st m k) m
def exB (w : List Int) : List Int × Int := lapsB (w, 1) (w.length - 1) w.length
theorem passB_succ (st : List Int × Int) (m : Nat) : passB st (m + 1) = stepB (passB st m) m := by unfold passB; rw [List.range_succ, List.foldl_append]; rfl
theorem swap_split {l : List Int} {k : Nat} (hk : k + 1 < l.length) : l = (l.take k ++ [l.getD k 0, l.getD (k + 1) 0]) ++ l.drop (k + 2) := by
  have e1 : l.getD k 0 = l[k] := by rw [List.getD_eq_getElem?_getD, List.getElem?_eq_getElem (by omega)]; rfl
  have e2 : l.getD (k + 1) 0 = l[k + 1] := by rw [List.getD_eq_getElem?_getD, List.getElem?_eq_getElem hk]; rfl
  rw [e1, e2]
  conv => lhs; rw [← List.take_append_drop k l, List.drop_eq_getElem_cons (by omega : k < l.length), List.drop_eq_getElem_cons hk]
  simp
theorem swap_len {l : List Int} {k : Nat} (hk : k + 1 < l.length) : (swapK l k).length = l.length := by
  unfold swapK
  simp
  omega
theorem step_len {st : List Int × Int} {k : Nat} (hk : k + 1 < st.1.length) : (stepB st k).1.length = st.1.length := by
  unfold stepB
  split
  · exact swap_len hk
  · rfl
theorem pass_len {st : List Int × Int} : ∀ {m : Nat}, m + 1 ≤ st.1.length ∨ m = 0 → (passB st m).1.length = st.1.length
  | 0, _ => rfl
  | m + 1, h => by
    rw [passB_succ, step_len]
    · exact pass_len (by omega)
    · rw [pass_len (by omega)]; omega
theorem laps_len {st : List Int × Int} {m : Nat} (hm : m + 1 ≤ st.1.length ∨ m = 0) : ∀ k, (lapsB st m k).1.length = st.1.length
  | 0 => rfl
  | k + 1 => by
    have := laps_len hm k
    show (passB (lapsB st m k) m).1.length = _
    rw [pass_len (by rw [this]; exact hm), this]
/-! ### inversions -/
def tot : List Int → Int
  | [] => 0
  | x :: l => cnt l x + tot l
theorem cnt_app (a b : List Int) (y : Int) : cnt (a ++ b) y = cnt a y + cnt b y := by rw [cnt_sm, sm_append, ← cnt_sm, ← cnt_sm]
theorem cnt_cons (x : Int) (b : List Int) (y : Int) : cnt (x :: b) y = (if x < y then 1 else 0) + cnt b y := by rw [cnt_sm, sm_cons, ← cnt_sm]
theorem inv_cons (x : Int) (a b : List Int) : inv (x :: a) b = cnt b x + inv a b := by unfold inv; rw [sm_cons]
theorem tot_app (a b : List Int) : tot (a ++ b) = tot a + inv a b + tot b := by
  induction a with
  | nil => show tot b = 0 + 0 + tot b; omega
  | cons x a ih =>
    show cnt (a ++ b) x + tot (a ++ b) = cnt a x + tot a + inv (x :: a) b + tot b
    rw [ih, cnt_app, inv_cons]
    omega
theorem tot_swap {l : List Int} {k : Nat} (hk : k + 1 < l.length) (h : l.getD k 0 > l.getD (k + 1) 0) : tot l = tot (swapK l k) + 1 := by
  conv => lhs; rw [swap_split hk]
  unfold swapK
  generalize l.getD k 0 = x at *
  generalize l.getD (k + 1) 0 = y at *
  rw [List.append_assoc, List.append_assoc, tot_app, tot_app (l.take k) ([y, x] ++ _)]
  have e1 : inv (l.take k) ([x, y] ++ l.drop (k + 2)) = inv (l.take k) ([y, x] ++ l.drop (k + 2)) := by
    unfold inv
    refine sm_congr fun r _ => ?_
    rw [cnt_app, cnt_app, cnt_cons, cnt_cons, cnt_cons, cnt_cons]
    omega
  rw [e1]
  have e2 : tot ([x, y] ++ l.drop (k + 2)) = tot ([y, x] ++ l.drop (k + 2)) + 1 := by
    show cnt (y :: l.drop (k + 2)) x + (cnt (l.drop (k + 2)) y + tot (l.drop (k + 2))) = cnt (x :: l.drop (k + 2)) y + (cnt (l.drop (k + 2)) x + tot (l.drop (k + 2))) + 1
    rw [cnt_cons, cnt_cons, if_pos h, if_neg (by omega)]
    omega
  omega
theorem step_sg {st : List Int × Int} {k : Nat} (hk : k + 1 < st.1.length) : (stepB st k).2 * sg (tot (stepB st k).1) = st.2 * sg (tot st.1) := by
  unfold stepB
  split
  · rename_i h
    show (0 - st.2) * sg (tot (swapK st.1 k)) = _
    have e := tot_swap hk h
    have e2 : sg (tot (swapK st.1 k)) = - sg (tot st.1) := by unfold sg; omega
    rw [e2, Int.zero_sub, Int.neg_mul_neg]
  · rfl
theorem pass_sg {st : List Int × Int} : ∀ {m : Nat}, m + 1 ≤ st.1.length ∨ m = 0 → (passB st m).2 * sg (tot (passB st m).1) = st.2 * sg (tot st.1)
  | 0, _ => rfl
  | m + 1, h => by
    rw [passB_succ, step_sg]
    · exact pass_sg (by omega)
    · rw [pass_len (by omega)]; omega
theorem laps_sg {st : List Int × Int} {m : Nat} (hm : m + 1 ≤ st.1.length ∨ m = 0) : ∀ k, (lapsB st m k).2 * sg (tot (lapsB st m k).1) = st.2 * sg (tot st.1)
  | 0 => rfl
  | k + 1 => by
    have := laps_len hm k
    show (passB (lapsB st m k) m).2 * sg (tot (passB (lapsB st m k) m).1) = _
    rw [pass_sg (by rw [this]; exact hm), laps_sg hm k]
/-! ### in order at the end -/
theorem swap_get {l : List Int} {k : Nat} (hk : k + 1 < l.length) (i : Nat) : (swapK l k).getD i 0 = if i = k then l.getD (k + 1) 0 else if i = k + 1 then l.getD k 0 else l.getD i 0 := by
  unfold swapK
  have hl : (l.take k).length = k := by rw [List.length_take]; omega
  rw [List.append_assoc]
  rw [List.getD_eq_getElem?_getD]
  by_cases h1 : i < k
  · rw [List.getElem?_append_left (by omega), List.getElem?_take, if_pos h1, if_neg (by omega), if_neg (by omega), List.getD_eq_getElem?_getD]
  · rw [List.getElem?_append_right (by omega), hl]
    by_cases h2 : i = k
    · subst h2
      rw [if_pos rfl, Nat.sub_self]; rfl
    · by_cases h3 : i = k + 1
      · subst h3
        rw [if_neg (by omega), if_pos rfl, show k + 1 - k = 1 by omega]; rfl
      · rw [if_neg h2, if_neg h3, List.getElem?_append_right (by simp; omega), List.getElem?_drop, List.getD_eq_getElem?_getD]
        congr 2
        simp
        omega
def QB (l : List Int) (p : Nat) : Prop := ∀ i j, i < j → j < l.length → l.length ≤ j + p → l.getD i 0 ≤ l.getD j 0
def RB (l : List Int) (p k : Nat) : Prop := QB l p ∧ (∀ i, i < k → l.getD i 0 ≤ l.getD k 0) ∧ ∀ j, j + p + 1 = l.length → j ≤ k → ∀ i, i < j → l.getD i 0 ≤ l.getD j 0
theorem step_R {st : List Int × Int} {p k : Nat} (hk : k + 1 < st.1.length) (h : RB st.1 p k) : RB (stepB st k).1 p (k + 1) := by
  obtain ⟨h1, h2, h3⟩ := h
  unfold stepB
  split
  · rename_i hx
    show RB (swapK st.1 k) p (k + 1)
    generalize st.1 = l at *
    have hp : k + 1 + p < l.length := by
      apply Classical.byContradiction
      intro z
      have := h1 k (k + 1) (by omega) hk (by omega)
      omega
    have h2' : ∀ i, i < k + 1 → (swapK l k).getD i 0 ≤ (swapK l k).getD (k + 1) 0 := fun i hi => by
      rw [swap_get hk, swap_get hk, if_neg (c := k + 1 = k) (by omega), if_pos (c := k + 1 = k + 1) rfl]
      by_cases e : i = k
      · rw [if_pos e]; omega
      · rw [if_neg e, if_neg (by omega)]
        exact h2 i (by omega)
    refine ⟨fun i j hij hj hp2 => ?_, h2', fun j hj hjk i hi => ?_⟩
    · rw [swap_len hk] at hj hp2
      rw [swap_get hk, swap_get hk, if_neg (c := j = k) (by omega), if_neg (c := j = k + 1) (by omega)]
      split
      · exact h1 _ _ (by omega) hj hp2
      · split
        · exact h1 _ _ (by omega) hj hp2
        · exact h1 _ _ hij hj hp2
    · rw [swap_len hk] at hj
      have : j = k + 1 := by omega
      subst this
      exact h2' i hi
  · rename_i hx
    have h2' : ∀ i, i < k + 1 → st.1.getD i 0 ≤ st.1.getD (k + 1) 0 := fun i hi => by
      by_cases e : i = k
      · subst e; omega
      · have := h2 i (by omega)
        omega
    refine ⟨h1, h2', fun j hj hjk i hi => ?_⟩
    by_cases e : j = k + 1
    · subst e; exact h2' i hi
    · exact h3 j hj (by omega) i hi
theorem pass_R {st : List Int × Int} {p : Nat} (h : QB st.1 p) : ∀ {m : Nat}, m + 1 ≤ st.1.length ∨ m = 0 → RB (passB st m).1 p m
  | 0, _ => ⟨h, fun i hi => by omega, fun j _ hj i hi => by omega⟩
  | m + 1, hm => by
    rw [passB_succ]
    exact step_R (by rw [pass_len (by omega)]; omega) (pass_R h (by omega))
theorem laps_Q {w : List Int} {s : Int} : ∀ k, QB (lapsB (w, s) (w.length - 1) k).1 k
  | 0 => fun i j _ hj h => by
    have hj : j < w.length := hj
    have h : w.length ≤ j + 0 := h
    omega
  | k + 1 => by
    have hm : w.length - 1 + 1 ≤ w.length ∨ w.length - 1 = 0 := by omega
    have hl := laps_len (st := (w, s)) hm k
    have hl' : (lapsB (w, s) (w.length - 1) k).1.length = w.length := hl
    have hm2 : w.length - 1 + 1 ≤ (lapsB (w, s) (w.length - 1) k).1.length ∨ w.length - 1 = 0 := by rw [hl']; exact hm
    obtain ⟨h1, _, h3⟩ := pass_R (laps_Q k) hm2
    show QB (passB (lapsB (w, s) (w.length - 1) k) (w.length - 1)).1 (k + 1)
    intro i j hij hj hp
    have hpl := pass_len hm2
    by_cases e : (passB (lapsB (w, s) (w.length - 1) k) (w.length - 1)).1.length ≤ j + k
    · exact h1 i j hij hj e
    · exact h3 j (by omega) (by omega) i hij
theorem tot_asc {l : List Int} (h : l.Pairwise (· ≤ ·)) : tot l = 0 := by
  induction l with
  | nil => rfl
  | cons x l ih =>
    rw [List.pairwise_cons] at h
    show cnt l x + tot l = 0
    rw [ih h.2, cnt_sm, sm_zero fun y hy => if_neg (by have := h.1 y hy; omega)]; rfl
theorem asc_Q {l : List Int} (h : QB l l.length) : l.Pairwise (· ≤ ·) := by
  rw [List.pairwise_iff_getElem]
  intro i j hi hj hij
  have := h i j hij hj (by omega)
  rw [List.getD_eq_getElem?_getD, List.getD_eq_getElem?_getD, List.getElem?_eq_getElem hi, List.getElem?_eq_getElem hj] at this
  exact this
theorem ex_sign {a b : List Int} (ha : a.Pairwise (· < ·)) (hb : b.Pairwise (· < ·)) : (exB (a ++ b)).2 = sgn a b := by
  have hm : (a ++ b).length - 1 + 1 ≤ (a ++ b).length ∨ (a ++ b).length - 1 = 0 := by omega
  have h1 := laps_sg (st := (a ++ b, 1)) hm (a ++ b).length
  have h2 : (exB (a ++ b)).1.length = (a ++ b).length := laps_len (st := (a ++ b, 1)) hm (a ++ b).length
  have h3 : QB (exB (a ++ b)).1 (a ++ b).length := laps_Q (a ++ b).length
  rw [← h2] at h3
  have h4 := tot_asc (asc_Q h3)
  have h1 : (exB (a ++ b)).2 * sg (tot (exB (a ++ b)).1) = 1 * sg (tot (a ++ b)) := h1
  rw [h4, tot_app, tot_asc (ha.imp fun h => by omega), tot_asc (hb.imp fun h => by omega)] at h1
  have e : sg 0 = 1 := rfl
  rw [e, Int.mul_one, Int.one_mul, Int.zero_add, Int.add_zero] at h1
  exact h1
end K61

/-! k61: sums added, multiplied, their borders. -/
namespace K61
open PySem L2 DL
theorem nd0 : (keyI []).Nodup := List.nodup_nil
theorem canon256 {n : Nat} (hn : n ≤ 8) (f : List Int → Int) : (canon n f).length ≤ 256 := Nat.le_trans (canon_len n f) (Nat.pow_le_pow_right (by decide) hn)
/-- one lot so many times -/
def sinF (p : List Int × Int) : List Int → Int := fun l => if l = p.1 then p.2 else 0
theorem sin_canon {n : Nat} {p : List Int × Int} (h : p.1 ∈ allL n) (h0 : p.2 ≠ 0) : canon n (sinF p) = [p] := by
  have e : (allL n).filter (fun l => decide (sinF p l ≠ 0)) = [p.1] := by
    refine sorted_one ((allL_lt n).sublist List.filter_sublist) (List.pairwise_cons.mpr ⟨fun a ha => (by cases ha), List.Pairwise.nil⟩) fun x => ?_
    rw [List.mem_filter, List.mem_singleton, decide_eq_true_eq]
    unfold sinF
    constructor
    · intro h
      exact Classical.byContradiction fun z => h.2 (if_neg z)
    · intro e
      subst e
      exact ⟨h, by rw [if_pos rfl]; exact h0⟩
  unfold canon
  rw [e]
  show [(p.1, sinF p p.1)] = _
  unfold sinF
  rw [if_pos rfl]
theorem canon_zero {n : Nat} {f : List Int → Int} (h : ∀ l ∈ allL n, f l = 0) : canon n f = [] := by
  unfold canon
  rw [List.filter_eq_nil_iff.mpr (fun a ha => by simp [h a ha])]
  rfl
theorem getI_snoc {ch : DI} {p : List Int × Int} (h : p.1 ∉ keyI ch) (l : List Int) : getI (ch ++ [p]) l = getI ch l + 1 * sinF p l := by
  unfold sinF
  by_cases e : l = p.1
  · subst e
    rw [if_pos rfl, getI_none h]
    have : p.1 ∈ keyI (ch ++ [p]) := by unfold keyI; rw [List.map_append]; exact List.mem_append_right _ (List.mem_singleton.mpr rfl)
    have h2 : getI (ch ++ [p]) p.1 = p.2 := by
      unfold getI
      rw [List.find?_append, List.find?_eq_none.mpr (fun q hq => by simpa using fun e => h (List.mem_map.mpr ⟨q, hq, e⟩))]
      simp
    rw [h2]; omega
  · rw [if_neg e]
    unfold getI
    rw [List.find?_append]
    have : List.find? (fun q : List Int × Int => decide (q.1 = l)) [p] = none := by
      rw [List.find?_cons_of_neg (by simpa using fun z => e z.symm)]; rfl
    rw [this, Option.or_none]
    omega
theorem bord_ext {n : Nat} {f g : List Int → Int} (h : ∀ l ∈ allL n, f l = g l) (S : List Int) : bordF n f S = bordF n g S := by
  unfold bordF
  exact sm_congr fun L hL => sm_congr fun k _ => by rw [h L hL]
theorem bord_zero (n : Nat) (S : List Int) : bordF n (getI []) S = 0 := by
  unfold bordF
  refine sm_zero fun L _ => sm_zero fun k _ => ?_
  rw [show getI [] L = 0 from rfl, Int.zero_mul]
  split <;> rfl
theorem told_turn (n : Nat) (f : List Int → Int) : toldM (mergeI [] ((canon n f).map fun p => (p.1, p.2 * sg p.1.length))) = canon n (turnF f) := by
  have e : ((canon n f).map fun p => (p.1, p.2 * sg p.1.length)) = (keyI (canon n f)).map fun l => (l, f l * sg l.length) := by
    rw [keyI_canon]
    unfold canon
    rw [List.map_map]; rfl
  rw [e, told_fn (canon_nd n f) (fun l hl => by rw [keyI_canon] at hl; exact (List.mem_filter.mp hl).1)]
  refine canon_ext fun l hl => ?_
  unfold turnF
  by_cases h : l ∈ keyI (canon n f)
  · rw [if_pos h]
  · rw [if_neg h]
    rw [keyI_canon, List.mem_filter, decide_eq_true_eq] at h
    have : f l = 0 := Classical.byContradiction fun z => h ⟨hl, z⟩
    rw [this, Int.zero_mul]
section
variable {P : Program} {w : World} {K : PySem.W.Frag} {mg : Str → Option Value} {base : Heap}
/-! ### added -/
theorem scadded_sums : FnScope ["one", "other", "times", "found", "lot", "number"] ["one", "other", "times"] (defScope (topS 8)) := ⟨rfl, rfl, rfl, by decide +kernel, rfl, by decide +kernel, by decide +kernel⟩
theorem sc_law_added : FnScope ["one", "other", "times", "found", "lot", "number"] ["one", "other", "times"] (defScope (topS 18)) := ⟨rfl, rfl, rfl, by decide +kernel, rfl, by decide +kernel, by decide +kernel⟩
theorem added_nd (n : Nat) (f : List Int → Int) (qs : DI) : (keyI (addAll (mergeI [] (canon n f)) qs)).Nodup := nodup_addAll _ (nodup_mergeI _ nd0)
theorem ok_added {f fT : Addr} {fd fdT : FuncData} (F : Fun K "added_sums" "added_sums" (topS 8) f fd) (T : Txt mg) (T3 : Txd mg) (NT : Dn K mg "told_sum" (topS 5) ["numbers"] fT fdT) : FnOk P w K mg base CX0 2 f fd ["one", "other", "times"] (SpD φSum) := by
  refine fn_D F scadded_sums (fun as Kd h => ?_) (fun as Kd r cdv A outer s H E hr h => ?_)
  · obtain ⟨n, f, g, t, rfl, _⟩ := h
    rfl
  · obtain ⟨n, f, g, t, rfl, hn, t0, t1, k⟩ := h
    have nd := scadded_sums.nd
    have hz : sizeLine = 16777216 := sizeLine_eq
    have hl := canon_le hn g
    refine jsetO 3 <| jdictF hr T3.dct <| jv 0 ⟨dI (canon n f), congrArg ft (map_entI _).symm, ?_⟩
    rw [dI_mergeE]
    refine jfor [4, 5] (jiF (jv 1 ⟨(canon n g).map entI, rfl, fun i S' => ∃ o4 o5, S' = [.val (chD (canon n f)), .val (chD (canon n g)), .val (.int t), .ob (.d (dI (addAll (mergeI [] (canon n f)) (((canon n g).take i).map fun p => (p.1, t * p.2))))), o4, o5], ⟨.emp, .emp, rfl⟩, ?_, ?_⟩))
    · rintro i d S' hd ⟨o4, o5, rfl⟩
      obtain ⟨p, hp, hpi, rfl⟩ := get_map hd
      have e0 : (canon n g).take (i + 1) = (canon n g).take i ++ [p] := by rw [List.take_succ, hpi]; rfl
      have e1 : addAll (mergeI [] (canon n f)) (((canon n g).take (i + 1)).map fun p => (p.1, t * p.2)) = putI (addAll (mergeI [] (canon n f)) (((canon n g).take i).map fun p => (p.1, t * p.2))) p.1 (getI (addAll (mergeI [] (canon n f)) (((canon n g).take i).map fun p => (p.1, t * p.2))) p.1 + t * p.2) := by
        rw [e0, List.map_append]; exact addAll_snoc _ _ _
      have hlen : (addAll (mergeI [] (canon n f)) (((canon n g).take i).map fun p => (p.1, t * p.2))).length ≤ 100000 := by
        have h1 := sum_len hn f (((canon n g).take i).map fun p => (p.1, t * p.2))
        rw [List.length_map, List.length_take] at h1
        omega
      generalize addAll (mergeI [] (canon n f)) (((canon n g).take i).map fun p => (p.1, t * p.2)) = m at *
      refine jgT (jgs (jg 4 (jgs (jg 5 (jgs_nil ?_)))))
      refine jdput hr 3 (.d (dI m)) <| je_op op_add <| je_getO hr 3 (dI m) <| jv 4 <| je_int ⟨p.1, dI m, rfl, rfl, ?_⟩
      rw [valD_getD]
      refine je_op op_mul <| jv 2 <| jv 5 ?_
      refine od_I (.inl ⟨by omega, by omega⟩) ?_
      refine od_I0 <| jv 4 ⟨p.1, dI m, rfl, rfl, by rw [dI_len]; omega, jss_nil ⟨.val (tupI p.1), .val (.int p.2), ?_⟩⟩
      rw [dI_put, ← e1]; rfl
    · rintro S' ⟨o4, o5, rfl⟩
      rw [List.length_map, List.take_length]
      refine jret <| jcallO hr NT (ok_tsum NT.F T T3) <| jgive 3 ⟨_, rfl, _, rfl, added_nd _ _ _, ?_, by rw [told_add]; exact k⟩
      have h1 := sum_len hn f ((canon n g).map fun p => (p.1, t * p.2))
      rw [List.length_map] at h1
      omega
theorem ok_ladded {f fT : Addr} {fd fdT : FuncData} (F : Fun K "_law_added" "_law_added" (topS 18) f fd) (T : Txt mg) (T3 : Txd mg) (NT : Dn K mg "_law_told" (topS 17) ["numbers"] fT fdT) : FnOk P w K mg base CX0 2 f fd ["one", "other", "times"] (SpD φSum) := by
  refine fn_D F sc_law_added (fun as Kd h => ?_) (fun as Kd r cdv A outer s H E hr h => ?_)
  · obtain ⟨n, f, g, t, rfl, _⟩ := h
    rfl
  · obtain ⟨n, f, g, t, rfl, hn, t0, t1, k⟩ := h
    have nd := sc_law_added.nd
    have hz : sizeLine = 16777216 := sizeLine_eq
    have hl := canon_le hn g
    refine jsetO 3 <| jdictF hr T3.dct <| jv 0 ⟨dI (canon n f), congrArg ft (map_entI _).symm, ?_⟩
    rw [dI_mergeE]
    refine jfor [4, 5] (jiF (jv 1 ⟨(canon n g).map entI, rfl, fun i S' => ∃ o4 o5, S' = [.val (chD (canon n f)), .val (chD (canon n g)), .val (.int t), .ob (.d (dI (addAll (mergeI [] (canon n f)) (((canon n g).take i).map fun p => (p.1, t * p.2))))), o4, o5], ⟨.emp, .emp, rfl⟩, ?_, ?_⟩))
    · rintro i d S' hd ⟨o4, o5, rfl⟩
      obtain ⟨p, hp, hpi, rfl⟩ := get_map hd
      have e0 : (canon n g).take (i + 1) = (canon n g).take i ++ [p] := by rw [List.take_succ, hpi]; rfl
      have e1 : addAll (mergeI [] (canon n f)) (((canon n g).take (i + 1)).map fun p => (p.1, t * p.2)) = putI (addAll (mergeI [] (canon n f)) (((canon n g).take i).map fun p => (p.1, t * p.2))) p.1 (getI (addAll (mergeI [] (canon n f)) (((canon n g).take i).map fun p => (p.1, t * p.2))) p.1 + t * p.2) := by
        rw [e0, List.map_append]; exact addAll_snoc _ _ _
      have hlen : (addAll (mergeI [] (canon n f)) (((canon n g).take i).map fun p => (p.1, t * p.2))).length ≤ 100000 := by
        have h1 := sum_len hn f (((canon n g).take i).map fun p => (p.1, t * p.2))
        rw [List.length_map, List.length_take] at h1
        omega
      generalize addAll (mergeI [] (canon n f)) (((canon n g).take i).map fun p => (p.1, t * p.2)) = m at *
      refine jgT (jgs (jg 4 (jgs (jg 5 (jgs_nil ?_)))))
      refine jdput hr 3 (.d (dI m)) <| je_op op_add <| je_getO hr 3 (dI m) <| jv 4 <| je_int ⟨p.1, dI m, rfl, rfl, ?_⟩
      rw [valD_getD]
      refine je_op op_mul <| jv 2 <| jv 5 ?_
      refine od_I (.inl ⟨by omega, by omega⟩) ?_
      refine od_I0 <| jv 4 ⟨p.1, dI m, rfl, rfl, by rw [dI_len]; omega, jss_nil ⟨.val (tupI p.1), .val (.int p.2), ?_⟩⟩
      rw [dI_put, ← e1]; rfl
    · rintro S' ⟨o4, o5, rfl⟩
      rw [List.length_map, List.take_length]
      refine jret <| jcallO hr NT (ok_ltold NT.F T T3) <| jgive 3 ⟨_, rfl, _, rfl, added_nd _ _ _, ?_, by rw [told_add]; exact k⟩
      have h1 := sum_len hn f ((canon n g).map fun p => (p.1, t * p.2))
      rw [List.length_map] at h1
      omega
/-! ### multiplied -/
theorem mul_small {a b : Int} (h : -1000000000000 ≤ a ∧ a ≤ 1000000000000) : CMul a b := .inl ⟨by omega, by omega⟩
def φTimes : List Ar → (D → Prop) → Prop := fun as Kd => ∃ (n : Nat) (f g : List Int → Int), as = [.d (chD (canon n f)), .d (chD (canon n g))] ∧ n ≤ 8 ∧ (∀ l, -1000000000000 ≤ f l ∧ f l ≤ 1000000000000) ∧ (∀ l, -1000000000000 ≤ g l ∧ g l ≤ 1000000000000) ∧ Kd (chD (canon n (prodF n f g)))
theorem dj_emp1 (a b : List Int) : (b.filter fun x => decide (x ∈ a)).isEmpty = decide (dj a b) := by
  rw [Bool.eq_iff_iff, List.isEmpty_iff, List.filter_eq_nil_iff, decide_eq_true_eq]
  exact ⟨fun h x hx hb => h x hb (decide_eq_true hx), fun h x hx hd => h x (of_decide_eq_true hd) hx⟩
theorem dj_emp2 (a b : List Int) : (a.filter fun x => decide (x ∈ b)).isEmpty = decide (dj a b) := by
  rw [Bool.eq_iff_iff, List.isEmpty_iff, List.filter_eq_nil_iff, decide_eq_true_eq]
  exact ⟨fun h x hx hb => h x hx (decide_eq_true hb), fun h x hx hd => h x hx (of_decide_eq_true hd)⟩
theorem scmultiplied_sums : FnScope ["one", "other", "found", "lot", "number", "late", "times", "both", "road"] ["one", "other"] (defScope (topS 9)) := ⟨rfl, rfl, rfl, by decide +kernel, rfl, by decide +kernel, by decide +kernel⟩
theorem ok_mult {f fT fG fO : Addr} {fd fdT fdG fdO : FuncData} (F : Fun K "multiplied_sums" "multiplied_sums" (topS 9) f fd) (T : Txt mg) (T3 : Txd mg) (T4 : Txf mg) (NT : Dn K mg "told_sum" (topS 5) ["numbers"] fT fdT) (NG : Dn K mg "lots_sign" (topS 7) ["one", "other"] fG fdG) : FnOk P w K mg base CX0 3 f fd ["one", "other"] (SpD φTimes) := by
  refine fn_D F scmultiplied_sums (fun as Kd h => ?_) (fun as Kd r cdv A outer s H E hr h => ?_)
  · obtain ⟨n, f, g, rfl, _⟩ := h
    rfl
  · obtain ⟨n, f, g, rfl, hn, hf, hg, k⟩ := h
    have nd := scmultiplied_sums.nd
    have hz : sizeLine = 16777216 := sizeLine_eq
    have hl1 := canon256 hn f
    have hl2 := canon256 hn g
    refine jsetO 2 <| jemptyD ?_
    refine jfor [3, 4] (jiF (jv 0 ⟨(canon n f).map entI, rfl, fun i S' => ∃ o3 o4 o5 o6 o7, S' = [.val (chD (canon n f)), .val (chD (canon n g)), .ob (.d (dI (addAll [] (termsP n ((canon n f).take i) (canon n g))))), o3, o4, o5, o6, o7, .emp], ⟨.emp, .emp, .emp, .emp, .emp, rfl⟩, ?_, ?_⟩))
    · rintro i d S' hd ⟨o3, o4, o5, o6, o7, rfl⟩
      obtain ⟨p, hp, hpi, rfl⟩ := get_map hd
      obtain ⟨hpa, hpf, _⟩ := mem_canon.mp hp
      have hp12 := canon_at hp
      have e0 : (canon n f).take (i + 1) = (canon n f).take i ++ [p] := by rw [List.take_succ, hpi]; rfl
      have hm0 : (termsP n ((canon n f).take i) (canon n g)).length ≤ 65536 := by
        have h1 := termsP_len n ((canon n f).take i) (canon n g)
        have h2 : ((canon n f).take i).length ≤ 256 := by rw [List.length_take]; omega
        exact Nat.le_trans h1 (Nat.mul_le_mul h2 hl2)
      refine jgT (jgs (jg 3 (jgs (jg 4 (jgs_nil ?_)))))
      refine jfor [5, 6] (jiF (jv 1 ⟨(canon n g).map entI, rfl, fun j S' => ∃ o5 o6 o7, S' = [.val (chD (canon n f)), .val (chD (canon n g)), .ob (.d (dI (addAll (addAll [] (termsP n ((canon n f).take i) (canon n g))) (termsQ n p ((canon n g).take j))))), .val (tupI p.1), .val (.int p.2), o5, o6, o7, .emp], ⟨o5, o6, o7, rfl⟩, ?_, ?_⟩))
      · rintro j d S' hd ⟨o5, o6, o7, rfl⟩
        obtain ⟨q, hq, hqi, rfl⟩ := get_map hd
        obtain ⟨hqa, hqg, _⟩ := mem_canon.mp hq
        have hq12 := canon_at hq
        have e2 : (canon n g).take (j + 1) = (canon n g).take j ++ [q] := by rw [List.take_succ, hqi]; rfl
        have hm : (addAll (addAll [] (termsP n ((canon n f).take i) (canon n g))) (termsQ n p ((canon n g).take j))).length ≤ 70000 := by
          have h1 := addAll_len (termsQ n p ((canon n g).take j)) (addAll [] (termsP n ((canon n f).take i) (canon n g)))
          have h2 := addAll_len (termsP n ((canon n f).take i) (canon n g)) []
          have h3 := termsQ_len n p ((canon n g).take j)
          rw [List.length_take] at h3
          rw [List.length_nil] at h2
          omega
        have e3 : addAll (addAll [] (termsP n ((canon n f).take i) (canon n g))) (termsQ n p ((canon n g).take (j + 1))) = if dj p.1 q.1 then putI (addAll (addAll [] (termsP n ((canon n f).take i) (canon n g))) (termsQ n p ((canon n g).take j))) (unL n p.1 q.1) (getI (addAll (addAll [] (termsP n ((canon n f).take i) (canon n g))) (termsQ n p ((canon n g).take j))) (unL n p.1 q.1) + p.2 * q.2 * sgn p.1 q.1) else addAll (addAll [] (termsP n ((canon n f).take i) (canon n g))) (termsQ n p ((canon n g).take j)) := by
          rw [e2, termsQ_snoc]
          split
          · exact addAll_snoc _ _ _
          · rw [List.append_nil]
        generalize addAll (addAll [] (termsP n ((canon n f).take i) (canon n g))) (termsQ n p ((canon n g).take j)) = m at *
        refine jgT (jgs (jg 5 (jgs (jg 6 (jgs_nil ?_)))))
        have hb1 := hf p.1
        have hb2 := hg q.1
        rw [← hpf] at hb1
        rw [← hqg] at hb2
        refine jif <| jtcmp op_eqL0 <| JN.je <| jlc [("road", 8)] [8] <| jiT <| jv 5 ⟨_, rfl, lcL q.1 .int (fun x => decide (x ∈ p.1)) .int (fun x hx => lp1 8 ?_) ?_ (by omega) (by cases o7 <;> rfl)⟩
        · intro _ _ _ _ _
          exact jtcmp op_inD <| jv 8 <| jv 3 <| od_inT (α := Int) hr (by decide) ⟨_, rfl, rfl, fun _ => rfl, fun _ _ _ _ _ _ => jv 8 ⟨rfl, rfl⟩⟩
        · refine JN.je (jn_lst (jA0 ⟨[], rfl, Nat.zero_le _, od_eqL0 hr ⟨_, rfl, ?_⟩⟩))
          rw [if_neg Bool.false_ne_true, isEmpty_map, dj_emp1]
          refine ifb (fun hd => ?_) (fun hd => ?_)
          · have hd : dj p.1 q.1 := of_decide_eq_true hd
            rw [if_pos hd] at e3
            refine jset 7 <| jtupN T.tup <| jsortTI hr T3.srt <| je_op op_catA <| jv 3 <| jv 5 <| od_catT ?_ ⟨p.1 ++ q.1, by rw [List.map_append], fun ns hns hnp => ?_⟩
            · rw [List.length_map, List.length_map]; omega
            rw [sort_un hpa hqa hd hns hnp]
            refine jdput hr 2 (.d (dI m)) <| je_op op_add <| je_getO hr 2 (dI m) <| jv 7 <| je_int ⟨unL n p.1 q.1, dI m, rfl, rfl, ?_⟩
            rw [valD_getD]
            refine je_op op_mul <| je_op op_mul <| jv 4 <| jv 6 <| od_I (mul_small hb1) <| jcall hr NG (ok_sign NG.F T T4) <| jA2 <| jv 3 <| jv 5 ⟨p.1, q.1, rfl, by omega, by omega, od_I (sg_mul _ _) <| od_I0 <| jv 7 ⟨unL n p.1 q.1, dI m, rfl, rfl, by rw [dI_len]; omega, ?_⟩⟩
            refine jss_nil <| jss_nil ⟨.val (tupI q.1), .val (.int q.2), .val (tupI (unL n p.1 q.1)), ?_⟩
            rw [dI_put, e3]; rfl
          · have hd : ¬ dj p.1 q.1 := of_decide_eq_false hd
            rw [if_neg hd] at e3
            refine jss_nil <| jss_nil ⟨.val (tupI q.1), .val (.int q.2), o7, ?_⟩
            rw [e3]; rfl
      · rintro S' ⟨o5, o6, o7, rfl⟩
        rw [List.length_map, List.take_length]
        refine jss_nil ⟨.val (tupI p.1), .val (.int p.2), o5, o6, o7, ?_⟩
        rw [e0, termsP_snoc, addAll_append]
    · rintro S' ⟨o3, o4, o5, o6, o7, rfl⟩
      rw [List.length_map, List.take_length]
      refine jret <| jcallO hr NT (ok_tsum NT.F T T3) <| jgive 2 ⟨_, rfl, _, rfl, nodup_addAll _ nd0, ?_, by rw [told_prod]; exact k⟩
      have h1 := termsP_len n (canon n f) (canon n g)
      have h2 : (canon n f).length * (canon n g).length ≤ 256 * 256 := Nat.mul_le_mul hl1 hl2
      have h3 := addAll_len (termsP n (canon n f) (canon n g)) []
      rw [List.length_nil] at h3
      omega
theorem sc_law_times : FnScope ["one", "other", "found", "lot", "number", "late", "more", "key", "r"] ["one", "other"] (defScope (topS 20)) := ⟨rfl, rfl, rfl, by decide +kernel, rfl, by decide +kernel, by decide +kernel⟩
theorem ok_times {f fT fG fO : Addr} {fd fdT fdG fdO : FuncData} (F : Fun K "_law_times" "_law_times" (topS 20) f fd) (T : Txt mg) (T3 : Txd mg) (T4 : Txf mg) (NT : Dn K mg "_law_told" (topS 17) ["numbers"] fT fdT) (NG : Dn K mg "_law_sign" (topS 19) ["lot", "late"] fG fdG) (NO : Dn K mg "_law_odd" (topS 16) ["number"] fO fdO) : FnOk P w K mg base CX0 3 f fd ["one", "other"] (SpD φTimes) := by
  refine fn_D F sc_law_times (fun as Kd h => ?_) (fun as Kd r cdv A outer s H E hr h => ?_)
  · obtain ⟨n, f, g, rfl, _⟩ := h
    rfl
  · obtain ⟨n, f, g, rfl, hn, hf, hg, k⟩ := h
    have nd := sc_law_times.nd
    have hz : sizeLine = 16777216 := sizeLine_eq
    have hl1 := canon256 hn f
    have hl2 := canon256 hn g
    refine jsetO 2 <| jemptyD ?_
    refine jfor [3, 4] (jiF (jv 0 ⟨(canon n f).map entI, rfl, fun i S' => ∃ o3 o4 o5 o6 o7, S' = [.val (chD (canon n f)), .val (chD (canon n g)), .ob (.d (dI (addAll [] (termsP n ((canon n f).take i) (canon n g))))), o3, o4, o5, o6, o7, .emp], ⟨.emp, .emp, .emp, .emp, .emp, rfl⟩, ?_, ?_⟩))
    · rintro i d S' hd ⟨o3, o4, o5, o6, o7, rfl⟩
      obtain ⟨p, hp, hpi, rfl⟩ := get_map hd
      obtain ⟨hpa, hpf, _⟩ := mem_canon.mp hp
      have hp12 := canon_at hp
      have e0 : (canon n f).take (i + 1) = (canon n f).take i ++ [p] := by rw [List.take_succ, hpi]; rfl
      have hm0 : (termsP n ((canon n f).take i) (canon n g)).length ≤ 65536 := by
        have h1 := termsP_len n ((canon n f).take i) (canon n g)
        have h2 : ((canon n f).take i).length ≤ 256 := by rw [List.length_take]; omega
        exact Nat.le_trans h1 (Nat.mul_le_mul h2 hl2)
      refine jgT (jgs (jg 3 (jgs (jg 4 (jgs_nil ?_)))))
      refine jfor [5, 6] (jiF (jv 1 ⟨(canon n g).map entI, rfl, fun j S' => ∃ o5 o6 o7, S' = [.val (chD (canon n f)), .val (chD (canon n g)), .ob (.d (dI (addAll (addAll [] (termsP n ((canon n f).take i) (canon n g))) (termsQ n p ((canon n g).take j))))), .val (tupI p.1), .val (.int p.2), o5, o6, o7, .emp], ⟨o5, o6, o7, rfl⟩, ?_, ?_⟩))
      · rintro j d S' hd ⟨o5, o6, o7, rfl⟩
        obtain ⟨q, hq, hqi, rfl⟩ := get_map hd
        obtain ⟨hqa, hqg, _⟩ := mem_canon.mp hq
        have hq12 := canon_at hq
        have e2 : (canon n g).take (j + 1) = (canon n g).take j ++ [q] := by rw [List.take_succ, hqi]; rfl
        have hm : (addAll (addAll [] (termsP n ((canon n f).take i) (canon n g))) (termsQ n p ((canon n g).take j))).length ≤ 70000 := by
          have h1 := addAll_len (termsQ n p ((canon n g).take j)) (addAll [] (termsP n ((canon n f).take i) (canon n g)))
          have h2 := addAll_len (termsP n ((canon n f).take i) (canon n g)) []
          have h3 := termsQ_len n p ((canon n g).take j)
          rw [List.length_take] at h3
          rw [List.length_nil] at h2
          omega
        have e3 : addAll (addAll [] (termsP n ((canon n f).take i) (canon n g))) (termsQ n p ((canon n g).take (j + 1))) = if dj p.1 q.1 then putI (addAll (addAll [] (termsP n ((canon n f).take i) (canon n g))) (termsQ n p ((canon n g).take j))) (unL n p.1 q.1) (getI (addAll (addAll [] (termsP n ((canon n f).take i) (canon n g))) (termsQ n p ((canon n g).take j))) (unL n p.1 q.1) + p.2 * q.2 * sgn p.1 q.1) else addAll (addAll [] (termsP n ((canon n f).take i) (canon n g))) (termsQ n p ((canon n g).take j)) := by
          rw [e2, termsQ_snoc]
          split
          · exact addAll_snoc _ _ _
          · rw [List.append_nil]
        generalize addAll (addAll [] (termsP n ((canon n f).take i) (canon n g))) (termsQ n p ((canon n g).take j)) = m at *
        refine jgT (jgs (jg 5 (jgs (jg 6 (jgs_nil ?_)))))
        have hb1 := hf p.1
        have hb2 := hg q.1
        rw [← hpf] at hb1
        rw [← hqg] at hb2
        refine jif <| jtcmp op_eqL0 <| JN.je <| jlc [("r", 8)] [8] <| jiT <| jv 3 ⟨_, rfl, lcL p.1 .int (fun x => decide (x ∈ q.1)) .int (fun x hx => lp1 8 ?_) ?_ (by omega) (by cases o7 <;> rfl)⟩
        · intro _ _ _ _ _
          exact jtcmp op_inD <| jv 8 <| jv 5 <| od_inT (α := Int) hr (by decide) ⟨_, rfl, rfl, fun _ => rfl, fun _ _ _ _ _ _ => jv 8 ⟨rfl, rfl⟩⟩
        · refine JN.je (jn_lst (jA0 ⟨[], rfl, Nat.zero_le _, od_eqL0 hr ⟨_, rfl, ?_⟩⟩))
          rw [if_neg Bool.false_ne_true, isEmpty_map, dj_emp2]
          refine ifb (fun hd => ?_) (fun hd => ?_)
          · have hd : dj p.1 q.1 := of_decide_eq_true hd
            rw [if_pos hd] at e3
            refine jset 7 <| jtupN T.tup <| jsortTI hr T3.srt <| je_op op_catA <| jv 3 <| jv 5 <| od_catT ?_ ⟨p.1 ++ q.1, by rw [List.map_append], fun ns hns hnp => ?_⟩
            · rw [List.length_map, List.length_map]; omega
            rw [sort_un hpa hqa hd hns hnp]
            refine jdput hr 2 (.d (dI m)) <| je_op op_add <| je_getO hr 2 (dI m) <| jv 7 <| je_int ⟨unL n p.1 q.1, dI m, rfl, rfl, ?_⟩
            rw [valD_getD]
            refine je_op op_mul <| je_op op_mul <| jv 4 <| jv 6 <| od_I (mul_small hb1) <| jcall hr NG (ok_lsign NG.F T T4 NO) <| jA2 <| jv 3 <| jv 5 ⟨p.1, q.1, rfl, by omega, by omega, od_I (sg_mul _ _) <| od_I0 <| jv 7 ⟨unL n p.1 q.1, dI m, rfl, rfl, by rw [dI_len]; omega, ?_⟩⟩
            refine jss_nil <| jss_nil ⟨.val (tupI q.1), .val (.int q.2), .val (tupI (unL n p.1 q.1)), ?_⟩
            rw [dI_put, e3]; rfl
          · have hd : ¬ dj p.1 q.1 := of_decide_eq_false hd
            rw [if_neg hd] at e3
            refine jss_nil <| jss_nil ⟨.val (tupI q.1), .val (.int q.2), o7, ?_⟩
            rw [e3]; rfl
      · rintro S' ⟨o5, o6, o7, rfl⟩
        rw [List.length_map, List.take_length]
        refine jss_nil ⟨.val (tupI p.1), .val (.int p.2), o5, o6, o7, ?_⟩
        rw [e0, termsP_snoc, addAll_append]
    · rintro S' ⟨o3, o4, o5, o6, o7, rfl⟩
      rw [List.length_map, List.take_length]
      refine jret <| jcallO hr NT (ok_ltold NT.F T T3) <| jgive 2 ⟨_, rfl, _, rfl, nodup_addAll _ nd0, ?_, by rw [told_prod]; exact k⟩
      have h1 := termsP_len n (canon n f) (canon n g)
      have h2 : (canon n f).length * (canon n g).length ≤ 256 * 256 := Nat.mul_le_mul hl1 hl2
      have h3 := addAll_len (termsP n (canon n f) (canon n g)) []
      rw [List.length_nil] at h3
      omega
end
end K61

/-! k61: borders of sums, drawn sums, exchanges. -/
namespace K61
open PySem L2 DL
theorem exch_snoc (st : List Int × Int) (j : Nat) : (List.range (j + 1)).foldl stepB st = stepB ((List.range j).foldl stepB st) j := by rw [List.range_succ, List.foldl_append]; rfl
theorem rangeI_nat {n : Nat} {x : Int} (h : x ∈ rangeI n) : ∃ a : Nat, a < n ∧ x = (a : Int) := by
  have := mem_rangeI.mp h
  exact ⟨x.toNat, by omega, by omega⟩
theorem jn_cutFromL {X : Cx} {r : SR} {S : List Sl} {K : List DL.D → List Sl → Prop} {e lo : Expr} {p2 pos : Pos} (h : JE X r e S fun d S1 => JE X r lo S1 fun d2 S2 => ∃ (ds : List DL.D) (k : Nat), d = .list ds ∧ d2 = .int k ∧ K (ds.drop k) S2) : JN X r (.Subscript e (.Slice (some lo) none none p2) pos) S K :=
  jn_cutL (h.mono fun d S1 h1 => (show JE X r lo S1 _ from h1.mono fun d2 S2 ⟨ds, k, e1, e2, kk⟩ => ⟨k, e2, ds, e1, by rw [cutD_from]; exact kk⟩))
section
variable {P : Program} {w : World} {K : PySem.W.Frag} {mg : Str → Option Value} {base : Heap}
/-! ### the law's border -/
theorem sc_law_border : FnScope ["one", "found", "lot", "number", "k", "side"] ["one"] (defScope (topS 21)) := ⟨rfl, rfl, rfl, by decide +kernel, rfl, by decide +kernel, by decide +kernel⟩
theorem terms_nd (ch : DI) : (keyI (addAll [] (terms ch))).Nodup := nodup_addAll _ nd0
theorem ok_lborder {f fT fO : Addr} {fd fdT fdO : FuncData} (F : Fun K "_law_border" "_law_border" (topS 21) f fd) (T : Txt mg) (T3 : Txd mg) (NT : Dn K mg "_law_told" (topS 17) ["numbers"] fT fdT) (NO : Dn K mg "_law_odd" (topS 16) ["number"] fO fdO) : FnOk P w K mg base CX0 2 f fd ["one"] (SpD φBorder) := by
  refine fn_D F sc_law_border (fun as Kd h => ?_) (fun as Kd r cdv A outer s H E hr h => ?_)
  · obtain ⟨n, g, rfl, _⟩ := h
    rfl
  · obtain ⟨n, g, rfl, hn, k⟩ := h
    have nd := sc_law_border.nd
    have hl := canon_le hn g
    have hz : sizeLine = 16777216 := sizeLine_eq
    refine jsetO 1 <| jemptyD ?_
    refine jfor [2, 3] (jiF (jv 0 ⟨(canon n g).map entI, rfl, fun i S' => ∃ o2 o3 o4 o5, S' = [.val (chD (canon n g)), .ob (.d (dI (addAll [] (terms ((canon n g).take i))))), o2, o3, o4, o5], ⟨.emp, .emp, .emp, .emp, rfl⟩, ?_, ?_⟩))
    · rintro i d S' hd ⟨o2, o3, o4, o5, rfl⟩
      obtain ⟨p, hp, hpi, rfl⟩ := get_map hd
      have hc := canon_at hp
      have e0 : (canon n g).take (i + 1) = (canon n g).take i ++ [p] := by rw [List.take_succ, hpi]; rfl
      have hlen : (addAll [] (terms ((canon n g).take i))).length ≤ 60000 := by
        have h1 := addAll_len (terms ((canon n g).take i)) []
        have h2 := terms_len (ch := (canon n g).take i) fun q hq => Nat.le_trans (canon_at (List.mem_of_mem_take hq)) hn
        have h3 : ((canon n g).take i).length ≤ (canon n g).length := by rw [List.length_take]; omega
        rw [List.length_nil] at h1
        omega
      refine jgT (jgs (jg 2 (jgs (jg 3 (jgs_nil ?_)))))
      refine jfor [4] (jrange1 T.ran <| jlen T.len <| jv 2 ⟨p.1.map .int, .inr rfl, ((p.1.map PyData.int).length : Nat), rfl, by omega, by rw [List.length_map]; omega, fun j S' => ∃ o4 o5, S' = [.val (chD (canon n g)), .ob (.d (dI (addAll (addAll [] (terms ((canon n g).take i))) ((termsL p).take j)))), .val (tupI p.1), .val (.int p.2), o4, o5], ⟨o4, o5, rfl⟩, ?_, ?_⟩)
      · rintro j d S' hd ⟨o4, o5, rfl⟩
        have hj : j < p.1.length := by
          have := (List.getElem?_eq_some_iff.mp hd).1
          rw [rangeD_length, List.length_map] at this; omega
        have ed : d = .int (j : Int) := by
          rw [rangeD_get (by rw [List.length_map]; omega), Int.zero_add] at hd
          exact (Option.some.inj hd).symm
        subst ed
        refine jg 4 ?_
        have hlj : (addAll (addAll [] (terms ((canon n g).take i))) ((termsL p).take j)).length ≤ 100000 := by
          have h1 := addAll_len ((termsL p).take j) (addAll [] (terms ((canon n g).take i)))
          rw [List.length_take, termsL_len] at h1
          omega
        have e1 : addAll (addAll [] (terms ((canon n g).take i))) ((termsL p).take (j + 1)) = putI (addAll (addAll [] (terms ((canon n g).take i))) ((termsL p).take j)) (p.1.eraseIdx j) (getI (addAll (addAll [] (terms ((canon n g).take i))) ((termsL p).take j)) (p.1.eraseIdx j) + p.2 * sg j) := by
          rw [termsL_take p j hj, addAll_snoc]; rfl
        generalize addAll (addAll [] (terms ((canon n g).take i))) ((termsL p).take j) = m at *
        refine jset 5 <| je_op op_catA <| je_cutTo <| jv 2 <| jv 4 ⟨p.1.map .int, j, rfl, rfl, je_cutFrom <| jv 2 <| je_op op_add <| jv 4 <| je_int <| od_I0 ⟨p.1.map .int, j + 1, rfl, rfl, od_catT ?_ ?_⟩⟩
        · rw [List.length_take, List.length_drop, List.length_map]; omega
        rw [side_eq]
        refine jdput hr 1 (.d (dI m)) <| je_op op_add <| je_getO hr 1 (dI m) <| jv 5 <| je_int ⟨p.1.eraseIdx j, dI m, rfl, rfl, ?_⟩
        rw [valD_getD]
        refine je_op op_mul <| jv 3 <| je_op op_sub <| je_int <| je_op op_mul <| je_int <| jcall hr NO (ok_odd NO.F) <| ja1 <| jv 4 ⟨(j : Int), rfl, od_I (.inl ⟨by decide, by decide⟩) <| od_I0 <| od_I (sg_mul _ _) <| od_I0 <| jv 5 ⟨p.1.eraseIdx j, dI m, rfl, rfl, by rw [dI_len]; omega, jss_nil ⟨.val (.int j), .val (tupI (p.1.eraseIdx j)), ?_⟩⟩⟩
        rw [dI_put, e1]; rfl
      · rintro S' ⟨o4, o5, rfl⟩
        rw [rangeD_length, List.length_map]
        have es : (p.1.length : Int).toNat = (termsL p).length := by rw [termsL_len]; omega
        rw [es, List.take_length]
        refine jss_nil ⟨.val (tupI p.1), .val (.int p.2), o4, o5, ?_⟩
        rw [e0, terms_snoc, addAll_append]
    · rintro S' ⟨o2, o3, o4, o5, rfl⟩
      rw [List.length_map, List.take_length]
      refine jret <| jcallO hr NT (ok_ltold NT.F T T3) <| jgive 1 ⟨_, rfl, addAll [] (terms (canon n g)), rfl, terms_nd _, ?_, by rw [told_border]; exact k⟩
      have h1 := addAll_len (terms (canon n g)) []
      have h2 := terms_len (ch := canon n g) fun q hq => Nat.le_trans (canon_at hq) hn
      rw [List.length_nil] at h1
      omega
/-! ### borders added -/
theorem scsum_border : FnScope ["one", "found", "pair"] ["one"] (defScope (topS 10)) := ⟨rfl, rfl, rfl, by decide +kernel, rfl, by decide +kernel, by decide +kernel⟩
theorem scring_border : FnScope ["ring"] ["ring"] (defScope (topS 11)) := ⟨rfl, rfl, rfl, by decide +kernel, rfl, by decide +kernel, by decide +kernel⟩
theorem ok_sborder {f fA fB fS fT fU : Addr} {fd fdA fdB fdS fdT fdU : FuncData} (F : Fun K "sum_border" "sum_border" (topS 10) f fd) (T : Txt mg) (T3 : Txd mg) (NA : Dn K mg "added_sums" (topS 8) ["one", "other", "times"] fA fdA) (NB : Dn K mg "border_of" (topS 3) ["chain"] fB fdB) (NS : Dn K mg "sides_of" (topS 1) ["lot"] fS fdS) (NT : Dn K mg "told_chain" (topS 2) ["numbers"] fT fdT) (NU : Dn K mg "told_sum" (topS 5) ["numbers"] fU fdU) : FnOk P w K mg base CX0 3 f fd ["one"] (SpD φBorder) := by
  refine fn_D F scsum_border (fun as Kd h => ?_) (fun as Kd r cdv A outer s H E hr h => ?_)
  · obtain ⟨n, g, rfl, _⟩ := h
    rfl
  · obtain ⟨n, g, rfl, hn, k⟩ := h
    have nd := scsum_border.nd
    have e00 : chD (canon n (bordF n (getI []))) = ft [] := by rw [canon_zero fun l _ => bord_zero n l]; rfl
    refine jset 1 <| jtup0F ?_
    refine jfor [2] (jiF (jv 0 ⟨(canon n g).map entI, rfl, fun i S' => ∃ o2, S' = [.val (chD (canon n g)), .val (chD (canon n (bordF n (getI ((canon n g).take i))))), o2], ⟨.emp, by rw [List.take_zero, e00]; rfl⟩, ?_, ?_⟩))
    · rintro i d S' hd ⟨o2, rfl⟩
      obtain ⟨p, hp, hpi, rfl⟩ := get_map hd
      obtain ⟨hpa, hpf, hp0⟩ := mem_canon.mp hp
      have e0 : (canon n g).take (i + 1) = (canon n g).take i ++ [p] := by rw [List.take_succ, hpi]; rfl
      have hnk : p.1 ∉ keyI ((canon n g).take i) := by
        have h1 : (keyI ((canon n g).take (i + 1))).Nodup := (canon_nd n g).sublist (List.Sublist.map _ (List.take_sublist _ _))
        rw [e0] at h1
        unfold keyI at h1
        rw [List.map_append, List.nodup_append] at h1
        exact fun z => h1.2.2 _ z _ (List.mem_singleton.mpr rfl) rfl
      have ek : canon n (fun l => bordF n (getI ((canon n g).take i)) l + 1 * bordF n (sinF p) l) = canon n (bordF n (getI ((canon n g).take (i + 1)))) := canon_ext fun l _ => by
        rw [e0, ← bord_add]
        exact bord_ext (fun l _ => (getI_snoc hnk l).symm) _
      refine jg 2 ?_
      refine jset 1 <| jcall hr NA (ok_added NA.F T T3 NU) <| jA <| jv 1 <| jA2 <| jcall hr NB (ok_border NB.F T T3 NS NT) <| ja1 <| jtup1F <| jv 2 ⟨n, sinF p, by rw [sin_canon hpa hp0]; rfl, hn, je_int ⟨n, bordF n (getI ((canon n g).take i)), bordF n (sinF p), 1, rfl, hn, by omega, by omega, jss_nil ⟨.val (entI p), ?_⟩⟩⟩
      rw [ek]; rfl
    · rintro S' ⟨o2, rfl⟩
      rw [List.length_map, List.take_length]
      refine jret <| jv 1 ?_
      rw [canon_ext (g := bordF n g) fun l _ => bord_ext (fun l hl => getI_canon hl) l]
      exact k
def φRing : List Ar → (D → Prop) → Prop := fun as Kd => ∃ (n : Nat) (l : List Int), as = [.d (tupI l)] ∧ n ≤ 12 ∧ l ∈ allL n ∧ Kd (chD (canon n (bordF n (sinF (l, 1)))))
theorem ok_rborder {f fX fA fB fS fT fU : Addr} {fd fdX fdA fdB fdS fdT fdU : FuncData} (F : Fun K "ring_border" "ring_border" (topS 11) f fd) (T : Txt mg) (T3 : Txd mg) (NX : Dn K mg "sum_border" (topS 10) ["one"] fX fdX) (NA : Dn K mg "added_sums" (topS 8) ["one", "other", "times"] fA fdA) (NB : Dn K mg "border_of" (topS 3) ["chain"] fB fdB) (NS : Dn K mg "sides_of" (topS 1) ["lot"] fS fdS) (NT : Dn K mg "told_chain" (topS 2) ["numbers"] fT fdT) (NU : Dn K mg "told_sum" (topS 5) ["numbers"] fU fdU) : FnOk P w K mg base CX0 4 f fd ["ring"] (SpD φRing) := by
  refine fn_D F scring_border (fun as Kd h => ?_) (fun as Kd r cdv A outer s H E hr h => ?_)
  · obtain ⟨n, l, rfl, _⟩ := h
    rfl
  · obtain ⟨n, l, rfl, hn, hl, k⟩ := h
    exact jret <| jcall hr NX (ok_sborder NX.F T T3 NA NB NS NT NU) <| ja1 <| jtup1F <| jtup2 <| jv 0 <| je_int ⟨n, sinF (l, 1), by rw [sin_canon hl (show (1 : Int) ≠ 0 by decide)]; rfl, hn, k⟩
/-! ### turned -/
theorem sc_law_turned : FnScope ["one", "lot", "number"] ["one"] (defScope (topS 26)) := ⟨rfl, rfl, rfl, by decide +kernel, rfl, by decide +kernel, by decide +kernel⟩
def φTurned : List Ar → (D → Prop) → Prop := fun as Kd => ∃ (n : Nat) (f : List Int → Int), as = [.d (chD (canon n f))] ∧ n ≤ 12 ∧ Kd (chD (canon n (turnF f)))
theorem ok_turned {f fT fO : Addr} {fd fdT fdO : FuncData} (F : Fun K "_law_turned" "_law_turned" (topS 26) f fd) (T : Txt mg) (T3 : Txd mg) (NT : Dn K mg "_law_told" (topS 17) ["numbers"] fT fdT) (NO : Dn K mg "_law_odd" (topS 16) ["number"] fO fdO) : FnOk P w K mg base CX0 2 f fd ["one"] (SpD φTurned) := by
  refine fn_D F sc_law_turned (fun as Kd h => ?_) (fun as Kd r cdv A outer s H E hr h => ?_)
  · obtain ⟨n, g, rfl, _⟩ := h
    rfl
  · obtain ⟨n, g, rfl, hn, k⟩ := h
    have nd := sc_law_turned.nd
    have hl := canon_le hn g
    refine jret <| jcallO hr NT (ok_ltold NT.F T T3) <| jdict hr T3.dct <| JN.je <| jlc [("lot", 1), ("number", 2)] [1, 2] <| jiF <| jv 0 ⟨_, rfl, lcL (canon n g) entI (fun _ => true) (fun p => entI (p.1, p.2 * sg p.1.length)) (fun p hp => lp0P 1 2 ?_) ?_⟩
    · intro _ _ _ _ _
      refine jtup2 <| jv 1 <| je_op op_mul <| jv 2 <| je_op op_sub <| je_int <| je_op op_mul <| je_int <| jcall hr NO (ok_odd NO.F) <| ja1 <| jlen T.len <| jv 1 ⟨p.1.map .int, .inr rfl, _, rfl, od_I (.inl ⟨by decide, by decide⟩) <| od_I0 <| od_I (sg_mul _ _) ⟨?_, rfl⟩⟩
      rw [List.length_map]; rfl
    · rw [filter_true]
      refine ⟨dI ((canon n g).map fun p => (p.1, p.2 * sg p.1.length)), by rw [map_entI, List.map_map]; rfl, _, rfl, mergeI [] ((canon n g).map fun p => (p.1, p.2 * sg p.1.length)), by rw [dI_mergeE], nodup_mergeI _ nd0, ?_, by rw [told_turn]; exact k⟩
      refine Nat.le_trans (mergeI_len _ _) ?_
      rw [List.length_map]
      show 0 + _ ≤ _
      omega
/-! ### drawn sums -/
theorem sc_law_sum : FnScope ["source", "m", "many", "found", "lap", "lot", "r"] ["source", "m", "many"] (defScope (topS 22)) := ⟨rfl, rfl, rfl, by decide +kernel, rfl, by decide +kernel, by decide +kernel⟩
def φLSum : List Ar → (D → Prop) → Prop := fun as Kd => ∃ (m many : Nat), as = [.src, .d (.int m), .d (.int many)] ∧ m ≤ 12 ∧ many ≤ 100 ∧ ∀ f : List Int → Int, (∀ l, -5 ≤ f l ∧ f l ≤ 5) → Kd (chD (canon m f))
theorem ok_lsum {f fP fT fO : Addr} {fd fdP fdT fdO : FuncData} (F : Fun K "_law_sum" "_law_sum" (topS 22) f fd) (T : Txt mg) (T2 : Txs mg) (T3 : Txd mg) (NP : Dn K mg "_law_pick" (topS 14) ["source", "many"] fP fdP) (NT : Dn K mg "_law_told" (topS 17) ["numbers"] fT fdT) (NO : Dn K mg "_law_of" (topS 15) ["source", "some"] fO fdO) : FnOk P w K mg base CX0 3 f fd ["source", "m", "many"] (SpD φLSum) := by
  refine fn_D F sc_law_sum (fun as Kd h => ?_) (fun as Kd r cdv A outer s H E hr h => ?_)
  · obtain ⟨m, many, rfl, _⟩ := h
    rfl
  · obtain ⟨m, many, rfl, hm, hmany, k⟩ := h
    have nd := sc_law_sum.nd
    have hz : sizeLine = 16777216 := sizeLine_eq
    have GP := ok_pick (P := P) (w := w) (base := base) NP.F T2
    refine jsetO 3 <| jemptyD ?_
    refine jfor [4] (jrange1 T.ran <| jcall hr NP GP <| jAs 0 <| ja1 <| je_op op_add <| jv 2 <| je_int <| od_I0 ⟨(many : Int) + 1, rfl, by omega, fun q q0 q1 => ⟨q, rfl, by omega, by split at q1 <;> omega, fun i S' => ∃ (d : DI) (o4 o5 : Sl), S' = [.src, .val (.int m), .val (.int many), .ob (.d (dI d)), o4, o5, .emp] ∧ (keyI d).Nodup ∧ (∀ l ∈ keyI d, l ∈ allL m) ∧ d.length ≤ i ∧ ∀ l, -5 ≤ getI d l ∧ getI d l ≤ 5, ⟨[], .emp, .emp, rfl, nd0, (fun _ h => nomatch h), Nat.le_refl _, fun l => by show (-5 : Int) ≤ 0 ∧ (0 : Int) ≤ 5; decide⟩, ?_, ?_⟩⟩)
    · rintro i dd S' hd ⟨d, o4, o5, rfl, d1, d2, d3, d4⟩
      have hi : i < q.toNat := by
        have := (List.getElem?_eq_some_iff.mp hd).1
        rw [rangeD_length] at this; exact this
      have hq : q.toNat ≤ 200 := by split at q1 <;> omega
      refine jg 4 ?_
      refine jset 5 <| jtupN T.tup <| jn_lcS [("r", 6)] [6] <| jrange1 T.ran <| jv 1 ⟨(m : Int), rfl, by omega, by omega, rfl, by rw [rangeD_length]; omega, fun x hx => ?_, fun zs hzs => ?_⟩
      · intro _ _ _ _ _
        refine jg 6 ?_
        intro _ _ _ _ _
        refine (show JT _ _ _ _ _ from jtcmp op_lt <| jcall hr NP GP <| jAs 0 <| ja1 <| je_int ⟨5, rfl, by decide, fun v _ _ => je_int <| od_B0 ⟨_, rfl, ?_⟩⟩)
        refine ifb (fun _ => ?_) (fun _ => ?_)
        · intro _ _ _ _ _
          exact jv 6 ⟨rfl, rfl⟩
        · rfl
      · rw [show rangeD 0 ((m : Int).toNat) = (rangeI m).map .int from rangeD_ints m] at hzs
        obtain ⟨l, hl, rfl⟩ := List.sublist_map_iff.mp hzs
        have hla : l ∈ allL m := mem_allL.mpr hl
        refine jdput hr 3 (.d (dI d)) <| jcall hr NO (ok_of NO.F T2 NP) <| jAs 0 <| ja1 <| JN.je <| jn_lst <| jA <| je_int <| jA <| je_un un_neg <| je_int <| ud_neg <| jA <| je_int <| jA <| je_un un_neg <| je_int <| ud_neg <| ja1 <| je_int ⟨[.int 1, .int (-1), .int 2, .int (-3), .int 5], rfl, by show 5 ≤ sizeLine; omega, _, rfl, (fun e => by cases e), by show 5 ≤ 1000000; decide, fun y hy => ?_⟩
        obtain ⟨c, rfl, c0, c1⟩ : ∃ c : Int, y = .int c ∧ -5 ≤ c ∧ c ≤ 5 := by
          simp only [List.mem_cons, List.not_mem_nil, or_false] at hy
          rcases hy with rfl | rfl | rfl | rfl | rfl <;> exact ⟨_, rfl, by decide, by decide⟩
        refine jv 5 ⟨l, dI d, rfl, rfl, by rw [dI_len]; omega, jss_nil ⟨putI d l c, _, _, by rw [dI_put]; rfl, nodup_put d1 _ _, fun x hx => ?_, Nat.le_trans (putI_len _ _ _) (by omega), fun x => ?_⟩⟩
        · rcases mem_keyI_put.mp hx with hx | rfl
          · exact d2 x hx
          · exact hla
        · rw [getI_put]
          split
          · exact ⟨c0, c1⟩
          · exact d4 x
    · rintro S' ⟨d, o4, o5, rfl, d1, d2, d3, d4⟩
      rw [rangeD_length] at d3
      have hq : q.toNat ≤ 200 := by split at q1 <;> omega
      refine jret <| jcallO hr NT (ok_ltold NT.F T T3) <| jgive 3 ⟨_, rfl, d, rfl, d1, by omega, ?_⟩
      rw [told_canon (n := m) d1 d2]
      exact k (getI d) d4
/-! ### exchanges -/
theorem sc_law_exchanges : FnScope ["word", "found", "left", "lap", "k"] ["word"] (defScope (topS 27)) := ⟨rfl, rfl, rfl, by decide +kernel, rfl, by decide +kernel, by decide +kernel⟩
def φExch : List Ar → (D → Prop) → Prop := fun as Kd => ∃ w : List Int, as = [.d (tupI w)] ∧ w.length ≤ 1000 ∧ Kd (.int (exB w).2)
theorem atI_int {l : List Int} {i : Nat} (h : i < l.length) : atI (l.map PyData.int) (i : Int) = some (.int (l.getD i 0)) := by
  rw [atI_nn (d := .int (l.getD i 0))]
  rw [List.getElem?_map, List.getElem?_eq_getElem h, List.getD_eq_getElem?_getD, List.getElem?_eq_getElem h]; rfl
theorem ok_exch {f : Addr} {fd : FuncData} (F : Fun K "_law_exchanges" "_law_exchanges" (topS 27) f fd) (T : Txt mg) : FnOk P w K mg base CX0 1 f fd ["word"] (SpD φExch) := by
  refine fn_D F sc_law_exchanges (fun as Kd h => ?_) (fun as Kd r cdv A outer s H E hr h => ?_)
  · obtain ⟨w, rfl, _⟩ := h
    rfl
  · obtain ⟨w, rfl, hw, k⟩ := h
    have nd := sc_law_exchanges.nd
    have hz : sizeLine = 16777216 := sizeLine_eq
    have hm : w.length - 1 + 1 ≤ w.length ∨ w.length - 1 = 0 := by omega
    refine jpar2 1 2 <| je_int <| JN.je <| jlist T.lst <| jv 0 ⟨w.map .int, .inr rfl, ?_⟩
    refine jfor [3] (jrange1 T.ran <| jlen T.len <| jv 2 ⟨w.map .int, .inl rfl, ((w.map PyData.int).length : Nat), rfl, by omega, by rw [List.length_map]; omega, fun i S' => ∃ o3 o4, S' = [.val (tupI w), .val (.int (lapsB (w, 1) (w.length - 1) i).2), .val (.list ((lapsB (w, 1) (w.length - 1) i).1.map .int)), o3, o4], ⟨.emp, .emp, rfl⟩, ?_, ?_⟩)
    · rintro i d S' hd ⟨o3, o4, rfl⟩
      have hll := laps_len (st := (w, 1)) hm i
      have hll : (lapsB (w, 1) (w.length - 1) i).1.length = w.length := hll
      refine jg 3 ?_
      obtain ⟨st, hst⟩ : ∃ st, st = lapsB (w, 1) (w.length - 1) i := ⟨_, rfl⟩
      rw [← hst] at hll ⊢
      refine jfor [4] (jrange1 T.ran <| je_op op_sub <| jlen T.len <| jv 2 ⟨st.1.map .int, .inl rfl, je_int <| od_I0 ⟨((st.1.map PyData.int).length : Nat) - 1, rfl, by omega, by rw [List.length_map]; omega, fun j S' => ∃ o4, S' = [.val (tupI w), .val (.int (passB st j).2), .val (.list ((passB st j).1.map .int)), .val d, o4], ⟨o4, rfl⟩, ?_, ?_⟩⟩)
      · rintro j d' S' hd' ⟨o4, rfl⟩
        have hj : j < (((st.1.map PyData.int).length : Int) - 1).toNat := by
          have := (List.getElem?_eq_some_iff.mp hd').1
          rw [rangeD_length] at this; exact this
        rw [rangeD_get hj, Int.zero_add] at hd'
        cases hd'
        rw [List.length_map] at hj
        have hpl : (passB st j).1.length = w.length := by rw [pass_len (by omega), hll]
        have e2 : passB st (j + 1) = stepB (passB st j) j := passB_succ st j
        obtain ⟨su, hsu⟩ : ∃ su, su = passB st j := ⟨_, rfl⟩
        rw [← hsu] at hpl e2 ⊢
        refine jg 4 ?_
        refine jif <| jtcmp op_gt <| jix ix_list <| jv 2 <| jv 4 <| od_ixL (atI_int (l := su.1) (i := j) (by omega)) <| jix ix_list <| jv 2 <| je_op op_add <| jv 4 <| je_int <| od_I0 <| od_ixL (atI_int (l := su.1) (i := j + 1) (by omega)) <| od_B0 ⟨_, rfl, ?_⟩
        refine ifb (fun h => ?_) (fun h => ?_)
        · have h : su.1.getD j 0 > su.1.getD (j + 1) 0 := of_decide_eq_true h
          refine jset 2 <| JN.je <| jn_cat <| JN.je <| jn_cat <| JN.je <| jn_cutTo <| jv 2 <| jv 4 ⟨su.1.map .int, j, rfl, rfl, JN.je <| jn_lst ?_⟩
          refine jA <| jix ix_list <| jv 2 <| je_op op_add <| jv 4 <| je_int <| od_I0 <| od_ixL (atI_int (l := su.1) (i := j + 1) (by omega)) ?_
          refine ja1 <| jix ix_list <| jv 2 <| jv 4 <| od_ixL (atI_int (l := su.1) (i := j) (by omega)) ⟨[.int (su.1.getD (j + 1) 0), .int (su.1.getD j 0)], rfl, by show 2 ≤ sizeLine; omega, _, _, rfl, rfl, ?_, ?_⟩
          · rw [List.length_take, List.length_map]
            show _ + 2 ≤ _
            omega
          refine JN.je <| jn_cutFromL <| jv 2 <| je_op op_add <| jv 4 <| je_int <| od_I0 ⟨su.1.map .int, j + 2, rfl, rfl, _, _, rfl, rfl, ?_, ?_⟩
          · rw [List.length_append, List.length_take, List.length_map, List.length_drop, List.length_map]
            show _ + 2 + _ ≤ _
            omega
          refine jset 1 <| je_op op_sub <| je_int <| jv 1 <| od_I0 <| jss_nil <| jss_nil ⟨.val (.int (j : Int)), ?_⟩
          show _ = [Sl.val (tupI w), Sl.val (.int (passB st (j + 1)).2), Sl.val (.list ((passB st (j + 1)).1.map .int)), Sl.val d, _]
          rw [e2]
          unfold stepB
          rw [if_pos h]
          unfold swapK
          rw [List.map_append, List.map_append, List.map_take, List.map_drop]
          rfl
        · have h : ¬ su.1.getD j 0 > su.1.getD (j + 1) 0 := of_decide_eq_false h
          refine jss_nil <| jss_nil ⟨.val (.int (j : Int)), ?_⟩
          show _ = [Sl.val (tupI w), Sl.val (.int (passB st (j + 1)).2), Sl.val (.list ((passB st (j + 1)).1.map .int)), Sl.val d, _]
          rw [e2]
          unfold stepB
          rw [if_neg h]
          rfl
      · rintro S' ⟨o4, rfl⟩
        rw [rangeD_length, List.length_map]
        have : ((st.1.length : Int) - 1).toNat = w.length - 1 := by omega
        rw [this, hst]
        exact jss_nil ⟨_, _, rfl⟩
    · rintro S' ⟨o3, o4, rfl⟩
      rw [rangeD_length, List.length_map]
      exact jret <| jv 1 k
end
end K61

/-! k61: what is a road sum. -/
namespace K61
open PySem L2 DL
def smPair (n : Int) : D → Bool
  | .tuple [l, .int i] => lotV n l && decide (i ≠ 0)
  | _ => false
def fstD : D → List Int
  | .tuple (l :: _) => intsD l
  | _ => []
def smV (n : Int) : D → Bool
  | .tuple q => q.all (smPair n) && decide (AscL (q.map fstD))
  | _ => false
theorem lotV_of {m : Int} {d : D} (h : lotV m d = true) : ∃ l : List Int, d = tupI l := by
  cases d <;> first | cases h | skip
  rename_i q
  have h : ((q.all fun d => nbD d m) && ascB (q.map iD)) = true := h
  rw [Bool.and_eq_true] at h
  obtain ⟨is, rfl, _⟩ := ints_of h.1
  exact ⟨is, rfl⟩
theorem intsD_tupI (l : List Int) : intsD (tupI l) = l := iD_map l
theorem smPair_len {n : Int} {q : List D} (h : q.length ≠ 2) : smPair n (.tuple q) = false := by
  match q, h with
  | [], _ => rfl
  | [_], _ => rfl
  | [_, _], h => exact absurd rfl h
  | _ :: b :: _ :: _, _ => cases b <;> rfl
theorem smPair_tup {n : Int} {d : D} (h : isTup d = false) : smPair n d = false := by
  cases d <;> first | rfl | cases h
theorem smPair_snd {n : Int} {a b : D} (h : isInt b = false) : smPair n (.tuple [a, b]) = false := by
  cases b <;> first | rfl | cases h
theorem smPair_fst {n : Int} {a b : D} (h : lotV n a = false) : smPair n (.tuple [a, b]) = false := by
  cases b <;> first | rfl | skip
  show (lotV n a && _) = false
  rw [h]; rfl
theorem smPair_int (n : Int) (l : List Int) (i : Int) : smPair n (.tuple [tupI l, .int i]) = (lotV n (tupI l) && decide (i ≠ 0)) := rfl
theorem smPair_of {n : Int} {d : D} (h : smPair n d = true) : ∃ p : List Int × Int, d = entI p := by
  cases ht : isTup d with
  | false => rw [smPair_tup ht] at h; cases h
  | true =>
    obtain ⟨q, rfl⟩ := isTup_of ht
    by_cases hl : q.length = 2
    · obtain ⟨a, b, rfl⟩ : ∃ a b, q = [a, b] := by
        match q, hl with
        | [a, b], _ => exact ⟨a, b, rfl⟩
      cases hi : isInt b with
      | false => rw [smPair_snd hi] at h; cases h
      | true =>
        obtain ⟨i, rfl⟩ := isInt_of hi
        cases hv : lotV n a with
        | false => rw [smPair_fst hv] at h; cases h
        | true =>
          obtain ⟨l, rfl⟩ := lotV_of hv
          exact ⟨(l, i), rfl⟩
    · rw [smPair_len hl] at h; cases h
theorem smAll_of {n : Int} : ∀ {q : List D}, q.all (smPair n) = true → ∃ ps : DI, q = ps.map entI
  | [], _ => ⟨[], rfl⟩
  | d :: q, h => by
    rw [List.all_cons, Bool.and_eq_true] at h
    obtain ⟨p, rfl⟩ := smPair_of h.1
    obtain ⟨ps, rfl⟩ := smAll_of h.2
    exact ⟨p :: ps, rfl⟩
theorem fst_map (ps : DI) : (ps.map entI).map fstD = keyI ps := by
  rw [List.map_map]
  unfold keyI
  exact List.map_congr_left fun p _ => intsD_tupI p.1
theorem all_ints : ∀ {q : List D}, q.all isInt = true → ∃ is : List Int, q = is.map .int
  | [], _ => ⟨[], rfl⟩
  | d :: q, h => by
    rw [List.all_cons, Bool.and_eq_true] at h
    obtain ⟨i, rfl⟩ := isInt_of h.1
    obtain ⟨is, rfl⟩ := all_ints h.2
    exact ⟨i :: is, rfl⟩
theorem lot_ints {n : Int} {q : List D} (h : q.all isInt = false) : lotV n (.tuple q) = false := by
  show ((q.all fun d => nbD d n) && _) = false
  have : (q.all fun d => nbD d n) = false := by
    rw [List.all_eq_false] at h ⊢
    obtain ⟨d, hd, h⟩ := h
    refine ⟨d, hd, fun z => h ?_⟩
    cases d <;> first | cases z | rfl
  rw [this]; rfl
theorem lotV_tupI (n : Int) (l : List Int) : lotV n (tupI l) = ((l.filter fun x => !(decide (0 ≤ x) && decide (x < n))).isEmpty && ascB l) := by
  show (((l.map PyData.int).all fun d => nbD d n) && ascB ((l.map PyData.int).map iD)) = _
  rw [iD_map, isEmpty_filter_not, List.all_map]; rfl
/-- a pair: what it may be -/
structure OkP (d : D) : Prop where
  nf : noF d = true
  it : ∀ q, d = .tuple q → ∀ x ∈ q, noF x = true ∧ ∀ q2, x = .tuple q2 → q2.length ≤ 60 ∧ ∀ y ∈ q2, noF y = true
theorem okP_of {B b c : Nat} {ws : List Nat} {d : D} (hc : c ≤ 60) (h : okW B (b :: c :: ws) d = true) : OkP d := ⟨okW_noF h, fun q e x hx => by
  subst e
  have h2 := (okW_tupE h).2 x hx
  exact ⟨okW_noF h2, fun q2 e => by
    subst e
    exact ⟨Nat.le_trans (okW_tupE h2).1 hc, fun y hy => okW_noF ((okW_tupE h2).2 y hy)⟩⟩⟩
section
variable {P : Program} {w : World} {K : PySem.W.Frag} {mg : Str → Option Value} {base : Heap}
theorem sc_law_is_int : FnScope ["value"] ["value"] (defScope (topS 23)) := ⟨rfl, rfl, rfl, by decide +kernel, rfl, by decide +kernel, by decide +kernel⟩
theorem sc_law_is_lot : FnScope ["m", "value", "r"] ["m", "value"] (defScope (topS 24)) := ⟨rfl, rfl, rfl, by decide +kernel, rfl, by decide +kernel, by decide +kernel⟩
theorem scis_road_sum : FnScope ["many", "value", "pair", "one", "k"] ["many", "value"] (defScope (topS 6)) := ⟨rfl, rfl, rfl, by decide +kernel, rfl, by decide +kernel, by decide +kernel⟩
theorem sc_law_is_sum : FnScope ["m", "value", "pair", "k"] ["m", "value"] (defScope (topS 25)) := ⟨rfl, rfl, rfl, by decide +kernel, rfl, by decide +kernel, by decide +kernel⟩
theorem ok_num {f : Addr} {fd : FuncData} (F : Fun K "_law_is_int" "_law_is_int" (topS 23) f fd) (T : Txo mg) : FnOk P w K mg base CX0 1 f fd ["value"] (SpD φNum) := by
  refine fn_D F sc_law_is_int (fun as Kd h => ?_) (fun as Kd r cdv A outer s H E hr h => ?_)
  · obtain ⟨d, rfl, _⟩ := h
    rfl
  · obtain ⟨d, rfl, hd, k⟩ := h
    have nd := sc_law_is_int.nd
    refine jret <| je_and <| jisi (Tn := "int") T.isi T.int <| jv 0 ⟨_, kt_int hd, _, rfl, ifb (fun h => ?_) (fun h => ?_)⟩
    · refine je_one <| je_not <| jisi (Tn := "bool") T.isi T.bol <| jv 0 ⟨_, kt_bool hd, _, rfl, ?_⟩
      have e : (!isBool d) = isInt d := by
        cases d <;> first | rfl | cases h
      rw [e]; exact k
    · have e : isInt d = false := by
        cases d <;> first | rfl | cases h
      rw [e] at k; exact k
theorem ok_llot {f fN : Addr} {fd fdN : FuncData} (F : Fun K "_law_is_lot" "_law_is_lot" (topS 24) f fd) (T : Txt mg) (T2 : Txd mg) (T3 : Txo mg) (NN : Dn K mg "_law_is_int" (topS 23) ["value"] fN fdN) : FnOk P w K mg base CX0 2 f fd ["m", "value"] (SpD φIsLot) := by
  refine fn_D F sc_law_is_lot (fun as Kd h => ?_) (fun as Kd r cdv A outer s H E hr h => ?_)
  · obtain ⟨m, v, rfl, _⟩ := h
    rfl
  · obtain ⟨m, v, rfl, hv, hq, k⟩ := h
    have nd := sc_law_is_lot.nd
    have hz : sizeLine = 16777216 := sizeLine_eq
    cases ht : isTup v with
    | false =>
      have e : lotV m v = false := by cases v <;> first | rfl | cases ht
      rw [e] at k
      exact jif <| JW.jt <| jw_or <| jt_not <| jtval <| jisi (Tn := "tuple") T3.isi T3.tup <| jv 1 ⟨_, kt_tup hv, _, rfl, ift (by rw [ht]; rfl) <| ift rfl <| jret <| je_bl k⟩
    | true =>
      obtain ⟨q, rfl⟩ := isTup_of ht
      obtain ⟨hl, hn⟩ := hq q rfl
      refine jif <| JW.jt <| jw_or <| jt_not <| jtval <| jisi (Tn := "tuple") T3.isi T3.tup <| jv 1 ⟨_, kt_tup hv, _, rfl, iff' rfl <| jw_or1 <| jtcmp op_neL0 <| JN.je <| jlc [("r", 2)] [2] <| jiT <| jv 1 ⟨q.map id, by rw [List.map_id], lcL q id (fun d => !nbD d m) id (fun d hdq => lp1 2 ?_) ?_⟩⟩
      · intro _ _ _ _ _
        refine JT.keep (!nbD d m) ?_ ⟨rfl, fun _ => rfl, fun _ => ?_⟩
        · refine JW.jt <| jw_or <| jt_not <| jtval <| jcall hr NN (ok_num NN.F T3) <| ja1 <| jv 2 ⟨d, rfl, hn d hdq, _, rfl, ifb (fun h => ⟨rfl, ?_⟩) (fun h => ?_)⟩
          · cases d <;> first | rfl | cases h
          · have h : isInt d = true := by simpa using h
            obtain ⟨i, rfl⟩ := isInt_of h
            refine jw_or1 <| jt_not <| jt_chain (pt_chain op_le op_lt pe_tE pe_tE pe_tE) <| je_int <| jv 2 <| od_B0 ⟨_, rfl, ifb (fun h3 => jv 0 <| od_B0 ⟨_, rfl, rfl, ?_⟩) (fun h3 => ⟨rfl, ?_⟩)⟩
            · show (!decide (i < m)) = !(decide (0 ≤ i) && decide (i < m))
              rw [show decide (0 ≤ i) = true from h3, Bool.true_and]
            · show (!false) = !(decide (0 ≤ i) && decide (i < m))
              rw [show decide (0 ≤ i) = false from h3, Bool.false_and]
        · intro _ _ _ _ _
          exact jv 2 ⟨rfl, rfl⟩
      · refine JN.je (jn_lst (jA0 ⟨[], rfl, Nat.zero_le _, od_eqL0 hr ⟨_, rfl, ?_⟩⟩))
        rw [if_pos rfl, isEmpty_map, isEmpty_filter_not]
        have k : Kd (.bool ((q.all fun d => nbD d m) && ascB (q.map iD))) := k
        cases ha : q.all fun d => nbD d m with
        | false =>
          rw [ha, Bool.false_and] at k
          exact ift rfl <| jret <| je_bl k
        | true =>
          rw [ha, Bool.true_and] at k
          obtain ⟨l, rfl, hR⟩ := ints_of ha
          rw [iD_map] at k
          rw [List.length_map] at hl
          refine iff' rfl <| jss_nil ?_
          refine jret <| jcmp op_eqD <| JN.je <| jlist T.lst <| jv 1 ⟨l.map .int, .inr rfl, JN.je <| jsortDI T2.srt T2.dct <| JN.je <| jlc [("r", 2)] [2] <| jiT <| jv 1 ⟨_, rfl, lcL l .int (fun _ => true) (fun x => .tuple [.int x, .int 0]) (fun x hx => lp0 2 ?_) ?_⟩⟩
          · intro _ _ _ _ _
            exact jtup2 <| jv 2 <| je_int ⟨rfl, rfl⟩
          · rw [filter_true]
            refine ⟨l, fun _ => .int 0, rfl, ?_, fun ys hp hs => ?_⟩
            · have := uni_len l []
              rw [List.length_nil] at this
              omega
            · refine od_eq (α := List Int) hr (by decide) ?_
              rw [sort_asc hp hs]
              exact k
def φIsSum : List Ar → (D → Prop) → Prop := fun as Kd => ∃ (n : Nat) (d v : D), as = [.d (.int n), .d d] ∧ n ≤ 12 ∧ UW true d v ∧ noF v = true ∧ (∀ q, v = .tuple q → q.length ≤ 1000 ∧ ∀ e ∈ q, OkP e) ∧ Kd (.bool (smV n v))
theorem ok_isum {f : Addr} {fd : FuncData} (F : Fun K "is_road_sum" "is_road_sum" (topS 6) f fd) (T : Txt mg) (T3 : Txo mg) : FnOk P w K mg base CX0 1 f fd ["many", "value"] (SpD φIsSum) := by
  refine fn_D F scis_road_sum (fun as Kd h => ?_) (fun as Kd r cdv A outer s H E hr h => ?_)
  · obtain ⟨n, d, v, rfl, _⟩ := h
    rfl
  · obtain ⟨n, d, v, rfl, hn, hu, hv, hq, k⟩ := h
    have nd := scis_road_sum.nd
    have hz : sizeLine = 16777216 := sizeLine_eq
    cases ht : isTup v with
    | false =>
      have e : smV n v = false := by cases v <;> first | rfl | cases ht
      rw [e] at k
      exact jif <| jt_not <| jtval <| jisi (Tn := "tuple") T3.isi T3.tup <| jv 1 ⟨_, ku_tup hu hv, _, rfl, ift (by rw [ht]; rfl) <| jret <| je_bl k⟩
    | true =>
      obtain ⟨q, rfl⟩ := isTup_of ht
      have wt := hu.wt
      obtain ⟨hl, hqi⟩ := hq q rfl
      have kbad : ∀ e ∈ q, smPair n e = false → Kd (.bool false) := fun e he hb => by
        have : smV n (.tuple q) = false := by
          show (q.all (smPair n) && _) = false
          rw [List.all_eq_false.mpr ⟨e, he, by rw [hb]; exact Bool.false_ne_true⟩]; rfl
        rw [this] at k; exact k
      refine jif <| jt_not <| jtval <| jisi (Tn := "tuple") T3.isi T3.tup <| jv 1 ⟨_, ku_tup hu hv, _, rfl, iff' rfl <| jss_nil ?_⟩
      refine jfor [2] (jiG (p := true) (jv 1 ⟨q, wt, fun i S' => ∃ o2, S' = [.val (.int (n : Int)), .val d, o2, .emp, .emp] ∧ (q.take i).all (smPair n) = true, ⟨.emp, rfl, rfl⟩, ?_, ?_⟩))
      · rintro i e S' he ⟨o2, rfl, hall⟩
        have hmem := List.mem_of_getElem? he
        have hok := hqi e hmem
        refine jg 2 ?_
        cases hte : isTup e with
        | false =>
          exact jif <| JW.jt <| jw_or <| jt_not <| jtval <| jisi (Tn := "tuple") T3.isi T3.tup <| jv 2 ⟨_, kt_tup hok.nf, _, rfl, ift (by rw [hte]; rfl) <| ift rfl <| jret <| je_bl <| kbad e hmem (smPair_tup hte)⟩
        | true =>
          obtain ⟨q2, rfl⟩ := isTup_of hte
          by_cases hl2 : q2.length = 2
          · obtain ⟨a, b, rfl⟩ : ∃ a b, q2 = [a, b] := by
              match q2, hl2 with
              | [a, b], _ => exact ⟨a, b, rfl⟩
            have ha := hok.it _ rfl a (by simp)
            have hb := hok.it _ rfl b (by simp)
            refine jif <| JW.jt <| jw_or <| jt_not <| jtval <| jisi (Tn := "tuple") T3.isi T3.tup <| jv 2 ⟨_, kt_tup hok.nf, _, rfl, iff' rfl <| jw_or <| jtcmp op_neD <| jlen T.len <| jv 2 ⟨[a, b], .inr rfl, je_int <| od_ne (α := Int) hr (by decide) ⟨_, rfl, iff' rfl <| jw_or1 <| jt_not <| jtval <| jisi (Tn := "tuple") T3.isi T3.tup <| jix ix_tup <| jv 2 <| je_int <| od_ixT (d := a) rfl ⟨_, kt_tup ha.1, _, rfl, ?_⟩⟩⟩⟩
            cases hta : isTup a with
            | false =>
              refine ift rfl <| jret <| je_bl <| kbad _ hmem (smPair_fst ?_)
              cases a <;> first | rfl | cases hta
            | true =>
              obtain ⟨q0, rfl⟩ := isTup_of hta
              obtain ⟨hl0, hn0⟩ := ha.2 q0 rfl
              refine iff' rfl <| jss_nil ?_
              refine jif <| jt_not <| jtval <| jall rfl T.all <| jlc [("one", 3)] [3] <| jiT <| je_tup <| jA_star <| jix ix_tup <| jv 2 <| je_int <| od_ixT (d := .tuple q0) rfl ⟨q0, .inl rfl, ja1 <| jix ix_tup <| jv 2 <| je_int <| od_ixT (d := b) rfl ⟨q0 ++ [b], ?_, ?_, (q0 ++ [b]).map id, by rw [List.map_id], lcL (q0 ++ [b]) id (fun _ => true) (fun d => .bool (isInt d)) (fun x hx => lp0 3 ?_) ?_ (by rw [List.length_append, List.length_singleton]; omega)⟩⟩
              · rw [show (q0.map Ar.d ++ [Ar.d b]) = (q0 ++ [b]).map Ar.d by rw [List.map_append]; rfl, dats_map]
              · rw [List.length_append, List.length_singleton]; omega
              · have hx1 : noF x = true := by
                  rcases List.mem_append.mp hx with h | h
                  · exact hn0 x h
                  · rw [List.mem_singleton.mp h]; exact hb.1
                intro _ _ _ _ _
                refine je_and <| jisi (Tn := "int") T3.isi T3.int <| jv 3 ⟨_, kt_int hx1, _, rfl, ifb (fun h => ?_) (fun h => ?_)⟩
                · refine je_one <| je_not <| jisi (Tn := "bool") T3.isi T3.bol <| jv 3 ⟨_, kt_bool hx1, _, rfl, ?_, rfl⟩
                  have e : (!isBool x) = isInt x := by
                    cases x <;> first | rfl | cases h
                  rw [← e]
                · refine ⟨?_, rfl⟩
                  have e : isInt x = false := by
                    cases x <;> first | rfl | cases h
                  rw [e]
              · rw [filter_true]
                refine ⟨(q0 ++ [b]).map isInt, by rw [List.map_map]; rfl, _, rfl, ?_⟩
                rw [List.all_map, show (id ∘ isInt) = isInt from rfl]
                cases hai : (q0 ++ [b]).all isInt with
                | false =>
                  refine ift rfl <| jret <| je_bl <| kbad _ hmem ?_
                  rw [List.all_append, Bool.and_eq_false_iff] at hai
                  rcases hai with h | h
                  · exact smPair_fst (lot_ints h)
                  · exact smPair_snd (by simpa using h)
                | true =>
                  rw [List.all_append, Bool.and_eq_true] at hai
                  obtain ⟨l, rfl⟩ := all_ints hai.1
                  obtain ⟨i, rfl⟩ := isInt_of (show isInt b = true by simpa using hai.2)
                  rw [List.length_map] at hl0
                  refine iff' rfl <| jss_nil ?_
                  have kb : (decide (i ≠ 0) = false ∨ lotV n (tupI l) = false) → Kd (.bool false) := fun h => kbad _ hmem (by
                    show smPair n (.tuple [tupI l, .int i]) = false
                    rw [smPair_int]
                    rcases h with h | h <;> rw [h]
                    · exact Bool.and_false _
                    · rfl)
                  refine jif <| JW.jt <| jw_or <| jtcmp op_eqD <| jix ix_tup <| jv 2 <| je_int <| od_ixT (d := .int i) rfl <| je_int <| od_eq (α := Int) hr (by decide) ⟨_, rfl, ifb (fun h4 => ift rfl <| jret <| je_bl <| kb (.inl (decide_eq_false (by simpa using h4)))) (fun h4 => ?_)⟩
                  refine jw_or1 <| jtcmp op_neL0 <| JN.je <| jlc [("one", 3)] [3] <| jiT <| jix ix_tup <| jv 2 <| je_int <| od_ixT (d := tupI l) rfl ⟨_, rfl, lcL l .int (fun x => !(decide (0 ≤ x) && decide (x < (n : Int)))) .int (fun x hx => lp1 3 ?_) ?_ (by omega)⟩
                  · intro _ _ _ _ _
                    refine JT.keep (!(decide (0 ≤ x) && decide (x < (n : Int)))) ?_ ⟨rfl, fun _ => rfl, fun _ => ?_⟩
                    · refine jt_not <| jt_chain (pt_chain op_le op_lt pe_tE pe_tE pe_tE) <| je_int <| jv 3 <| od_B0 ⟨_, rfl, ifb (fun h3 => jv 0 <| od_B0 ⟨_, rfl, rfl, ?_⟩) (fun h3 => ⟨rfl, ?_⟩)⟩
                      · show (!decide (x < (n : Int))) = !(decide (0 ≤ x) && decide (x < (n : Int)))
                        rw [show decide (0 ≤ x) = true from h3, Bool.true_and]
                      · show (!false) = !(decide (0 ≤ x) && decide (x < (n : Int)))
                        rw [show decide (0 ≤ x) = false from h3, Bool.false_and]
                    · intro _ _ _ _ _
                      exact jv 3 ⟨rfl, rfl⟩
                  · refine JN.je (jn_lst (jA0 ⟨[], rfl, Nat.zero_le _, od_eqL0 hr ⟨_, rfl, ?_⟩⟩))
                    rw [if_pos rfl, isEmpty_map]
                    cases hin : (l.filter fun x => !(decide (0 ≤ x) && decide (x < (n : Int)))).isEmpty with
                    | false => exact ift rfl <| jret <| je_bl <| kb (.inr (by rw [lotV_tupI, hin]; rfl))
                    | true =>
                      refine iff' rfl <| jss_nil ?_
                      refine jif <| jtcmp op_neL0 <| JN.je <| jlc [("k", 4)] [4] <| jrange2 T.ran <| je_int <| jlen T.len <| jix ix_tup <| jv 2 <| je_int <| od_ixT (d := tupI l) rfl ⟨l.map .int, .inr rfl, 1, ((l.map PyData.int).length : Nat), rfl, rfl, ⟨by omega, by omega, by rw [List.length_map]; omega, by rw [List.length_map]; omega⟩, lcR1 (m := l.length - 1) (fun a => decide (l.getD (a + 1) 0 ≤ l.getD a 0)) (fun a => .int (1 + (a : Int))) (fun a ha => lp1 4 ?_) ?_ (by rw [List.length_map]; omega)⟩
                      · intro _ _ _ _ _
                        have h1 : a + 1 < l.length := by omega
                        have h2 : a < l.length := by omega
                        have e1 : atI (l.map PyData.int) (1 + (a : Int)) = some (.int (l.getD (a + 1) 0)) := by
                          have : (1 + (a : Int)) = ((a + 1 : Nat) : Int) := by omega
                          rw [this]
                          exact atI_int h1
                        have e2 : atI (l.map PyData.int) (1 + (a : Int) - 1) = some (.int (l.getD a 0)) := by
                          have : (1 + (a : Int) - 1) = (a : Int) := by omega
                          rw [this]
                          exact atI_int h2
                        exact jtcmp op_le <| jix ix_tup <| jix ix_tup <| jv 2 <| je_int <| od_ixT (d := tupI l) rfl <| jv 4 <| od_ixT e1 <| jix ix_tup <| jix ix_tup <| jv 2 <| je_int <| od_ixT (d := tupI l) rfl <| je_op op_sub <| jv 4 <| je_int <| od_I0 <| od_ixT e2 <| od_B0 ⟨_, rfl, rfl, fun _ => rfl, fun _ _ _ _ _ _ => jv 4 ⟨rfl, rfl⟩⟩
                      · refine JN.je (jn_lst (jA0 ⟨[], rfl, Nat.zero_le _, od_eqL0 hr ⟨_, rfl, ?_⟩⟩))
                        rw [if_pos rfl, isEmpty_map]
                        have e : (((List.range (l.length - 1)).filter fun a => decide (l.getD (a + 1) 0 ≤ l.getD a 0)).isEmpty) = ascB l := by
                          rw [Bool.eq_iff_iff, asc_range (r := (· < ·)) (fun _ _ _ h1 h2 => Int.lt_trans h1 h2) l _ fun a h => ?_, ascB, decide_eq_true_eq]
                          rw [getD_at h, getD_at (show a < l.length by omega), decide_eq_true_eq, Int.not_lt]
                        rw [e]
                        cases hasc : ascB l with
                        | false => exact ift rfl <| jret <| je_bl <| kb (.inr (by rw [lotV_tupI, hin, hasc]; rfl))
                        | true =>
                          refine iff' rfl <| jss_nil <| jss_nil ⟨_, rfl, ?_⟩
                          rw [List.take_succ, he, Option.toList_some, List.all_append, hall, Bool.true_and, List.all_cons, List.all_nil, Bool.and_true]
                          show smPair n (.tuple [tupI l, .int i]) = true
                          rw [smPair_int, lotV_tupI, hin, hasc, decide_eq_true (p := i ≠ 0) (by simpa using h4)]
                          rfl
          · refine jif <| JW.jt <| jw_or <| jt_not <| jtval <| jisi (Tn := "tuple") T3.isi T3.tup <| jv 2 ⟨_, kt_tup hok.nf, _, rfl, iff' rfl <| jw_or <| jtcmp op_neD <| jlen T.len <| jv 2 ⟨q2, .inr rfl, je_int <| od_ne (α := Int) hr (by decide) ⟨_, rfl, ift ?_ <| ift rfl <| jret <| je_bl <| kbad _ hmem (smPair_len hl2)⟩⟩⟩
            rw [decide_eq_false (by omega)]; rfl
      · rintro S' ⟨o2, rfl, hall⟩
        rw [List.take_length] at hall
        have k : Kd (.bool (q.all (smPair n) && decide (AscL (q.map fstD)))) := k
        rw [hall, Bool.true_and] at k
        obtain ⟨ps, rfl⟩ := smAll_of hall
        rw [fst_map] at k
        rw [List.length_map] at hl
        have hat : ∀ {i : Nat} (h : i < ps.length), atI (ps.map entI) (i : Int) = some (entI ps[i]) := fun h => atI_nn (by rw [List.getElem?_map, List.getElem?_eq_getElem h]; rfl)
        have hkl : (keyI ps).length = ps.length := keyI_len ps
        have hkey : ∀ {i : Nat} (h : i < ps.length), (keyI ps).getD i [] = (ps[i]).1 := fun {i} h => by
          rw [getL_at (by rw [hkl]; exact h)]
          unfold keyI
          rw [List.getElem_map]
        refine jret <| jcmp op_eqL0 <| JN.je <| jlc [("k", 4)] [4] <| jrange2 T.ran <| je_int <| jlenG (p := true) T.len <| jv 1 ⟨ps.map entI, wt, 1, ((ps.map entI).length : Nat), rfl, rfl, ⟨by omega, by omega, by rw [List.length_map]; omega, by rw [List.length_map]; omega⟩, lcR1 (m := ps.length - 1) (fun a => !ltL ((keyI ps).getD a []) ((keyI ps).getD (a + 1) [])) (fun a => .int (1 + (a : Int))) (fun a ha => lp1 4 ?_) ?_ (by rw [List.length_map]; omega)⟩
        · intro _ _ _ _ _
          have h1 : a + 1 < ps.length := by omega
          have h2 : a < ps.length := by omega
          have e1 : atI (ps.map entI) (1 + (a : Int)) = some (entI ps[a + 1]) := by
            have : (1 + (a : Int)) = ((a + 1 : Nat) : Int) := by omega
            rw [this]
            exact hat h1
          have e2 : atI (ps.map entI) (1 + (a : Int) - 1) = some (entI ps[a]) := by
            have : (1 + (a : Int) - 1) = (a : Int) := by omega
            rw [this]
            exact hat h2
          rw [hkey h1, hkey h2]
          exact jtcmp op_leTI <| jix ix_tup <| jix ix_tup <| jv 1 <| jv 4 <| od_ixG wt e1 <| je_int <| od_ixT (d := tupI ps[a + 1].1) rfl <| jix ix_tup <| jix ix_tup <| jv 1 <| je_op op_sub <| jv 4 <| je_int <| od_I0 <| od_ixG wt e2 <| je_int <| od_ixT (d := tupI ps[a].1) rfl <| od_leTI hr ⟨_, rfl, rfl, fun _ => rfl, fun _ _ _ _ _ _ => jv 4 ⟨rfl, rfl⟩⟩
        · refine JN.je (jn_lst (jA0 ⟨[], rfl, Nat.zero_le _, od_eqL0 hr ?_⟩))
          rw [if_neg Bool.false_ne_true, isEmpty_map]
          have e : (((List.range (ps.length - 1)).filter fun a => !ltL ((keyI ps).getD a []) ((keyI ps).getD (a + 1) [])).isEmpty) = decide (AscL (keyI ps)) := by
            rw [← hkl, Bool.eq_iff_iff, asc_range (r := fun a b => ltL a b = true) (fun _ _ _ h1 h2 => ltL_trans h1 h2) (keyI ps) _ fun a h => ?_, decide_eq_true_eq]
            · rfl
            · rw [getL_at h, getL_at (show a < (keyI ps).length by omega)]; simp
          rw [e]; exact k
theorem ok_lisum {f fL fN : Addr} {fd fdL fdN : FuncData} (F : Fun K "_law_is_sum" "_law_is_sum" (topS 25) f fd) (T : Txt mg) (T3 : Txo mg) (TD : Txd mg) (NL : Dn K mg "_law_is_lot" (topS 24) ["m", "value"] fL fdL) (NN : Dn K mg "_law_is_int" (topS 23) ["value"] fN fdN) : FnOk P w K mg base CX0 3 f fd ["m", "value"] (SpD φIsSum) := by
  refine fn_D F sc_law_is_sum (fun as Kd h => ?_) (fun as Kd r cdv A outer s H E hr h => ?_)
  · obtain ⟨n, d, v, rfl, _⟩ := h
    rfl
  · obtain ⟨n, d, v, rfl, hn, hu, hv, hq, k⟩ := h
    have nd := sc_law_is_sum.nd
    have hz : sizeLine = 16777216 := sizeLine_eq
    cases ht : isTup v with
    | false =>
      have e : smV n v = false := by cases v <;> first | rfl | cases ht
      rw [e] at k
      exact jif <| jt_not <| jtval <| jisi (Tn := "tuple") T3.isi T3.tup <| jv 1 ⟨_, ku_tup hu hv, _, rfl, ift (by rw [ht]; rfl) <| jret <| je_bl k⟩
    | true =>
      obtain ⟨q, rfl⟩ := isTup_of ht
      have wt := hu.wt
      obtain ⟨hl, hqi⟩ := hq q rfl
      have kbad : ∀ e ∈ q, smPair n e = false → Kd (.bool false) := fun e he hb => by
        have : smV n (.tuple q) = false := by
          show (q.all (smPair n) && _) = false
          rw [List.all_eq_false.mpr ⟨e, he, by rw [hb]; exact Bool.false_ne_true⟩]; rfl
        rw [this] at k; exact k
      refine jif <| jt_not <| jtval <| jisi (Tn := "tuple") T3.isi T3.tup <| jv 1 ⟨_, ku_tup hu hv, _, rfl, iff' rfl <| jss_nil ?_⟩
      refine jfor [2] (jiG (p := true) (jv 1 ⟨q, wt, fun i S' => ∃ o2, S' = [.val (.int (n : Int)), .val d, o2, .emp] ∧ (q.take i).all (smPair n) = true, ⟨.emp, rfl, rfl⟩, ?_, ?_⟩))
      · rintro i e S' he ⟨o2, rfl, hall⟩
        have hmem := List.mem_of_getElem? he
        have hok := hqi e hmem
        refine jg 2 ?_
        cases hte : isTup e with
        | false =>
          exact jif <| JW.jt <| jw_or <| jt_not <| jtval <| jisi (Tn := "tuple") T3.isi T3.tup <| jv 2 ⟨_, kt_tup hok.nf, _, rfl, ift (by rw [hte]; rfl) <| ift rfl <| jret <| je_bl <| kbad e hmem (smPair_tup hte)⟩
        | true =>
          obtain ⟨q2, rfl⟩ := isTup_of hte
          by_cases hl2 : q2.length = 2
          · obtain ⟨a, b, rfl⟩ : ∃ a b, q2 = [a, b] := by
              match q2, hl2 with
              | [a, b], _ => exact ⟨a, b, rfl⟩
            have ha := hok.it _ rfl a (by simp)
            have hb := hok.it _ rfl b (by simp)
            refine jif <| JW.jt <| jw_or <| jt_not <| jtval <| jisi (Tn := "tuple") T3.isi T3.tup <| jv 2 ⟨_, kt_tup hok.nf, _, rfl, iff' rfl <| jw_or <| jtcmp op_neD <| jlen T.len <| jv 2 ⟨[a, b], .inr rfl, je_int <| od_ne (α := Int) hr (by decide) ⟨_, rfl, iff' rfl <| jw_or1 <| jt_not <| jtval <| jcall hr NL (ok_llot NL.F T TD T3 NN) <| jA2 <| jv 0 <| jix ix_tup <| jv 2 <| je_int <| od_ixT (d := a) rfl ⟨(n : Int), a, rfl, ha.1, ha.2, _, rfl, ?_⟩⟩⟩⟩
            cases hlv : lotV n a with
            | false => exact ift rfl <| jret <| je_bl <| kbad _ hmem (smPair_fst hlv)
            | true =>
              obtain ⟨l, rfl⟩ := lotV_of hlv
              refine iff' rfl <| jss_nil ?_
              refine jif <| JW.jt <| jw_or <| jt_not <| jtval <| jcall hr NN (ok_num NN.F T3) <| ja1 <| jix ix_tup <| jv 2 <| je_int <| od_ixT (d := b) rfl ⟨b, rfl, hb.1, _, rfl, ifb (fun h3 => ift rfl <| jret <| je_bl <| kbad _ hmem (smPair_snd (by simpa using h3))) (fun h3 => ?_)⟩
              obtain ⟨i, rfl⟩ := isInt_of (show isInt b = true by simpa using h3)
              refine jw_or1 <| jtcmp op_eqD <| jix ix_tup <| jv 2 <| je_int <| od_ixT (d := .int i) rfl <| je_int <| od_eq (α := Int) hr (by decide) ⟨_, rfl, ifb (fun h4 => jret <| je_bl <| kbad _ hmem ?_) (fun h4 => jss_nil <| jss_nil ⟨_, rfl, ?_⟩)⟩
              · rw [smPair_int, decide_eq_false (p := i ≠ 0) (by simpa using h4), Bool.and_false]
              · rw [List.take_succ, he, Option.toList_some, List.all_append, hall, Bool.true_and, List.all_cons, List.all_nil, Bool.and_true, smPair_int, hlv, decide_eq_true (p := i ≠ 0) (by simpa using h4)]
                rfl
          · refine jif <| JW.jt <| jw_or <| jt_not <| jtval <| jisi (Tn := "tuple") T3.isi T3.tup <| jv 2 ⟨_, kt_tup hok.nf, _, rfl, iff' rfl <| jw_or <| jtcmp op_neD <| jlen T.len <| jv 2 ⟨q2, .inr rfl, je_int <| od_ne (α := Int) hr (by decide) ⟨_, rfl, ift ?_ <| ift rfl <| jret <| je_bl <| kbad _ hmem (smPair_len hl2)⟩⟩⟩
            rw [decide_eq_false (by omega)]; rfl
      · rintro S' ⟨o2, rfl, hall⟩
        rw [List.take_length] at hall
        have k : Kd (.bool (q.all (smPair n) && decide (AscL (q.map fstD)))) := k
        rw [hall, Bool.true_and] at k
        obtain ⟨ps, rfl⟩ := smAll_of hall
        rw [fst_map] at k
        rw [List.length_map] at hl
        have hat : ∀ {i : Nat} (h : i < ps.length), atI (ps.map entI) (i : Int) = some (entI ps[i]) := fun h => atI_nn (by rw [List.getElem?_map, List.getElem?_eq_getElem h]; rfl)
        have hkl : (keyI ps).length = ps.length := keyI_len ps
        have hkey : ∀ {i : Nat} (h : i < ps.length), (keyI ps).getD i [] = (ps[i]).1 := fun {i} h => by
          rw [getL_at (by rw [hkl]; exact h)]
          unfold keyI
          rw [List.getElem_map]
        refine jret <| jcmp op_eqL0 <| JN.je <| jlc [("k", 3)] [3] <| jrange2 T.ran <| je_int <| jlenG (p := true) T.len <| jv 1 ⟨ps.map entI, wt, 1, ((ps.map entI).length : Nat), rfl, rfl, ⟨by omega, by omega, by rw [List.length_map]; omega, by rw [List.length_map]; omega⟩, lcR1 (m := ps.length - 1) (fun a => !ltL ((keyI ps).getD a []) ((keyI ps).getD (a + 1) [])) (fun a => .int (1 + (a : Int))) (fun a ha => lp1 3 ?_) ?_ (by rw [List.length_map]; omega)⟩
        · intro _ _ _ _ _
          have h1 : a + 1 < ps.length := by omega
          have h2 : a < ps.length := by omega
          have e1 : atI (ps.map entI) (1 + (a : Int)) = some (entI ps[a + 1]) := by
            have : (1 + (a : Int)) = ((a + 1 : Nat) : Int) := by omega
            rw [this]
            exact hat h1
          have e2 : atI (ps.map entI) (1 + (a : Int) - 1) = some (entI ps[a]) := by
            have : (1 + (a : Int) - 1) = (a : Int) := by omega
            rw [this]
            exact hat h2
          rw [hkey h1, hkey h2]
          exact jtcmp op_leTI <| jix ix_tup <| jix ix_tup <| jv 1 <| jv 3 <| od_ixG wt e1 <| je_int <| od_ixT (d := tupI ps[a + 1].1) rfl <| jix ix_tup <| jix ix_tup <| jv 1 <| je_op op_sub <| jv 3 <| je_int <| od_I0 <| od_ixG wt e2 <| je_int <| od_ixT (d := tupI ps[a].1) rfl <| od_leTI hr ⟨_, rfl, rfl, fun _ => rfl, fun _ _ _ _ _ _ => jv 3 ⟨rfl, rfl⟩⟩
        · refine JN.je (jn_lst (jA0 ⟨[], rfl, Nat.zero_le _, od_eqL0 hr ?_⟩))
          rw [if_neg Bool.false_ne_true, isEmpty_map]
          have e : (((List.range (ps.length - 1)).filter fun a => !ltL ((keyI ps).getD a []) ((keyI ps).getD (a + 1) [])).isEmpty) = decide (AscL (keyI ps)) := by
            rw [← hkl, Bool.eq_iff_iff, asc_range (r := fun a b => ltL a b = true) (fun _ _ _ h1 h2 => ltL_trans h1 h2) (keyI ps) _ fun a h => ?_, decide_eq_true_eq]
            · rfl
            · rw [getL_at h, getL_at (show a < (keyI ps).length by omega)]; simp
          rw [e]; exact k
end
end K61

/-! k01: the plain law. -/
namespace K61
open PySem L2 DL
variable {n : Nat} {fam : List (List Int)}
theorem sub_ext {s : List Int} : ∀ {t : List Int}, s.Sublist t → s.length < t.length → ∃ u : List Int, u.Sublist t ∧ ∃ k, k < u.length ∧ s = u.eraseIdx k := by
  intro t h
  induction h with
  | slnil => intro h; cases h
  | @cons s l a h ih => intro _; exact ⟨a :: s, h.cons_cons a, 0, Nat.zero_lt_succ _, rfl⟩
  | @cons_cons s l a h ih =>
    intro hl
    obtain ⟨u, hu, k, hk, e⟩ := ih (by simpa using hl)
    exact ⟨a :: u, hu.cons_cons a, k + 1, by simpa using hk, by rw [e]; rfl⟩
def topsL2 (fam : List (List Int)) : List (List Int) := fam.filter fun l => (fam.filter fun t => decide (t.length > l.length) && decide (l ∈ partsL t)).isEmpty
theorem tops_tops (h : FamP n fam) : topsL2 fam = topsL fam := List.filter_congr fun l hl => by
  rw [Bool.eq_iff_iff, List.isEmpty_iff, List.filter_eq_nil_iff]
  simp only [Bool.not_eq_true', Bool.and_eq_true, decide_eq_true_eq, List.any_eq_false]
  constructor
  · intro h1 t ht hs
    obtain ⟨k, hk, rfl⟩ := mem_sides.mp hs
    refine h1 t ht ⟨?_, mem_partsL.mpr (List.eraseIdx_sublist t k)⟩
    rw [List.length_eraseIdx, if_pos hk]; omega
  · rintro h1 t ht ⟨h2, h3⟩
    obtain ⟨u, hu, k, hk, e⟩ := sub_ext (mem_partsL.mp h3) h2
    exact h1 u (h.down t ht u hu) (mem_sides.mpr ⟨k, hk, e⟩)
theorem FamP.len7 (h : FamP n fam) : ∀ l ∈ fam, l.length ≤ n := fun l hl => by
  have := (h.sub l hl).length_le
  rwa [rangeI_len] at this
theorem in_top (h : FamP n fam) : ∀ (k : Nat) (p : List Int), p ∈ fam → n - p.length ≤ k → ∃ t ∈ topsL fam, p.Sublist t := by
  intro k
  induction k with
  | zero =>
    intro p hp hk
    refine ⟨p, ?_, List.Sublist.refl _⟩
    unfold topsL
    rw [List.mem_filter]
    refine ⟨hp, ?_⟩
    simp only [Bool.not_eq_true', List.any_eq_false, decide_eq_true_eq]
    intro t ht hs
    obtain ⟨k, hk2, e⟩ := mem_sides.mp hs
    have h1 := h.len7 t ht
    have h2 : p.length = t.length - 1 := by rw [e, List.length_eraseIdx, if_pos hk2]
    omega
  | succ k ih =>
    intro p hp hk
    by_cases hc : (fam.any fun t => decide (p ∈ sidesL t)) = true
    · obtain ⟨t, ht, hs⟩ := List.any_eq_true.mp hc
      obtain ⟨j, hj, e⟩ := mem_sides.mp (of_decide_eq_true hs)
      have h2 : p.length = t.length - 1 := by rw [e, List.length_eraseIdx, if_pos hj]
      have h1 := h.len7 t ht
      obtain ⟨u, hu, hsu⟩ := ih t ht (by omega)
      refine ⟨u, hu, List.Sublist.trans ?_ hsu⟩
      rw [e]; exact List.eraseIdx_sublist t j
    · refine ⟨p, ?_, List.Sublist.refl _⟩
      unfold topsL
      rw [List.mem_filter]
      refine ⟨hp, ?_⟩
      rw [Bool.not_eq_true'] ; simpa using hc
/-- told of the greatest lots and of some more: the family -/
theorem told_fam (h : FamP n fam) {ls : List (List Int)} (h1 : ∀ l ∈ ls, l ∈ fam) (h2 : ∀ l ∈ topsL fam, l ∈ ls) : sortL (madeK ls) = fam := by
  refine sorted_one (sortL_lt (madeK_nodup ls)) h.asc fun p => ?_
  rw [(sortL_perm _).mem_iff, mem_madeK]
  constructor
  · rintro ⟨l, hl, hs⟩; exact h.down l (h1 l hl) p hs
  · intro hp
    obtain ⟨t, ht, hs⟩ := in_top h (n - p.length) p hp (Nat.le_refl _)
    exact ⟨t, h2 t ht, hs⟩
theorem count_sized (fam : List (List Int)) (k : Int) : (lens fam).count k = (sized fam k).length := by
  unfold lens sized
  induction fam with
  | nil => rfl
  | cons l fam ih =>
    rw [List.map_cons, List.count_cons, List.filter_cons, ih]
    by_cases e : (l.length : Int) = k
    · rw [if_pos (beq_iff_eq.mpr e), if_pos (decide_eq_true e), List.length_cons]
    · rw [if_neg (fun z => e (beq_iff_eq.mp z)), if_neg (fun z => e (of_decide_eq_true z)), Nat.add_zero]
def evens (fam : List (List Int)) : List Int := (lens fam).filter fun k => decide (k % 2 = 0)
theorem sign_evens (fam : List (List Int)) : signF fam = ((evens fam).length : Int) * 2 - ((lens fam).length : Int) := by
  unfold signF evens lens
  induction fam with
  | nil => rfl
  | cons l fam ih =>
    rw [List.map_cons, List.sum_cons, ih, List.map_cons, List.filter_cons, List.length_cons]
    by_cases e : ((l.length : Nat) : Int) % 2 = 0
    · rw [if_pos (decide_eq_true e), List.length_cons]; omega
    · rw [if_neg (fun z => e (of_decide_eq_true z))]; omega
theorem mem_tup (l : List Int) (ls : List (List Int)) : decide ((⟨l⟩ : PySem.W.Tup Int) ∈ ls.map fun x => ⟨x⟩) = decide (l ∈ ls) := by
  rw [Bool.eq_iff_iff, decide_eq_true_eq, decide_eq_true_eq, List.mem_map]
  constructor
  · rintro ⟨x, hx, e⟩
    injection e with e
    rw [← e]; exact hx
  · intro h; exact ⟨l, h, rfl⟩
theorem three_fam : sortL (madeK [[0, 1], [2]]) = [[], [0], [0, 1], [1], [2]] := by
  have e : madeK [[0, 1], [2]] = [[], [0], [1], [0, 1], [2]] := by decide +kernel
  refine sorted_one (sortL_lt (madeK_nodup _)) (by decide +kernel) fun x => ?_
  rw [(sortL_perm _).mem_iff, e]
  exact List.Perm.mem_iff (by decide +kernel)
/-! ### told by repr -/
theorem FamP.items (h : FamP n fam) (hn : n ≤ 7) : ∀ l ∈ fam, l.length ≤ 7 ∧ ∀ x ∈ l, x.natAbs ≤ 1000000 := fun l hl => by
  refine ⟨Nat.le_trans (h.len7 l hl) hn, fun x hx => ?_⟩
  have := mem_rangeI.mp ((h.sub l hl).subset hx)
  omega
theorem FamP.len128 (h : FamP n fam) (hn : n ≤ 7) : fam.length ≤ 128 := Nat.le_trans h.len (Nat.pow_le_pow_right (by decide) hn)
theorem okW_lot {ws : List Nat} {B w : Nat} {l : List Int} (h : l.length ≤ w) (hx : ∀ x ∈ l, x.natAbs ≤ B) : okW B (w :: ws) (tupI l) = true := okW_tup (by rw [List.length_map]; exact h) fun d hd => by
  obtain ⟨x, hxl, rfl⟩ := List.mem_map.mp hd
  exact okW_int (hx x hxl)
theorem okW_fam (h : FamP n fam) (hn : n ≤ 7) : okW 1000000 [2, 128, 7] (famD n fam) = true := by
  refine okW_tup (Nat.le_refl 2) fun d hd => ?_
  rcases List.mem_cons.mp hd with rfl | hd
  · exact okW_int (by omega)
  · rw [List.mem_singleton.mp hd]
    refine okW_tup (by rw [List.length_map]; exact h.len128 hn) fun d hd => ?_
    obtain ⟨l, hl, rfl⟩ := List.mem_map.mp hd
    exact okW_lot (h.items hn l hl).1 (h.items hn l hl).2
def leW : List Nat → List Nat → Bool
  | [], _ => true
  | _ :: _, [] => false
  | w :: ws, w' :: ws' => decide (w ≤ w') && leW ws ws'
theorem okW_up {B B' : Nat} (hB : B ≤ B') : ∀ {ws ws' : List Nat}, leW ws ws' = true → ∀ {d : D}, okW B ws d = true → okW B' ws' d = true
  | [], ws', _, d, h => okW_atom (atom_mono hB h)
  | _ :: _, [], h, _, _ => by cases h
  | w :: ws, w' :: ws', hl, d, hd => by
    have hl : (decide (w ≤ w') && leW ws ws') = true := hl
    rw [Bool.and_eq_true, decide_eq_true_eq] at hl
    have hh : ∀ xs : List D, (decide (xs.length ≤ w) && xs.all (okW B ws)) = true → (decide (xs.length ≤ w') && xs.all (okW B' ws')) = true := fun xs h => by
      rw [Bool.and_eq_true, decide_eq_true_eq, List.all_eq_true] at h ⊢
      exact ⟨Nat.le_trans h.1 hl.1, fun x hx => okW_up hB hl.2 (h.2 x hx)⟩
    cases d with
    | list xs => exact hh xs hd
    | tuple xs => exact hh xs hd
    | none => rfl
    | bool b => rfl
    | int i => exact okW_int (Nat.le_trans (okW_intE hd) hB)
    | str x => exact hd
    | dict kvs => exact hd
end K61

namespace K61
open PySem L2 DL
/-! ### bounds of chains -/
abbrev chT (n : Nat) (f : List Int → Int) : DL.D := .tuple ((canon n f).map entI)
theorem chD_wt (n : Nat) (f : List Int → Int) : WT true (chD (canon n f)) ((canon n f).map entI) := .ft
theorem ch_uw (n : Nat) (f : List Int → Int) : UW true (chD (canon n f)) (chT n f) := (chD_wt n f).uw
theorem nice_entI (p : List Int × Int) : Nice 48 (entI p) := nice_tup (n := 47) (nice_cons (nice_tupI (n := 46) p.1) (nice_cons (nice_int _) nice_nil))
theorem nice_ch (n : Nat) (f : List Int → Int) : Nice 50 (chT n f) := (nice_tup (n := 48) (nice_map fun p => nice_entI p)).mono (by decide)
theorem all_items {n : Nat} (hn : n ≤ 7) {l : List Int} (h : l ∈ allL n) : l.length ≤ 7 ∧ ∀ x ∈ l, x.natAbs ≤ 7 := by
  refine ⟨Nat.le_trans (mem_at h) hn, fun x hx => ?_⟩
  have := mem_rangeI.mp ((mem_allL.mp h).subset hx)
  omega
theorem canon128 {n : Nat} (hn : n ≤ 7) (f : List Int → Int) : (canon n f).length ≤ 128 := Nat.le_trans (canon_len n f) (Nat.pow_le_pow_right (by decide) hn)
theorem okW_ent {B : Nat} {n : Nat} (hn : n ≤ 7) (h7 : 7 ≤ B) {p : List Int × Int} (h : p.1 ∈ allL n) (hb : p.2.natAbs ≤ B) : okW B [2, 7] (entI p) = true := okW_tup (by show 2 ≤ 2; decide) fun d hd => by
  rcases List.mem_cons.mp hd with rfl | hd
  · exact okW_lot (all_items hn h).1 fun x hx => Nat.le_trans ((all_items hn h).2 x hx) h7
  · rw [List.mem_singleton.mp hd]; exact okW_int hb
theorem okW_ch {B : Nat} {n : Nat} (hn : n ≤ 7) (h7 : 7 ≤ B) {f : List Int → Int} (hb : ∀ l ∈ allL n, (f l).natAbs ≤ B) : ∀ d ∈ (canon n f).map entI, okW B [2, 7] d = true := fun d hd => by
  obtain ⟨p, hp, rfl⟩ := List.mem_map.mp hd
  obtain ⟨a1, a2, _⟩ := mem_canon.mp hp
  exact okW_ent hn h7 a1 (by rw [a2]; exact hb _ a1)
theorem okW_chT {B : Nat} {n : Nat} (hn : n ≤ 7) (h7 : 7 ≤ B) {f : List Int → Int} (hb : ∀ l ∈ allL n, (f l).natAbs ≤ B) : okW B [128, 2, 7] (chT n f) = true := okW_tup (by rw [List.length_map]; exact canon128 hn f) (okW_ch hn h7 hb)
theorem sh_ch {n : Nat} (hn : n ≤ 7) {f : List Int → Int} (hb : ∀ l ∈ allL n, (f l).natAbs ≤ 1000000000) : ShW (chT n f) := okW_sh (okW_chT hn (by decide) hb) (by decide) (by decide +kernel) (by decide)
theorem sh_chB {n : Nat} (hn : n ≤ 7) {f : List Int → Int} (hb : ∀ l ∈ allL n, (f l).natAbs ≤ 1000000000) (b : Bool) : ShW (.list [chT n f, .bool b]) := okW_sh (B := 1000000000) (ws := [2, 128, 2, 7]) (okW_list (by show 2 ≤ 2; decide) fun d hd => by
  rcases List.mem_cons.mp hd with rfl | hd
  · exact okW_chT hn (by decide) hb
  · rw [List.mem_singleton.mp hd]; exact okW_bool b) (by decide) (by decide +kernel) (by decide)
theorem ul_chB (n : Nat) (f : List Int → Int) (b : Bool) : UL true (.list [chD (canon n f), .bool b]) (.list [chT n f, .bool b]) := .inr ⟨_, _, rfl, rfl, .cons (ch_uw n f) (.cons (.inl rfl) .nil)⟩
theorem bord_bound {n : Nat} (hn : n ≤ 7) {f : List Int → Int} {B : Int} (h0 : 0 ≤ B) (hb : ∀ l, -B ≤ f l ∧ f l ≤ B) (S : List Int) : -(128 * (7 * B)) ≤ bordF n f S ∧ bordF n f S ≤ 128 * (7 * B) := by
  have hlen : (allL n).length ≤ 128 := by rw [allL_len]; exact Nat.pow_le_pow_right (by decide) hn
  have h1 := sm_bound (l := allL n) (g := fun L => sm (List.range L.length) fun (k : Nat) => if L.eraseIdx k = S then f L * sg k else 0) (B := 7 * B) fun L hL => by
    have h2 := sm_bound (l := List.range L.length) (g := fun (k : Nat) => if L.eraseIdx k = S then f L * sg k else 0) (B := B) fun k _ => by
      have h3 := sg_small k
      have h4 := hb L
      split
      · have : sg (k : Int) = 1 ∨ sg (k : Int) = -1 := by unfold sg; omega
        rcases this with e | e <;> rw [e] <;> omega
      · omega
    rw [List.length_range] at h2
    have h5 : (L.length : Int) * B ≤ 7 * B := Int.mul_le_mul_of_nonneg_right (by have := (all_items hn hL).1; omega) h0
    constructor
    · omega
    · omega
  have h6 : ((allL n).length : Int) * (7 * B) ≤ 128 * (7 * B) := Int.mul_le_mul_of_nonneg_right (by omega) (by omega)
  have e : bordF n f S = sm (allL n) fun L => sm (List.range L.length) fun (k : Nat) => if L.eraseIdx k = S then f L * sg k else 0 := rfl
  rw [e]
  omega
theorem pair_bound {n : Nat} (hn : n ≤ 7) {f : List Int → Int} {B : Int} (h0 : 0 ≤ B) (hb : ∀ l, -B ≤ f l ∧ f l ≤ B) {M : List Int} (hM : M.length ≤ 7) : -(7 * B) ≤ pairF M f ∧ pairF M f ≤ 7 * B := by
  have h2 := sm_bound (l := List.range M.length) (g := fun (k : Nat) => sg k * f (M.eraseIdx k)) (B := B) fun k _ => by
    have h4 := hb (M.eraseIdx k)
    have : sg (k : Int) = 1 ∨ sg (k : Int) = -1 := by unfold sg; omega
    rcases this with e | e <;> rw [e] <;> omega
  rw [List.length_range] at h2
  have h5 : (M.length : Int) * B ≤ 7 * B := Int.mul_le_mul_of_nonneg_right (by omega) h0
  have e : pairF M f = sm (List.range M.length) fun (k : Nat) => sg k * f (M.eraseIdx k) := rfl
  rw [e]
  omega
theorem read_bound {n : Nat} (hn : n ≤ 7) {f g : List Int → Int} {B : Int} (h0 : 0 ≤ B) (hf : ∀ l, -9 ≤ f l ∧ f l ≤ 9) (hg : ∀ l, -B ≤ g l ∧ g l ≤ B) : -(128 * (9 * B)) ≤ sm (canon n g) (fun p => p.2 * f p.1) ∧ sm (canon n g) (fun p => p.2 * f p.1) ≤ 128 * (9 * B) := by
  have h2 := sm_bound (l := canon n g) (g := fun p => p.2 * f p.1) (B := 9 * B) fun p hp => by
    obtain ⟨_, a2, _⟩ := mem_canon.mp hp
    have h4 := hg p.1
    rw [← a2] at h4
    have h3 := hf p.1
    generalize f p.1 = x at h3
    have : x = -9 ∨ x = -8 ∨ x = -7 ∨ x = -6 ∨ x = -5 ∨ x = -4 ∨ x = -3 ∨ x = -2 ∨ x = -1 ∨ x = 0 ∨ x = 1 ∨ x = 2 ∨ x = 3 ∨ x = 4 ∨ x = 5 ∨ x = 6 ∨ x = 7 ∨ x = 8 ∨ x = 9 := by omega
    rcases this with rfl | rfl | rfl | rfl | rfl | rfl | rfl | rfl | rfl | rfl | rfl | rfl | rfl | rfl | rfl | rfl | rfl | rfl | rfl <;> omega
  have h5 : ((canon n g).length : Int) * (9 * B) ≤ 128 * (9 * B) := Int.mul_le_mul_of_nonneg_right (by have := canon128 hn g; omega) (by omega)
  omega
/-! ### values to be judged -/
structure GoodV (v : DL.D) : Prop where
  sh : ShW v
  nf : noF v = true
  it : ∀ q, v = .tuple q → q.length ≤ 1000 ∧ ∀ e ∈ q, OkP e
theorem good_of {B a b c : Nat} {ws : List Nat} {v : DL.D} (h : okW B (a :: b :: c :: ws) v = true) (hB : B < 2 ^ 38 := by decide) (ha : a ≤ 1000 := by decide) (hc : c ≤ 60 := by decide) (hw : wtW (a :: b :: c :: ws) ≤ 2 ^ 20 := by decide +kernel) (hl : (a :: b :: c :: ws).length ≤ 39 := by decide) : GoodV v :=
  ⟨okW_sh h hB hw hl, okW_noF h, fun q e => by
    subst e
    exact ⟨Nat.le_trans (okW_tupE h).1 ha, fun x hx => okP_of hc ((okW_tupE h).2 x hx)⟩⟩
def VG (d : DL.D) : Prop := ∃ v, UW true d v ∧ GoodV v
theorem vg_pl {v : DL.D} (h : GoodV v) : VG v := ⟨v, .inl rfl, h⟩
theorem eqv_nil (x : DL.D) (xs : List DL.D) : PyData.eqv (.tuple (x :: xs)) (.tuple []) = false := by
  simp [PyData.eqv, PyData.eqvAll]
theorem fam_one (n : Nat) : FamP n [[]] := ⟨fun l hl => by rw [List.mem_singleton.mp hl]; exact List.nil_sublist _, List.pairwise_singleton _ _, fun l hl s hs => by
  rw [List.mem_singleton.mp hl] at hs
  rw [List.sublist_nil.mp hs]
  exact List.mem_singleton_self _⟩
def lastF : List Int → Int := fun l => if l = [0, 1, 2] then 2 else 0
theorem all3 : allL 3 = [[], [0], [0, 1], [0, 1, 2], [0, 2], [1], [1, 2], [2]] := sorted_one (allL_lt 3) (by decide) fun x => by
  rw [mem_allL]
  rw [show rangeI 3 = [0, 1, 2] from rfl]
  rw [← mem_partsL]
  rw [show partsL [0, 1, 2] = [[], [0], [1], [0, 1], [2], [0, 2], [1, 2], [0, 1, 2]] from rfl]
  simp only [List.mem_cons, List.not_mem_nil, or_false]
  constructor
  all_goals
    intro h
    rcases h with h | h | h | h | h | h | h | h <;> simp [h]
theorem last_canon : canon 3 lastF = [([0, 1, 2], 2)] := by
  unfold canon
  rw [all3]
  decide +kernel
theorem last_bord : canon 3 (bordF 3 lastF) = [([0, 1], 2), ([0, 2], -2), ([1, 2], 2)] := by
  unfold canon bordF
  rw [all3]
  decide +kernel
end K61


/-! k61: bounds; a comprehension with draws and a test. -/
namespace K61
open PySem L2 DL
theorem all_items8 {n : Nat} (hn : n ≤ 8) {l : List Int} (h : l ∈ allL n) : l.length ≤ 8 ∧ ∀ x ∈ l, x.natAbs ≤ 8 := by
  refine ⟨Nat.le_trans (mem_at h) hn, fun x hx => ?_⟩
  have := mem_rangeI.mp ((mem_allL.mp h).subset hx)
  omega
theorem okW_ent8 {B : Nat} {n : Nat} (hn : n ≤ 8) (h7 : 8 ≤ B) {p : List Int × Int} (h : p.1 ∈ allL n) (hb : p.2.natAbs ≤ B) : okW B [2, 8] (entI p) = true := okW_tup (by show 2 ≤ 2; decide) fun d hd => by
  rcases List.mem_cons.mp hd with rfl | hd
  · exact okW_lot (all_items8 hn h).1 fun x hx => Nat.le_trans ((all_items8 hn h).2 x hx) h7
  · rw [List.mem_singleton.mp hd]; exact okW_int hb
theorem okW_ch8 {B : Nat} {n : Nat} (hn : n ≤ 8) (h7 : 8 ≤ B) {f : List Int → Int} (hb : ∀ l ∈ allL n, (f l).natAbs ≤ B) : ∀ d ∈ (canon n f).map entI, okW B [2, 8] d = true := fun d hd => by
  obtain ⟨p, hp, rfl⟩ := List.mem_map.mp hd
  obtain ⟨a1, a2, _⟩ := mem_canon.mp hp
  exact okW_ent8 hn h7 a1 (by rw [a2]; exact hb _ a1)
theorem okW_chT8 {B : Nat} {n : Nat} (hn : n ≤ 8) (h7 : 8 ≤ B) {f : List Int → Int} (hb : ∀ l ∈ allL n, (f l).natAbs ≤ B) : okW B [256, 2, 8] (chT n f) = true := okW_tup (by rw [List.length_map]; exact canon256 hn f) (okW_ch8 hn h7 hb)
theorem sh_ch8 {n : Nat} (hn : n ≤ 8) {f : List Int → Int} (hb : ∀ l ∈ allL n, (f l).natAbs ≤ 1000000000) : ShW (chT n f) := okW_sh (okW_chT8 hn (by decide) hb) (by decide) (by decide +kernel) (by decide)
theorem sh_list8 {vs : List DL.D} (hl : vs.length ≤ 3) (h : ∀ v ∈ vs, okW 1000000000 [256, 2, 8] v = true) : ShW (.list vs) := okW_sh (B := 1000000000) (ws := [3, 256, 2, 8]) (okW_list hl h) (by decide) (by decide +kernel) (by decide)
theorem ul_two (n : Nat) (f g : List Int → Int) : UL true (.list [chD (canon n f), chD (canon n g)]) (.list [chT n f, chT n g]) := .inr ⟨_, _, rfl, rfl, .cons (ch_uw n f) (.cons (ch_uw n g) .nil)⟩
theorem ul_three (n : Nat) (f g h : List Int → Int) : UL true (.list [chD (canon n f), chD (canon n g), chD (canon n h)]) (.list [chT n f, chT n g, chT n h]) := .inr ⟨_, _, rfl, rfl, .cons (ch_uw n f) (.cons (ch_uw n g) (.cons (ch_uw n h) .nil))⟩
theorem bord_bound8 {n : Nat} (hn : n ≤ 8) {f : List Int → Int} {B : Int} (h0 : 0 ≤ B) (hb : ∀ l, -B ≤ f l ∧ f l ≤ B) (S : List Int) : -(256 * (8 * B)) ≤ bordF n f S ∧ bordF n f S ≤ 256 * (8 * B) := by
  have hlen : (allL n).length ≤ 256 := by rw [allL_len]; exact Nat.pow_le_pow_right (by decide) hn
  have h1 := sm_bound (l := allL n) (g := fun L => sm (List.range L.length) fun (k : Nat) => if L.eraseIdx k = S then f L * sg k else 0) (B := 8 * B) fun L hL => by
    have h2 := sm_bound (l := List.range L.length) (g := fun (k : Nat) => if L.eraseIdx k = S then f L * sg k else 0) (B := B) fun k _ => by
      have h3 := sg_small k
      have h4 := hb L
      split
      · have : sg (k : Int) = 1 ∨ sg (k : Int) = -1 := by unfold sg; omega
        rcases this with e | e <;> rw [e] <;> omega
      · omega
    rw [List.length_range] at h2
    have h5 : (L.length : Int) * B ≤ 8 * B := Int.mul_le_mul_of_nonneg_right (by have := (all_items8 hn hL).1; omega) h0
    constructor
    · omega
    · omega
  have h6 : ((allL n).length : Int) * (8 * B) ≤ 256 * (8 * B) := Int.mul_le_mul_of_nonneg_right (by omega) (by omega)
  have e : bordF n f S = sm (allL n) fun L => sm (List.range L.length) fun (k : Nat) => if L.eraseIdx k = S then f L * sg k else 0 := rfl
  rw [e]
  omega
theorem sg_abs (k : Int) : (sg k).natAbs = 1 := by unfold sg; omega
theorem prod_bound {n : Nat} (hn : n ≤ 8) {f g : List Int → Int} {B C : Nat} (hf : ∀ l, (f l).natAbs ≤ B) (hg : ∀ l, (g l).natAbs ≤ C) (K : List Int) : (prodF n f g K).natAbs ≤ 65536 * (B * C) := by
  have hlen : (allL n).length ≤ 256 := by rw [allL_len]; exact Nat.pow_le_pow_right (by decide) hn
  have hm : ∀ m : Nat, ((allL n).length : Int) * (m : Int) ≤ 256 * (m : Int) := fun m => Int.mul_le_mul_of_nonneg_right (by omega) (by omega)
  have h1 := sm_bound (l := allL n) (g := fun A => sm (allL n) fun B => if dj A B ∧ unL n A B = K then f A * g B * sgn A B else 0) (B := 256 * ((B * C : Nat) : Int)) fun A _ => by
    have h2 := sm_bound (l := allL n) (g := fun B => if dj A B ∧ unL n A B = K then f A * g B * sgn A B else 0) (B := ((B * C : Nat) : Int)) fun D _ => by
      split
      · have h3 : (f A * g D * sgn A D).natAbs ≤ B * C := by
          rw [Int.natAbs_mul, Int.natAbs_mul, show (sgn A D).natAbs = 1 from sg_abs _, Nat.mul_one]
          exact Nat.mul_le_mul (hf A) (hg D)
        omega
      · omega
    have := hm (B * C)
    omega
  have h4 := hm (256 * (B * C))
  have e : prodF n f g K = sm (allL n) fun A => sm (allL n) fun B => if dj A B ∧ unL n A B = K then f A * g B * sgn A B else 0 := rfl
  rw [e]
  have e2 : ((256 * (B * C) : Nat) : Int) = 256 * ((B * C : Nat) : Int) := by omega
  rw [e2] at h4
  omega
theorem turn_bound {f : List Int → Int} {B : Nat} (hf : ∀ l, (f l).natAbs ≤ B) (l : List Int) : (turnF f l).natAbs ≤ B := by
  unfold turnF
  rw [Int.natAbs_mul, sg_abs, Nat.mul_one]
  exact hf l
theorem sgn_swap {a b : List Int} (h : dj a b) : sgn a b * sgn b a = 1 - 2 * ((a.length : Int) * b.length % 2) := by
  unfold sgn
  rw [← sg_add, inv_inv h]; rfl
end K61
namespace DL
open PySem L2
variable {X : Cx} {r : SR} {S : List Sl}
/-- [x for x in .. if ..], draws in the test, and something known of what is taken -/
theorem jn_lcSP {elt tg iter : Expr} {ifs : List Expr} {scope : Scope} {pos : Pos} (own : List (Str × Nat)) (ts : List Nat) (p : D → Prop) {K : List D → List Sl → Prop} (h : JI X r tg iter S fun ds S1 => noOwn (own.map (·.2)) S1 = true ∧ ds.length ≤ 1000000 ∧ (∀ d ∈ ds, Blk X scope fun Y => JG Y r tg ts d (wipeS S1 (own.map (·.2))) fun S2 => Blk X scope fun Y => JTs Y r ifs S2 fun b S3 => if b = true then Blk X scope fun Y => JE Y r elt S3 fun y S4 => (y = d ∧ p d) ∧ mrg (own.map (·.2)) S1 S4 = S1 else mrg (own.map (·.2)) S1 S3 = S1) ∧ ∀ zs : List D, zs.Sublist ds → (∀ z ∈ zs, p z) → K zs S1)
    (hc : X.calm = true := by rfl) (hN : X.N.Nodup := by assumption) (ok : BlkOk X.N X.env.scope scope own := by exact blkOk_by rfl) (hs : ∀ x, foldedSetIterable iter X.env x = pure x := by intro _; rfl) (hts : ∀ j ∈ ts, j ∈ own.map (·.2) := by decide) : JN X r (.ListComp elt [⟨tg, iter, ifs, 0⟩] scope pos) S K :=
  jn_lc own ts hc hN ok hs hts (h.mono fun ds S1 ⟨ho, hl, ht, hk⟩ => ⟨fun i acc S' => S' = S1 ∧ acc.Sublist (ds.take i) ∧ ∀ z ∈ acc, p z, ⟨rfl, List.nil_sublist _, fun _ h => nomatch h⟩, fun i acc S' ⟨e, ha, _⟩ hi => by
    subst e
    refine ⟨?_, noOwn_of ho⟩
    have hz : sizeLine = 16777216 := sizeLine_eq
    have := ha.length_le
    rw [List.length_take] at this
    omega, fun i d acc S' hd ⟨e, ha, hp⟩ => by
    subst e
    have tk : ds.take (i + 1) = ds.take i ++ [d] := by rw [List.take_succ, hd]; rfl
    intro s1 H1 C1 cl1 fp1
    refine (ht d (List.mem_of_getElem? hd) s1 H1 C1 cl1 fp1).mono fun S2 h2 => ?_
    intro s2 H2 C2 cl2 fp2
    refine (h2 s2 H2 C2 cl2 fp2).mono fun b S3 h3 => ?_
    cases b with
    | true =>
      rw [if_pos rfl] at h3 ⊢
      intro s3 H3 C3 cl3 fp3
      refine (h3 s3 H3 C3 cl3 fp3).mono fun y S4 ⟨⟨hy, hpd⟩, hm⟩ => ⟨hm, ?_, fun z hz => ?_⟩
      · rw [tk, hy]
        exact ha.append (List.Sublist.refl _)
      · rcases List.mem_append.mp hz with h | h
        · exact hp z h
        · rw [List.mem_singleton.mp h, hy]; exact hpd
    | false =>
      rw [if_neg Bool.false_ne_true] at h3 ⊢
      refine ⟨h3, ?_, hp⟩
      rw [tk]
      exact ha.trans (List.sublist_append_left _ _), fun acc S' ⟨e, ha, hp⟩ => by
    subst e
    rw [List.take_length] at ha
    exact hk acc ha hp⟩)
end DL

/-! k61: the law. -/
namespace K61
open PySem L2 DL
/-- where all defs stand -/
structure AllD (K : PySem.W.Frag) (mg : Str → Option Value) where
  b_range : mg "range" = none
  b_len : mg "len" = none
  b_tuple : mg "tuple" = none
  b_sorted : mg "sorted" = none
  b_enumerate : mg "enumerate" = none
  b_isinstance : mg "isinstance" = none
  b_all : mg "all" = none
  b_int : mg "int" = none
  b_bool : mg "bool" = none
  b_sum : mg "sum" = none
  b_dict : mg "dict" = none
  b_abs : mg "abs" = none
  b_max : mg "max" = none
  b_list : mg "list" = none
  b_repr : mg "repr" = none
  b_str : mg "str" = none
  b_zip : mg "zip" = none
  b_min : mg "min" = none
  {a1 a2 a3 a5 a6 a7 a8 a9 a10 a11 a13 a14 a15 a16 a17 a18 a19 a20 a21 a22 a23 a24 a25 a26 a27 : Addr}
  {f1 f2 f3 f5 f6 f7 f8 f9 f10 f11 f13 f14 f15 f16 f17 f18 f19 f20 f21 f22 f23 f24 f25 f26 f27 : FuncData}
  n1 : Dn K mg "sides_of" (topS 1) ["lot"] a1 f1
  n2 : Dn K mg "told_chain" (topS 2) ["numbers"] a2 f2
  n3 : Dn K mg "border_of" (topS 3) ["chain"] a3 f3
  n5 : Dn K mg "told_sum" (topS 5) ["numbers"] a5 f5
  n6 : Dn K mg "is_road_sum" (topS 6) ["many", "value"] a6 f6
  n7 : Dn K mg "lots_sign" (topS 7) ["one", "other"] a7 f7
  n8 : Dn K mg "added_sums" (topS 8) ["one", "other", "times"] a8 f8
  n9 : Dn K mg "multiplied_sums" (topS 9) ["one", "other"] a9 f9
  n10 : Dn K mg "sum_border" (topS 10) ["one"] a10 f10
  n11 : Dn K mg "ring_border" (topS 11) ["ring"] a11 f11
  n13 : Dn K mg "_law_source" (topS 13) ["script"] a13 f13
  n14 : Dn K mg "_law_pick" (topS 14) ["source", "many"] a14 f14
  n15 : Dn K mg "_law_of" (topS 15) ["source", "some"] a15 f15
  n16 : Dn K mg "_law_odd" (topS 16) ["number"] a16 f16
  n17 : Dn K mg "_law_told" (topS 17) ["numbers"] a17 f17
  n18 : Dn K mg "_law_added" (topS 18) ["one", "other", "times"] a18 f18
  n19 : Dn K mg "_law_sign" (topS 19) ["lot", "late"] a19 f19
  n20 : Dn K mg "_law_times" (topS 20) ["one", "other"] a20 f20
  n21 : Dn K mg "_law_border" (topS 21) ["one"] a21 f21
  n22 : Dn K mg "_law_sum" (topS 22) ["source", "m", "many"] a22 f22
  n23 : Dn K mg "_law_is_int" (topS 23) ["value"] a23 f23
  n24 : Dn K mg "_law_is_lot" (topS 24) ["m", "value"] a24 f24
  n25 : Dn K mg "_law_is_sum" (topS 25) ["m", "value"] a25 f25
  n26 : Dn K mg "_law_turned" (topS 26) ["one"] a26 f26
  n27 : Dn K mg "_law_exchanges" (topS 27) ["word"] a27 f27
theorem sclaw : FnScope ["script", "source", "lap", "m", "one", "other", "third", "kept", "times", "both", "told", "due", "lot", "late", "odd", "k", "values", "value", "shown", "r"] ["script"] (defScope (topS 28)) := ⟨rfl, rfl, rfl, by decide +kernel, rfl, by decide +kernel, by decide +kernel⟩
abbrev slotsN : List Str := ["script", "source", "lap", "m", "one", "other", "third", "kept", "times", "both", "told", "due", "lot", "late", "odd", "k", "values", "value", "shown", "r"]
theorem bool_sh (b : Bool) : ShW (.bool b) := okW_sh (B := 1) (ws := []) rfl (by decide) (by decide) (by decide)
theorem int_sh {i : Int} (h : i.natAbs ≤ 1000000000) : ShW (.int i) := okW_sh (B := 1000000000) (ws := []) (okW_int h) (by decide) (by decide) (by decide)
def oddV (n : Nat) : List DL.D := [.none, .bool true, .int 0, .int 1, .int (-1), .int (n : Int), .str "0", .tuple [], .tuple [.int 0], .tuple [.tuple [], .int 1], .tuple [.tuple [.int 0], .int 0], .tuple [.tuple [.int 1, .int 0], .int 1], .list [.int 0]]
theorem okW_oddV {n : Nat} (hn : n ≤ 8) : ∀ d ∈ oddV n, okW 1000000000 [2, 2] d = true := by
  intro d hd
  have hi : okW 1000000000 [2, 2] (.int (n : Int)) = true := okW_int (by omega)
  unfold oddV at hd
  simp only [List.mem_cons, List.not_mem_nil, or_false] at hd
  rcases hd with rfl | rfl | rfl | rfl | rfl | rfl | rfl | rfl | rfl | rfl | rfl | rfl | rfl
  all_goals first | exact hi | decide +kernel
section
variable {P : Program} {w : World} {K : PySem.W.Frag} {mg : Str → Option Value} {base : Heap}
theorem ok_law {f : Addr} {fd : FuncData} (F : Fun K "law" "law" (topS 28) f fd) (D : AllD K mg) : FnG P w K mg base 8 f fd ["script"] (spLaw K) := by
  have nd := sclaw.nd
  have T : Txt mg := ⟨D.b_range, D.b_tuple, D.b_all, D.b_len, D.b_list, D.b_enumerate⟩
  have T2 : Txs mg := ⟨D.b_len, D.b_max, D.b_int, D.b_abs⟩
  have T3 : Txd mg := ⟨D.b_dict, D.b_sorted⟩
  have T4 : Txo mg := ⟨D.b_isinstance, D.b_int, D.b_bool, D.b_tuple, D.b_str⟩
  have T5 : Txf mg := ⟨D.b_isinstance, D.b_sum, D.b_bool⟩
  refine fnG_of F sclaw (fun vs H Q E h => ?_) (fun cdv A outer s H vs Q E hg hr h => ?_)
  · obtain ⟨a, ns, rfl, _⟩ := h
    rfl
  obtain ⟨a, ns, rfl, hS, hns, q⟩ := h
  refine ⟨_, pss_cons (ps_set (i := 1) nd rfl (.inr rfl) (pe_call (ok_source (P := P) (w := w) (base := base) D.n13.F T2) (hr.mono (by decide)) rfl D.n13.g D.n13.F.kp D.n13.b .nil pass0 (pa_cons (pv 0) pa_nil))) pss_tSs, ?_⟩
  refine ⟨.ref a, rfl, a, ns, rfl, hS, by omega, fun H' p sm n1 n2 ok => ?_⟩
  have Ev := ev_src (H := H) (H' := H') (p := p) (m := 20) (j := 1) (σ := [some (.ref a), some (.ref p.1)] ++ List.replicate 18 none) rfl rfl sm n1 n2 ok
  suffices J : JSs (cxOf CX0 P w K mg base slotsN "law" (defScope (topS 28)) f cdv A outer s H E).nox (srL ⟨H, fun _ => none, some p⟩) ((defBody (topS 28)).drop 1)
      ((List.replicate 20 .emp).set 1 .src) { nx := fun _ => False, rt := fun d => d = .bool true } from
    J ⟨H, fun _ => none, some p⟩ (fun _ => none) _ H' (srL_refl _) Ev _ ⟨fun _ _ _ _ z => z.elim, fun v d F' H2 e fn rp => (by subst e; cases rp; exact q H2), fun _ _ _ _ z => z.elim, fun _ _ _ _ z => z.elim⟩
  clear Ev ok n1 n2 sm q hS hns
  have hgd : (A.deeper (PyProof.Rows.envOfC "law" (defScope (topS 28)) s.heap.objs.size f cdv)).guards = some [] := hg
  have GP := ok_pick (P := P) (w := w) (base := base) D.n14.F T2
  have GOf := ok_of (P := P) (w := w) (base := base) D.n15.F T2 D.n14
  have GO := ok_odd (P := P) (w := w) (mg := mg) (base := base) D.n16.F
  have GS := ok_lsum (P := P) (w := w) (base := base) D.n22.F T T2 T3 D.n14 D.n17 D.n15
  have GA := ok_added (P := P) (w := w) (base := base) D.n8.F T T3 D.n5
  have GLA := ok_ladded (P := P) (w := w) (base := base) D.n18.F T T3 D.n17
  have GM := ok_mult (P := P) (w := w) (base := base) (fO := f) (fdO := fd) D.n9.F T T3 T5 D.n5 D.n7
  have GLM := ok_times (P := P) (w := w) (base := base) D.n20.F T T3 T5 D.n17 D.n19 D.n16
  have GB := ok_sborder (P := P) (w := w) (base := base) D.n10.F T T3 D.n8 D.n3 D.n1 D.n2 D.n5
  have GLB := ok_lborder (P := P) (w := w) (base := base) D.n21.F T T3 D.n17 D.n16
  have GR := ok_rborder (P := P) (w := w) (base := base) D.n11.F T T3 D.n10 D.n8 D.n3 D.n1 D.n2 D.n5
  have GT := ok_turned (P := P) (w := w) (base := base) D.n26.F T T3 D.n17 D.n16
  have GSg := ok_sign (P := P) (w := w) (base := base) D.n7.F T T5
  have GX := ok_exch (P := P) (w := w) (base := base) D.n27.F T
  have GI := ok_isum (P := P) (w := w) (base := base) D.n6.F T T4
  have GLI := ok_lisum (P := P) (w := w) (base := base) D.n25.F T T4 T3 D.n24 D.n23
  have hz : sizeLine = 16777216 := sizeLine_eq
  refine jfor [2] (jrange1 T.ran (je_int ⟨5, rfl, by decide, by decide, ?_⟩))
  refine ⟨fun i S' => ∃ (s2 s3 s4 s5 s6 s7 s8 s9 s10 s11 s13 s14 s15 s16 s17 s18 : Sl) (o12 : Option DL.D), S' = [.emp, .src, s2, s3, s4, s5, s6, s7, s8, s9, s10, s11, vS o12, s13, s14, s15, s16, s17, s18, .emp], ⟨.emp, .emp, .emp, .emp, .emp, .emp, .emp, .emp, .emp, .emp, .emp, .emp, .emp, .emp, .emp, .emp, none, rfl⟩, ?_, ?_⟩
  · rintro lap d S' hd ⟨s2, s3, s4, s5, s6, s7, s8, s9, s10, s11, s13, s14, s15, s16, s17, s18, o12, rfl⟩
    clear hd
    refine jg 2 ?_
    refine jset 3 <| jcall hr D.n14 GP <| jAs 1 <| ja1 <| je_int ⟨9, rfl, by decide, fun v v0 v1 => ?_⟩
    obtain ⟨n, rfl, hn⟩ : ∃ n : Nat, v = (n : Int) ∧ n ≤ 8 := ⟨v.toNat, by omega, by rw [if_pos (by decide)] at v1; omega⟩
    clear v0 v1
    have hn12 : n ≤ 12 := by omega
    refine jpar3 4 5 6 <| jcall hr D.n22 GS <| jAs 1 <| jA2 <| jv 3 <| je_int ⟨n, 4, rfl, hn12, by decide, fun f1 hf1 => ?_⟩
    refine jcall hr D.n22 GS <| jAs 1 <| jA2 <| jv 3 <| je_int ⟨n, 4, rfl, hn12, by decide, fun f2 hf2 => ?_⟩
    refine jcall hr D.n22 GS <| jAs 1 <| jA2 <| jv 3 <| je_int ⟨n, 3, rfl, hn12, by decide, fun f3 hf3 => ?_⟩
    have a1 : ∀ l, (f1 l).natAbs ≤ 5 := fun l => by have := hf1 l; omega
    have a2 : ∀ l, (f2 l).natAbs ≤ 5 := fun l => by have := hf2 l; omega
    have a3 : ∀ l, (f3 l).natAbs ≤ 5 := fun l => by have := hf3 l; omega
    have p12 := prod_bound hn a1 a2
    have p23 := prod_bound hn a2 a3
    have b1 := bord_bound8 hn (B := 5) (by decide) hf1
    have b2 := bord_bound8 hn (B := 5) (by decide) hf2
    have t1 := turn_bound a1
    have ok1 : okW 1000000000 [256, 2, 8] (chT n f1) = true := okW_chT8 hn (by decide) fun l _ => by have := a1 l; omega
    have ok2 : okW 1000000000 [256, 2, 8] (chT n f2) = true := okW_chT8 hn (by decide) fun l _ => by have := a2 l; omega
    have ok3 : okW 1000000000 [256, 2, 8] (chT n f3) = true := okW_chT8 hn (by decide) fun l _ => by have := a3 l; omega
    have so123 : ShW (.list [chT n f1, chT n f2, chT n f3]) := sh_list8 (by show 3 ≤ 3; decide) (by
      intro v hv
      simp only [List.mem_cons, List.not_mem_nil, or_false] at hv
      rcases hv with rfl | rfl | rfl
      · exact ok1
      · exact ok2
      · exact ok3)
    refine jpar2 7 8 <| jreprU (p := true) hgd hr D.b_repr <| JN.je <| jn_lst <| jA <| jv 4 <| jA <| jv 5 <| ja1 <| jv 6 ⟨_, rfl, by show 3 ≤ sizeLine; omega, _, ul_three n f1 f2 f3, so123, ?_⟩
    refine je_op op_sub <| jcall hr D.n14 GP <| jAs 1 <| ja1 <| je_int ⟨9, rfl, by decide, fun v v0 v1 => je_int <| od_I0 ?_⟩
    obtain ⟨t, ht, t0, t1⟩ : ∃ t : Int, v - 4 = t ∧ -10 ≤ t ∧ t ≤ 10 := ⟨_, rfl, by omega, by rw [if_pos (by decide)] at v1; omega⟩
    rw [ht]
    clear ht v0 v1
    show JSs _ _ _ [.emp, .src, .val d, .val (.int (n : Int)), .val (chD (canon n f1)), .val (chD (canon n f2)), .val (chD (canon n f3)), .val (.str (PyData.list [chT n f1, chT n f2, chT n f3]).shown), .val (.int t), s9, s10, s11, vS o12, s13, s14, s15, s16, s17, s18, .emp] _
    have ba : ∀ l, (f1 l + t * f2 l).natAbs ≤ 1000000000 := fun l => by
      have h1 := a1 l
      have h2 : (t * f2 l).natAbs ≤ 10 * 5 := by
        rw [Int.natAbs_mul]
        exact Nat.mul_le_mul (by omega) (a2 l)
      omega
    refine jifF (jtcmp op_neD <| jreprU (p := true) hgd hr D.b_repr <| jcall hr D.n8 GA <| jA <| jv 4 <| jA2 <| jv 5 <| jv 8 ⟨n, f1, f2, t, rfl, hn12, by omega, by omega, _, .inl (ch_uw n _), sh_ch8 hn (fun l _ => ba l), ?_⟩) <| jss_nil ?_
    · exact jreprU (p := true) hgd hr D.b_repr <| jcall hr D.n18 GLA <| jA <| jv 4 <| jA2 <| jv 5 <| jv 8 ⟨n, f1, f2, t, rfl, hn12, by omega, by omega, _, .inl (ch_uw n _), sh_ch8 hn (fun l _ => ba l), od_ne (α := Str) hr (by decide) ⟨_, rfl, ne_self _, rfl⟩⟩
    clear ba
    have c1 : ∀ l, -1000000000000 ≤ f1 l ∧ f1 l ≤ 1000000000000 := fun l => by have := a1 l; omega
    have c2 : ∀ l, -1000000000000 ≤ f2 l ∧ f2 l ≤ 1000000000000 := fun l => by have := a2 l; omega
    have c3 : ∀ l, -1000000000000 ≤ f3 l ∧ f3 l ≤ 1000000000000 := fun l => by have := a3 l; omega
    have c12 : ∀ l, -1000000000000 ≤ prodF n f1 f2 l ∧ prodF n f1 f2 l ≤ 1000000000000 := fun l => by have := p12 l; omega
    have c23 : ∀ l, -1000000000000 ≤ prodF n f2 f3 l ∧ prodF n f2 f3 l ≤ 1000000000000 := fun l => by have := p23 l; omega
    have cb1 : ∀ l, -1000000000000 ≤ bordF n f1 l ∧ bordF n f1 l ≤ 1000000000000 := fun l => by have := b1 l; omega
    have cb2 : ∀ l, -1000000000000 ≤ bordF n f2 l ∧ bordF n f2 l ≤ 1000000000000 := fun l => by have := b2 l; omega
    have ct1 : ∀ l, -1000000000000 ≤ turnF f1 l ∧ turnF f1 l ≤ 1000000000000 := fun l => by have := turn_bound a1 l; omega
    refine jset 9 <| jcall hr D.n20 GLM <| jA2 <| jv 4 <| jv 5 ⟨n, f1, f2, rfl, hn, c1, c2, ?_⟩
    have ok12 : okW 1000000000 [256, 2, 8] (chT n (prodF n f1 f2)) = true := okW_chT8 hn (by decide) fun l _ => by have := p12 l; omega
    have okb1 : okW 1000000000 [256, 2, 8] (chT n (bordF n f1)) = true := okW_chT8 hn (by decide) fun l _ => by have := b1 l; omega
    have sob : ShW (.list [chT n (prodF n f1 f2), chT n (bordF n f1)]) := sh_list8 (by show 2 ≤ 3; decide) (by
      intro v hv
      simp only [List.mem_cons, List.not_mem_nil, or_false] at hv
      rcases hv with rfl | rfl
      · exact ok12
      · exact okb1)
    refine jset 10 <| JN.je <| jlst2 <| jcall hr D.n9 GM <| jA2 <| jv 4 <| jv 5 ⟨n, f1, f2, rfl, hn, c1, c2, jcall hr D.n10 GB <| ja1 <| jv 4 ⟨n, f1, rfl, hn12, ?_⟩⟩
    refine jifF (JW.jt <| jw_or <| jtcmp op_neD <| jreprU (p := true) hgd hr D.b_repr <| jv 10 ⟨_, ul_two n _ _, sob, ?_⟩) <| jss_nil ?_
    · refine jreprU (p := true) hgd hr D.b_repr <| JN.je <| jlst2 <| jv 9 <| jcall hr D.n21 GLB <| ja1 <| jv 4 ⟨n, f1, rfl, hn12, _, ul_two n _ _, sob, od_ne (α := Str) hr (by decide) ⟨_, rfl, iff' (ne_self _) ?_⟩⟩
      refine jw_or1 <| jtcmp op_neF <| jcall hr D.n10 GB <| ja1 <| jcall hr D.n10 GB <| ja1 <| jv 4 ⟨n, f1, rfl, hn12, n, bordF n f1, rfl, hn12, jtup0F ?_⟩
      rw [canon_zero fun l hl => bord_bord hl]
      have n0 : Nice 50 (.tuple []) := nice_tup (n := 49) nice_nil
      exact od_eqF hr (neg := true) (d1 := []) (d2 := []) n0 n0 ⟨_, rfl, by rw [if_pos rfl]; exact neqv_self n0, rfl⟩
    have ea : canon n (prodF n (prodF n f1 f2) f3) = canon n (prodF n f1 (prodF n f2 f3)) := canon_ext fun l _ => prod_assoc l
    refine jifF (jtcmp op_neF <| jcall hr D.n9 GM <| jA2 <| jv 9 <| jv 6 ⟨n, prodF n f1 f2, f3, rfl, hn, c12, c3, ?_⟩) <| jss_nil ?_
    · refine jcall hr D.n9 GM <| jA2 <| jv 4 <| jcall hr D.n9 GM <| jA2 <| jv 5 <| jv 6 ⟨n, f2, f3, rfl, hn, c2, c3, n, f1, prodF n f2 f3, rfl, hn, c1, c23, ?_⟩
      rw [ea]
      exact od_eqF hr (neg := true) (nice_ch n _) (nice_ch n _) ⟨_, rfl, by rw [if_pos rfl]; exact neqv_self (nice_ch n _), rfl⟩
    clear ea
    refine jset 11 <| jcall hr D.n18 GLA <| jA <| jcall hr D.n20 GLM <| jA2 <| jcall hr D.n21 GLB <| ja1 <| jv 4 ⟨n, f1, rfl, hn12, jv 5 ⟨n, bordF n f1, f2, rfl, hn, cb1, c2, ?_⟩⟩
    refine jA2 <| jcall hr D.n20 GLM <| jA2 <| jcall hr D.n26 GT <| ja1 <| jv 4 ⟨n, f1, rfl, hn12, jcall hr D.n21 GLB <| ja1 <| jv 5 ⟨n, f2, rfl, hn12, n, turnF f1, bordF n f2, rfl, hn, ct1, cb2, je_int ⟨n, _, _, 1, rfl, hn12, by decide, by decide, ?_⟩⟩⟩
    have el : canon n (bordF n (prodF n f1 f2)) = canon n fun l => prodF n (bordF n f1) f2 l + 1 * prodF n (turnF f1) (bordF n f2) l := canon_ext fun l _ => prod_bord l
    refine jifF (jtcmp op_neF <| jcall hr D.n10 GB <| ja1 <| jv 9 ⟨n, prodF n f1 f2, rfl, hn12, jv 11 ?_⟩) <| jss_nil ?_
    · rw [el]
      exact od_eqF hr (neg := true) (nice_ch n _) (nice_ch n _) ⟨_, rfl, by rw [if_pos rfl]; exact neqv_self (nice_ch n _), rfl⟩
    clear el c12 c23 cb1 cb2 ct1 sob ok12 okb1
    -- two lots
    show JSs _ _ _ [.emp, .src, .val d, .val (.int (n : Int)), .val (chD (canon n f1)), .val (chD (canon n f2)), .val (chD (canon n f3)), .val (.str (PyData.list [chT n f1, chT n f2, chT n f3]).shown), .val (.int t), .val (chD (canon n (prodF n f1 f2))), .val (.list [chD (canon n (prodF n f1 f2)), chD (canon n (bordF n f1))]), .val (chD (canon n fun l => prodF n (bordF n f1) f2 l + 1 * prodF n (turnF f1) (bordF n f2) l)), vS o12, s13, s14, s15, s16, s17, s18, .emp] _
    refine jset 12 <| jtupN T.tup <| jn_lcS [("r", 19)] [19] <| jrange1 T.ran <| jv 3 ⟨(n : Int), rfl, by omega, by omega, by cases o12 <;> rfl, by rw [rangeD_length]; omega, fun x hx => ?_, fun zs hzs => ?_⟩
    · intro _ _ _ _ _
      refine jg 19 ?_
      intro _ _ _ _ _
      refine (show JT _ _ _ _ _ from jtcmp op_eqD <| jcall hr D.n14 GP <| jAs 1 <| ja1 <| je_int ⟨2, rfl, by decide, fun v _ _ => je_int <| od_eq (α := Int) hr (by decide) ⟨_, rfl, ?_⟩⟩)
      refine ifb (fun _ => ?_) (fun _ => ?_)
      · intro _ _ _ _ _
        exact jv 19 ⟨rfl, by cases o12 <;> rfl⟩
      · cases o12 <;> rfl
    rw [show rangeD 0 ((n : Int).toNat) = (rangeI n).map .int from rangeD_ints n] at hzs
    obtain ⟨la, hla, rfl⟩ := List.sublist_map_iff.mp hzs
    have hA : la ∈ allL n := mem_allL.mpr hla
    have iA := all_items8 hn hA
    clear hzs hla
    refine jset 13 <| jtupN T.tup <| jn_lcSP [("r", 19)] [19] (fun z => ∃ x : Int, z = .int x ∧ x ∉ la) <| jrange1 T.ran <| jv 3 ⟨(n : Int), rfl, by omega, by omega, rfl, by rw [rangeD_length]; omega, fun x hx => ?_, fun zs hzs hzp => ?_⟩
    · rw [show rangeD 0 ((n : Int).toNat) = (rangeI n).map .int from rangeD_ints n] at hx
      obtain ⟨y, hy, rfl⟩ := List.mem_map.mp hx
      intro _ _ _ _ _
      refine jg 19 ?_
      intro _ _ _ _ _
      refine (show JT _ _ _ _ _ from JW.jt <| jw_and <| jtcmp op_notInD <| jv 19 <| jv 12 <| od_niT (α := Int) hr (by decide) ⟨_, rfl, ifb (fun h1 => ?_) (fun h1 => ?_)⟩)
      · refine jw_and1 <| jtcmp op_eqD <| jcall hr D.n14 GP <| jAs 1 <| ja1 <| je_int ⟨2, rfl, by decide, fun v _ _ => je_int <| od_eq (α := Int) hr (by decide) ⟨_, rfl, ?_⟩⟩
        refine ifb (fun _ => ?_) (fun _ => rfl)
        intro _ _ _ _ _
        exact jv 19 ⟨⟨rfl, y, rfl, by simpa using h1⟩, rfl⟩
      · rfl
    rw [show rangeD 0 ((n : Int).toNat) = (rangeI n).map .int from rangeD_ints n] at hzs
    obtain ⟨lb, hlb, rfl⟩ := List.sublist_map_iff.mp hzs
    have hB : lb ∈ allL n := mem_allL.mpr hlb
    have iB := all_items8 hn hB
    have hd : dj la lb := fun x h1 h2 => by
      obtain ⟨y, e, hy⟩ := hzp (.int x) (List.mem_map.mpr ⟨x, h2, rfl⟩)
      cases e
      exact hy h1
    clear hzs hlb hzp
    have sA : ∀ a b, (sgn a b).natAbs ≤ 1000000000 := fun a b => by have := sg_abs (inv a b); unfold sgn; omega
    refine jifF (jtcmp op_neD <| jreprW hgd hr D.b_repr <| jcall hr D.n7 GSg <| jA2 <| jv 12 <| jv 13 ⟨la, lb, rfl, by omega, by omega, int_sh (sA _ _), ?_⟩) <| jss_nil ?_
    · refine jreprW hgd hr D.b_repr <| jcall hr D.n27 GX <| ja1 <| je_op op_catA <| jv 12 <| jv 13 <| od_catT ?_ ⟨la ++ lb, congrArg (fun x => [Ar.d (PyData.tuple x)]) List.map_append.symm, by rw [List.length_append]; omega, ?_⟩
      · rw [List.length_map, List.length_map]; omega
      rw [ex_sign (lot_lt hA) (lot_lt hB)]
      exact ⟨int_sh (sA _ _), od_ne (α := Str) hr (by decide) ⟨_, rfl, ne_self _, rfl⟩⟩
    refine jifF (jtcmp op_neD <| je_op op_mul <| jcall hr D.n7 GSg <| jA2 <| jv 12 <| jv 13 ⟨la, lb, rfl, by omega, by omega, jcall hr D.n7 GSg <| jA2 <| jv 13 <| jv 12 ⟨lb, la, rfl, by omega, by omega, od_I (sg_mul _ _) ?_⟩⟩) <| jss_nil ?_
    · refine je_op op_sub <| je_int <| je_op op_mul <| je_int <| jcall hr D.n16 GO <| ja1 <| je_op op_mul <| jlen T.len <| jv 12 ⟨la.map .int, .inr rfl, jlen T.len <| jv 13 ⟨lb.map .int, .inr rfl, od_I ?_ ⟨_, rfl, od_I (.inl ⟨by decide, by decide⟩) <| od_I0 <| od_ne (α := Int) hr (by decide) ⟨_, rfl, ?_, rfl⟩⟩⟩⟩
      · rw [List.length_map, List.length_map]
        exact .inl ⟨by omega, by omega⟩
      · rw [List.length_map, List.length_map, sgn_swap hd]
        exact ne_self _
    refine jifF (JW.jt <| jw_and <| jt_chain (pt_chain op_lt op_lt pe_tE pe_tE pe_tE) <| je_int <| jlen T.len <| jv 12 ⟨la.map .int, .inr rfl, od_B0 ⟨_, rfl, ifb (fun h3 => je_int <| od_B0 ⟨_, rfl, ifb (fun h4 => ?_) (fun h4 => ⟨rfl, rfl⟩)⟩) (fun h3 => ⟨rfl, rfl⟩)⟩⟩) <| jss_nil ?_
    · have s1 := sin_canon (n := n) (p := (la, 1)) hA (show (1 : Int) ≠ 0 by decide)
      have bs : ∀ l, (sinF (la, 1) l).natAbs ≤ 5 := fun l => by
        unfold sinF
        split
        · show (1 : Int).natAbs ≤ 5
          decide
        · decide
      have bb := bord_bound8 hn (B := 5) (by decide) fun l => (by have := bs l; omega : -5 ≤ sinF (la, 1) l ∧ sinF (la, 1) l ≤ 5)
      have so := sh_ch8 hn (f := bordF n (sinF (la, 1))) fun l _ => by have := bb l; omega
      refine jw_and1 <| jtcmp op_neD <| jreprU (p := true) hgd hr D.b_repr <| jcall hr D.n11 GR <| ja1 <| jv 12 ⟨n, la, rfl, hn12, hA, _, .inl (ch_uw n _), so, ?_⟩
      exact jreprU (p := true) hgd hr D.b_repr <| jcall hr D.n21 GLB <| ja1 <| jtup1F <| jtup2 <| jv 12 <| je_int ⟨n, sinF (la, 1), by rw [s1]; rfl, hn12, _, .inl (ch_uw n _), so, od_ne (α := Str) hr (by decide) ⟨_, rfl, ne_self _, rfl⟩⟩
    -- something odd
    show JSs _ _ _ [.emp, .src, .val d, .val (.int (n : Int)), .val (chD (canon n f1)), .val (chD (canon n f2)), .val (chD (canon n f3)), .val (.str (PyData.list [chT n f1, chT n f2, chT n f3]).shown), .val (.int t), .val (chD (canon n (prodF n f1 f2))), .val (.list [chD (canon n (prodF n f1 f2)), chD (canon n (bordF n f1))]), .val (chD (canon n fun l => prodF n (bordF n f1) f2 l + 1 * prodF n (turnF f1) (bordF n f2) l)), .val (tupI la), .val (tupI lb), s14, s15, s16, s17, s18, .emp] _
    refine jset 14 <| jcall hr D.n15 GOf <| jAs 1 <| ja1 <| JN.je <| jn_lst ?_
    refine jA ?_
    refine je_non ?_
    refine jA ?_
    refine je_bl ?_
    refine jA ?_
    refine je_int ?_
    refine jA ?_
    refine je_int ?_
    refine jA ?_
    refine je_un un_neg <| je_int <| ud_neg ?_
    refine jA ?_
    refine jv 3 ?_
    refine jA ?_
    refine je_str ?_
    refine jA ?_
    refine jtup0 ?_
    refine jA ?_
    refine jtup1 ?_
    refine je_int ?_
    refine jA ?_
    refine jtup2 ?_
    refine jtup0 ?_
    refine je_int ?_
    refine jA ?_
    refine jtup2 ?_
    refine jtup1 ?_
    refine je_int ?_
    refine je_int ?_
    refine jA ?_
    refine jtup2 ?_
    refine jtup2 <| je_int <| je_int ?_
    refine je_int ?_
    refine ja1 ?_
    refine JN.je ?_
    refine jlst1 ?_
    refine je_int ⟨oddV n, rfl, by show 13 ≤ sizeLine; omega, _, rfl, (fun e => by cases e), by show 13 ≤ 1000000; decide, fun od hod => ?_⟩
    have okO := okW_oddV hn od hod
    have okO8 : okW 1000000000 [2, 8] od = true := okW_up (B := 1000000000) (B' := 1000000000) (ws := [2, 2]) (ws' := [2, 8]) (Nat.le_refl _) (by decide) okO
    have okO2 : okW 1000000000 [2, 2, 2] od = true := okW_up (B := 1000000000) (B' := 1000000000) (ws := [2, 2]) (ws' := [2, 2, 2]) (Nat.le_refl _) (by decide) okO
    clear hod
    have hcl := canon256 hn f1
    refine jset 15 <| jcall hr D.n14 GP <| jAs 1 <| ja1 <| je_op op_add <| jlenG (p := true) T.len <| jv 4 ⟨_, chD_wt n f1, je_int <| od_I0 ⟨_, rfl, by rw [List.length_map]; omega, fun v v0 v1 => ?_⟩⟩
    obtain ⟨k, rfl⟩ : ∃ k : Nat, v = (k : Int) := ⟨v.toNat, by omega⟩
    clear v0 v1
    have okOne : ∀ d ∈ (canon n f1).map entI, okW 1000000000 [2, 8] d = true := okW_ch8 hn (by decide) fun l _ => by have := a1 l; omega
    have one1 : ∀ {w : Nat} {ws : List Nat} {d : DL.D}, 1 ≤ w → okW 1000000000 ws d = true → okW 1000000000 (w :: ws) (.tuple [d]) = true := fun hw h => okW_tup (by show 1 ≤ _; exact hw) fun x hx => by rw [List.mem_singleton.mp hx]; exact h
    have two1 : ∀ {w : Nat} {ws : List Nat} {d e : DL.D}, 2 ≤ w → okW 1000000000 ws d = true → okW 1000000000 ws e = true → okW 1000000000 (w :: ws) (.tuple [d, e]) = true := fun hw h h2 => okW_tup (by show 2 ≤ _; exact hw) fun x hx => by
      rcases List.mem_cons.mp hx with rfl | hx
      · exact h
      · rw [List.mem_singleton.mp hx]; exact h2
    have okI : ∀ (i : Int), i.natAbs ≤ 1000000 → ∀ ws, okW 1000000000 ws (.int i) = true := fun i h ws => okW_int (by omega)
    have okA : ∀ ws, okW 1000000000 (8 :: ws) (tupI la) = true := fun ws => okW_lot iA.1 fun x hx => by have := iA.2 x hx; omega
    have gpair : ∀ {a b : DL.D}, okW 1000000000 [8, 2] a = true → okW 1000000000 [8, 2] b = true → VG (.tuple [.tuple [a, b]]) := fun h1 h2 => vg_pl (good_of (B := 1000000000) (a := 2) (b := 2) (c := 8) (ws := [2]) (one1 (by decide) (two1 (by decide) h1 h2)))
    show JSs _ _ _ [.emp, .src, .val d, .val (.int (n : Int)), .val (chD (canon n f1)), .val (chD (canon n f2)), .val (chD (canon n f3)), .val (.str (PyData.list [chT n f1, chT n f2, chT n f3]).shown), .val (.int t), .val (chD (canon n (prodF n f1 f2))), .val (.list [chD (canon n (prodF n f1 f2)), chD (canon n (bordF n f1))]), .val (chD (canon n fun l => prodF n (bordF n f1) f2 l + 1 * prodF n (turnF f1) (bordF n f2) l)), .val (tupI la), .val (tupI lb), .val od, .val (.int (k : Int)), s16, s17, s18, .emp] _
    refine jsetN 16 <| JN.keepP (fun ds => ds.length = 9 ∧ ∀ d ∈ ds, VG d) ?_ fun V1 hV1 => ?_
    · refine jn_lst ?_
      refine jA <| jv 4 ?_
      refine jA <| JN.je <| jlistG (p := true) T.lst <| jv 4 ⟨_, chD_wt n f1, ?_⟩
      refine jA <| je_revG (p := true) <| jv 4 ⟨_, chD_wt n f1, ?_⟩
      refine jA <| je_op op_catA <| jv 4 <| jv 4 <| od_catG (chD_wt n f1) (chD_wt n f1) ?_ fun d3 w3 => ?_
      · rw [List.length_map]; omega
      refine jA <| je_op op_catA <| je_op op_catA <| je_cutToG (p := true) <| jv 4 <| jv 15 ⟨_, k, chD_wt n f1, rfl, fun dt wt => ?_⟩
      refine jtup1 <| jv 14 <| od_catG (p := true) wt .pl ?_ fun d4 w4 => ?_
      · rw [List.length_take, List.length_map, List.length_singleton]; omega
      refine je_cutFromG (p := true) <| jv 4 <| je_op op_add <| jv 15 <| je_int <| od_I0 ⟨_, k + 1, chD_wt n f1, rfl, fun du wu => od_catG (p := true) w4 wu ?_ fun d5 w5 => ?_⟩
      · rw [List.length_append, List.length_take, List.length_map, List.length_singleton, List.length_drop, List.length_map]; omega
      refine jA ?_
      refine je_non ?_
      refine jA ?_
      refine jtup0 ?_
      refine jA <| jv 14 ?_
      refine ja1 ?_
      refine jtup1 ?_
      refine jtup2 ?_
      refine jtup1 <| jv 3 ?_
      refine je_int ⟨_, rfl, by show 9 ≤ sizeLine; omega, rfl, rfl, ?_⟩
      simp only [List.forall_mem_cons]
      refine ⟨⟨_, ch_uw n f1, good_of (B := 1000000000) (a := 256) (b := 2) (c := 8) (ws := []) ok1⟩, vg_pl (good_of (B := 1000000000) (a := 256) (b := 2) (c := 8) (ws := []) (okW_list (by rw [List.length_map]; exact hcl) okOne)), vg_pl (good_of (B := 1000000000) (a := 256) (b := 2) (c := 8) (ws := []) (okW_tup (by rw [List.length_reverse, List.length_map]; exact hcl) fun d hd => okOne d (List.mem_reverse.mp hd))), ⟨_, w3.uw, good_of (B := 1000000000) (a := 512) (b := 2) (c := 8) (ws := []) (okW_tup (by rw [List.length_append, List.length_map]; omega) fun d hd => ?_)⟩, ⟨_, w5.uw, good_of (B := 1000000000) (a := 257) (b := 2) (c := 8) (ws := []) (okW_tup (by rw [List.length_append, List.length_append, List.length_take, List.length_drop, List.length_map, List.length_singleton]; omega) fun d hd => ?_)⟩, vg_pl (good_of (B := 1000000000) (a := 1) (b := 2) (c := 8) (ws := []) rfl), vg_pl (good_of (B := 1000000000) (a := 1) (b := 2) (c := 8) (ws := []) (okW_tup (Nat.zero_le _) fun x hx => nomatch hx)), vg_pl (good_of (B := 1000000000) (a := 2) (b := 2) (c := 2) (ws := []) okO2), gpair (one1 (w := 8) (ws := [2]) (by decide) (okI _ (by omega) _)) (okI _ (by decide) _), fun d hd => nomatch hd⟩
      · rcases List.mem_append.mp hd with h | h <;> exact okOne d h
      · rcases List.mem_append.mp hd with h | h
        · rcases List.mem_append.mp h with h | h
          · exact okOne d (List.mem_of_mem_take h)
          · rw [List.mem_singleton.mp h]
            exact okO8
        · exact okOne d (List.mem_of_mem_drop h)
    show JSs _ _ _ [.emp, .src, .val d, .val (.int (n : Int)), .val (chD (canon n f1)), .val (chD (canon n f2)), .val (chD (canon n f3)), .val (.str (PyData.list [chT n f1, chT n f2, chT n f3]).shown), .val (.int t), .val (chD (canon n (prodF n f1 f2))), .val (.list [chD (canon n (prodF n f1 f2)), chD (canon n (bordF n f1))]), .val (chD (canon n fun l => prodF n (bordF n f1) f2 l + 1 * prodF n (turnF f1) (bordF n f2) l)), .val (tupI la), .val (tupI lb), .val od, .val (.int (k : Int)), .own V1, s17, s18, .emp] _
    refine jsetN 16 ?_
    refine jn_cat ?_
    refine jo 16 ?_
    refine JN.je ?_
    refine JN.keepP (fun ds => ds.length = 5 ∧ ∀ d ∈ ds, VG d) ?_ fun V2 hV2 => ⟨V1, V2, rfl, rfl, by omega, ?_⟩
    · refine jn_lst ?_
      refine jA ?_
      refine jtup1 ?_
      refine jtup2 ?_
      refine jtup0 ?_
      refine je_int ?_
      refine jA ?_
      refine jtup1 ?_
      refine jtup2 ?_
      refine jtup0 ?_
      refine je_bl ?_
      refine jA ?_
      refine jtup1 ?_
      refine jtup2 ?_
      refine jtup2 <| je_int <| je_int ?_
      refine je_int ?_
      refine jA ?_
      refine jtup2 ?_
      refine jtup2 <| jv 12 ?_
      refine je_int ?_
      refine jtup2 <| jv 12 ?_
      refine je_int ?_
      refine ja1 ?_
      refine jtup1 ?_
      refine jtup2 <| JN.je <| jlist T.lst <| jv 12 ⟨la.map .int, .inr rfl, ?_⟩
      refine je_int ⟨_, rfl, by show 5 ≤ sizeLine; omega, rfl, rfl, ?_⟩
      simp only [List.forall_mem_cons]
      refine ⟨gpair (okW_tup (Nat.zero_le _) fun x hx => nomatch hx) (okI _ (by decide) _), gpair (okW_tup (Nat.zero_le _) fun x hx => nomatch hx) (okW_bool _), gpair (two1 (by decide) (okI _ (by decide) _) (okI _ (by decide) _)) (okI _ (by decide) _), vg_pl (good_of (B := 1000000000) (a := 2) (b := 2) (c := 8) (ws := [2]) (two1 (by decide) (two1 (by decide) (okA _) (okI _ (by decide) _)) (two1 (by decide) (okA _) (okI _ (by decide) _)))), gpair (okW_list (by rw [List.length_map]; exact iA.1) fun d hd => ?_) (okI _ (by decide) _), fun d hd => nomatch hd⟩
      obtain ⟨x, hx, rfl⟩ := List.mem_map.mp hd
      exact okI _ (by have := iA.2 x hx; omega) _
    show JSs _ _ _ [.emp, .src, .val d, .val (.int (n : Int)), .val (chD (canon n f1)), .val (chD (canon n f2)), .val (chD (canon n f3)), .val (.str (PyData.list [chT n f1, chT n f2, chT n f3]).shown), .val (.int t), .val (chD (canon n (prodF n f1 f2))), .val (.list [chD (canon n (prodF n f1 f2)), chD (canon n (bordF n f1))]), .val (chD (canon n fun l => prodF n (bordF n f1) f2 l + 1 * prodF n (turnF f1) (bordF n f2) l)), .val (tupI la), .val (tupI lb), .val od, .val (.int (k : Int)), .own (V1 ++ V2), s17, s18, .emp] _
    have hV : ∀ d ∈ V1 ++ V2, VG d := fun d hd => (List.mem_append.mp hd).elim (hV1.2 d) (hV2.2 d)
    have hVl : (V1 ++ V2).length = 14 := by rw [List.length_append, hV1.1, hV2.1]
    generalize V1 ++ V2 = V at *
    clear hV1 hV2
    refine jfor [17] (jiL <| jo 16 ⟨V, rfl, fun i S' => ∃ (s17 s18 : Sl), S' = [.emp, .src, .val d, .val (.int (n : Int)), .val (chD (canon n f1)), .val (chD (canon n f2)), .val (chD (canon n f3)), .val (.str (PyData.list [chT n f1, chT n f2, chT n f3]).shown), .val (.int t), .val (chD (canon n (prodF n f1 f2))), .val (.list [chD (canon n (prodF n f1 f2)), chD (canon n (bordF n f1))]), .val (chD (canon n fun l => prodF n (bordF n f1) f2 l + 1 * prodF n (turnF f1) (bordF n f2) l)), .val (tupI la), .val (tupI lb), .val od, .val (.int (k : Int)), .val (.list V), s17, s18, .emp], ⟨s17, s18, rfl⟩, ?_, ?_⟩)
    · clear s17 s18
      rintro i dv S' hd2 ⟨s17, s18, rfl⟩
      obtain ⟨v, hu, hv⟩ : VG dv := hV dv (List.mem_of_getElem? hd2)
      refine jg 17 ?_
      refine jset 18 <| jreprU (p := true) hgd hr D.b_repr <| jv 17 ⟨v, .inl hu, hv.sh, ?_⟩
      exact jifF (JW.jt <| jw_or <| jtcmp op_neD <| jreprW hgd hr D.b_repr <| jcall hr D.n6 GI <| jA2 <| jv 3 <| jv 17 ⟨n, dv, v, rfl, hn12, hu, hv.nf, hv.it, bool_sh _, jreprW hgd hr D.b_repr <| jcall hr D.n25 GLI <| jA2 <| jv 3 <| jv 17 ⟨n, dv, v, rfl, hn12, hu, hv.nf, hv.it, bool_sh _, od_ne (α := Str) hr (by decide) ⟨_, rfl, iff' (ne_self _) <| jw_or1 <| jtcmp op_neD <| jreprU (p := true) hgd hr D.b_repr <| jv 17 ⟨v, .inl hu, hv.sh, jv 18 <| od_ne (α := Str) hr (by decide) ⟨_, rfl, ne_self _, rfl⟩⟩⟩⟩⟩) <| jss_nil <| jss_nil ⟨_, _, rfl⟩
    clear s17 s18
    rintro S' ⟨s17, s18, rfl⟩
    exact jifF (jtcmp op_neD <| jreprU (p := true) hgd hr D.b_repr <| JN.je <| jn_lst <| jA <| jv 4 <| jA <| jv 5 <| ja1 <| jv 6 ⟨_, rfl, by show 3 ≤ sizeLine; omega, _, ul_three n f1 f2 f3, so123, jv 7 <| od_ne (α := Str) hr (by decide) ⟨_, rfl, ne_self _, rfl⟩⟩) <| jss_nil <| jss_nil ⟨_, _, _, _, _, _, _, _, _, _, _, _, _, _, _, _, some (tupI la), rfl⟩
  · rintro S' ⟨s2, s3, s4, s5, s6, s7, s8, s9, s10, s11, s13, s14, s15, s16, s17, s18, o12, rfl⟩
    refine jret ?_
    refine jcmp op_eqD ?_
    refine jcall hr D.n7 GSg ?_
    refine jA2 ?_
    refine jtup2 <| je_int <| je_int ?_
    refine jtup2 <| je_int <| je_int ⟨[1, 3], [0, 2], rfl, by decide, by decide, ?_⟩
    refine je_un un_neg <| je_int <| ud_neg <| od_eq (α := Int) hr (by decide) ?_
    exact congrArg PyData.bool (show decide (sgn [1, 3] [0, 2] = -1) = true by decide +kernel)
end
end K61

namespace K61
open PySem L2 DL PySem.Spec PyProof.Rows
def all_of {K : PySem.W.Frag} {mg : Str → Option Value} (m_range : mg "range" = none) (m_len : mg "len" = none) (m_tuple : mg "tuple" = none) (m_sorted : mg "sorted" = none) (m_enumerate : mg "enumerate" = none) (m_isinstance : mg "isinstance" = none) (m_all : mg "all" = none) (m_int : mg "int" = none) (m_bool : mg "bool" = none) (m_sum : mg "sum" = none) (m_dict : mg "dict" = none) (m_abs : mg "abs" = none) (m_max : mg "max" = none) (m_list : mg "list" = none) (m_repr : mg "repr" = none) (m_str : mg "str" = none) (m_zip : mg "zip" = none) (m_min : mg "min" = none)   {f1 : Addr} {g1 : FuncData} (d1 : Dn K mg "sides_of" (topS 1) ["lot"] f1 g1) {f2 : Addr} {g2 : FuncData} (d2 : Dn K mg "told_chain" (topS 2) ["numbers"] f2 g2) {f3 : Addr} {g3 : FuncData} (d3 : Dn K mg "border_of" (topS 3) ["chain"] f3 g3) {f5 : Addr} {g5 : FuncData} (d5 : Dn K mg "told_sum" (topS 5) ["numbers"] f5 g5) {f6 : Addr} {g6 : FuncData} (d6 : Dn K mg "is_road_sum" (topS 6) ["many", "value"] f6 g6) {f7 : Addr} {g7 : FuncData} (d7 : Dn K mg "lots_sign" (topS 7) ["one", "other"] f7 g7) {f8 : Addr} {g8 : FuncData} (d8 : Dn K mg "added_sums" (topS 8) ["one", "other", "times"] f8 g8) {f9 : Addr} {g9 : FuncData} (d9 : Dn K mg "multiplied_sums" (topS 9) ["one", "other"] f9 g9) {f10 : Addr} {g10 : FuncData} (d10 : Dn K mg "sum_border" (topS 10) ["one"] f10 g10) {f11 : Addr} {g11 : FuncData} (d11 : Dn K mg "ring_border" (topS 11) ["ring"] f11 g11) {f13 : Addr} {g13 : FuncData} (d13 : Dn K mg "_law_source" (topS 13) ["script"] f13 g13) {f14 : Addr} {g14 : FuncData} (d14 : Dn K mg "_law_pick" (topS 14) ["source", "many"] f14 g14) {f15 : Addr} {g15 : FuncData} (d15 : Dn K mg "_law_of" (topS 15) ["source", "some"] f15 g15) {f16 : Addr} {g16 : FuncData} (d16 : Dn K mg "_law_odd" (topS 16) ["number"] f16 g16) {f17 : Addr} {g17 : FuncData} (d17 : Dn K mg "_law_told" (topS 17) ["numbers"] f17 g17) {f18 : Addr} {g18 : FuncData} (d18 : Dn K mg "_law_added" (topS 18) ["one", "other", "times"] f18 g18) {f19 : Addr} {g19 : FuncData} (d19 : Dn K mg "_law_sign" (topS 19) ["lot", "late"] f19 g19) {f20 : Addr} {g20 : FuncData} (d20 : Dn K mg "_law_times" (topS 20) ["one", "other"] f20 g20) {f21 : Addr} {g21 : FuncData} (d21 : Dn K mg "_law_border" (topS 21) ["one"] f21 g21) {f22 : Addr} {g22 : FuncData} (d22 : Dn K mg "_law_sum" (topS 22) ["source", "m", "many"] f22 g22) {f23 : Addr} {g23 : FuncData} (d23 : Dn K mg "_law_is_int" (topS 23) ["value"] f23 g23) {f24 : Addr} {g24 : FuncData} (d24 : Dn K mg "_law_is_lot" (topS 24) ["m", "value"] f24 g24) {f25 : Addr} {g25 : FuncData} (d25 : Dn K mg "_law_is_sum" (topS 25) ["m", "value"] f25 g25) {f26 : Addr} {g26 : FuncData} (d26 : Dn K mg "_law_turned" (topS 26) ["one"] f26 g26) {f27 : Addr} {g27 : FuncData} (d27 : Dn K mg "_law_exchanges" (topS 27) ["word"] f27 g27) : AllD K mg :=
  ⟨m_range, m_len, m_tuple, m_sorted, m_enumerate, m_isinstance, m_all, m_int, m_bool, m_sum, m_dict, m_abs, m_max, m_list, m_repr, m_str, m_zip, m_min, d1, d2, d3, d5, d6, d7, d8, d9, d10, d11, d13, d14, d15, d16, d17, d18, d19, d20, d21, d22, d23, d24, d25, d26, d27⟩
theorem all_mk {l : PySem.W.OpenLaw} {w : World} {K : PySem.W.Frag} {h : Heap} {mg : Str → Option Value} {fa : Addr} (X : K.In h) (G : h.Ns mainGlobals mg) (hfa : mg "law" = some (.ref fa))
    {f1 f2 f3 f5 f6 f7 f8 f9 f10 f11 f13 f14 f15 f16 f17 f18 f19 f20 f21 f22 f23 f24 f25 f26 f27 f28 : Addr} {od1 od2 od3 od5 od6 od7 od8 od9 od10 od11 od13 od14 od15 od16 od17 od18 od19 od20 od21 od22 od23 od24 od25 od26 od27 od28 an1 an2 an3 an5 an6 an7 an8 an9 an10 an11 an13 an14 an15 an16 an17 an18 an19 an20 an21 an22 an23 an24 an25 an26 an27 an28 : Option Addr} {sl1 sl2 sl3 sl5 sl6 sl7 sl8 sl9 sl10 sl11 sl13 sl14 sl15 sl16 sl17 sl18 sl19 sl20 sl21 sl22 sl23 sl24 sl25 sl26 sl27 sl28 : Array (Option Value)} {oc1 oc2 oc3 oc5 oc6 oc7 oc8 oc9 oc10 oc11 oc13 oc14 oc15 oc16 oc17 oc18 oc19 oc20 oc21 oc22 oc23 oc24 oc25 oc26 oc27 oc28 kV1 kV2 kV3 kV5 kV6 kV7 kV8 kV9 kV10 kV11 kV13 kV14 kV15 kV16 kV17 kV18 kV19 kV20 kV21 kV22 kV23 kV24 kV25 kV26 kV27 kV28 dc1 dc2 dc3 dc5 dc6 dc7 dc8 dc9 dc10 dc11 dc13 dc14 dc15 dc16 dc17 dc18 dc19 dc20 dc21 dc22 dc23 dc24 dc25 dc26 dc27 dc28 pm1 pm2 pm3 pm5 pm6 pm7 pm8 pm9 pm10 pm11 pm13 pm14 pm15 pm16 pm17 pm18 pm19 pm20 pm21 pm22 pm23 pm24 pm25 pm26 pm27 pm28 cd1 cd2 cd3 cd5 cd6 cd7 cd8 cd9 cd10 cd11 cd13 cd14 cd15 cd16 cd17 cd18 cd19 cd20 cd21 cd22 cd23 cd24 cd25 cd26 cd27 cd28 ct1 ct2 ct3 ct5 ct6 ct7 ct8 ct9 ct10 ct11 ct13 ct14 ct15 ct16 ct17 ct18 ct19 ct20 ct21 ct22 ct23 ct24 ct25 ct26 ct27 ct28 : Value}
    (a1 : PySem.W.nsIn K mainGlobals "sides_of" = some (some (.ref f1))) (l1 : K.lookup f1 = some ⟨oc1, od1, .func (PySem.W.fnOf "sides_of" "sides_of" (defArgs (topS 1)) (defBody (topS 1)) (defScope (topS 1)) .none kV1 dc1 pm1 an1 cd1 ct1), sl1⟩) (c1 : PySem.W.codeIn K cd1 "sides_of" = true) (k1 : PySem.W.keepIn K (.ref f1) = true)
    (a2 : PySem.W.nsIn K mainGlobals "told_chain" = some (some (.ref f2))) (l2 : K.lookup f2 = some ⟨oc2, od2, .func (PySem.W.fnOf "told_chain" "told_chain" (defArgs (topS 2)) (defBody (topS 2)) (defScope (topS 2)) .none kV2 dc2 pm2 an2 cd2 ct2), sl2⟩) (c2 : PySem.W.codeIn K cd2 "told_chain" = true) (k2 : PySem.W.keepIn K (.ref f2) = true)
    (a3 : PySem.W.nsIn K mainGlobals "border_of" = some (some (.ref f3))) (l3 : K.lookup f3 = some ⟨oc3, od3, .func (PySem.W.fnOf "border_of" "border_of" (defArgs (topS 3)) (defBody (topS 3)) (defScope (topS 3)) .none kV3 dc3 pm3 an3 cd3 ct3), sl3⟩) (c3 : PySem.W.codeIn K cd3 "border_of" = true) (k3 : PySem.W.keepIn K (.ref f3) = true)
    (a5 : PySem.W.nsIn K mainGlobals "told_sum" = some (some (.ref f5))) (l5 : K.lookup f5 = some ⟨oc5, od5, .func (PySem.W.fnOf "told_sum" "told_sum" (defArgs (topS 5)) (defBody (topS 5)) (defScope (topS 5)) .none kV5 dc5 pm5 an5 cd5 ct5), sl5⟩) (c5 : PySem.W.codeIn K cd5 "told_sum" = true) (k5 : PySem.W.keepIn K (.ref f5) = true)
    (a6 : PySem.W.nsIn K mainGlobals "is_road_sum" = some (some (.ref f6))) (l6 : K.lookup f6 = some ⟨oc6, od6, .func (PySem.W.fnOf "is_road_sum" "is_road_sum" (defArgs (topS 6)) (defBody (topS 6)) (defScope (topS 6)) .none kV6 dc6 pm6 an6 cd6 ct6), sl6⟩) (c6 : PySem.W.codeIn K cd6 "is_road_sum" = true) (k6 : PySem.W.keepIn K (.ref f6) = true)
    (a7 : PySem.W.nsIn K mainGlobals "lots_sign" = some (some (.ref f7))) (l7 : K.lookup f7 = some ⟨oc7, od7, .func (PySem.W.fnOf "lots_sign" "lots_sign" (defArgs (topS 7)) (defBody (topS 7)) (defScope (topS 7)) .none kV7 dc7 pm7 an7 cd7 ct7), sl7⟩) (c7 : PySem.W.codeIn K cd7 "lots_sign" = true) (k7 : PySem.W.keepIn K (.ref f7) = true)
    (a8 : PySem.W.nsIn K mainGlobals "added_sums" = some (some (.ref f8))) (l8 : K.lookup f8 = some ⟨oc8, od8, .func (PySem.W.fnOf "added_sums" "added_sums" (defArgs (topS 8)) (defBody (topS 8)) (defScope (topS 8)) .none kV8 dc8 pm8 an8 cd8 ct8), sl8⟩) (c8 : PySem.W.codeIn K cd8 "added_sums" = true) (k8 : PySem.W.keepIn K (.ref f8) = true)
    (a9 : PySem.W.nsIn K mainGlobals "multiplied_sums" = some (some (.ref f9))) (l9 : K.lookup f9 = some ⟨oc9, od9, .func (PySem.W.fnOf "multiplied_sums" "multiplied_sums" (defArgs (topS 9)) (defBody (topS 9)) (defScope (topS 9)) .none kV9 dc9 pm9 an9 cd9 ct9), sl9⟩) (c9 : PySem.W.codeIn K cd9 "multiplied_sums" = true) (k9 : PySem.W.keepIn K (.ref f9) = true)
    (a10 : PySem.W.nsIn K mainGlobals "sum_border" = some (some (.ref f10))) (l10 : K.lookup f10 = some ⟨oc10, od10, .func (PySem.W.fnOf "sum_border" "sum_border" (defArgs (topS 10)) (defBody (topS 10)) (defScope (topS 10)) .none kV10 dc10 pm10 an10 cd10 ct10), sl10⟩) (c10 : PySem.W.codeIn K cd10 "sum_border" = true) (k10 : PySem.W.keepIn K (.ref f10) = true)
    (a11 : PySem.W.nsIn K mainGlobals "ring_border" = some (some (.ref f11))) (l11 : K.lookup f11 = some ⟨oc11, od11, .func (PySem.W.fnOf "ring_border" "ring_border" (defArgs (topS 11)) (defBody (topS 11)) (defScope (topS 11)) .none kV11 dc11 pm11 an11 cd11 ct11), sl11⟩) (c11 : PySem.W.codeIn K cd11 "ring_border" = true) (k11 : PySem.W.keepIn K (.ref f11) = true)
    (a13 : PySem.W.nsIn K mainGlobals "_law_source" = some (some (.ref f13))) (l13 : K.lookup f13 = some ⟨oc13, od13, .func (PySem.W.fnOf "_law_source" "_law_source" (defArgs (topS 13)) (defBody (topS 13)) (defScope (topS 13)) .none kV13 dc13 pm13 an13 cd13 ct13), sl13⟩) (c13 : PySem.W.codeIn K cd13 "_law_source" = true) (k13 : PySem.W.keepIn K (.ref f13) = true)
    (a14 : PySem.W.nsIn K mainGlobals "_law_pick" = some (some (.ref f14))) (l14 : K.lookup f14 = some ⟨oc14, od14, .func (PySem.W.fnOf "_law_pick" "_law_pick" (defArgs (topS 14)) (defBody (topS 14)) (defScope (topS 14)) .none kV14 dc14 pm14 an14 cd14 ct14), sl14⟩) (c14 : PySem.W.codeIn K cd14 "_law_pick" = true) (k14 : PySem.W.keepIn K (.ref f14) = true)
    (a15 : PySem.W.nsIn K mainGlobals "_law_of" = some (some (.ref f15))) (l15 : K.lookup f15 = some ⟨oc15, od15, .func (PySem.W.fnOf "_law_of" "_law_of" (defArgs (topS 15)) (defBody (topS 15)) (defScope (topS 15)) .none kV15 dc15 pm15 an15 cd15 ct15), sl15⟩) (c15 : PySem.W.codeIn K cd15 "_law_of" = true) (k15 : PySem.W.keepIn K (.ref f15) = true)
    (a16 : PySem.W.nsIn K mainGlobals "_law_odd" = some (some (.ref f16))) (l16 : K.lookup f16 = some ⟨oc16, od16, .func (PySem.W.fnOf "_law_odd" "_law_odd" (defArgs (topS 16)) (defBody (topS 16)) (defScope (topS 16)) .none kV16 dc16 pm16 an16 cd16 ct16), sl16⟩) (c16 : PySem.W.codeIn K cd16 "_law_odd" = true) (k16 : PySem.W.keepIn K (.ref f16) = true)
    (a17 : PySem.W.nsIn K mainGlobals "_law_told" = some (some (.ref f17))) (l17 : K.lookup f17 = some ⟨oc17, od17, .func (PySem.W.fnOf "_law_told" "_law_told" (defArgs (topS 17)) (defBody (topS 17)) (defScope (topS 17)) .none kV17 dc17 pm17 an17 cd17 ct17), sl17⟩) (c17 : PySem.W.codeIn K cd17 "_law_told" = true) (k17 : PySem.W.keepIn K (.ref f17) = true)
    (a18 : PySem.W.nsIn K mainGlobals "_law_added" = some (some (.ref f18))) (l18 : K.lookup f18 = some ⟨oc18, od18, .func (PySem.W.fnOf "_law_added" "_law_added" (defArgs (topS 18)) (defBody (topS 18)) (defScope (topS 18)) .none kV18 dc18 pm18 an18 cd18 ct18), sl18⟩) (c18 : PySem.W.codeIn K cd18 "_law_added" = true) (k18 : PySem.W.keepIn K (.ref f18) = true)
    (a19 : PySem.W.nsIn K mainGlobals "_law_sign" = some (some (.ref f19))) (l19 : K.lookup f19 = some ⟨oc19, od19, .func (PySem.W.fnOf "_law_sign" "_law_sign" (defArgs (topS 19)) (defBody (topS 19)) (defScope (topS 19)) .none kV19 dc19 pm19 an19 cd19 ct19), sl19⟩) (c19 : PySem.W.codeIn K cd19 "_law_sign" = true) (k19 : PySem.W.keepIn K (.ref f19) = true)
    (a20 : PySem.W.nsIn K mainGlobals "_law_times" = some (some (.ref f20))) (l20 : K.lookup f20 = some ⟨oc20, od20, .func (PySem.W.fnOf "_law_times" "_law_times" (defArgs (topS 20)) (defBody (topS 20)) (defScope (topS 20)) .none kV20 dc20 pm20 an20 cd20 ct20), sl20⟩) (c20 : PySem.W.codeIn K cd20 "_law_times" = true) (k20 : PySem.W.keepIn K (.ref f20) = true)
    (a21 : PySem.W.nsIn K mainGlobals "_law_border" = some (some (.ref f21))) (l21 : K.lookup f21 = some ⟨oc21, od21, .func (PySem.W.fnOf "_law_border" "_law_border" (defArgs (topS 21)) (defBody (topS 21)) (defScope (topS 21)) .none kV21 dc21 pm21 an21 cd21 ct21), sl21⟩) (c21 : PySem.W.codeIn K cd21 "_law_border" = true) (k21 : PySem.W.keepIn K (.ref f21) = true)
    (a22 : PySem.W.nsIn K mainGlobals "_law_sum" = some (some (.ref f22))) (l22 : K.lookup f22 = some ⟨oc22, od22, .func (PySem.W.fnOf "_law_sum" "_law_sum" (defArgs (topS 22)) (defBody (topS 22)) (defScope (topS 22)) .none kV22 dc22 pm22 an22 cd22 ct22), sl22⟩) (c22 : PySem.W.codeIn K cd22 "_law_sum" = true) (k22 : PySem.W.keepIn K (.ref f22) = true)
    (a23 : PySem.W.nsIn K mainGlobals "_law_is_int" = some (some (.ref f23))) (l23 : K.lookup f23 = some ⟨oc23, od23, .func (PySem.W.fnOf "_law_is_int" "_law_is_int" (defArgs (topS 23)) (defBody (topS 23)) (defScope (topS 23)) .none kV23 dc23 pm23 an23 cd23 ct23), sl23⟩) (c23 : PySem.W.codeIn K cd23 "_law_is_int" = true) (k23 : PySem.W.keepIn K (.ref f23) = true)
    (a24 : PySem.W.nsIn K mainGlobals "_law_is_lot" = some (some (.ref f24))) (l24 : K.lookup f24 = some ⟨oc24, od24, .func (PySem.W.fnOf "_law_is_lot" "_law_is_lot" (defArgs (topS 24)) (defBody (topS 24)) (defScope (topS 24)) .none kV24 dc24 pm24 an24 cd24 ct24), sl24⟩) (c24 : PySem.W.codeIn K cd24 "_law_is_lot" = true) (k24 : PySem.W.keepIn K (.ref f24) = true)
    (a25 : PySem.W.nsIn K mainGlobals "_law_is_sum" = some (some (.ref f25))) (l25 : K.lookup f25 = some ⟨oc25, od25, .func (PySem.W.fnOf "_law_is_sum" "_law_is_sum" (defArgs (topS 25)) (defBody (topS 25)) (defScope (topS 25)) .none kV25 dc25 pm25 an25 cd25 ct25), sl25⟩) (c25 : PySem.W.codeIn K cd25 "_law_is_sum" = true) (k25 : PySem.W.keepIn K (.ref f25) = true)
    (a26 : PySem.W.nsIn K mainGlobals "_law_turned" = some (some (.ref f26))) (l26 : K.lookup f26 = some ⟨oc26, od26, .func (PySem.W.fnOf "_law_turned" "_law_turned" (defArgs (topS 26)) (defBody (topS 26)) (defScope (topS 26)) .none kV26 dc26 pm26 an26 cd26 ct26), sl26⟩) (c26 : PySem.W.codeIn K cd26 "_law_turned" = true) (k26 : PySem.W.keepIn K (.ref f26) = true)
    (a27 : PySem.W.nsIn K mainGlobals "_law_exchanges" = some (some (.ref f27))) (l27 : K.lookup f27 = some ⟨oc27, od27, .func (PySem.W.fnOf "_law_exchanges" "_law_exchanges" (defArgs (topS 27)) (defBody (topS 27)) (defScope (topS 27)) .none kV27 dc27 pm27 an27 cd27 ct27), sl27⟩) (c27 : PySem.W.codeIn K cd27 "_law_exchanges" = true) (k27 : PySem.W.keepIn K (.ref f27) = true)
    (a28 : PySem.W.nsIn K mainGlobals "law" = some (some (.ref f28))) (l28 : K.lookup f28 = some ⟨oc28, od28, .func (PySem.W.fnOf "law" "law" (defArgs (topS 28)) (defBody (topS 28)) (defScope (topS 28)) .none kV28 dc28 pm28 an28 cd28 ct28), sl28⟩) (c28 : PySem.W.codeIn K cd28 "law" = true) (k28 : PySem.W.keepIn K (.ref f28) = true)
    (z0 : PySem.W.nsIn K mainGlobals "range" = some none)
    (z1 : PySem.W.nsIn K mainGlobals "len" = some none)
    (z2 : PySem.W.nsIn K mainGlobals "tuple" = some none)
    (z3 : PySem.W.nsIn K mainGlobals "sorted" = some none)
    (z4 : PySem.W.nsIn K mainGlobals "enumerate" = some none)
    (z5 : PySem.W.nsIn K mainGlobals "isinstance" = some none)
    (z6 : PySem.W.nsIn K mainGlobals "all" = some none)
    (z7 : PySem.W.nsIn K mainGlobals "int" = some none)
    (z8 : PySem.W.nsIn K mainGlobals "bool" = some none)
    (z9 : PySem.W.nsIn K mainGlobals "sum" = some none)
    (z10 : PySem.W.nsIn K mainGlobals "dict" = some none)
    (z11 : PySem.W.nsIn K mainGlobals "abs" = some none)
    (z12 : PySem.W.nsIn K mainGlobals "max" = some none)
    (z13 : PySem.W.nsIn K mainGlobals "list" = some none)
    (z14 : PySem.W.nsIn K mainGlobals "repr" = some none)
    (z15 : PySem.W.nsIn K mainGlobals "str" = some none)
    (z16 : PySem.W.nsIn K mainGlobals "zip" = some none)
    (z17 : PySem.W.nsIn K mainGlobals "min" = some none)
    : ∃ fd : FuncData, (∀ (s : Shared) (u : Value), BindsTo s fd ⟨[u], []⟩ [("script", u)]) ∧ ∀ base : Heap, K.In base → base.Ns mainGlobals mg → FnG l.prog w K mg base 8 fa fd ["script"] (spLaw K) := by
  have e := hfa.symm.trans (PySem.W.mg_of X G a28)
  cases e
  have FL := fun_mk (st := topS 28) l28 c28 k28
  have m_range := PySem.W.mg_none_of X G z0
  have m_len := PySem.W.mg_none_of X G z1
  have m_tuple := PySem.W.mg_none_of X G z2
  have m_sorted := PySem.W.mg_none_of X G z3
  have m_enumerate := PySem.W.mg_none_of X G z4
  have m_isinstance := PySem.W.mg_none_of X G z5
  have m_all := PySem.W.mg_none_of X G z6
  have m_int := PySem.W.mg_none_of X G z7
  have m_bool := PySem.W.mg_none_of X G z8
  have m_sum := PySem.W.mg_none_of X G z9
  have m_dict := PySem.W.mg_none_of X G z10
  have m_abs := PySem.W.mg_none_of X G z11
  have m_max := PySem.W.mg_none_of X G z12
  have m_list := PySem.W.mg_none_of X G z13
  have m_repr := PySem.W.mg_none_of X G z14
  have m_str := PySem.W.mg_none_of X G z15
  have m_zip := PySem.W.mg_none_of X G z16
  have m_min := PySem.W.mg_none_of X G z17
  have d1 : Dn K mg "sides_of" (topS 1) ["lot"] f1 _ := ⟨fun_mk l1 c1 k1, PySem.W.mg_of X G a1, (fun_mk (st := topS 1) l1 c1 k1).binds (ps := ["lot"]) fun _ _ _ _ _ _ us hl => match us, hl with | [_], _ => rfl⟩
  have d2 : Dn K mg "told_chain" (topS 2) ["numbers"] f2 _ := ⟨fun_mk l2 c2 k2, PySem.W.mg_of X G a2, (fun_mk (st := topS 2) l2 c2 k2).binds (ps := ["numbers"]) fun _ _ _ _ _ _ us hl => match us, hl with | [_], _ => rfl⟩
  have d3 : Dn K mg "border_of" (topS 3) ["chain"] f3 _ := ⟨fun_mk l3 c3 k3, PySem.W.mg_of X G a3, (fun_mk (st := topS 3) l3 c3 k3).binds (ps := ["chain"]) fun _ _ _ _ _ _ us hl => match us, hl with | [_], _ => rfl⟩
  have d5 : Dn K mg "told_sum" (topS 5) ["numbers"] f5 _ := ⟨fun_mk l5 c5 k5, PySem.W.mg_of X G a5, (fun_mk (st := topS 5) l5 c5 k5).binds (ps := ["numbers"]) fun _ _ _ _ _ _ us hl => match us, hl with | [_], _ => rfl⟩
  have d6 : Dn K mg "is_road_sum" (topS 6) ["many", "value"] f6 _ := ⟨fun_mk l6 c6 k6, PySem.W.mg_of X G a6, (fun_mk (st := topS 6) l6 c6 k6).binds (ps := ["many", "value"]) fun _ _ _ _ _ _ us hl => match us, hl with | [_, _], _ => rfl⟩
  have d7 : Dn K mg "lots_sign" (topS 7) ["one", "other"] f7 _ := ⟨fun_mk l7 c7 k7, PySem.W.mg_of X G a7, (fun_mk (st := topS 7) l7 c7 k7).binds (ps := ["one", "other"]) fun _ _ _ _ _ _ us hl => match us, hl with | [_, _], _ => rfl⟩
  have d8 : Dn K mg "added_sums" (topS 8) ["one", "other", "times"] f8 _ := ⟨fun_mk l8 c8 k8, PySem.W.mg_of X G a8, (fun_mk (st := topS 8) l8 c8 k8).binds (ps := ["one", "other", "times"]) fun _ _ _ _ _ _ us hl => match us, hl with | [_, _, _], _ => rfl⟩
  have d9 : Dn K mg "multiplied_sums" (topS 9) ["one", "other"] f9 _ := ⟨fun_mk l9 c9 k9, PySem.W.mg_of X G a9, (fun_mk (st := topS 9) l9 c9 k9).binds (ps := ["one", "other"]) fun _ _ _ _ _ _ us hl => match us, hl with | [_, _], _ => rfl⟩
  have d10 : Dn K mg "sum_border" (topS 10) ["one"] f10 _ := ⟨fun_mk l10 c10 k10, PySem.W.mg_of X G a10, (fun_mk (st := topS 10) l10 c10 k10).binds (ps := ["one"]) fun _ _ _ _ _ _ us hl => match us, hl with | [_], _ => rfl⟩
  have d11 : Dn K mg "ring_border" (topS 11) ["ring"] f11 _ := ⟨fun_mk l11 c11 k11, PySem.W.mg_of X G a11, (fun_mk (st := topS 11) l11 c11 k11).binds (ps := ["ring"]) fun _ _ _ _ _ _ us hl => match us, hl with | [_], _ => rfl⟩
  have d13 : Dn K mg "_law_source" (topS 13) ["script"] f13 _ := ⟨fun_mk l13 c13 k13, PySem.W.mg_of X G a13, (fun_mk (st := topS 13) l13 c13 k13).binds (ps := ["script"]) fun _ _ _ _ _ _ us hl => match us, hl with | [_], _ => rfl⟩
  have d14 : Dn K mg "_law_pick" (topS 14) ["source", "many"] f14 _ := ⟨fun_mk l14 c14 k14, PySem.W.mg_of X G a14, (fun_mk (st := topS 14) l14 c14 k14).binds (ps := ["source", "many"]) fun _ _ _ _ _ _ us hl => match us, hl with | [_, _], _ => rfl⟩
  have d15 : Dn K mg "_law_of" (topS 15) ["source", "some"] f15 _ := ⟨fun_mk l15 c15 k15, PySem.W.mg_of X G a15, (fun_mk (st := topS 15) l15 c15 k15).binds (ps := ["source", "some"]) fun _ _ _ _ _ _ us hl => match us, hl with | [_, _], _ => rfl⟩
  have d16 : Dn K mg "_law_odd" (topS 16) ["number"] f16 _ := ⟨fun_mk l16 c16 k16, PySem.W.mg_of X G a16, (fun_mk (st := topS 16) l16 c16 k16).binds (ps := ["number"]) fun _ _ _ _ _ _ us hl => match us, hl with | [_], _ => rfl⟩
  have d17 : Dn K mg "_law_told" (topS 17) ["numbers"] f17 _ := ⟨fun_mk l17 c17 k17, PySem.W.mg_of X G a17, (fun_mk (st := topS 17) l17 c17 k17).binds (ps := ["numbers"]) fun _ _ _ _ _ _ us hl => match us, hl with | [_], _ => rfl⟩
  have d18 : Dn K mg "_law_added" (topS 18) ["one", "other", "times"] f18 _ := ⟨fun_mk l18 c18 k18, PySem.W.mg_of X G a18, (fun_mk (st := topS 18) l18 c18 k18).binds (ps := ["one", "other", "times"]) fun _ _ _ _ _ _ us hl => match us, hl with | [_, _, _], _ => rfl⟩
  have d19 : Dn K mg "_law_sign" (topS 19) ["lot", "late"] f19 _ := ⟨fun_mk l19 c19 k19, PySem.W.mg_of X G a19, (fun_mk (st := topS 19) l19 c19 k19).binds (ps := ["lot", "late"]) fun _ _ _ _ _ _ us hl => match us, hl with | [_, _], _ => rfl⟩
  have d20 : Dn K mg "_law_times" (topS 20) ["one", "other"] f20 _ := ⟨fun_mk l20 c20 k20, PySem.W.mg_of X G a20, (fun_mk (st := topS 20) l20 c20 k20).binds (ps := ["one", "other"]) fun _ _ _ _ _ _ us hl => match us, hl with | [_, _], _ => rfl⟩
  have d21 : Dn K mg "_law_border" (topS 21) ["one"] f21 _ := ⟨fun_mk l21 c21 k21, PySem.W.mg_of X G a21, (fun_mk (st := topS 21) l21 c21 k21).binds (ps := ["one"]) fun _ _ _ _ _ _ us hl => match us, hl with | [_], _ => rfl⟩
  have d22 : Dn K mg "_law_sum" (topS 22) ["source", "m", "many"] f22 _ := ⟨fun_mk l22 c22 k22, PySem.W.mg_of X G a22, (fun_mk (st := topS 22) l22 c22 k22).binds (ps := ["source", "m", "many"]) fun _ _ _ _ _ _ us hl => match us, hl with | [_, _, _], _ => rfl⟩
  have d23 : Dn K mg "_law_is_int" (topS 23) ["value"] f23 _ := ⟨fun_mk l23 c23 k23, PySem.W.mg_of X G a23, (fun_mk (st := topS 23) l23 c23 k23).binds (ps := ["value"]) fun _ _ _ _ _ _ us hl => match us, hl with | [_], _ => rfl⟩
  have d24 : Dn K mg "_law_is_lot" (topS 24) ["m", "value"] f24 _ := ⟨fun_mk l24 c24 k24, PySem.W.mg_of X G a24, (fun_mk (st := topS 24) l24 c24 k24).binds (ps := ["m", "value"]) fun _ _ _ _ _ _ us hl => match us, hl with | [_, _], _ => rfl⟩
  have d25 : Dn K mg "_law_is_sum" (topS 25) ["m", "value"] f25 _ := ⟨fun_mk l25 c25 k25, PySem.W.mg_of X G a25, (fun_mk (st := topS 25) l25 c25 k25).binds (ps := ["m", "value"]) fun _ _ _ _ _ _ us hl => match us, hl with | [_, _], _ => rfl⟩
  have d26 : Dn K mg "_law_turned" (topS 26) ["one"] f26 _ := ⟨fun_mk l26 c26 k26, PySem.W.mg_of X G a26, (fun_mk (st := topS 26) l26 c26 k26).binds (ps := ["one"]) fun _ _ _ _ _ _ us hl => match us, hl with | [_], _ => rfl⟩
  have d27 : Dn K mg "_law_exchanges" (topS 27) ["word"] f27 _ := ⟨fun_mk l27 c27 k27, PySem.W.mg_of X G a27, (fun_mk (st := topS 27) l27 c27 k27).binds (ps := ["word"]) fun _ _ _ _ _ _ us hl => match us, hl with | [_], _ => rfl⟩
  refine ⟨_, fun s v => .of_eq rfl, fun base _ _ => ok_law FL (all_of m_range m_len m_tuple m_sorted m_enumerate m_isinstance m_all m_int m_bool m_sum m_dict m_abs m_max m_list m_repr m_str m_zip m_min d1 d2 d3 d5 d6 d7 d8 d9 d10 d11 d13 d14 d15 d16 d17 d18 d19 d20 d21 d22 d23 d24 d25 d26 d27)⟩
end K61
open PySem PySem.W PyProof.Rows
theorem PySem.Challenge.cw_shelledlots_k61_road_sums_holds : PySem.Challenge.rw_shelledlots_k61_road_sums.Holds := by
  w_on; o_law; k_head; (case hw => w_witness2)
  k_fill
  refine DL.walk_G (l := PySem.Challenge.rw_shelledlots_k61_road_sums) (n := 63) (k := 8) (x := "script") (sp := DL.spLaw) rfl (by decide) rfl ⟨rfl, by decide, by decide⟩ (fun w h Y => PySem.W.kIn_of Y) ?F fun K H a ns hl _ hS => ⟨a, ns, rfl, hS, hl, fun _ => rfl⟩
  case F =>
    intro w mg fa h KX G hmg
    refine' K61.all_mk KX G hmg ?a1 ?l1 ?c1 ?k1 ?a2 ?l2 ?c2 ?k2 ?a3 ?l3 ?c3 ?k3 ?a5 ?l5 ?c5 ?k5 ?a6 ?l6 ?c6 ?k6 ?a7 ?l7 ?c7 ?k7 ?a8 ?l8 ?c8 ?k8 ?a9 ?l9 ?c9 ?k9 ?a10 ?l10 ?c10 ?k10 ?a11 ?l11 ?c11 ?k11 ?a13 ?l13 ?c13 ?k13 ?a14 ?l14 ?c14 ?k14 ?a15 ?l15 ?c15 ?k15 ?a16 ?l16 ?c16 ?k16 ?a17 ?l17 ?c17 ?k17 ?a18 ?l18 ?c18 ?k18 ?a19 ?l19 ?c19 ?k19 ?a20 ?l20 ?c20 ?k20 ?a21 ?l21 ?c21 ?k21 ?a22 ?l22 ?c22 ?k22 ?a23 ?l23 ?c23 ?k23 ?a24 ?l24 ?c24 ?k24 ?a25 ?l25 ?c25 ?k25 ?a26 ?l26 ?c26 ?k26 ?a27 ?l27 ?c27 ?k27 ?a28 ?l28 ?c28 ?k28  ?z0 ?z1 ?z2 ?z3 ?z4 ?z5 ?z6 ?z7 ?z8 ?z9 ?z10 ?z11 ?z12 ?z13 ?z14 ?z15 ?z16 ?z17
    (case a1 => k_is); (case l1 => k_is); (case c1 => k_is); (case k1 => k_is)
    (case a2 => k_is); (case l2 => k_is); (case c2 => k_is); (case k2 => k_is)
    (case a3 => k_is); (case l3 => k_is); (case c3 => k_is); (case k3 => k_is)
    (case a5 => k_is); (case l5 => k_is); (case c5 => k_is); (case k5 => k_is)
    (case a6 => k_is); (case l6 => k_is); (case c6 => k_is); (case k6 => k_is)
    (case a7 => k_is); (case l7 => k_is); (case c7 => k_is); (case k7 => k_is)
    (case a8 => k_is); (case l8 => k_is); (case c8 => k_is); (case k8 => k_is)
    (case a9 => k_is); (case l9 => k_is); (case c9 => k_is); (case k9 => k_is)
    (case a10 => k_is); (case l10 => k_is); (case c10 => k_is); (case k10 => k_is)
    (case a11 => k_is); (case l11 => k_is); (case c11 => k_is); (case k11 => k_is)
    (case a13 => k_is); (case l13 => k_is); (case c13 => k_is); (case k13 => k_is)
    (case a14 => k_is); (case l14 => k_is); (case c14 => k_is); (case k14 => k_is)
    (case a15 => k_is); (case l15 => k_is); (case c15 => k_is); (case k15 => k_is)
    (case a16 => k_is); (case l16 => k_is); (case c16 => k_is); (case k16 => k_is)
    (case a17 => k_is); (case l17 => k_is); (case c17 => k_is); (case k17 => k_is)
    (case a18 => k_is); (case l18 => k_is); (case c18 => k_is); (case k18 => k_is)
    (case a19 => k_is); (case l19 => k_is); (case c19 => k_is); (case k19 => k_is)
    (case a20 => k_is); (case l20 => k_is); (case c20 => k_is); (case k20 => k_is)
    (case a21 => k_is); (case l21 => k_is); (case c21 => k_is); (case k21 => k_is)
    (case a22 => k_is); (case l22 => k_is); (case c22 => k_is); (case k22 => k_is)
    (case a23 => k_is); (case l23 => k_is); (case c23 => k_is); (case k23 => k_is)
    (case a24 => k_is); (case l24 => k_is); (case c24 => k_is); (case k24 => k_is)
    (case a25 => k_is); (case l25 => k_is); (case c25 => k_is); (case k25 => k_is)
    (case a26 => k_is); (case l26 => k_is); (case c26 => k_is); (case k26 => k_is)
    (case a27 => k_is); (case l27 => k_is); (case c27 => k_is); (case k27 => k_is)
    (case a28 => k_is); (case l28 => k_is); (case c28 => k_is); (case k28 => k_is)
    (case z0 => k_is)
    (case z1 => k_is)
    (case z2 => k_is)
    (case z3 => k_is)
    (case z4 => k_is)
    (case z5 => k_is)
    (case z6 => k_is)
    (case z7 => k_is)
    (case z8 => k_is)
    (case z9 => k_is)
    (case z10 => k_is)
    (case z11 => k_is)
    (case z12 => k_is)
    (case z13 => k_is)
    (case z14 => k_is)
    (case z15 => k_is)
    (case z16 => k_is)
    (case z17 => k_is)
#print axioms PySem.Challenge.cw_shelledlots_k61_road_sums_holds

