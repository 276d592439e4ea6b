import PyProof.Rows.All
import Wide.All
import OpenK.AllK
import Wide.FinOn
import HandS.ForMost
import HandS.Conv
import HandS.More
import HandS.Style
import KE.Datum
import KE.DatumMore
import KE.DatumOrd
import KE.SortData
import HandS.TupAny
import HandS.SortInts
import KE.KDictPairs
import KE.KDictCopyH
import PyProof.ReprLen
import HandS.Star
import HandS.IsInst
import HandS.TupLen
import KE.GoesEnum
import KE.KDictDisplayH
import HandS.Strs
import HandS.ForExc
import HandS.TryOnly
import HandS.WordsExc
import HandS.TupMul
import HandS.TupLe
import KE.KRevSl
import HandS.SetFor
import HandS.Text
import KE.GoesZip
import KE.GoesMore
import KE.GoesEnumKw
import HandS.Zip
import KE.DataFind
import HandS.NoneIn
import HandS.WordsDict
import PyProof.AutoSeq1
import PySem.Challenge.RW_shelledlots_k24_whole_lots_without_broke
set_option Elab.async false
set_option linter.all false
set_option maxRecDepth 100000
set_option maxHeartbeats 4000000
/-! DL: expressions and statements over plain data. A slot holds data (frozen), a list of one's own, or the source. -/
namespace DL
open PySem L2
abbrev D := PyData

/-! ### data in a frozen heap -/
/-- a dict whose keys are tuples of ints -/
def dctD (kvs : List (List Int × D)) : D := .dict (kvs.map fun p => (.tuple (p.1.map .int), p.2))
/-- a tuple whose object is known to have no dict of its own -/
def ft (ds : List D) : D := .dict [(.none, .tuple ds)]
mutual
inductive Rp (F : Hp) : V → D → Prop
  | non : Rp F V.non .none
  | bl (b) : Rp F (V.bl b) (.bool b)
  | int (i) : Rp F (V.int i) (PyData.int i)
  | str (x) : Rp F (V.str x) (PyData.str x)
  | tup {a xs ds} : F a = some (.tup xs) → RpA F xs ds → Rp F (V.ref a) (.tuple ds)
  | lst {a xs ds} : F a = some (.lst xs) → RpA F xs ds → Rp F (V.ref a) (.list ds)
  | dct {a ws kvs} : F a = some (.dT ws) → RpK F ws kvs → Rp F (V.ref a) (dctD kvs)
  | ftup {a o xs ds} : F a = some (.frz o (.tup xs)) → o.dict = none → RpA F xs ds → Rp F (V.ref a) (ft ds)
inductive RpA (F : Hp) : List V → List D → Prop
  | nil : RpA F [] []
  | cons {v d vs ds} : Rp F v d → RpA F vs ds → RpA F (v :: vs) (d :: ds)
inductive RpK (F : Hp) : List (List Key × V) → List (List Int × D) → Prop
  | nil : RpK F [] []
  | cons {k v d ws kvs} : Rp F v d → RpK F ws kvs → RpK F ((k.map Sum.inl, v) :: ws) ((k, d) :: kvs)
end
def Ex (H H' : Hp) : Prop := ∀ a o, H a = some o → H' a = some o
theorem Ex.refl (H : Hp) : Ex H H := fun _ _ h => h
theorem Ex.trans {H H1 H2 : Hp} (a : Ex H H1) (b : Ex H1 H2) : Ex H H2 := fun x o h => b x o (a x o h)
theorem Ex.new {H : Hp} {p : Addr} {o : HO} (h : H p = none) : Ex H (upd H p o) := fun a u e => by
  rw [upd_ne (ne_of_none e h)]
  exact e
theorem Ex.upd2 {F H : Hp} {p : Addr} {o : HO} (h : Ex F H) (n : F p = none) : Ex F (upd H p o) := fun a u e => by
  rw [upd_ne (ne_of_none e n)]
  exact h a u e
theorem Ex.back {H H' : Hp} {p : Addr} (e : Ex H H') (h : H' p = none) : H p = none := by
  cases h1 : H p with
  | none => rfl
  | some o =>
    rw [e p o h1] at h
    cases h
mutual
theorem Rp.ex {F F' : Hp} (k : Ex F F') : ∀ {v : V} {d : D}, Rp F v d → Rp F' v d
  | _, _, .non => .non
  | _, _, .bl b => .bl b
  | _, _, .int i => .int i
  | _, _, .str x => .str x
  | _, _, .tup h r => .tup (k _ _ h) (RpA.ex k r)
  | _, _, .lst h r => .lst (k _ _ h) (RpA.ex k r)
  | _, _, .dct h r => .dct (k _ _ h) (RpK.ex k r)
  | _, _, .ftup h n r => .ftup (k _ _ h) n (RpA.ex k r)
theorem RpA.ex {F F' : Hp} (k : Ex F F') : ∀ {vs : List V} {ds : List D}, RpA F vs ds → RpA F' vs ds
  | _, _, .nil => .nil
  | _, _, .cons r t => .cons (Rp.ex k r) (RpA.ex k t)
theorem RpK.ex {F F' : Hp} (k : Ex F F') : ∀ {vs : List (List Key × V)} {ds : List (List Int × D)}, RpK F vs ds → RpK F' vs ds
  | _, _, .nil => .nil
  | _, _, .cons r t => .cons (Rp.ex k r) (RpK.ex k t)
end
theorem RpA.length {F : Hp} : ∀ {vs : List V} {ds : List D}, RpA F vs ds → vs.length = ds.length
  | _, _, .nil => rfl
  | _, _, .cons _ t => by rw [List.length_cons, List.length_cons, RpA.length t]
theorem RpA.get {F : Hp} : ∀ {vs : List V} {ds : List D} {i : Nat} {v : V}, RpA F vs ds → vs[i]? = some v → ∃ d, ds[i]? = some d ∧ Rp F v d
  | _, _, _, _, .nil, e => by simp at e
  | _, _, 0, _, .cons r _, e => by simp at e; subst e; exact ⟨_, rfl, r⟩
  | _, _, i + 1, v, .cons _ t, e => by
    obtain ⟨d, h1, h2⟩ := RpA.get (i := i) (v := v) t (by simpa using e)
    exact ⟨d, by simpa using h1, h2⟩
theorem RpA.get' {F : Hp} : ∀ {vs : List V} {ds : List D} {i : Nat} {d : D}, RpA F vs ds → ds[i]? = some d → ∃ v, vs[i]? = some v ∧ Rp F v d
  | _, _, _, _, .nil, e => by simp at e
  | _, _, 0, _, .cons r _, e => by simp at e; subst e; exact ⟨_, rfl, r⟩
  | _, _, i + 1, v, .cons _ t, e => by
    obtain ⟨d, h1, h2⟩ := RpA.get' (i := i) (d := v) t (by simpa using e)
    exact ⟨d, by simpa using h1, h2⟩
theorem RpA.append {F : Hp} : ∀ {vs ws : List V} {ds es : List D}, RpA F vs ds → RpA F ws es → RpA F (vs ++ ws) (ds ++ es)
  | _, _, _, _, .nil, s => s
  | _, _, _, _, .cons r t, s => .cons r (RpA.append t s)
theorem RpA.take {F : Hp} : ∀ {vs : List V} {ds : List D} (n : Nat), RpA F vs ds → RpA F (vs.take n) (ds.take n)
  | _, _, 0, _ => .nil
  | _, _, _ + 1, .nil => .nil
  | _, _, n + 1, .cons r t => .cons r (RpA.take n t)
theorem RpA.drop {F : Hp} : ∀ {vs : List V} {ds : List D} (n : Nat), RpA F vs ds → RpA F (vs.drop n) (ds.drop n)
  | _, _, 0, r => r
  | _, _, _ + 1, .nil => .nil
  | _, _, n + 1, .cons _ t => RpA.drop n t
theorem RpA.set {F : Hp} {v : V} {d : D} (r : Rp F v d) : ∀ {vs : List V} {ds : List D} (n : Nat), RpA F vs ds → RpA F (vs.set n v) (ds.set n d)
  | _, _, _, .nil => .nil
  | _, _, 0, .cons _ t => .cons r t
  | _, _, n + 1, .cons q t => .cons q (RpA.set r n t)
theorem RpA.one {F : Hp} {v : V} {d : D} (r : Rp F v d) : RpA F [v] [d] := .cons r .nil
theorem RpA.erase {F : Hp} : ∀ {vs : List V} {ds : List D} (n : Nat), RpA F vs ds → RpA F (vs.eraseIdx n) (ds.eraseIdx n)
  | _, _, _, .nil => .nil
  | _, _, 0, .cons _ t => t
  | _, _, n + 1, .cons q t => .cons q (RpA.erase n t)
theorem RpA.ints {F : Hp} : ∀ (ns : List Int), RpA F (ns.map V.int) (ns.map PyData.int)
  | [] => .nil
  | n :: ns => .cons (.int n) (RpA.ints ns)
theorem RpA.ints_of {F : Hp} : ∀ {ns : List Int} {vs : List V}, RpA F vs (ns.map PyData.int) → vs = ns.map V.int
  | [], _, h => by cases h; rfl
  | n :: ns, _, h => by
    cases h with
    | cons r t =>
      cases r
      rw [RpA.ints_of t]; rfl
/- frozen data read in the machine heap -/
mutual
theorem Rp.reads {P : Program} {w : World} {F H : Hp} {h : Heap} (k : Ex F H) (ok : HOk P w H h) : ∀ {v : V} {d : D} {u : Value}, Rp F v d → RelV v u → d.plain = true → ∃ as, Reads h u d as
  | _, _, _, .non, e, _ => by cases e; exact ⟨_, .none⟩
  | _, _, _, .bl b, e, _ => by cases e; exact ⟨_, .bool b⟩
  | _, _, _, .int i, e, _ => by obtain ⟨t, rfl⟩ := e; exact ⟨_, .int i t⟩
  | _, _, _, .str x, e, _ => by obtain ⟨t, rfl⟩ := e; exact ⟨_, .str x t⟩
  | _, _, _, .tup q r, e, hp => by
    cases e
    obtain ⟨_, its, rv, o, ho, hc, n, hd⟩ := ok _ _ (k _ _ q)
    obtain ⟨as, hr⟩ := RpA.reads k ok r rv (by simpa only [PyData.plain] using hp)
    exact ⟨_, .tuple ho hc hd (by simpa using hr)⟩
  | _, _, _, .lst q r, e, hp => by
    cases e
    obtain ⟨_, its, n, rv, ho⟩ := ok _ _ (k _ _ q)
    obtain ⟨as, hr⟩ := RpA.reads k ok r rv (by simpa only [PyData.plain] using hp)
    exact ⟨_, .list ho rfl rfl (by simpa using hr)⟩
  | _, _, _, .dct q r, e, hp => by
    unfold dctD at hp
    simp only [PyData.plain] at hp
    cases hp
  | _, _, _, .ftup q n r, e, hp => by
    unfold ft at hp
    simp only [PyData.plain] at hp
    cases hp
theorem RpA.reads {P : Program} {w : World} {F H : Hp} {h : Heap} (k : Ex F H) (ok : HOk P w H h) : ∀ {vs : List V} {ds : List D} {us : List Value}, RpA F vs ds → Vals vs us → PyData.plainAll ds = true → ∃ as, ReadsAll h us ds as
  | _, _, _, .nil, e, _ => by cases e; exact ⟨_, .nil⟩
  | _, _, _, .cons r t, e, hp => by
    cases e with
    | cons e1 e2 =>
      rw [PyData.plainAll, Bool.and_eq_true] at hp
      obtain ⟨as, h1⟩ := Rp.reads k ok r e1 hp.1
      obtain ⟨bs, h2⟩ := RpA.reads k ok t e2 hp.2
      exact ⟨_, .cons h1 h2⟩
end

/-! ### contexts, slots -/
/-- B: what must stand as it stands; F0: what was frozen at the entry; sr: the source's dict and its list, where the def may turn it -/
structure C where
  B : Hp
  F0 : Hp
  sr : Option (Addr × Addr)
def SrcOk (H : Hp) (p : Addr × Addr) : Prop := ∃ (cells : List Int) (left mixed turn : Int),
  H p.1 = some (.dK [(.inr "cells", .ref p.2), (.inr "left", .int left), (.inr "mixed", .int mixed), (.inr "turn", .int turn)]) ∧ H p.2 = some (.lst (cells.map V.int))
structure Fin (c : C) (F H : Hp) : Prop where
  f0 : Ex c.F0 F
  fh : Ex F H
  bh : Ex c.B H
  bf : ∀ a o, c.B a = some o → F a = c.F0 a ∨ ∃ xs, o = .tup xs
  src : ∀ p, c.sr = some p → SrcOk H p ∧ F p.1 = none ∧ F p.2 = none ∧ c.B p.1 = none ∧ c.B p.2 = none
/-- what one may hold alone: a list, a dict with keys that are tuples of ints -/
inductive OB where
  | l (ds : List D)
  | d (kvs : List (List Int × D))
def OBR (F : Hp) : HO → OB → Prop
  | .lst vs, .l ds => RpA F vs ds
  | .dT ws, .d kvs => RpK F ws kvs
  | _, _ => False
def obD : OB → D
  | .l ds => .list ds
  | .d kvs => dctD kvs
theorem OBR.ex {F F' : Hp} (k : Ex F F') : ∀ {h : HO} {o : OB}, OBR F h o → OBR F' h o := fun {h o} r => by
  cases h <;> cases o <;> first
    | exact RpA.ex k (show RpA F _ _ from r)
    | exact RpK.ex k (show RpK F _ _ from r)
    | exact False.elim r
theorem OBR.rp {F : Hp} {a : Addr} {h : HO} {o : OB} (r : OBR F h o) (e : F a = some h) : Rp F (V.ref a) (obD o) := by
  cases h <;> cases o <;> first
    | exact .lst e (show RpA F _ _ from r)
    | exact .dct e (show RpK F _ _ from r)
    | exact False.elim r
theorem OBR.mut {F : Hp} {h : HO} {o : OB} (r : OBR F h o) : Mut (some h) := by
  cases h <;> cases o <;> first | exact True.intro | exact False.elim r
inductive Sl where
  | emp
  | val (d : D)
  | ob (o : OB)
  | src
  | rf (a : Addr)
abbrev Sl.own (ds : List D) : Sl := .ob (.l ds)
def SlR (c : C) (F H : Hp) : Option V → Sl → Prop
  | _, .emp => True
  | x, .val d => ∃ v, x = some v ∧ Rp F v d
  | x, .ob o => ∃ a h, x = some (.ref a) ∧ H a = some h ∧ OBR F h o ∧ F a = none ∧ c.B a = none ∧ ∀ p, c.sr = some p → a ≠ p.1 ∧ a ≠ p.2
  | x, .src => ∃ p, c.sr = some p ∧ x = some (.ref p.1)
  | x, .rf a => x = some (.ref a)
structure EvD (c : C) (S : List Sl) (F : Hp) (σ : St) (H : Hp) : Prop where
  fin : Fin c F H
  len : σ.length = S.length
  sl : ∀ (i : Nat) s, S[i]? = some s → ∃ x, σ[i]? = some x ∧ SlR c F H x s
  ds : ∀ (i j : Nat) xs ys a, S[i]? = some (.ob xs) → S[j]? = some (.ob ys) → σ[i]? = some (some (.ref a)) → σ[j]? = some (some (.ref a)) → i = j
theorem SrcOk.ex {H H' : Hp} {p : Addr × Addr} (k : Ex H H') (h : SrcOk H p) : SrcOk H' p := by
  obtain ⟨cs, l, m, t, h1, h2⟩ := h
  exact ⟨cs, l, m, t, k _ _ h1, k _ _ h2⟩
theorem SlR.ex {c : C} {F H F' H' : Hp} (kF : Ex F F') (kH : Ex H H') (kn : ∀ a o, H a = some o → F a = none → F' a = none) : ∀ {x : Option V} {s : Sl}, SlR c F H x s → SlR c F' H' x s
  | _, .emp, _ => trivial
  | _, .val d, ⟨v, e, r⟩ => ⟨v, e, r.ex kF⟩
  | _, .ob o, ⟨a, vs, e, h, r, n, b, q⟩ => ⟨a, vs, e, kH _ _ h, r.ex kF, kn _ _ h n, b, q⟩
  | _, .src, ⟨p, e, q⟩ => ⟨p, e, q⟩
  | _, .rf _, e => e
/-- nothing old changed: new frozen things, perhaps -/
theorem EvD.ex {c : C} {S : List Sl} {F F' : Hp} {σ : St} {H H' : Hp} (E : EvD c S F σ H) (kF : Ex F F') (kH : Ex H H') (fh : Ex F' H') (kn : ∀ a o, H a = some o → F a = none → F' a = none) : EvD c S F' σ H' := by
  refine ⟨⟨E.fin.f0.trans kF, fh, E.fin.bh.trans kH, fun a o e => ?_, fun p e => ?_⟩, E.len, fun i s e => ?_, E.ds⟩
  · have h1 := E.fin.bh a o e
    rcases E.fin.bf a o e with h2 | h2
    · refine .inl ?_
      cases q : F a with
      | some u =>
        rw [kF a u q, ← h2, q]
      | none => rw [kn a o h1 q, ← h2, q]
    · exact .inr h2
  · obtain ⟨s, n1, n2, b1, b2⟩ := E.fin.src p e
    obtain ⟨cs, l, m, t, h1, h2⟩ := id s
    exact ⟨s.ex kH, kn _ _ h1 n1, kn _ _ h2 n2, b1, b2⟩
  · obtain ⟨x, e1, r⟩ := E.sl i s e
    exact ⟨x, e1, r.ex kF kH kn⟩
/-- a new object is laid, not frozen -/
theorem EvD.laid {c : C} {S : List Sl} {F : Hp} {σ : St} {H : Hp} {p : Addr} {o : HO} (E : EvD c S F σ H) (n : H p = none) : EvD c S F σ (upd H p o) :=
  E.ex (Ex.refl F) (Ex.new n) (E.fin.fh.trans (Ex.new n)) fun _ _ _ h => h
/-- a new object is laid and frozen -/
theorem EvD.froz {c : C} {S : List Sl} {F : Hp} {σ : St} {H : Hp} {p : Addr} {o : HO} (E : EvD c S F σ H) (n : H p = none) : EvD c S (upd F p o) σ (upd H p o) := by
  have nF : F p = none := E.fin.fh.back n
  refine E.ex (Ex.new nF) (Ex.new n) (fun a u e => ?_) fun a u e h => ?_
  · by_cases q : a = p
    · subst q; rw [upd_same] at e ⊢; exact e
    · rw [upd_ne q] at e ⊢; exact E.fin.fh a u e
  · rw [upd_ne (ne_of_none e n)]; exact h
/-- an object of ours, in no slot, not of the source, is frozen as it stands -/
theorem EvD.freeze {c : C} {S : List Sl} {F : Hp} {σ : St} {H : Hp} {p : Addr} {o : HO} (E : EvD c S F σ H) (h : H p = some o) (n : F p = none) (b : c.B p = none) (ns : ∀ q, c.sr = some q → p ≠ q.1 ∧ p ≠ q.2)
    (no : ∀ (i : Nat) xs, S[i]? = some (.ob xs) → σ[i]? ≠ some (some (.ref p))) : EvD c S (upd F p o) σ H := by
  have fh : Ex (upd F p o) H := fun a u e => by
    by_cases q : a = p
    · subst q; rw [upd_same] at e; cases e; exact h
    · rw [upd_ne q] at e; exact E.fin.fh a u e
  refine ⟨⟨E.fin.f0.trans (Ex.new n), fh, E.fin.bh, fun a u e => ?_, fun q e => ?_⟩, E.len, fun i s e => ?_, E.ds⟩
  · have hne : a ≠ p := ne_of_none e b
    rw [upd_ne hne]; exact E.fin.bf a u e
  · obtain ⟨s, n1, n2, b1, b2⟩ := E.fin.src q e
    obtain ⟨m1, m2⟩ := ns q e
    exact ⟨s, by rw [upd_ne m1.symm]; exact n1, by rw [upd_ne m2.symm]; exact n2, b1, b2⟩
  · obtain ⟨x, e1, r⟩ := E.sl i s e
    refine ⟨x, e1, ?_⟩
    cases s with
    | emp => trivial
    | val d =>
      obtain ⟨v, e2, r⟩ := r
      exact ⟨v, e2, r.ex (Ex.new n)⟩
    | src => exact r
    | rf _ => exact r
    | ob o' =>
      obtain ⟨a, vs, e2, h1, r1, n1, b1, q1⟩ := r
      subst e2
      have hne : a ≠ p := fun z => no i _ e (by rw [e1, z])
      exact ⟨a, vs, rfl, h1, r1.ex (Ex.new n), by rw [upd_ne hne]; exact n1, b1, q1⟩
theorem not_mut_tup {xs : List V} : ¬ Mut (some (.tup xs)) := fun h => h
/-- a tuple that stands is frozen -/
theorem EvD.freezeT {c : C} {S : List Sl} {F : Hp} {σ : St} {H : Hp} {p : Addr} {xs : List V} (E : EvD c S F σ H) (h : H p = some (.tup xs)) (n : F p = none) : EvD c S (upd F p (.tup xs)) σ H := by
  have fh : Ex (upd F p (.tup xs)) H := fun a u e => by
    by_cases q : a = p
    · subst q; rw [upd_same] at e; cases e; exact h
    · rw [upd_ne q] at e; exact E.fin.fh a u e
  refine ⟨⟨E.fin.f0.trans (Ex.new n), fh, E.fin.bh, fun a u e => ?_, fun q e => ?_⟩, E.len, fun i s e => ?_, E.ds⟩
  · by_cases hne : a = p
    · subst hne
      have h2 := E.fin.bh a u e
      rw [h] at h2
      cases h2
      exact .inr ⟨_, rfl⟩
    · rw [upd_ne hne]; exact E.fin.bf a u e
  · obtain ⟨s, n1, n2, b1, b2⟩ := E.fin.src q e
    obtain ⟨cs, l, m, t, h1, h2⟩ := id s
    have m1 : p ≠ q.1 := ne_of h h1 (fun z => nomatch z)
    have m2 : p ≠ q.2 := ne_of h h2 (fun z => nomatch z)
    exact ⟨s, by rw [upd_ne m1.symm]; exact n1, by rw [upd_ne m2.symm]; exact n2, b1, b2⟩
  · obtain ⟨x, e1, r⟩ := E.sl i s e
    refine ⟨x, e1, ?_⟩
    cases s with
    | emp => trivial
    | val d =>
      obtain ⟨v, e2, r⟩ := r
      exact ⟨v, e2, r.ex (Ex.new n)⟩
    | src => exact r
    | rf _ => exact r
    | ob o' =>
      obtain ⟨a, vs, e2, h1, r1, n1, b1, q1⟩ := r
      subst e2
      have hne : a ≠ p := fun z => by
        have m := r1.mut
        rw [z, h] at h1
        cases h1
        exact m
      exact ⟨a, vs, rfl, h1, r1.ex (Ex.new n), by rw [upd_ne hne]; exact n1, b1, q1⟩
/-- a slot gets data -/
theorem EvD.set {c : C} {S : List Sl} {F : Hp} {σ : St} {H : Hp} {i : Nat} {v : V} {d : D} (E : EvD c S F σ H) (r : Rp F v d) : EvD c (S.set i (.val d)) F (σ.set i (some v)) H := by
  refine ⟨E.fin, by rw [List.length_set, List.length_set]; exact E.len, fun j s e => ?_, fun j k xs ys a e1 e2 e3 e4 => ?_⟩
  · by_cases hj : i = j
    · subst hj
      have hl : i < S.length := by
        have := (List.getElem?_eq_some_iff.mp e).1
        rw [List.length_set] at this; exact this
      rw [List.getElem?_set_self hl] at e
      cases e
      exact ⟨some v, List.getElem?_set_self (by rw [E.len]; exact hl), v, rfl, r⟩
    · rw [List.getElem?_set_ne hj] at e ⊢
      exact E.sl j s e
  · have hj : i ≠ j := fun z => by
      subst z
      have hl : i < S.length := by
        have := (List.getElem?_eq_some_iff.mp e1).1
        rw [List.length_set] at this; exact this
      rw [List.getElem?_set_self hl] at e1; cases e1
    have hk : i ≠ k := fun z => by
      subst z
      have hl : i < S.length := by
        have := (List.getElem?_eq_some_iff.mp e2).1
        rw [List.length_set] at this; exact this
      rw [List.getElem?_set_self hl] at e2; cases e2
    rw [List.getElem?_set_ne hj] at e1 e3
    rw [List.getElem?_set_ne hk] at e2 e4
    exact E.ds j k xs ys a e1 e2 e3 e4
/-- a slot gets a new list of its own -/
theorem EvD.setOwn {c : C} {S : List Sl} {F : Hp} {σ : St} {H : Hp} {i : Nat} {a : Addr} {vs : HO} {ds : OB} (E : EvD c S F σ H) (h : H a = some vs) (r : OBR F vs ds) (n : F a = none) (b : c.B a = none) (ns : ∀ p, c.sr = some p → a ≠ p.1 ∧ a ≠ p.2)
    (no : ∀ (j : Nat) xs, S[j]? = some (.ob xs) → σ[j]? ≠ some (some (.ref a))) : EvD c (S.set i (.ob ds)) F (σ.set i (some (.ref a))) H := by
  refine ⟨E.fin, by rw [List.length_set, List.length_set]; exact E.len, fun j s e => ?_, fun j k xs ys a' e1 e2 e3 e4 => ?_⟩
  · by_cases hj : i = j
    · subst hj
      have hl : i < S.length := by
        have := (List.getElem?_eq_some_iff.mp e).1
        rw [List.length_set] at this; exact this
      rw [List.getElem?_set_self hl] at e
      cases e
      exact ⟨some (.ref a), List.getElem?_set_self (by rw [E.len]; exact hl), a, vs, rfl, h, r, n, b, ns⟩
    · rw [List.getElem?_set_ne hj] at e ⊢
      exact E.sl j s e
  · by_cases hj : i = j
    · by_cases hk : i = k
      · rw [← hj, hk]
      · subst hj
        rw [List.getElem?_set_ne hk] at e2 e4
        have hl : i < σ.length := by
          have := (List.getElem?_eq_some_iff.mp e3).1
          rw [List.length_set] at this; exact this
        rw [List.getElem?_set_self hl] at e3
        cases e3
        exact absurd e4 (no k ys e2)
    · rw [List.getElem?_set_ne hj] at e1 e3
      by_cases hk : i = k
      · subst hk
        have hl : i < σ.length := by
          have := (List.getElem?_eq_some_iff.mp e4).1
          rw [List.length_set] at this; exact this
        rw [List.getElem?_set_self hl] at e4
        cases e4
        exact absurd e3 (no j xs e1)
      · rw [List.getElem?_set_ne hk] at e2 e4
        exact E.ds j k xs ys a' e1 e2 e3 e4
/-- the own list of a slot is written -/
theorem EvD.write {c : C} {S : List Sl} {F : Hp} {σ : St} {H : Hp} {i : Nat} {a : Addr} {xs ds : OB} {vs : HO} (E : EvD c S F σ H) (e : S[i]? = some (.ob xs)) (es : σ[i]? = some (some (.ref a))) (r : OBR F vs ds) :
    EvD c (S.set i (.ob ds)) F σ (upd H a vs) := by
  obtain ⟨x, e1, a', vs', e2, h, r', n, b, q⟩ := E.sl i _ e
  rw [es] at e1; cases e1; cases e2
  have hl : i < S.length := (List.getElem?_eq_some_iff.mp e).1
  refine ⟨⟨E.fin.f0, E.fin.fh.upd2 n, E.fin.bh.upd2 b, E.fin.bf, fun p ep => ?_⟩, by rw [List.length_set]; exact E.len, fun j s ej => ?_, fun j k xs' ys' a' e1 e2 e3 e4 => ?_⟩
  · obtain ⟨⟨cs, l, m, t, h1, h2⟩, n1, n2, b1, b2⟩ := E.fin.src p ep
    exact ⟨⟨cs, l, m, t, by rw [upd_ne (q p ep).1.symm]; exact h1, by rw [upd_ne (q p ep).2.symm]; exact h2⟩, n1, n2, b1, b2⟩
  · by_cases hj : i = j
    · subst hj
      rw [List.getElem?_set_self hl] at ej
      cases ej
      exact ⟨_, es, a, vs, rfl, upd_same, r, n, b, q⟩
    · rw [List.getElem?_set_ne hj] at ej
      obtain ⟨x, e1, rr⟩ := E.sl j s ej
      refine ⟨x, e1, ?_⟩
      cases s with
      | emp => trivial
      | val d => exact rr
      | src => exact rr
      | rf _ => exact rr
      | ob ds' =>
        obtain ⟨a2, vs2, e2, h2, r2, n2, b2, q2⟩ := rr
        subst e2
        have : a2 ≠ a := fun z => hj (E.ds i j _ _ a e ej es (by rw [e1, z]))
        exact ⟨a2, vs2, rfl, by rw [upd_ne this]; exact h2, r2, n2, b2, q2⟩
  · have own : ∀ {j : Nat} {ys : OB}, (S.set i (.ob ds))[j]? = some (.ob ys) → ∃ zs, S[j]? = some (.ob zs) := fun {j ys} z => by
      by_cases hj : i = j
      · subst hj; exact ⟨_, e⟩
      · rw [List.getElem?_set_ne hj] at z; exact ⟨_, z⟩
    obtain ⟨z1, f1⟩ := own e1
    obtain ⟨z2, f2⟩ := own e2
    exact E.ds j k _ _ _ f1 f2 e3 e4
/-- a slot's own list is frozen -/
theorem EvD.freezeAt {c : C} {S : List Sl} {F : Hp} {σ : St} {H : Hp} {i : Nat} {xs : OB} (E : EvD c S F σ H) (e : S[i]? = some (.ob xs)) : ∃ F' v, Ex F F' ∧ σ[i]? = some (some v) ∧ Rp F' v (obD xs) ∧ EvD c (S.set i (.val (obD xs))) F' σ H := by
  obtain ⟨x, e1, a, vs, e2, h, r, n, b, q⟩ := E.sl i _ e
  subst e2
  have hl : i < S.length := (List.getElem?_eq_some_iff.mp e).1
  have hemp : EvD c (S.set i .emp) F σ H := by
    refine ⟨E.fin, by rw [List.length_set]; exact E.len, fun j s ej => ?_, fun j k xs' ys' a' f1 f2 f3 f4 => ?_⟩
    · by_cases hj : i = j
      · subst hj
        rw [List.getElem?_set_self hl] at ej; cases ej
        exact ⟨_, e1, trivial⟩
      · rw [List.getElem?_set_ne hj] at ej; exact E.sl j s ej
    · have own : ∀ {j : Nat} {ys : OB}, (S.set i .emp)[j]? = some (.ob ys) → S[j]? = some (.ob ys) := fun {j ys} z => by
        by_cases hj : i = j
        · subst hj; rw [List.getElem?_set_self hl] at z; cases z
        · rw [List.getElem?_set_ne hj] at z; exact z
      exact E.ds j k _ _ _ (own f1) (own f2) f3 f4
  have hf : EvD c (S.set i .emp) (upd F a vs) σ H := hemp.freeze h n b (fun p ep => q p ep) fun j ys ej ea => ?_
  · refine ⟨upd F a vs, .ref a, Ex.new n, e1, (r.ex (Ex.new n)).rp upd_same, ?_⟩
    refine ⟨hf.fin, by rw [List.length_set]; exact E.len, fun j s ej => ?_, fun j k xs' ys' a' f1 f2 f3 f4 => ?_⟩
    · by_cases hj : i = j
      · subst hj
        rw [List.getElem?_set_self hl] at ej; cases ej
        exact ⟨_, e1, _, rfl, (r.ex (Ex.new n)).rp upd_same⟩
      · rw [List.getElem?_set_ne hj] at ej
        exact hf.sl j s (by rw [List.getElem?_set_ne hj]; exact ej)
    · have own : ∀ {j : Nat} {ys : OB}, (S.set i (.val (obD xs)))[j]? = some (.ob ys) → S[j]? = some (.ob ys) := fun {j ys} z => by
        by_cases hj : i = j
        · subst hj; rw [List.getElem?_set_self hl] at z; cases z
        · rw [List.getElem?_set_ne hj] at z; exact z
      exact E.ds j k _ _ _ (own f1) (own f2) f3 f4
  · by_cases hj : i = j
    · subst hj; rw [List.getElem?_set_self hl] at ej; cases ej
    · rw [List.getElem?_set_ne hj] at ej
      exact hj (E.ds i j _ _ a e ej e1 ea)
/-- a slot is forgotten -/
theorem EvD.wipe1 {c : C} {S : List Sl} {F : Hp} {σ : St} {H : Hp} {i : Nat} (E : EvD c S F σ H) : EvD c (S.set i .emp) F (σ.set i none) H := by
  have own : ∀ {j : Nat} {ys : OB}, (S.set i .emp)[j]? = some (.ob ys) → i ≠ j ∧ S[j]? = some (.ob ys) := fun {j ys} z => by
    by_cases hj : i = j
    · subst hj
      by_cases hl : i < S.length
      · rw [List.getElem?_set_self hl] at z; cases z
      · rw [List.getElem?_eq_none (by rw [List.length_set]; omega)] at z; cases z
    · rw [List.getElem?_set_ne hj] at z; exact ⟨hj, z⟩
  refine ⟨E.fin, by rw [List.length_set, List.length_set]; exact E.len, fun j s ej => ?_, fun j k xs' ys' a' f1 f2 f3 f4 => ?_⟩
  · by_cases hj : i = j
    · subst hj
      have hl : i < S.length := by
        have := (List.getElem?_eq_some_iff.mp ej).1
        rw [List.length_set] at this; exact this
      rw [List.getElem?_set_self hl] at ej; cases ej
      exact ⟨none, List.getElem?_set_self (by rw [E.len]; exact hl), trivial⟩
    · rw [List.getElem?_set_ne hj] at ej ⊢; exact E.sl j s ej
  · obtain ⟨n1, g1⟩ := own f1
    obtain ⟨n2, g2⟩ := own f2
    rw [List.getElem?_set_ne n1] at f3
    rw [List.getElem?_set_ne n2] at f4
    exact E.ds j k _ _ _ g1 g2 f3 f4
def wipeS (S : List Sl) : List Nat → List Sl
  | [] => S
  | v :: vs => (wipeS S vs).set v .emp
theorem EvD.wipe {c : C} {S : List Sl} {F : Hp} {σ : St} {H : Hp} (E : EvD c S F σ H) : ∀ vs : List Nat, EvD c (wipeS S vs) F (L2.wipe σ vs) H
  | [] => E
  | _ :: vs => (E.wipe vs).wipe1
end DL

/-! DL: judgements over slots, the rules that lead through. -/
namespace DL
open PySem L2

/-! ### the machine's own readings -/
section
variable {X : Cx}
def tE (X : Cx) (e : Expr) : TE := fun σ H Q => ∀ pins s, Inv X pins σ H s → wpAny (model X.prog X.w) X.A (eval e X.env) (EP X pins σ Q) X.xe s
def tT (X : Cx) (e : Expr) : TT := fun σ H Q => ∀ pins s, Inv X pins σ H s → wpAny (model X.prog X.w) X.A (isTrue e X.env (eval e X.env)) (TP X pins σ Q) X.xe s
def tA (X : Cx) (es : List Expr) : TA := fun σ H Q => ∀ pos pins s, Inv X pins σ H s → wpAny (model X.prog X.w) X.A (spliced (backTo pos (starEach es X.env))) (AP X pins σ Q) X.xe s
def tS (X : Cx) (st : Stmt) : TS := fun D σ H => ∀ pins s, Inv X pins σ H s → wpAny (model X.prog X.w) X.A (exec st X.env) (SP X pins D) X.xe s
def tSs (X : Cx) (st : List Stmt) : TS := fun D σ H => ∀ pins s, Inv X pins σ H s → wpAny (model X.prog X.w) X.A (execs st X.env) (SP X pins D) X.xe s
def tG (X : Cx) (target : Expr) : TG := fun v σ H Q => ∀ pins s u, Inv X pins σ H s → RelV v u → wpAny (model X.prog X.w) X.A (assign target X.env u) (fun _ s' => ∃ σ' H', Inv X pins σ' H' s' ∧ Q σ' H') X.xe s
def tI (X : Cx) (tg iter : Expr) : TI := fun σ H R => ∀ pins s, Inv X pins σ H s → wpAny (model X.prog X.w) X.A (eval iter X.env) (fun v s1 => wpAny (model X.prog X.w) X.A (pyIter v) (PIE X pins σ tg R) X.xe s1) X.xe s
theorem pe_tE {e : Expr} : PE X e (tE X e) := ⟨fun pins s _ _ _ I h => h pins s I⟩
theorem pt_tT {e : Expr} : PT X e (tT X e) := ⟨fun pins s _ _ _ I h => h pins s I⟩
theorem pa_tA {es : List Expr} : PA X es (tA X es) := ⟨fun pos pins s _ _ _ I h => h pos pins s I⟩
theorem ps_tS {st : Stmt} : PS X st (tS X st) := ⟨fun pins s _ _ _ I h => h pins s I⟩
theorem pss_tSs {st : List Stmt} : PSs X st (tSs X st) := ⟨fun pins s _ _ _ I h => h pins s I⟩
theorem pg_tG {tg : Expr} : PG X tg (tG X tg) := ⟨fun pins s _ _ _ u _ I r h => h pins s u I r⟩
theorem pi_tI {tg iter : Expr} : PI X tg iter (tI X tg iter) := ⟨fun pins s _ _ _ I h => h pins s I⟩
theorem of_pe {e : Expr} {t : TE} {σ : St} {H : Hp} {Q : VK} (h : PE X e t) (q : t σ H Q) : tE X e σ H Q := fun pins s I => h.run pins s σ H Q I q
theorem of_pt {e : Expr} {t : TT} {σ : St} {H : Hp} {Q : Bool → Hp → Prop} (h : PT X e t) (q : t σ H Q) : tT X e σ H Q := fun pins s I => h.run pins s σ H Q I q
theorem of_pa {es : List Expr} {t : TA} {σ : St} {H : Hp} {Q : List V → Hp → Prop} (h : PA X es t) (q : t σ H Q) : tA X es σ H Q := fun pos pins s I => h.run pos pins s σ H Q I q
theorem of_ps {st : Stmt} {t : TS} {σ : St} {H : Hp} {D : Ends} (h : PS X st t) (q : t D σ H) : tS X st D σ H := fun pins s I => h.run pins s σ H D I q
theorem of_pss {st : List Stmt} {t : TS} {σ : St} {H : Hp} {D : Ends} (h : PSs X st t) (q : t D σ H) : tSs X st D σ H := fun pins s I => h.run pins s σ H D I q
theorem of_pg {tg : Expr} {t : TG} {v : V} {σ : St} {H : Hp} {Q : St → Hp → Prop} (h : PG X tg t) (q : t v σ H Q) : tG X tg v σ H Q := fun pins s u I r => h.run pins s σ H v u Q I r q
theorem of_pi {tg iter : Expr} {t : TI} {σ : St} {H : Hp} {R : It → Hp → Prop} (h : PI X tg iter t) (q : t σ H R) : tI X tg iter σ H R := fun pins s I => h.run pins s σ H R I q
end

/-! ### judgements -/
inductive Ar where
  | d (d : D)
  | src
def ArR (c : C) (F : Hp) (v : V) : Ar → Prop
  | .d d => Rp F v d
  | .src => ∃ p, c.sr = some p ∧ v = .ref p.1
inductive ArA (c : C) (F : Hp) : List V → List Ar → Prop
  | nil : ArA c F [] []
  | cons {v a vs as} : ArR c F v a → ArA c F vs as → ArA c F (v :: vs) (a :: as)
theorem ArR.ex {c : C} {F F' : Hp} {v : V} (k : Ex F F') : ∀ {a : Ar}, ArR c F v a → ArR c F' v a
  | .d _, h => Rp.ex k h
  | .src, h => h
theorem ArA.ex {c : C} {F F' : Hp} (k : Ex F F') {vs : List V} {as : List Ar} (h : ArA c F vs as) : ArA c F' vs as := by
  induction h with
  | nil => exact .nil
  | cons r _ ih => exact .cons (r.ex k) ih
theorem ArA.length {c : C} {F : Hp} {vs : List V} {as : List Ar} (h : ArA c F vs as) : vs.length = as.length := by
  induction h with
  | nil => rfl
  | cons r _ ih => rw [List.length_cons, List.length_cons, ih]
theorem ArA.data {c : C} {F : Hp} : ∀ {vs : List V} {ds : List D}, ArA c F vs (ds.map Ar.d) → RpA F vs ds
  | _, [], h => by cases h; exact .nil
  | _, d :: ds, h => by
    cases h with
    | cons r t => exact .cons r (ArA.data t)

def C.hold (c : C) (Dl : Addr) (o : HO) : C := ⟨upd c.B Dl o, c.F0, c.sr⟩
/-- what is known of where a judgement stands; it holds of a part of it, too -/
structure SR where
  q : C → Prop
  st : ∀ c Dl o, c.B Dl = none → q c → q (c.hold Dl o)
/-- a def's own place, and parts of it -/
def srL (c0 : C) : SR := ⟨fun c => c.sr = c0.sr ∧ c.F0 = c0.F0 ∧ Ex c0.B c.B, fun c Dl o n ⟨a, b, e⟩ => ⟨a, b, e.trans (Ex.new n)⟩⟩
theorem srL_refl (c0 : C) : (srL c0).q c0 := ⟨rfl, rfl, Ex.refl _⟩
theorem srL_fin {c0 c : C} {F H : Hp} (h : (srL c0).q c) (f : Fin c F H) : Fin c0 F H := by
  obtain ⟨a, b, e⟩ := h
  refine ⟨by rw [← b]; exact f.f0, f.fh, e.trans f.bh, fun x o ex => ?_, fun p ep => ?_⟩
  · rw [← b]; exact f.bf x o (e x o ex)
  · obtain ⟨s, n1, n2, b1, b2⟩ := f.src p (a.trans ep)
    exact ⟨s, n1, n2, e.back b1, e.back b2⟩
/-- what follows a new list -/
def NewL (c : C) (S' : List Sl) (F' H' : Hp) (σ : St) (p : Addr) (o : OB) : Prop :=
  ∃ h, EvD c S' F' σ H' ∧ H' p = some h ∧ OBR F' h o ∧ F' p = none ∧ c.B p = none ∧ (∀ q, c.sr = some q → p ≠ q.1 ∧ p ≠ q.2) ∧ ∀ (j : Nat) xs, S'[j]? = some (.ob xs) → σ[j]? ≠ some (some (.ref p))
def JE (X : Cx) (r : SR) (e : Expr) (S : List Sl) (K : D → List Sl → Prop) : Prop :=
  ∀ (c : C) F σ H, r.q c → EvD c S F σ H → ∀ Q : VK, (∀ v d F' H' S', K d S' → EvD c S' F' σ H' → Ex F F' → Rp F' v d → Q v H') → tE X e σ H Q
/-- a new object -/
def JO (X : Cx) (r : SR) (e : Expr) (S : List Sl) (K : OB → List Sl → Prop) : Prop :=
  ∀ (c : C) F σ H, r.q c → EvD c S F σ H → ∀ Q : VK, (∀ p o F' H' S', K o S' → NewL c S' F' H' σ p o → Ex F F' → Q (.ref p) H') → tE X e σ H Q
def JN (X : Cx) (r : SR) (e : Expr) (S : List Sl) (K : List D → List Sl → Prop) : Prop :=
  ∀ (c : C) F σ H, r.q c → EvD c S F σ H → ∀ Q : VK, (∀ p ds F' H' S', K ds S' → NewL c S' F' H' σ p (.l ds) → Ex F F' → Q (.ref p) H') → tE X e σ H Q
def JT (X : Cx) (r : SR) (e : Expr) (S : List Sl) (K : Bool → List Sl → Prop) : Prop :=
  ∀ (c : C) F σ H, r.q c → EvD c S F σ H → ∀ Q : Bool → Hp → Prop, (∀ b F' H' S', K b S' → EvD c S' F' σ H' → Ex F F' → Q b H') → tT X e σ H Q
def JA (X : Cx) (r : SR) (es : List Expr) (S : List Sl) (K : List Ar → List Sl → Prop) : Prop :=
  ∀ (c : C) F σ H, r.q c → EvD c S F σ H → ∀ Q : List V → Hp → Prop, (∀ vs as F' H' S', K as S' → EvD c S' F' σ H' → Ex F F' → ArA c F' vs as → Q vs H') → tA X es σ H Q
structure DE where
  nx : List Sl → Prop
  rt : D → Prop
  bk : List Sl → Prop := fun _ => False
  ct : List Sl → Prop := fun _ => False
structure EndsR (c : C) (F : Hp) (E : DE) (G : Ends) : Prop where
  nx : ∀ F' σ' H' S', E.nx S' → EvD c S' F' σ' H' → Ex F F' → G.nx σ' H'
  rt : ∀ v d F' H', E.rt d → Fin c F' H' → Rp F' v d → G.rt v H'
  bk : ∀ F' σ' H' S', E.bk S' → EvD c S' F' σ' H' → Ex F F' → G.bk σ' H'
  ct : ∀ F' σ' H' S', E.ct S' → EvD c S' F' σ' H' → Ex F F' → G.ct σ' H'
def JS (X : Cx) (r : SR) (st : Stmt) (S : List Sl) (E : DE) : Prop :=
  ∀ (c : C) F σ H, r.q c → EvD c S F σ H → ∀ G : Ends, EndsR c F E G → tS X st G σ H
def JSs (X : Cx) (r : SR) (st : List Stmt) (S : List Sl) (E : DE) : Prop :=
  ∀ (c : C) F σ H, r.q c → EvD c S F σ H → ∀ G : Ends, EndsR c F E G → tSs X st G σ H
/-- a target; ts: the slots that it may store -/
def JG (X : Cx) (r : SR) (tg : Expr) (ts : List Nat) (d : D) (S : List Sl) (K : List Sl → Prop) : Prop :=
  ∀ (c : C) F σ H v, r.q c → EvD c S F σ H → Rp F v d → ∀ Q : St → Hp → Prop, (∀ F' σ' H' S', K S' → EvD c S' F' σ' H' → Ex F F' → (∀ j, j ∉ ts → σ'[j]? = σ[j]?) ∧ σ'.length = σ.length → Q σ' H') → tG X tg v σ H Q
/-- a walk over data -/
structure ItD (J : It) (B F : Hp) (ds : List D) : Prop where
  stop : ∀ i H, Ex B H → Ex F H → ds.length ≤ i → J.stop i H
  go : ∀ i H, Ex B H → Ex F H → i < ds.length → J.go i H
  yld : ∀ i H x H', Ex B H → Ex F H → J.yld i H x H' → i < ds.length → (H' = H ∧ ∃ d, ds[i]? = some d ∧ Rp F x d) ∨ (∃ T xs es, x = .ref T ∧ H T = none ∧ H' = upd H T (.tup xs) ∧ RpA F xs es ∧ ds[i]? = some (.tuple es)) ∨
    ∃ T xs es, x = .ref T ∧ H T = some (.tup xs) ∧ H' = H ∧ RpA F xs es ∧ ds[i]? = some (.tuple es)
/-- .. where it stands -/
def JIw (wi : TI) (c : C) (F : Hp) (σ : St) (H : Hp) (K : List D → List Sl → Prop) : Prop :=
  ∀ R : It → Hp → Prop, (∀ J ds F' H' S', K ds S' → EvD c S' F' σ H' → Ex F F' → ItD J c.B F' ds → R J H') → wi σ H R
def JI (X : Cx) (r : SR) (tg iter : Expr) (S : List Sl) (K : List D → List Sl → Prop) : Prop :=
  ∀ (c : C) F σ H, r.q c → EvD c S F σ H → ∀ R : It → Hp → Prop, (∀ J ds F' H' S', K ds S' → EvD c S' F' σ H' → Ex F F' → ItD J c.B F' ds → R J H') → tI X tg iter σ H R

section
variable {X : Cx} {r : SR} {S : List Sl}
theorem EndsR.ex {c : C} {F F' : Hp} {E : DE} {G : Ends} (h : EndsR c F E G) (k : Ex F F') : EndsR c F' E G :=
  ⟨fun _ _ _ _ a b e => h.nx _ _ _ _ a b (k.trans e), h.rt, fun _ _ _ _ a b e => h.bk _ _ _ _ a b (k.trans e), fun _ _ _ _ a b e => h.ct _ _ _ _ a b (k.trans e)⟩
theorem JE.mono {e : Expr} {K K' : D → List Sl → Prop} (h : JE X r e S K) (k : ∀ d S', K d S' → K' d S') : JE X r e S K' :=
  fun c F σ H hr E Q q => h c F σ H hr E Q fun v d F' H' S' a => q v d F' H' S' (k d S' a)
theorem JT.mono {e : Expr} {K K' : Bool → List Sl → Prop} (h : JT X r e S K) (k : ∀ d S', K d S' → K' d S') : JT X r e S K' :=
  fun c F σ H hr E Q q => h c F σ H hr E Q fun d F' H' S' a => q d F' H' S' (k d S' a)
theorem JN.mono {e : Expr} {K K' : List D → List Sl → Prop} (h : JN X r e S K) (k : ∀ d S', K d S' → K' d S') : JN X r e S K' :=
  fun c F σ H hr E Q q => h c F σ H hr E Q fun v d F' H' S' a => q v d F' H' S' (k d S' a)
theorem JSs.mono {st : List Stmt} {E E' : DE} (h : JSs X r st S E) (h1 : ∀ S, E.nx S → E'.nx S) (h2 : ∀ d, E.rt d → E'.rt d) (h3 : ∀ S, E.bk S → E'.bk S) (h4 : ∀ S, E.ct S → E'.ct S) : JSs X r st S E' :=
  fun c F σ H hr Ev G g => h c F σ H hr Ev G ⟨fun _ _ _ _ a => g.nx _ _ _ _ (h1 _ a), fun _ _ _ _ a => g.rt _ _ _ _ (h2 _ a), fun _ _ _ _ a => g.bk _ _ _ _ (h3 _ a), fun _ _ _ _ a => g.ct _ _ _ _ (h4 _ a)⟩

theorem JO.mono {e : Expr} {K K' : OB → List Sl → Prop} (h : JO X r e S K) (k : ∀ d S', K d S' → K' d S') : JO X r e S K' :=
  fun c F σ H hr E Q q => h c F σ H hr E Q fun v d F' H' S' a => q v d F' H' S' (k d S' a)
theorem JO.jn {e : Expr} {K : List D → List Sl → Prop} (h : JO X r e S fun o S' => ∃ ds, o = .l ds ∧ K ds S') : JN X r e S K :=
  fun c F σ H hr E Q q => h c F σ H hr E Q fun v d F' H' S' ⟨ds, e, a⟩ n k => by subst e; exact q v ds F' H' S' a n k
theorem JN.jo {e : Expr} {K : OB → List Sl → Prop} (h : JN X r e S fun ds S' => K (.l ds) S') : JO X r e S K :=
  fun c F σ H hr E Q q => h c F σ H hr E Q fun v ds F' H' S' a n k => q v _ F' H' S' a n k
/-- a new object is data like any other -/
theorem NewL.froz {c : C} {S' : List Sl} {F' H' : Hp} {σ : St} {p : Addr} {o : OB} (h : NewL c S' F' H' σ p o) : ∃ F2, EvD c S' F2 σ H' ∧ Ex F' F2 ∧ Rp F2 (.ref p) (obD o) := by
  obtain ⟨vs, E, hp, hv, n, b, q, no⟩ := h
  exact ⟨upd F' p vs, E.freeze hp n b q no, Ex.new n, (hv.ex (Ex.new n)).rp upd_same⟩
theorem JO.je {e : Expr} {K : D → List Sl → Prop} (h : JO X r e S (fun o S' => K (obD o) S')) : JE X r e S K :=
  fun c F σ H hr E Q q => h c F σ H hr E Q fun p ds F' H' S' a n k => by
    obtain ⟨F2, E2, k2, rp⟩ := n.froz
    exact q _ _ F2 H' S' a E2 (k.trans k2) rp
theorem JN.je {e : Expr} {K : D → List Sl → Prop} (h : JN X r e S (fun ds S' => K (.list ds) S')) : JE X r e S K := (JN.jo (K := fun o S' => K (obD o) S') h).je

/-! ### names, constants -/
theorem je_var {K : D → List Sl → Prop} {x : Str} {pos : Pos} (i : Nat) {d : D} (hN : X.N[i]? = some x) (hv : Vis X.env.scope x) (hd : (x == ("__debug__" : Str)) = false) (hcd : (x == ("__classdict__" : Str)) = false)
    (e : S[i]? = some (.val d)) (k : K d S) : JE X r (.Name x pos) S K := fun c F σ H hr E Q q => by
  obtain ⟨y, e1, v, e2, rp⟩ := E.sl i _ e
  subst e2
  exact of_pe (pe_var hN hv hd hcd) ⟨v, e1, q v d F H S k E (Ex.refl F) rp⟩
/-- an object of one's own, frozen by the reading -/
theorem je_own {K : D → List Sl → Prop} {x : Str} {pos : Pos} (i : Nat) {xs : OB} (hN : X.N[i]? = some x) (hv : Vis X.env.scope x) (hd : (x == ("__debug__" : Str)) = false) (hcd : (x == ("__classdict__" : Str)) = false)
    (e : S[i]? = some (.ob xs)) (k : K (obD xs) (S.set i (.val (obD xs)))) : JE X r (.Name x pos) S K := fun c F σ H hr E Q q => by
  obtain ⟨F', v, kF, e1, rp, E'⟩ := E.freezeAt e
  exact of_pe (pe_var hN hv hd hcd) ⟨v, e1, q v _ F' H _ k E' kF rp⟩
theorem je_int {K : D → List Sl → Prop} {i j pos} (k : K (.int i) S) : JE X r (.Constant (.int i) j pos) S K := fun c F σ H _ E Q q => of_pe pe_int (q _ _ F H S k E (Ex.refl F) (.int i))
theorem je_bl {K : D → List Sl → Prop} {i j pos} (k : K (.bool i) S) : JE X r (.Constant (.bool i) j pos) S K := fun c F σ H _ E Q q => of_pe pe_bl (q _ _ F H S k E (Ex.refl F) (.bl i))
theorem je_non {K : D → List Sl → Prop} {j pos} (k : K .none S) : JE X r (.Constant .none j pos) S K := fun c F σ H _ E Q q => of_pe pe_non (q _ _ F H S k E (Ex.refl F) .non)
theorem je_str {K : D → List Sl → Prop} {x j pos} (k : K (.str x) S) : JE X r (.Constant (.str x) j pos) S K := fun c F σ H _ E Q q => of_pe pe_str (q _ _ F H S k E (Ex.refl F) (.str x))

/-! ### operators -/
structure Grow (F H F' H' : Hp) : Prop where
  kF : Ex F F'
  kH : Ex H H'
  fh : Ex F' H'
  kn : ∀ a o, H a = some o → F a = none → F' a = none
theorem Grow.refl {F H : Hp} (k : Ex F H) : Grow F H F H := ⟨Ex.refl F, Ex.refl H, k, fun _ _ _ h => h⟩
theorem Grow.new {F H : Hp} (k : Ex F H) {p : Addr} {o : HO} (n : H p = none) : Grow F H (upd F p o) (upd H p o) := by
  have nF : F p = none := k.back n
  refine ⟨Ex.new nF, Ex.new n, fun a u e => ?_, fun a u e h => ?_⟩
  · by_cases q : a = p
    · subst q; rw [upd_same] at e ⊢; exact e
    · rw [upd_ne q] at e ⊢; exact k a u e
  · rw [upd_ne (ne_of_none e n)]; exact h
theorem EvD.grow {c : C} {F F' : Hp} {σ : St} {H H' : Hp} (E : EvD c S F σ H) (g : Grow F H F' H') : EvD c S F' σ H' := E.ex g.kF g.kH g.fh g.kn
/-- a two-place operation on data -/
def OpD (rr : R2) (d1 d2 : D) (K : D → Prop) : Prop :=
  ∀ F H v1 v2, Ex F H → Rp F v1 d1 → Rp F v2 d2 → ∀ Q : VK, (∀ v d F' H', K d → Grow F H F' H' → Rp F' v d → Q v H') → rr v1 v2 H Q
def UnD (rr : V → Hp → VK → Prop) (d1 : D) (K : D → Prop) : Prop :=
  ∀ F H v1, Ex F H → Rp F v1 d1 → ∀ Q : VK, (∀ v d F' H', K d → Grow F H F' H' → Rp F' v d → Q v H') → rr v1 H Q
def CallD (rr : List V → Hp → VK → Prop) (ds : List D) (K : D → Prop) : Prop :=
  ∀ F H vs, Ex F H → RpA F vs ds → ∀ Q : VK, (∀ v d F' H', K d → Grow F H F' H' → Rp F' v d → Q v H') → rr vs H Q
/-- a call that gives a new list -/
def CallN (rr : List V → Hp → VK → Prop) (ds : List D) (K : List D → Prop) : Prop :=
  ∀ F H vs, Ex F H → RpA F vs ds → ∀ Q : VK, (∀ p ws es, K es → H p = none → RpA F ws es → Q (.ref p) (upd H p (.lst ws))) → rr vs H Q
theorem je_op {K : D → List Sl → Prop} {a b : Expr} {op : Operator} {pos : Pos} {rr : R2} (ho : OpR X (binaryOp op) rr) (h : JE X r a S fun d1 S1 => JE X r b S1 fun d2 S2 => OpD rr d1 d2 fun d => K d S2) : JE X r (.BinOp a op b pos) S K :=
  fun c F σ H hr E Q q => of_pe (pe_op ho pe_tE pe_tE) (h c F σ H hr E _ fun v1 d1 F1 H1 S1 h1 E1 k1 r1 => h1 c F1 σ H1 hr E1 _ fun v2 d2 F2 H2 S2 h2 E2 k2 r2 =>
    h2 F2 H2 v1 v2 E2.fin.fh (r1.ex k2) r2 Q fun v d F3 H3 kd g rp => q v d F3 H3 S2 kd (E2.grow g) ((k1.trans k2).trans g.kF) rp)
theorem je_cmp {K : D → List Sl → Prop} {a b : Expr} {op : CmpOp} {pos : Pos} {rr : R2} (ho : OpR X (compareOp op) rr) (hm : behindInMarks op b = false) (h : JE X r a S fun d1 S1 => JE X r b S1 fun d2 S2 => OpD rr d1 d2 fun d => K d S2) : JE X r (.Compare a [op] [b] pos) S K :=
  fun c F σ H hr E Q q => of_pe (pe_cmpR ho pe_tE pe_tE hm) (h c F σ H hr E _ fun v1 d1 F1 H1 S1 h1 E1 k1 r1 => h1 c F1 σ H1 hr E1 _ fun v2 d2 F2 H2 S2 h2 E2 k2 r2 =>
    h2 F2 H2 v1 v2 E2.fin.fh (r1.ex k2) r2 Q fun v d F3 H3 kd g rp => q v d F3 H3 S2 kd (E2.grow g) ((k1.trans k2).trans g.kF) rp)
theorem je_ix {K : D → List Sl → Prop} {a b : Expr} {pos : Pos} {rr : R2} (ho : IxR X rr) (hs : PlainIx b) (h : JE X r a S fun d1 S1 => JE X r b S1 fun d2 S2 => OpD rr d1 d2 fun d => K d S2) : JE X r (.Subscript a b pos) S K :=
  fun c F σ H hr E Q q => of_pe (pe_ix ho pe_tE pe_tE hs) (h c F σ H hr E _ fun v1 d1 F1 H1 S1 h1 E1 k1 r1 => h1 c F1 σ H1 hr E1 _ fun v2 d2 F2 H2 S2 h2 E2 k2 r2 =>
    h2 F2 H2 v1 v2 E2.fin.fh (r1.ex k2) r2 Q fun v d F3 H3 kd g rp => q v d F3 H3 S2 kd (E2.grow g) ((k1.trans k2).trans g.kF) rp)
theorem je_un {K : D → List Sl → Prop} {a : Expr} {op : UnaryOp} {pos : Pos} {rr : V → Hp → VK → Prop} (ho : UnR X (unaryOp op) rr) (h : JE X r a S fun d1 S1 => UnD rr d1 fun d => K d S1) : JE X r (.UnaryOp op a pos) S K :=
  fun c F σ H hr E Q q => of_pe (pe_un ho pe_tE) (h c F σ H hr E _ fun v1 d1 F1 H1 S1 h1 E1 k1 r1 => h1 F1 H1 v1 E1.fin.fh r1 Q fun v d F3 H3 kd g rp => q v d F3 H3 S1 kd (E1.grow g) (k1.trans g.kF) rp)
/-- a test that is a value -/
theorem jt_val {K : Bool → List Sl → Prop} {e : Expr} (he : ∀ whole, isTrue e X.env whole = (do let v ← whole; standAt e.pos; holding [v] (truthy v))) (h : JE X r e S fun d S' => ∃ b, d = .bool b ∧ K b S') : JT X r e S K :=
  fun c F σ H hr E Q q => of_pt (pt_val pe_tE he) (h c F σ H hr E _ fun v d F1 H1 S1 h1 E1 k1 r1 => by
    obtain ⟨b, rfl, kb⟩ := h1
    cases r1
    exact ⟨b, rfl, q b F1 H1 S1 kb E1 k1⟩)
theorem jt_cmp {K : Bool → List Sl → Prop} {a b : Expr} {op : CmpOp} {pos : Pos} {rr : R2} (ho : OpR X (compareOp op) rr) (hm : behindInMarks op b = false) (h : JE X r a S fun d1 S1 => JE X r b S1 fun d2 S2 => OpD rr d1 d2 fun d => ∃ b, d = .bool b ∧ K b S2) : JT X r (.Compare a [op] [b] pos) S K :=
  fun c F σ H hr E Q q => of_pt (pt_cmpR ho pe_tE pe_tE hm) (h c F σ H hr E _ fun v1 d1 F1 H1 S1 h1 E1 k1 r1 => h1 c F1 σ H1 hr E1 _ fun v2 d2 F2 H2 S2 h2 E2 k2 r2 =>
    h2 F2 H2 v1 v2 E2.fin.fh (r1.ex k2) r2 _ fun v d F3 H3 kd g rp => by
      obtain ⟨b, rfl, kb⟩ := kd
      cases rp
      exact ⟨b, rfl, q b F3 H3 S2 kb (E2.grow g) ((k1.trans k2).trans g.kF)⟩)
/-- a < b < c -/
theorem je_chain {K : D → List Sl → Prop} {a b c' : Expr} {op op' : CmpOp} {pos : Pos} {rr rr' : R2} (ho : OpR X (compareOp op) rr) (ho' : OpR X (compareOp op') rr') (hp : PE X (.Compare a [op, op'] [b, c'] pos) (tChain rr rr' (tE X a) (tE X b) (tE X c')))
    (h : JE X r a S fun d1 S1 => JE X r b S1 fun d2 S2 => OpD rr d1 d2 fun d => ∃ k, d = .bool k ∧ if k = true then JE X r c' S2 fun d3 S3 => OpD rr' d2 d3 fun d => K d S3 else K (.bool false) S2) : JE X r (.Compare a [op, op'] [b, c'] pos) S K :=
  fun c F σ H hr E Q q => of_pe hp (h c F σ H hr E _ fun v1 d1 F1 H1 S1 h1 E1 k1 r1 => h1 c F1 σ H1 hr E1 _ fun v2 d2 F2 H2 S2 h2 E2 k2 r2 =>
    h2 F2 H2 v1 v2 E2.fin.fh (r1.ex k2) r2 _ fun v d F3 H3 kd g rp => by
      obtain ⟨b, rfl, kb⟩ := kd
      cases rp
      refine ⟨b, rfl, ?_⟩
      cases b with
      | true =>
        rw [if_pos rfl] at kb ⊢
        exact kb c F3 σ H3 hr (E2.grow g) _ fun v4 d4 F4 H4 S4 h4 E4 k4 r4 => h4 F4 H4 v2 v4 E4.fin.fh ((r2.ex g.kF).ex k4) r4 Q fun v5 d5 F5 H5 kd5 g5 rp5 =>
          q v5 d5 F5 H5 S4 kd5 (E4.grow g5) ((((k1.trans k2).trans g.kF).trans k4).trans g5.kF) rp5
      | false =>
        rw [if_neg Bool.false_ne_true] at kb ⊢
        exact q _ _ F3 H3 S2 kb (E2.grow g) ((k1.trans k2).trans g.kF) (.bl false))

/-! ### and, or, not, if -/
theorem je_one {K : D → List Sl → Prop} {op : BoolOp} {a : Expr} {pos : Pos} (h : JE X r a S K) : JE X r (.BoolOp op [a] pos) S K := fun c F σ H hr E Q q => of_pe (pe_one pe_tE) (h c F σ H hr E Q q)
theorem je_and {K : D → List Sl → Prop} {a b : Expr} {rest : List Expr} {pos : Pos} (h : JE X r a S fun d S1 => ∃ k, d = .bool k ∧ if k = true then JE X r (.BoolOp .And (b :: rest) pos) S1 K else K (.bool false) S1) : JE X r (.BoolOp .And (a :: b :: rest) pos) S K :=
  fun c F σ H hr E Q q => of_pe (pe_and pe_tE pe_tE) (h c F σ H hr E _ fun v d F1 H1 S1 h1 E1 k1 r1 => by
    obtain ⟨b, rfl, kb⟩ := h1
    cases r1
    refine ⟨b, rfl, ?_⟩
    cases b with
    | true =>
      rw [if_pos rfl] at kb ⊢
      exact kb c F1 σ H1 hr E1 Q fun v d F' H' S' a e k => q v d F' H' S' a e (k1.trans k)
    | false =>
      rw [if_neg Bool.false_ne_true] at kb ⊢
      exact q _ _ F1 H1 S1 kb E1 k1 (.bl false))
theorem je_or {K : D → List Sl → Prop} {a b : Expr} {rest : List Expr} {pos : Pos} (h : JE X r a S fun d S1 => ∃ k, d = .bool k ∧ if k = true then K (.bool true) S1 else JE X r (.BoolOp .Or (b :: rest) pos) S1 K) : JE X r (.BoolOp .Or (a :: b :: rest) pos) S K :=
  fun c F σ H hr E Q q => of_pe (pe_or pe_tE pe_tE) (h c F σ H hr E _ fun v d F1 H1 S1 h1 E1 k1 r1 => by
    obtain ⟨b, rfl, kb⟩ := h1
    cases r1
    refine ⟨b, rfl, ?_⟩
    cases b with
    | false =>
      rw [if_neg Bool.false_ne_true] at kb ⊢
      exact kb c F1 σ H1 hr E1 Q fun v d F' H' S' a e k => q v d F' H' S' a e (k1.trans k)
    | true =>
      rw [if_pos rfl] at kb ⊢
      exact q _ _ F1 H1 S1 kb E1 k1 (.bl true))
theorem je_not {K : D → List Sl → Prop} {a : Expr} {pos : Pos} (h : JE X r a S fun d S1 => ∃ k, d = .bool k ∧ K (.bool (!k)) S1) : JE X r (.UnaryOp .Not a pos) S K :=
  fun c F σ H hr E Q q => of_pe (pe_not pe_tE) (h c F σ H hr E _ fun v d F1 H1 S1 h1 E1 k1 r1 => by
    obtain ⟨b, rfl, kb⟩ := h1
    cases r1
    exact ⟨b, rfl, q _ _ F1 H1 S1 kb E1 k1 (.bl _)⟩)
theorem jt_not {K : Bool → List Sl → Prop} {a : Expr} {pos : Pos} (h : JT X r a S fun k S1 => K (!k) S1) : JT X r (.UnaryOp .Not a pos) S K :=
  fun c F σ H hr E Q q => of_pt (pt_not pt_tT) (h c F σ H hr E _ fun b F1 H1 S1 h1 E1 k1 => q (!b) F1 H1 S1 h1 E1 k1)
/-- a test of and, or: whatever its whole is -/
def JW (X : Cx) (r : SR) (e : Expr) (S : List Sl) (K : Bool → List Sl → Prop) : Prop :=
  ∀ (c : C) F σ H, r.q c → EvD c S F σ H → ∀ Q : Bool → Hp → Prop, (∀ b F' H' S', K b S' → EvD c S' F' σ H' → Ex F F' → Q b H') → ∀ whole pins s, Inv X pins σ H s → wpAny (model X.prog X.w) X.A (isTrue e X.env whole) (TP X pins σ Q) X.xe s
theorem JW.jt {e : Expr} {K : Bool → List Sl → Prop} (h : JW X r e S K) : JT X r e S K := fun c F σ H hr E Q q pins s I => h c F σ H hr E Q q _ pins s I
def tW (X : Cx) (e : Expr) : TT := fun σ H Q => ∀ whole pins s, Inv X pins σ H s → wpAny (model X.prog X.w) X.A (isTrue e X.env whole) (TP X pins σ Q) X.xe s
theorem pw_tW {e : Expr} : PW X e (tW X e) := ⟨fun wh pins s _ _ _ I h => h wh pins s I⟩
theorem jw_and1 {K : Bool → List Sl → Prop} {a : Expr} {pos : Pos} (h : JT X r a S K) : JW X r (.BoolOp .And [a] pos) S K := fun c F σ H hr E Q q wh pins s I => (pw_and1 pt_tT).run wh pins s σ H Q I (h c F σ H hr E Q q)
theorem jw_or1 {K : Bool → List Sl → Prop} {a : Expr} {pos : Pos} (h : JT X r a S K) : JW X r (.BoolOp .Or [a] pos) S K := fun c F σ H hr E Q q wh pins s I => (pw_or1 pt_tT).run wh pins s σ H Q I (h c F σ H hr E Q q)
theorem jw_and {K : Bool → List Sl → Prop} {a b : Expr} {rest : List Expr} {pos : Pos} (h : JT X r a S fun k S1 => if k = true then JW X r (.BoolOp .And (b :: rest) pos) S1 K else K false S1) : JW X r (.BoolOp .And (a :: b :: rest) pos) S K :=
  fun c F σ H hr E Q q wh pins s I => (pw_and pt_tT pw_tW).run wh pins s σ H Q I (h c F σ H hr E _ fun b F1 H1 S1 h1 E1 k1 => by
    cases b with
    | true =>
      rw [if_pos rfl] at h1 ⊢
      exact h1 c F1 σ H1 hr E1 Q fun b F' H' S' a e k => q b F' H' S' a e (k1.trans k)
    | false =>
      rw [if_neg Bool.false_ne_true] at h1 ⊢
      exact q _ F1 H1 S1 h1 E1 k1)
theorem jw_or {K : Bool → List Sl → Prop} {a b : Expr} {rest : List Expr} {pos : Pos} (h : JT X r a S fun k S1 => if k = true then K true S1 else JW X r (.BoolOp .Or (b :: rest) pos) S1 K) : JW X r (.BoolOp .Or (a :: b :: rest) pos) S K :=
  fun c F σ H hr E Q q wh pins s I => (pw_or pt_tT pw_tW).run wh pins s σ H Q I (h c F σ H hr E _ fun b F1 H1 S1 h1 E1 k1 => by
    cases b with
    | false =>
      rw [if_neg Bool.false_ne_true] at h1 ⊢
      exact h1 c F1 σ H1 hr E1 Q fun b F' H' S' a e k => q b F' H' S' a e (k1.trans k)
    | true =>
      rw [if_pos rfl] at h1 ⊢
      exact q _ F1 H1 S1 h1 E1 k1)
theorem je_ife {K : D → List Sl → Prop} {t a b : Expr} {pos : Pos} (h : JT X r t S fun k S1 => if k = true then JE X r a S1 K else JE X r b S1 K) : JE X r (.IfExp t a b pos) S K :=
  fun c F σ H hr E Q q => of_pe (pe_ifExp pt_tT pe_tE pe_tE) (h c F σ H hr E _ fun b F1 H1 S1 h1 E1 k1 => by
    cases b with
    | true =>
      rw [if_pos rfl] at h1 ⊢
      exact h1 c F1 σ H1 hr E1 Q fun v d F' H' S' a e k => q v d F' H' S' a e (k1.trans k)
    | false =>
      rw [if_neg Bool.false_ne_true] at h1 ⊢
      exact h1 c F1 σ H1 hr E1 Q fun v d F' H' S' a e k => q v d F' H' S' a e (k1.trans k))

/-! ### arguments, displays, calls -/
theorem ja_nil {K : List Ar → List Sl → Prop} (k : K [] S) : JA X r [] S K := fun c F σ H _ E Q q => of_pa pa_nil (q [] [] F H S k E (Ex.refl F) .nil)
theorem ja_cons {K : List Ar → List Sl → Prop} {e : Expr} {es : List Expr} (hs : starEach (e :: es) X.env = (false, eval e X.env) :: starEach es X.env) (h : JE X r e S fun d S1 => JA X r es S1 fun as S2 => K (.d d :: as) S2) : JA X r (e :: es) S K :=
  fun c F σ H hr E Q q => of_pa (pa_cons pe_tE pa_tA hs) (h c F σ H hr E _ fun v d F1 H1 S1 h1 E1 k1 r1 => h1 c F1 σ H1 hr E1 _ fun vs as F2 H2 S2 h2 E2 k2 r2 =>
    q (v :: vs) _ F2 H2 S2 h2 E2 (k1.trans k2) (.cons (show ArR c F2 v (.d d) from r1.ex k2) r2))
/-- the source handed on -/
theorem ja_src {K : List Ar → List Sl → Prop} {x : Str} {p : Pos} {es : List Expr} (i : Nat) (hN : X.N[i]? = some x) (hv : Vis X.env.scope x) (hd : (x == ("__debug__" : Str)) = false) (hcd : (x == ("__classdict__" : Str)) = false)
    (hs : starEach (.Name x p :: es) X.env = (false, eval (.Name x p) X.env) :: starEach es X.env) (e : S[i]? = some .src) (h : JA X r es S fun as S2 => K (.src :: as) S2) : JA X r (.Name x p :: es) S K :=
  fun c F σ H hr E Q q => by
    obtain ⟨y, e1, w, ew, e2⟩ := E.sl i _ e
    subst e2
    exact of_pa (pa_cons (pe_var hN hv hd hcd) pa_tA hs) ⟨.ref w.1, e1, h c F σ H hr E _ fun vs as F2 H2 S2 h2 E2 k2 r2 => q _ _ F2 H2 S2 h2 E2 k2 (.cons (show ArR c F2 _ .src from ⟨w, ew, rfl⟩) r2)⟩
def dats : List Ar → Option (List D)
  | [] => some []
  | .d d :: as => (dats as).map (d :: ·)
  | .src :: _ => none
theorem ArA.dats {c : C} {F : Hp} {vs : List V} {as : List Ar} (h : ArA c F vs as) : ∀ {ds : List D}, DL.dats as = some ds → RpA F vs ds := by
  induction h with
  | nil => intro ds e; cases e; exact .nil
  | @cons v a vs as rr t ih =>
    intro ds e
    cases a with
    | src => cases e
    | d d =>
      unfold DL.dats at e
      cases q : DL.dats as with
      | none => rw [q] at e; cases e
      | some es =>
        rw [q] at e
        cases e
        exact .cons rr (ih q)
theorem je_tup {K : D → List Sl → Prop} {es : List Expr} {x1} {pos : Pos} (h : JA X r es S fun as S1 => ∃ ds, dats as = some ds ∧ ds.length ≤ sizeLine ∧ K (.tuple ds) S1) : JE X r (.Tuple es x1 pos) S K :=
  fun c F σ H hr E Q q => of_pe (pe_tup pa_tA) (h c F σ H hr E _ fun vs as F1 H1 S1 h1 E1 k1 r1 => by
    obtain ⟨ds, e, hl, kd⟩ := h1
    have rp := r1.dats e
    refine ⟨by rw [rp.length]; exact hl, fun p n => ?_⟩
    have g := Grow.new E1.fin.fh (o := .tup vs) n
    exact q _ _ _ _ S1 kd (E1.grow g) (k1.trans g.kF) (.tup upd_same (rp.ex g.kF)))
theorem newL_ob {c : C} {F H : Hp} {σ : St} {p : Addr} {h : HO} {o : OB} (E : EvD c S F σ H) (n : H p = none) (rp : OBR F h o) : NewL c S F (upd H p h) σ p o := by
  refine ⟨h, E.laid n, upd_same, rp, E.fin.fh.back n, E.fin.bh.back n, fun q eq => ?_, fun j xs ej ea => ?_⟩
  · obtain ⟨⟨cs, l, m, t, h1, h2⟩, _⟩ := E.fin.src q eq
    exact ⟨(ne_of_none h1 n).symm, (ne_of_none h2 n).symm⟩
  · obtain ⟨x, e1, a, ws, e2, h1, _⟩ := E.sl j _ ej
    rw [ea] at e1; cases e1; cases e2
    rw [h1] at n; cases n
theorem newL_of {c : C} {F H : Hp} {σ : St} {p : Addr} {vs : List V} {ds : List D} (E : EvD c S F σ H) (n : H p = none) (rp : RpA F vs ds) : NewL c S F (upd H p (.lst vs)) σ p (.l ds) := newL_ob (h := .lst vs) E n rp
theorem jn_lst {K : List D → List Sl → Prop} {es : List Expr} {pos : Pos} (h : JA X r es S fun as S1 => ∃ ds, dats as = some ds ∧ ds.length ≤ sizeLine ∧ K ds S1) : JN X r (.List es pos) S K :=
  fun c F σ H hr E Q q => of_pe (pe_lst pa_tA) (h c F σ H hr E _ fun vs as F1 H1 S1 h1 E1 k1 r1 => by
    obtain ⟨ds, e, hl, kd⟩ := h1
    have rp := r1.dats e
    refine ⟨by rw [rp.length]; exact hl, fun p n => ?_⟩
    exact q _ _ _ _ S1 kd (newL_of E1 n rp) k1)
theorem je_callB {K : D → List Sl → Prop} {x : Str} {id : String} {e : Expr} {es : List Expr} {p pos : Pos} {rr : List V → Hp → VK → Prop} (hc : CallR X (.builtin id) rr) (hg : Gl X x) (hm : X.mg x = none) (hv : bootBuiltins x = some (.builtin id)) (hn : x ≠ "__name__") (hdb : (x == ("__debug__" : Str)) = false)
    (hp : PE X (.Call (.Name x p) (e :: es) [] pos) (tCB rr (tA X (e :: es)))) (h : JA X r (e :: es) S fun as S1 => ∃ ds, dats as = some ds ∧ CallD rr ds fun d => K d S1) : JE X r (.Call (.Name x p) (e :: es) [] pos) S K :=
  fun c F σ H hr E Q q => of_pe hp (h c F σ H hr E _ fun vs as F1 H1 S1 h1 E1 k1 r1 => by
    obtain ⟨ds, e, kd⟩ := h1
    exact kd F1 H1 vs E1.fin.fh (r1.dats e) Q fun v d F2 H2 kd2 g rp => q v d F2 H2 S1 kd2 (E1.grow g) (k1.trans g.kF) rp)
/-- any call of a value that the layer reads by the arguments alone -/
theorem je_callP {K : D → List Sl → Prop} {e : Expr} {es : List Expr} {rr : List V → Hp → VK → Prop} (hp : PE X e (tCB rr (tA X es))) (h : JA X r es S fun as S1 => ∃ ds, dats as = some ds ∧ CallD rr ds fun d => K d S1) : JE X r e S K :=
  fun c F σ H hr E Q q => of_pe hp (h c F σ H hr E _ fun vs as F1 H1 S1 h1 E1 k1 r1 => by
    obtain ⟨ds, e, kd⟩ := h1
    exact kd F1 H1 vs E1.fin.fh (r1.dats e) Q fun v d F2 H2 kd2 g rp => q v d F2 H2 S1 kd2 (E1.grow g) (k1.trans g.kF) rp)
theorem jn_callP {K : List D → List Sl → Prop} {e : Expr} {es : List Expr} {rr : List V → Hp → VK → Prop} (hp : PE X e (tCB rr (tA X es))) (h : JA X r es S fun as S1 => ∃ ds, dats as = some ds ∧ CallN rr ds fun d => K d S1) : JN X r e S K :=
  fun c F σ H hr E Q q => of_pe hp (h c F σ H hr E _ fun vs as F1 H1 S1 h1 E1 k1 r1 => by
    obtain ⟨ds, e, kd⟩ := h1
    exact kd F1 H1 vs E1.fin.fh (r1.dats e) Q fun p ws es ke n rp => q p es F1 _ S1 ke (newL_of E1 n rp) k1)

/-- a promise over data -/
def SpD (φ : List Ar → (D → Prop) → Prop) : Sp := fun vs H Q _ => ∃ (c : C) (as : List Ar) (K : D → Prop), Fin c c.F0 H ∧ ArA c c.F0 vs as ∧ φ as K ∧ ∀ v d F' H', K d → Fin c F' H' → Rp F' v d → Q v H'
theorem sp_call {φ : List Ar → (D → Prop) → Prop} {c : C} {F : Hp} {σ : St} {H : Hp} {vs : List V} {as : List Ar} {Q : VK} {XE : XK} {K : D → Prop} (E : EvD c S F σ H) (ra : ArA c F vs as) (h : φ as K)
    (q : ∀ v d F' H', K d → EvD c S F' σ H' → Ex F F' → Rp F' v d → Q v H') : SpD φ vs H Q XE := by
  have ns : ∀ a, (∃ p, c.sr = some p ∧ (a = p.1 ∨ a = p.2)) → F a = none ∧ c.B a = none := fun a ⟨p, ep, z⟩ => by
    obtain ⟨_, n1, n2, b1, b2⟩ := E.fin.src p ep
    rcases z with z | z <;> subst z
    · exact ⟨n1, b1⟩
    · exact ⟨n2, b2⟩
  let B' : Hp := fun a => match c.sr with
    | none => H a
    | some p => if a = p.1 ∨ a = p.2 then none else H a
  have hB : ∀ a o, B' a = some o → H a = some o := fun a o e => by
    show H a = some o
    cases hs : c.sr with
    | none => simp only [B', hs] at e; exact e
    | some p =>
      simp only [B', hs] at e
      by_cases z : a = p.1 ∨ a = p.2
      · rw [if_pos z] at e; cases e
      · rw [if_neg z] at e; exact e
  have hB2 : ∀ a, (∀ p, c.sr = some p → a ≠ p.1 ∧ a ≠ p.2) → B' a = H a := fun a z => by
    cases hs : c.sr with
    | none => simp only [B', hs]
    | some p =>
      obtain ⟨z1, z2⟩ := z p hs
      simp only [B', hs]
      rw [if_neg (by intro q; rcases q with q | q; exact z1 q; exact z2 q)]
  refine ⟨⟨B', F, c.sr⟩, as, K, ⟨Ex.refl F, E.fin.fh, hB, fun _ _ _ => .inl rfl, fun p ep => ?_⟩, ?_, h, fun v d F' H' kd fn rp => ?_⟩
  · obtain ⟨s, n1, n2, b1, b2⟩ := E.fin.src p ep
    have ep' : c.sr = some p := ep
    refine ⟨s, n1, n2, ?_, ?_⟩
    · show B' p.1 = none
      simp [B', ep']
    · show B' p.2 = none
      simp [B', ep']
  · clear q h
    induction ra with
    | nil => exact .nil
    | cons rr _ ih =>
      refine .cons ?_ ih
      revert rr
      cases ‹Ar› with
      | d d => exact fun z => z
      | src => exact fun z => z
  · have kF : Ex F F' := fn.f0
    refine q v d F' H' kd ?_ kF rp
    have hk : ∀ a o, (∀ p, c.sr = some p → a ≠ p.1 ∧ a ≠ p.2) → H a = some o → H' a = some o ∧ (F' a = F a ∨ ∃ xs, o = .tup xs) := fun a o z e => by
      have e' : B' a = some o := by rw [hB2 a z]; exact e
      exact ⟨fn.bh a o e', fn.bf a o e'⟩
    have hcB : ∀ a o, c.B a = some o → (∀ p, c.sr = some p → a ≠ p.1 ∧ a ≠ p.2) := fun a o e p ep => by
      obtain ⟨_, _, _, b1, b2⟩ := E.fin.src p ep
      exact ⟨fun z => (by rw [z, b1] at e; cases e), fun z => (by rw [z, b2] at e; cases e)⟩
    refine ⟨⟨E.fin.f0.trans kF, fn.fh, fun a o e => (hk a o (hcB a o e) (E.fin.bh a o e)).1, fun a o e => ((hk a o (hcB a o e) (E.fin.bh a o e)).2).elim (fun z => (E.fin.bf a o e).elim (fun y => .inl (z.trans y)) .inr) .inr, fun p ep => ?_⟩, E.len, fun i s e => ?_, E.ds⟩
    · obtain ⟨s, n1, n2, _, _⟩ := fn.src p ep
      obtain ⟨_, _, _, b1, b2⟩ := E.fin.src p ep
      exact ⟨s, n1, n2, b1, b2⟩
    · obtain ⟨x, e1, rr⟩ := E.sl i s e
      refine ⟨x, e1, ?_⟩
      cases s with
      | emp => trivial
      | src => exact rr
      | rf _ => exact rr
      | val d =>
        obtain ⟨v, e2, rr⟩ := rr
        exact ⟨v, e2, rr.ex kF⟩
      | ob ds =>
        obtain ⟨a, ws, e2, h1, r1, n1, b1, q1⟩ := rr
        have za : ∀ p, c.sr = some p → a ≠ p.1 ∧ a ≠ p.2 := q1
        obtain ⟨g1, g2⟩ := hk a _ za h1
        rcases g2 with g2 | ⟨xs, g2⟩
        · exact ⟨a, ws, e2, g1, r1.ex kF, by rw [g2]; exact n1, b1, q1⟩
        · have m := r1.mut
          rw [g2] at m
          exact m.elim
section
variable {k : Nat} {f : Addr} {fd : FuncData} {ps : List Str} {x : Str} {p pos : Pos} {e : Expr} {es : List Expr} {K : D → List Sl → Prop} {φ : List Ar → (D → Prop) → Prop}
theorem je_call (F : FnOk X.prog X.w X.K X.mg X.base CX0 k f fd ps (SpD φ)) (hr : Room k X.A) (hg : Gl X x) (hm : X.mg x = some (.ref f)) (hk : PySem.W.keepIn X.K (.ref f) = true) (hb : Binds X.K fd ps []) (hdb : (x == ("__debug__" : Str)) = false)
    (hp : ∀ {tt : TA}, PA X (e :: es) tt → PE X (.Call (.Name x p) (e :: es) [] pos) (tCall (SpD φ) [] E0 tt))
    (h : JA X r (e :: es) S fun as S1 => φ as fun d => K d S1) : JE X r (.Call (.Name x p) (e :: es) [] pos) S K :=
  fun c F σ H hr E Q q => of_pe (hp pa_tA) (h c F σ H hr E _ fun vs as F1 H1 S1 h1 E1 k1 r1 => by
    rw [List.append_nil]
    exact sp_call E1 r1 h1 fun v d F2 H2 kd E2 k2 rp => q v d F2 H2 S1 kd E2 (k1.trans k2) rp)
end
end
end DL

/-! DL: statements, targets, loops, comprehensions, a def by its body. -/
namespace DL
open PySem L2
section
variable {X : Cx} {r : SR} {S : List Sl}

/-! ### statements -/
theorem obr_l {F : Hp} {h : HO} {ds : List D} (r : OBR F h (.l ds)) : ∃ vs, h = .lst vs ∧ RpA F vs ds := by
  cases h <;> first
    | exact ⟨_, rfl, r⟩
    | exact False.elim r
theorem obr_d {F : Hp} {h : HO} {kvs : List (List Int × D)} (r : OBR F h (.d kvs)) : ∃ ws, h = .dT ws ∧ RpK F ws kvs := by
  cases h <;> first
    | exact ⟨_, rfl, r⟩
    | exact False.elim r
theorem jss_nil {E : DE} (k : E.nx S) : JSs X r [] S E := fun c F σ H _ Ev G g => of_pss pss_nil (g.nx F σ H S k Ev (Ex.refl F))
theorem jss_cons {st : Stmt} {rest : List Stmt} {E : DE} (h : JS X r st S { E with nx := fun S1 => JSs X r rest S1 E }) : JSs X r (st :: rest) S E :=
  fun c F σ H hr Ev G g => of_pss (pss_cons ps_tS pss_tSs) (h c F σ H hr Ev { G with nx := tSs X rest G } ⟨fun F' σ' H' S' a E' k => a c F' σ' H' hr E' G (g.ex k), g.rt, g.bk, g.ct⟩)
theorem js_ret {e : Expr} {pos : Pos} {E : DE} (h : JE X r e S fun d _ => E.rt d) : JS X r (.Return (some e) pos) S E :=
  fun c F σ H hr Ev G g => of_ps (ps_ret pe_tE) (h c F σ H hr Ev _ fun v d F1 H1 S1 h1 E1 k1 r1 => g.rt v d F1 H1 h1 E1.fin r1)
theorem js_set {x : Str} {e : Expr} {pos pos' : Pos} {E : DE} (i : Nat) (hN : X.N.Nodup) (hi : X.N[i]? = some x) (hx : Loc X.env.scope x) (hs : swapsWith e (some (.Name x pos')) pos.line X.env = pure false) (hf : X.fn x = true ∨ X.env.scope.names.lookup x = some .local)
    (h : JE X r e S fun d S1 => E.nx (S1.set i (.val d))) : JS X r (.Assign [.Name x pos'] e pos) S E :=
  fun c F σ H hr Ev G g => of_ps (ps_set hN hi hx pe_tE hs hf) (h c F σ H hr Ev _ fun v d F1 H1 S1 h1 E1 k1 r1 => g.nx F1 _ H1 _ h1 (E1.set r1) k1)
theorem js_setN {x : Str} {e : Expr} {pos pos' : Pos} {E : DE} (i : Nat) (hN : X.N.Nodup) (hi : X.N[i]? = some x) (hx : Loc X.env.scope x) (hs : swapsWith e (some (.Name x pos')) pos.line X.env = pure false) (hf : X.fn x = true ∨ X.env.scope.names.lookup x = some .local)
    (h : JN X r e S fun ds S1 => E.nx (S1.set i (.own ds))) : JS X r (.Assign [.Name x pos'] e pos) S E :=
  fun c F σ H hr Ev G g => of_ps (ps_set hN hi hx pe_tE hs hf) (h c F σ H hr Ev _ fun p ds F1 H1 S1 h1 n k1 => by
    obtain ⟨vs, E1, hp, hv, nF, b, q, no⟩ := n
    exact g.nx F1 _ H1 _ h1 (E1.setOwn hp hv nF b q no) k1)
theorem js_setO {x : Str} {e : Expr} {pos pos' : Pos} {E : DE} (i : Nat) (hN : X.N.Nodup) (hi : X.N[i]? = some x) (hx : Loc X.env.scope x) (hs : swapsWith e (some (.Name x pos')) pos.line X.env = pure false) (hf : X.fn x = true ∨ X.env.scope.names.lookup x = some .local)
    (h : JO X r e S fun o S1 => E.nx (S1.set i (.ob o))) : JS X r (.Assign [.Name x pos'] e pos) S E :=
  fun c F σ H hr Ev G g => of_ps (ps_set hN hi hx pe_tE hs hf) (h c F σ H hr Ev _ fun p ds F1 H1 S1 h1 n k1 => by
    obtain ⟨vs, E1, hp, hv, nF, b, q, no⟩ := n
    exact g.nx F1 _ H1 _ h1 (E1.setOwn hp hv nF b q no) k1)
/-- x = [..], stored before the iterator is let go; PS: the rule of the layer -/
theorem js_setP {st : Stmt} {E : DE} (i : Nat) {te : TE} (hp : PS X st (tAsg te (gName i))) (hx : ∀ c F σ H, r.q c → EvD c S F σ H → ∀ Q : VK, (∀ p ds F' H' S', E.nx (S'.set i (.own ds)) → NewL c S' F' H' σ p (.l ds) → Ex F F' → Q (.ref p) H') → te σ H Q) : JS X r st S E :=
  fun c F σ H hr Ev G g => of_ps hp (hx c F σ H hr Ev _ fun p ds F1 H1 S1 h1 n k1 => by
    obtain ⟨vs, E1, hp, hv, nF, b, q, no⟩ := n
    exact g.nx F1 _ H1 _ h1 (E1.setOwn hp hv nF b q no) k1)
theorem js_expr {e : Expr} {pos : Pos} {E : DE} (hs : swapsWith e none pos.line X.env = pure false) (h : JE X r e S fun _ S1 => E.nx S1) : JS X r (.Expr e pos) S E :=
  fun c F σ H hr Ev G g => of_ps (ps_expr pe_tE hs) (h c F σ H hr Ev _ fun v d F1 H1 S1 h1 E1 k1 r1 => g.nx F1 _ H1 _ h1 E1 k1)
theorem js_if {t : Expr} {a b : List Stmt} {pos : Pos} {E : DE} (h : JT X r t S fun k S1 => if k = true then JSs X r a S1 E else JSs X r b S1 E) : JS X r (.If t a b pos) S E :=
  fun c F σ H hr Ev G g => of_ps (ps_if pt_tT pss_tSs pss_tSs) (h c F σ H hr Ev _ fun k F1 H1 S1 h1 E1 k1 => by
    cases k with
    | true =>
      rw [if_pos rfl] at h1 ⊢
      exact h1 c F1 σ H1 hr E1 G (g.ex k1)
    | false =>
      rw [if_neg Bool.false_ne_true] at h1 ⊢
      exact h1 c F1 σ H1 hr E1 G (g.ex k1))
theorem js_asg {tg e : Expr} {pos : Pos} {E : DE} (ts : List Nat) (hs : swapsWithSole [tg] e pos.line X.env = pure false) (hw : swappedStores [tg] e X.env = pure none) (h1 : (assignEach [tg] X.env).map (·.2) = [assign tg X.env])
    (h : JE X r e S fun d S1 => JG X r tg ts d S1 E.nx) : JS X r (.Assign [tg] e pos) S E :=
  fun c F σ H hr Ev G g => of_ps (ps_asg pe_tE pg_tG hs hw h1) (h c F σ H hr Ev _ fun v d F1 H1 S1 h1 E1 k1 r1 => h1 c F1 σ H1 v hr E1 r1 _ fun F2 σ2 H2 S2 h2 E2 k2 _ => g.nx F2 σ2 H2 S2 h2 E2 (k1.trans k2))
theorem js_append {e : Expr} {x : Str} {p apos cpos pos : Pos} {E : DE} (i : Nat) {rr : V → List V → Hp → VK → Prop} (hp : PS X (.Expr (.Call (.Attribute (.Name x p) "append" apos) [e] [] cpos) pos) (tDrop (tBM X.K "list" rAppend (tVar i) (tCons (tE X e) tNil))))
    (h : JE X r e S fun d S1 => ∃ xs, S1[i]? = some (.own xs) ∧ xs.length < sizeLine ∧ E.nx (S1.set i (.own (xs ++ [d])))) {xs0 : List D} (h0 : S[i]? = some (.own xs0)) : JS X r (.Expr (.Call (.Attribute (.Name x p) "append" apos) [e] [] cpos) pos) S E :=
  fun c F σ H hr Ev G g => of_ps hp (by
    obtain ⟨y, e1, a, hh, e2, ha, rv, nF, nb, q0⟩ := Ev.sl i _ h0
    subst e2
    obtain ⟨vs, rfl, rv⟩ := obr_l rv
    refine ⟨.ref a, e1, .inl ⟨rfl, _, .inl (.inl ha)⟩, h c F σ H hr Ev _ fun v d F1 H1 S1 h1 E1 k1 r1 => ?_⟩
    obtain ⟨xs, e3, hl, kx⟩ := h1
    obtain ⟨y, e1', a', hh', e2', ha', rv', _⟩ := E1.sl i _ e3
    rw [e1] at e1'; cases e1'; cases e2'
    obtain ⟨vs', rfl, rv'⟩ := obr_l rv'
    exact ⟨a, vs', v, rfl, rfl, ha', by rw [rv'.length]; exact hl, g.nx F1 σ _ _ kx (E1.write (vs := .lst (vs' ++ [v])) (ds := .l (xs ++ [d])) e3 e1 (rv'.append (.one r1))) k1⟩)

/-! ### targets -/
theorem jg_name {x : Str} {pos : Pos} {d : D} {K : List Sl → Prop} (i : Nat) (hN : X.N.Nodup) (hi : X.N[i]? = some x) (hx : Loc X.env.scope x) (hf : X.fn x = true ∨ X.env.scope.names.lookup x = some .local) (h : K (S.set i (.val d))) : JG X r (.Name x pos) [i] d S K :=
  fun c F σ H v hr E rv Q q => of_pg (pg_name hN hi hx hf) (q F _ H _ h (E.set rv) (Ex.refl F) ⟨fun j hj => (by
    rw [List.getElem?_set_ne]
    intro z; exact hj (by rw [z]; exact List.mem_singleton.mpr rfl)), List.length_set⟩)
/-- several targets -/
def JGs (X : Cx) (r : SR) (tgs : List Expr) (ts : List Nat) (ds : List D) (S : List Sl) (K : List Sl → Prop) : Prop :=
  ∀ (c : C) F σ H vs, r.q c → EvD c S F σ H → RpA F vs ds → ∀ Q : St → Hp → Prop, (∀ F' σ' H' S', K S' → EvD c S' F' σ' H' → Ex F F' → (∀ j, j ∉ ts → σ'[j]? = σ[j]?) ∧ σ'.length = σ.length → Q σ' H') → ∀ pins s us, Inv X pins σ H s → Vals vs us →
    wpAny (model X.prog X.w) X.A (assignInOrder ((assignEach tgs X.env).map (·.2)) us) (fun _ s' => ∃ σ' H', Inv X pins σ' H' s' ∧ Q σ' H') X.xe s
theorem jgs_nil {K : List Sl → Prop} (h : K S) : JGs X r [] [] [] S K := fun c F σ H vs hr E rv Q q pins s us I rl => by
  cases rv
  exact pgs_nil.run pins s σ H [] us Q I rl ⟨rfl, q F σ H S h E (Ex.refl F) ⟨fun _ _ => rfl, rfl⟩⟩
def tGs (X : Cx) (tgs : List Expr) : TGs := fun vs σ H Q => ∀ pins s us, Inv X pins σ H s → Vals vs us → wpAny (model X.prog X.w) X.A (assignInOrder ((assignEach tgs X.env).map (·.2)) us) (fun _ s' => ∃ σ' H', Inv X pins σ' H' s' ∧ Q σ' H') X.xe s
theorem pgs_tGs {tgs : List Expr} : PGs X tgs (tGs X tgs) := ⟨fun pins s _ _ _ us _ I r h => h pins s us I r⟩
theorem jgs_cons {e : Expr} {es : List Expr} {ts us : List Nat} {d : D} {ds : List D} {K : List Sl → Prop} (hs : (assignEach (e :: es) X.env).map (·.2) = assign e X.env :: (assignEach es X.env).map (·.2))
    (h : JG X r e ts d S fun S1 => JGs X r es us ds S1 K) : JGs X r (e :: es) (ts ++ us) (d :: ds) S K := fun c F σ H vs hr E rv Q q pins s ws I rl => by
  cases rv with
  | cons r1 r2 =>
    refine (pgs_cons pg_tG pgs_tGs hs).run pins s σ H _ ws Q I rl ⟨_, _, rfl, h c F σ H _ hr E r1 _ fun F1 σ1 H1 S1 h1 E1 k1 z1 => ?_⟩
    exact h1 c F1 σ1 H1 _ hr E1 (r2.ex k1) Q fun F2 σ2 H2 S2 h2 E2 k2 z2 => q F2 σ2 H2 S2 h2 E2 (k1.trans k2) ⟨fun j hj => (by
      rw [z2.1 j fun z => hj (List.mem_append_right _ z), z1.1 j fun z => hj (List.mem_append_left _ z)]), z2.2.trans z1.2⟩
theorem jg_tup {es : List Expr} {k : Nat} {pos : Pos} {ts : List Nat} {ds : List D} {K : List Sl → Prop} (hc : X.calm = true) (hn : (assignEach es X.env).length = ds.length) (hst : (assignEach es X.env).findIdx? (·.1) = none)
    (h : JGs X r es ts ds S K) : JG X r (.Tuple es k pos) ts (.tuple ds) S K := fun c F σ H v hr E rv Q q => by
  cases rv with
  | tup ha hv => exact of_pg (pg_tup (n := ds.length) hc pgs_tGs hn hst) ⟨_, _, rfl, .inl (.inl (E.fin.fh _ _ ha)), hv.length, h c F σ H _ hr E hv Q q⟩

/-! ### what is walked -/
theorem itl_d {K : PySem.W.Frag} {B F : Hp} {a : Addr} {vs : List V} {ds : List D} (h : F a = some (.lst vs)) (rv : RpA F vs ds) : ItD (Itl K a) B F ds :=
  ⟨fun i H kb k hi => ⟨vs, .inl (.inl (k _ _ h)), by rw [rv.length]; exact hi⟩,
   fun i H kb k hi => by
    obtain ⟨v, e, _⟩ := rv.get' (i := i) (List.getElem?_eq_getElem hi)
    exact ⟨vs, v, .inl (.inl (k _ _ h)), e⟩,
   fun i H x H' kb k y hi => by
    obtain ⟨e, f⟩ := y
    obtain ⟨d, e1, e2⟩ := rv.get (f vs (.inl (.inl (k _ _ h))))
    exact .inl ⟨e, d, e1, e2⟩⟩
theorem itt_d {K : PySem.W.Frag} {B F : Hp} {a : Addr} {vs : List V} {ds : List D} (h : F a = some (.tup vs)) (rv : RpA F vs ds) : ItD (Itt K a) B F ds :=
  ⟨fun i H kb k hi => ⟨vs, .inl (.inl (k _ _ h)), by rw [rv.length]; exact hi⟩,
   fun i H kb k hi => by
    obtain ⟨v, e, _⟩ := rv.get' (i := i) (List.getElem?_eq_getElem hi)
    exact ⟨vs, v, .inl (.inl (k _ _ h)), e⟩,
   fun i H x H' kb k y hi => by
    obtain ⟨e, f⟩ := y
    obtain ⟨d, e1, e2⟩ := rv.get (f vs (.inl (.inl (k _ _ h))))
    exact .inl ⟨e, d, e1, e2⟩⟩
def rangeD (lo : Int) (n : Nat) : List D := (List.range n).map fun i => .int (lo + (i : Nat))
theorem rangeD_length (lo : Int) (n : Nat) : (rangeD lo n).length = n := by unfold rangeD; rw [List.length_map, List.length_range]
theorem rangeD_get {lo : Int} {n i : Nat} (h : i < n) : (rangeD lo n)[i]? = some (.int (lo + (i : Nat))) := by
  unfold rangeD
  rw [List.getElem?_map, List.getElem?_range h]
  rfl
theorem itr_d {B F : Hp} {lo : Int} {n : Nat} : ItD (Itr lo n) B F (rangeD lo n) :=
  ⟨fun i H kb k hi => by rw [rangeD_length] at hi; exact hi, fun i H kb k hi => by rw [rangeD_length] at hi; exact hi,
   fun i H x H' kb k y hi => by
    obtain ⟨e, rfl⟩ := y
    rw [rangeD_length] at hi
    exact .inl ⟨e, _, rangeD_get hi, .int _⟩⟩
def enumD (ds : List D) : List D := (List.range ds.length).map fun i => .tuple [.int (i : Nat), ds.getD i .none]
theorem ite_d {K : PySem.W.Frag} {B F : Hp} {a : Addr} {vs : List V} {ds : List D} (h : F a = some (.lst vs)) (rv : RpA F vs ds) : ItD (Ite K a) B F (enumD ds) := by
  have hl : (enumD ds).length = ds.length := by unfold enumD; rw [List.length_map, List.length_range]
  refine ⟨fun i H kb k hi => ⟨vs, .inl (.inl (k _ _ h)), by rw [rv.length, ← hl]; exact hi⟩, fun i H kb k hi => ?_, fun i H x H' kb k y hi => ?_⟩
  · obtain ⟨v, e, _⟩ := rv.get' (i := i) (List.getElem?_eq_getElem (by rw [← hl]; exact hi))
    exact ⟨vs, v, .inl (.inl (k _ _ h)), e⟩
  · obtain ⟨T, z, e1, e2, e3, f⟩ := y
    obtain ⟨d, g1, g2⟩ := rv.get (f vs (.inl (.inl (k _ _ h))))
    refine .inr (.inl ⟨T, _, [.int (i : Nat), d], e1, e2, e3, .cons (.int _) (.one g2), ?_⟩)
    unfold enumD
    rw [List.getElem?_map, List.getElem?_range (by rw [← hl]; exact hi)]
    show some (PyData.tuple [.int (i : Nat), ds.getD i .none]) = _
    rw [List.getD_eq_getElem?_getD, g1]
    rfl
theorem ji_list {tg e : Expr} {K : List D → List Sl → Prop} (h : JE X r e S fun d S1 => ∃ ds, d = .list ds ∧ K ds S1) : JI X r tg e S K :=
  fun c F σ H hr E R q => of_pi (pi_list pe_tE) (h c F σ H hr E _ fun v d F1 H1 S1 h1 E1 k1 r1 => by
    obtain ⟨ds, rfl, kd⟩ := h1
    cases r1 with
    | lst ha hv => exact ⟨_, rfl, ⟨_, .inl (.inl (E1.fin.fh _ _ ha))⟩, q _ ds F1 H1 S1 kd E1 k1 (itl_d ha hv)⟩)
theorem ji_tup {tg e : Expr} {K : List D → List Sl → Prop} (h : JE X r e S fun d S1 => ∃ ds, d = .tuple ds ∧ K ds S1) : JI X r tg e S K :=
  fun c F σ H hr E R q => of_pi (pi_tup pe_tE) (h c F σ H hr E _ fun v d F1 H1 S1 h1 E1 k1 r1 => by
    obtain ⟨ds, rfl, kd⟩ := h1
    cases r1 with
    | tup ha hv => exact ⟨_, rfl, ⟨_, .inl (.inl (E1.fin.fh _ _ ha))⟩, q _ ds F1 H1 S1 kd E1 k1 (itt_d ha hv)⟩)
theorem ji_range1 {tg a : Expr} {p pos : Pos} {K : List D → List Sl → Prop} (hg : Gl X "range") (hm : X.mg "range" = none) (hs : starEach [a] X.env = [(false, eval a X.env)])
    (h : JA X r [a] S fun as S1 => ∃ n : Int, as = [.d (.int n)] ∧ -(2 ^ 62) ≤ n ∧ n < 2 ^ 62 ∧ K (rangeD 0 n.toNat) S1) : JI X r tg (.Call (.Name "range" p) [a] [] pos) S K :=
  fun c F σ H hr E R q => of_pi (pi_range1 hg hm pa_tA hs) (h c F σ H hr E _ fun vs as F1 H1 S1 h1 E1 k1 r1 => by
    obtain ⟨n, rfl, b1, b2, kd⟩ := h1
    cases r1 with
    | cons x t =>
      cases t
      cases x
      exact ⟨n, rfl, b1, b2, q _ _ F1 H1 S1 kd E1 k1 itr_d⟩)
theorem ji_range2 {tg a b : Expr} {p pos : Pos} {K : List D → List Sl → Prop} (hg : Gl X "range") (hm : X.mg "range" = none) (hs : starEach [a, b] X.env = [(false, eval a X.env), (false, eval b X.env)]) (hs2 : starEach [b] X.env = [(false, eval b X.env)])
    (h : JA X r [a, b] S fun as S1 => ∃ i j : Int, as = [.d (.int i), .d (.int j)] ∧ (-(2 ^ 62) ≤ i ∧ i < 2 ^ 62 ∧ -(2 ^ 62) ≤ j ∧ j < 2 ^ 62) ∧ K (rangeD i (j - i).toNat) S1) : JI X r tg (.Call (.Name "range" p) [a, b] [] pos) S K :=
  fun c F σ H hr E R q => of_pi (pi_range2 hg hm pa_tA hs hs2) (h c F σ H hr E _ fun vs as F1 H1 S1 h1 E1 k1 r1 => by
    obtain ⟨i, j, rfl, b, kd⟩ := h1
    cases r1 with
    | cons x t =>
      cases t with
      | cons y t =>
        cases t
        cases x
        cases y
        exact ⟨i, j, rfl, b, q _ _ F1 H1 S1 kd E1 k1 itr_d⟩)
theorem ji_enum {e : Expr} {p pos tpos : Pos} {elts : List Expr} {kk : Nat} {K : List D → List Sl → Prop} (hg : Gl X "enumerate") (hm : X.mg "enumerate" = none) (hs : starEach [e] X.env = [(false, eval e X.env)])
    (h : JA X r [e] S fun as S1 => ∃ ds, as = [.d (.list ds)] ∧ K (enumD ds) S1) : JI X r (.Tuple elts kk tpos) (.Call (.Name "enumerate" p) [e] [] pos) S K :=
  fun c F σ H hr E R q => of_pi (pi_enum hg hm pa_tA hs) (h c F σ H hr E _ fun vs as F1 H1 S1 h1 E1 k1 r1 => by
    obtain ⟨ds, rfl, kd⟩ := h1
    cases r1 with
    | cons x t =>
      cases t
      cases x with
      | lst ha hv => exact ⟨_, _, rfl, .inl (.inl (E1.fin.fh _ _ ha)), q _ _ F1 H1 S1 kd E1 k1 (ite_d ha hv)⟩)
/-- what a walk yields is data -/
theorem ItD.next {c : C} {J : It} {B F F' : Hp} {ds : List D} {i : Nat} {x : V} {σ : St} {H H' : Hp} (w : ItD J B F ds) (kb : Ex B c.B) (k : Ex F F') (E : EvD c S F' σ H) (hi : i < ds.length) (y : J.yld i H x H') :
    ∃ d F2, ds[i]? = some d ∧ Ex F' F2 ∧ Rp F2 x d ∧ EvD c S F2 σ H' := by
  rcases w.yld i H x H' (kb.trans E.fin.bh) (k.trans E.fin.fh) y hi with ⟨rfl, d, e, rp⟩ | ⟨T, xs, es, rfl, n, rfl, rp, e⟩ | ⟨T, xs, es, rfl, hT, rfl, rp, e⟩
  · exact ⟨d, F', e, Ex.refl _, rp.ex k, E⟩
  · have g := Grow.new E.fin.fh (o := .tup xs) n
    exact ⟨_, _, e, g.kF, .tup upd_same (rp.ex (k.trans g.kF)), E.grow g⟩
  · cases q : F' T with
    | none => exact ⟨_, _, e, Ex.new q, .tup upd_same (rp.ex (k.trans (Ex.new q))), E.freezeT hT q⟩
    | some u =>
      have h2 := E.fin.fh _ _ q
      rw [hT] at h2
      cases h2
      exact ⟨_, F', e, Ex.refl _, .tup q (rp.ex k), E⟩

/-! ### for -/
theorem js_for {tg iter : Expr} {body : List Stmt} {pos : Pos} {E : DE} (ts : List Nat) (hp : PassesOwn (model X.prog X.w) X.A X.env X.xe) (hc : X.calm = true) (hs : ∀ x, foldedSetIterable iter X.env x = pure x)
    (h : JI X r tg iter S fun ds S1 => ∃ I : Nat → List Sl → Prop, I 0 S1 ∧ (∀ i d S', ds[i]? = some d → I i S' → JG X r tg ts d S' fun S2 => JSs X r body S2 { nx := I (i + 1), rt := E.rt, ct := I (i + 1), bk := E.nx }) ∧ ∀ S', I ds.length S' → E.nx S') :
    JS X r (.For tg iter body [] pos) S E :=
  fun c F σ H hr Ev G g => of_ps (ps_for hp hc pi_tI pg_tG pss_tSs hs) (h c F σ H hr Ev _ fun J ds F1 H1 S1 h1 E1 k1 w => by
    obtain ⟨I, i0, step, fin⟩ := h1
    refine ⟨fun i m σ H => m = ds.length - i ∧ i ≤ ds.length ∧ ∃ S' F', I i S' ∧ EvD c S' F' σ H ∧ Ex F1 F', ⟨ds.length, by omega, Nat.zero_le _, S1, F1, i0, E1, Ex.refl _⟩, fun i m σ H hw => ?_⟩
    obtain ⟨rfl, hi, S', F', hI, E', k'⟩ := hw
    by_cases hlt : i < ds.length
    · refine .inr ⟨w.go i H E'.fin.bh (k'.trans E'.fin.fh) hlt, fun σ' H' => ∃ S2 F2, I (i + 1) S2 ∧ EvD c S2 F2 σ' H' ∧ Ex F1 F2, fun σ' H' ⟨S2, F2, a, b, d⟩ => ⟨ds.length - (i + 1), by omega, rfl, hlt, S2, F2, a, b, d⟩, fun x H' y => ?_⟩
      obtain ⟨d, F2, ed, k2, rp, E2⟩ := w.next (Ex.refl _) k' E' hlt y
      refine step i d S' ed hI c F2 σ H' x hr E2 rp _ fun F3 σ3 H3 S3 h3 E3 k3 _ => ?_
      refine h3 c F3 σ3 H3 hr E3 _ ⟨fun F4 σ4 H4 S4 a E4 k4 => ⟨S4, F4, a, E4, ((k'.trans k2).trans k3).trans k4⟩, g.rt, fun F4 σ4 H4 S4 a E4 k4 => g.nx F4 σ4 H4 S4 a E4 ((((k1.trans k').trans k2).trans k3).trans k4),
        fun F4 σ4 H4 S4 a E4 k4 => ⟨S4, F4, a, E4, ((k'.trans k2).trans k3).trans k4⟩⟩
    · have e : i = ds.length := by omega
      subst e
      exact .inl ⟨w.stop _ H E'.fin.bh (k'.trans E'.fin.fh) (Nat.le_refl _), g.nx F' σ H S' (fin S' hI) E' (k1.trans k')⟩)
theorem js_while {t : Expr} {body : List Stmt} {pos : Pos} {E : DE} (hp : PassesOwn (model X.prog X.w) X.A X.env X.xe) (I : Nat → List Sl → Prop) (m0 : Nat) (i0 : I m0 S)
    (step : ∀ m S', I m S' → JT X r t S' fun b S1 => if b = true then JSs X r body S1 { nx := fun S2 => ∃ m', m' < m ∧ I m' S2, rt := E.rt, ct := fun S2 => ∃ m', m' < m ∧ I m' S2, bk := E.nx } else E.nx S1) :
    JS X r (.While t body [] pos) S E :=
  fun c F σ H hr Ev G g => of_ps (ps_while hp pt_tT pss_tSs) (by
    refine ⟨fun m σ H => ∃ S' F', I m S' ∧ EvD c S' F' σ H ∧ Ex F F', ⟨m0, S, F, i0, Ev, Ex.refl _⟩, fun m σ H hw => ?_⟩
    obtain ⟨S', F', hI, E', k'⟩ := hw
    refine step m S' hI c F' σ H hr E' _ fun b F1 H1 S1 h1 E1 k1 => ?_
    cases b with
    | true =>
      rw [if_pos rfl] at h1 ⊢
      have hn : ∀ F2 σ2 H2 S2, (∃ m', m' < m ∧ I m' S2) → EvD c S2 F2 σ2 H2 → Ex F1 F2 → ∃ m', m' < m ∧ ∃ S' F', I m' S' ∧ EvD c S' F' σ2 H2 ∧ Ex F F' := fun F2 σ2 H2 S2 ⟨m', hm, i'⟩ E2 k2 => ⟨m', hm, S2, F2, i', E2, (k'.trans k1).trans k2⟩
      refine ⟨fun σ2 H2 => ∃ m', m' < m ∧ ∃ S' F', I m' S' ∧ EvD c S' F' σ2 H2 ∧ Ex F F', fun _ _ z => z, ?_⟩
      exact h1 c F1 σ H1 hr E1 _ ⟨hn, g.rt, fun F2 σ2 H2 S2 a E2 k2 => g.nx F2 σ2 H2 S2 a E2 ((k'.trans k1).trans k2), hn⟩
    | false =>
      rw [if_neg Bool.false_ne_true] at h1 ⊢
      exact g.nx F1 σ H1 S1 h1 E1 (k'.trans k1))

/-! ### comprehensions -/
/-- in a comprehension's block -/
def Blk (X : Cx) (scope : Scope) (P : Cx → Prop) : Prop := ∀ (s : Shared) (H : Hp) (C : Addr) (cl : List (Str × Addr)) (fp : List Addr), P (X.blk s H scope (compEnvC scope cl C X.env) fp)
def tEb (X : Cx) (scope : Scope) (e : Expr) : TE := fun σ H Q => Blk X scope fun Y => tE Y e σ H Q
def tTsb (X : Cx) (scope : Scope) (ifs : List Expr) : TT := fun σ H Q => Blk X scope fun Y => ∀ pins s, Inv Y pins σ H s → wpAny (model Y.prog Y.w) Y.A (forIn ifs true fun c r => if r = true then do let ok ← isTrue c Y.env (eval c Y.env); pure (ForInStep.yield ok) else pure (ForInStep.yield r)) (TP Y pins σ Q) Y.xe s
def tGb (X : Cx) (scope : Scope) (tg : Expr) : TG := fun v σ H Q => Blk X scope fun Y => tG Y tg v σ H Q
/-- the slots vs as in S, the others as in T -/
def mrg (vs : List Nat) (S T : List Sl) : List Sl := vs.foldr (fun j U => U.set j (S.getD j .emp)) T
theorem mrg_length (vs : List Nat) (S T : List Sl) : (mrg vs S T).length = T.length := by
  induction vs with
  | nil => rfl
  | cons v vs ih => show ((mrg vs S T).set v _).length = _; rw [List.length_set, ih]
theorem mrg_out {S T : List Sl} {j : Nat} : ∀ {vs : List Nat}, j ∉ vs → (mrg vs S T)[j]? = T[j]?
  | [], _ => rfl
  | v :: vs, h => by
    show ((mrg vs S T).set v _)[j]? = _
    rw [List.getElem?_set_ne fun z => h (by rw [z]; exact List.mem_cons_self), mrg_out fun z => h (List.mem_cons_of_mem _ z)]
theorem mrg_in {S T : List Sl} {j : Nat} (hl : S.length = T.length) (hj : j < S.length) : ∀ {vs : List Nat}, j ∈ vs → (mrg vs S T)[j]? = S[j]?
  | v :: vs, h => by
    show ((mrg vs S T).set v _)[j]? = _
    by_cases hv : v = j
    · subst hv
      rw [List.getElem?_set_self (by rw [mrg_length, ← hl]; exact hj), List.getD_eq_getElem?_getD, List.getElem?_eq_getElem hj]
      rfl
    · rw [List.getElem?_set_ne hv]
      exact mrg_in hl hj ((List.mem_cons.mp h).resolve_left (Ne.symm hv))
theorem wipe_in {σ : St} {j : Nat} : ∀ {vs : List Nat}, j ∈ vs → j < σ.length → (L2.wipe σ vs)[j]? = some none
  | v :: vs, h, hj => by
    show ((L2.wipe σ vs).set v none)[j]? = _
    by_cases hv : v = j
    · subst hv
      rw [List.getElem?_set_self (by rw [wipe_length]; exact hj)]
    · rw [List.getElem?_set_ne hv]
      exact wipe_in ((List.mem_cons.mp h).resolve_left (Ne.symm hv)) hj
theorem wipe_same {σ σ2 : St} {vs ts : List Nat} (hl : σ2.length = σ.length) (hts : ∀ j ∈ ts, j ∈ vs) (h : ∀ j, j ∉ ts → σ2[j]? = (L2.wipe σ vs)[j]?) : L2.wipe σ2 vs = L2.wipe σ vs := by
  refine List.ext_getElem? fun j => ?_
  by_cases hj : j ∈ vs
  · by_cases hlt : j < σ.length
    · rw [wipe_in hj hlt, wipe_in hj (by rw [hl]; exact hlt)]
    · rw [List.getElem?_eq_none (by rw [wipe_length]; omega), List.getElem?_eq_none (by rw [wipe_length]; omega)]
  · rw [wipe_out hj, wipe_out hj, h j fun z => hj (hts j z), wipe_out hj]
/-- out of a block: the block's own slots are as they were -/
theorem EvD.out {c : C} {S' S4 : List Sl} {F F4 : Hp} {σ σ2 : St} {H H4 : Hp} {vs : List Nat} (E : EvD c S' F σ H) (E4 : EvD c S4 F4 σ2 H4) (k : Ex F F4) (hw : L2.wipe σ2 vs = L2.wipe σ vs) (hv : ∀ j ∈ vs, ∀ xs, S'[j]? ≠ some (.ob xs)) : EvD c (mrg vs S' S4) F4 σ H4 := by
  have hlen : σ2.length = σ.length := by rw [← wipe_length σ2 vs, hw, wipe_length]
  have hS : S'.length = S4.length := by rw [← E.len, ← E4.len, hlen]
  have same : ∀ j, j ∉ vs → σ2[j]? = σ[j]? := fun j hj => by rw [← wipe_out hj, hw, wipe_out hj]
  have own : ∀ {j : Nat} {xs : OB}, (mrg vs S' S4)[j]? = some (.ob xs) → j ∉ vs ∧ S4[j]? = some (.ob xs) := fun {j xs} e => by
    by_cases hj : j ∈ vs
    · by_cases hlt : j < S'.length
      · rw [mrg_in hS hlt hj] at e
        exact absurd e (hv j hj xs)
      · rw [List.getElem?_eq_none (by rw [mrg_length]; omega)] at e; cases e
    · rw [mrg_out hj] at e; exact ⟨hj, e⟩
  refine ⟨E4.fin, by rw [mrg_length, ← E4.len, hlen], fun j s e => ?_, fun j1 j2 xs ys a e1 e2 e3 e4 => ?_⟩
  · by_cases hj : j ∈ vs
    · by_cases hlt : j < S'.length
      · rw [mrg_in hS hlt hj] at e
        obtain ⟨x, e1, rr⟩ := E.sl j s e
        refine ⟨x, e1, ?_⟩
        cases s with
        | emp => trivial
        | val d =>
          obtain ⟨v, e2, rp⟩ := rr
          exact ⟨v, e2, rp.ex k⟩
        | ob ds => exact absurd e (hv j hj ds)
        | src => exact rr
        | rf _ => exact rr
      · rw [List.getElem?_eq_none (by rw [mrg_length]; omega)] at e; cases e
    · rw [mrg_out hj] at e
      obtain ⟨x, e1, rr⟩ := E4.sl j s e
      exact ⟨x, by rw [← same j hj]; exact e1, rr⟩
  · obtain ⟨n1, f1⟩ := own e1
    obtain ⟨n2, f2⟩ := own e2
    exact E4.ds j1 j2 xs ys a f1 f2 (by rw [same _ n1]; exact e3) (by rw [same _ n2]; exact e4)
/-- an object of ours, in no slot, is written -/
theorem EvD.put {c : C} {F : Hp} {σ : St} {H : Hp} {Dl : Addr} {o2 : HO} (E : EvD c S F σ H) (nF : F Dl = none) (nB : c.B Dl = none) (ns : ∀ q, c.sr = some q → Dl ≠ q.1 ∧ Dl ≠ q.2) (no : ∀ (j : Nat) xs, S[j]? = some (.ob xs) → σ[j]? ≠ some (some (.ref Dl))) : EvD c S F σ (upd H Dl o2) := by
  refine ⟨⟨E.fin.f0, E.fin.fh.upd2 nF, E.fin.bh.upd2 nB, E.fin.bf, fun p ep => ?_⟩, E.len, fun i s e => ?_, E.ds⟩
  · obtain ⟨⟨cs, l, m, t, h1, h2⟩, n1, n2, b1, b2⟩ := E.fin.src p ep
    obtain ⟨m1, m2⟩ := ns p ep
    exact ⟨⟨cs, l, m, t, by rw [upd_ne m1.symm]; exact h1, by rw [upd_ne m2.symm]; exact h2⟩, n1, n2, b1, b2⟩
  · obtain ⟨x, e1, rr⟩ := E.sl i s e
    refine ⟨x, e1, ?_⟩
    cases s with
    | emp => trivial
    | val d => exact rr
    | src => exact rr
    | rf _ => exact rr
    | ob ds =>
      obtain ⟨a, us, e2, h1, r1, n1, b1, q1⟩ := rr
      subst e2
      have hne : a ≠ Dl := fun z => no i _ e (by rw [e1, z])
      exact ⟨a, us, rfl, by rw [upd_ne hne]; exact h1, r1, n1, b1, q1⟩
/-- a slot is put aside -/
theorem EvD.hide {c : C} {F : Hp} {σ : St} {H : Hp} {i : Nat} (E : EvD c S F σ H) (hl : i < S.length) : EvD c (S.set i .emp) F σ H := by
  refine ⟨E.fin, by rw [List.length_set]; exact E.len, fun j s ej => ?_, fun j k xs' ys' a' f1 f2 f3 f4 => ?_⟩
  · by_cases hj : i = j
    · subst hj
      rw [List.getElem?_set_self hl] at ej; cases ej
      obtain ⟨x, e1⟩ : ∃ x, σ[i]? = some x := ⟨σ[i]'(by rw [E.len]; exact hl), List.getElem?_eq_getElem _⟩
      exact ⟨x, e1, trivial⟩
    · rw [List.getElem?_set_ne hj] at ej; exact E.sl j s ej
  · have own : ∀ {j : Nat} {ys : OB}, (S.set i .emp)[j]? = some (.ob ys) → S[j]? = some (.ob ys) := fun {j ys} z => by
      by_cases hj : i = j
      · subst hj; rw [List.getElem?_set_self hl] at z; cases z
      · rw [List.getElem?_set_ne hj] at z; exact z
    exact E.ds j k _ _ _ (own f1) (own f2) f3 f4
/-- the new list is kept by everything -/
theorem EvD.hold {c : C} {F : Hp} {σ : St} {H : Hp} {Dl : Addr} {vs : HO} (E : EvD c S F σ H) (h : H Dl = some vs) (nF : F Dl = none) (ns : ∀ q, c.sr = some q → Dl ≠ q.1 ∧ Dl ≠ q.2) (no : ∀ (j : Nat) xs, S[j]? = some (.ob xs) → σ[j]? ≠ some (some (.ref Dl))) : EvD (c.hold Dl vs) S F σ H := by
  refine ⟨⟨E.fin.f0, E.fin.fh, fun a o e => ?_, fun a o e => ?_, fun p ep => ?_⟩, E.len, fun i s e => ?_, E.ds⟩
  · have e : upd c.B Dl vs a = some o := e
    by_cases q : a = Dl
    · subst q; rw [upd_same] at e; cases e; exact h
    · rw [upd_ne q] at e; exact E.fin.bh a o e
  · have e : upd c.B Dl vs a = some o := e
    show F a = c.F0 a ∨ _
    by_cases q : a = Dl
    · subst q
      exact .inl (by rw [nF, E.fin.f0.back nF])
    · rw [upd_ne q] at e; exact E.fin.bf a o e
  · obtain ⟨s, n1, n2, b1, b2⟩ := E.fin.src p ep
    have m1 : p.1 ≠ Dl := (ns p ep).1.symm
    refine ⟨s, n1, n2, ?_, ?_⟩
    · show upd c.B Dl vs p.1 = none
      rw [upd_ne m1]; exact b1
    · show upd c.B Dl vs p.2 = none
      rw [upd_ne (ns p ep).2.symm]; exact b2
  · obtain ⟨x, e1, rr⟩ := E.sl i s e
    refine ⟨x, e1, ?_⟩
    cases s with
    | emp => trivial
    | val d => exact rr
    | src => exact rr
    | rf _ => exact rr
    | ob ds =>
      obtain ⟨a, ws, e2, h1, r1, n1, b1, q1⟩ := rr
      subst e2
      have hne : a ≠ Dl := fun z => no i _ e (by rw [e1, z])
      exact ⟨a, ws, rfl, h1, r1, n1, by show upd c.B Dl vs a = none; rw [upd_ne hne]; exact b1, q1⟩
theorem EvD.unhold {c : C} {F : Hp} {σ : St} {H : Hp} {Dl : Addr} {vs : HO} (hm : ∀ xs, vs ≠ .tup xs) (E : EvD (c.hold Dl vs) S F σ H) (b : c.B Dl = none) (b0 : c.F0 Dl = none) :
    EvD c S F σ H ∧ H Dl = some vs ∧ F Dl = none ∧ (∀ q, c.sr = some q → Dl ≠ q.1 ∧ Dl ≠ q.2) ∧ ∀ (j : Nat) xs, S[j]? = some (.ob xs) → σ[j]? ≠ some (some (.ref Dl)) := by
  have eB : ∀ a o, c.B a = some o → (c.hold Dl vs).B a = some o := fun a o e => by
    show upd c.B Dl vs a = some o
    rw [upd_ne (ne_of_none e b)]; exact e
  have hD : (c.hold Dl vs).B Dl = some vs := upd_same
  have hH := E.fin.bh _ _ hD
  have hF : F Dl = none := by
    rcases E.fin.bf _ _ hD with z | ⟨xs, z⟩
    · rw [z]; exact b0
    · exact absurd z (hm xs)
  have src : ∀ q, c.sr = some q → SrcOk H q ∧ F q.1 = none ∧ F q.2 = none ∧ c.B q.1 = none ∧ c.B q.2 = none ∧ Dl ≠ q.1 ∧ Dl ≠ q.2 := fun q eq => by
    obtain ⟨s, n1, n2, b1, b2⟩ := E.fin.src q eq
    have m1 : Dl ≠ q.1 := fun z => by rw [← z, hD] at b1; cases b1
    have m2 : Dl ≠ q.2 := fun z => by rw [← z, hD] at b2; cases b2
    have b1' : upd c.B Dl vs q.1 = none := b1
    have b2' : upd c.B Dl vs q.2 = none := b2
    rw [upd_ne m1.symm] at b1'
    rw [upd_ne m2.symm] at b2'
    exact ⟨s, n1, n2, b1', b2', m1, m2⟩
  have unb : ∀ a, (c.hold Dl vs).B a = none → c.B a = none ∧ a ≠ Dl := fun a e => by
    have ne : a ≠ Dl := fun z => by rw [z, hD] at e; cases e
    have e : upd c.B Dl vs a = none := e
    rw [upd_ne ne] at e
    exact ⟨e, ne⟩
  refine ⟨⟨⟨E.fin.f0, E.fin.fh, fun a o e => E.fin.bh a o (eB a o e), fun a o e => E.fin.bf a o (eB a o e), fun q eq => ?_⟩, E.len, fun i s e => ?_, E.ds⟩, hH, hF, fun q eq => ?_, fun j xs ej ea => ?_⟩
  · obtain ⟨s, n1, n2, b1, b2, _⟩ := src q eq
    exact ⟨s, n1, n2, b1, b2⟩
  · obtain ⟨x, e1, rr⟩ := E.sl i s e
    refine ⟨x, e1, ?_⟩
    cases s with
    | emp => trivial
    | val d => exact rr
    | src => exact rr
    | rf _ => exact rr
    | ob ds =>
      obtain ⟨a, ws, e2, h1, r1, n1, b1, q1⟩ := rr
      exact ⟨a, ws, e2, h1, r1, n1, (unb a b1).1, q1⟩
  · obtain ⟨_, _, _, _, _, m1, m2⟩ := src q eq
    exact ⟨m1, m2⟩
  · obtain ⟨x, e1, a, ws, e2, h1, r1, n1, b1, q1⟩ := E.sl j _ ej
    rw [ea] at e1; cases e1; cases e2
    exact (unb _ b1).2 rfl
theorem pg_tGb {scope : Scope} {tg : Expr} (s : Shared) (H : Hp) (C : Addr) (cl : List (Str × Addr)) (fp : List Addr) : PG (X.blk s H scope (compEnvC scope cl C X.env) fp) tg (tGb X scope tg) := ⟨fun pins s' σ H' v u Q I rv h => h s H C cl fp pins s' u I rv⟩
theorem pe_tEb {scope : Scope} {e : Expr} (s : Shared) (H : Hp) (C : Addr) (cl : List (Str × Addr)) (fp : List Addr) : PE (X.blk s H scope (compEnvC scope cl C X.env) fp) e (tEb X scope e) := ⟨fun pins s' σ H' Q I h => h s H C cl fp pins s' I⟩
theorem pts_tTsb {scope : Scope} {ifs : List Expr} (s : Shared) (H : Hp) (C : Addr) (cl : List (Str × Addr)) (fp : List Addr) : PTs (X.blk s H scope (compEnvC scope cl C X.env) fp) ifs (tTsb X scope ifs) := ⟨fun pins s' σ H' Q I h => h s H C cl fp pins s' I⟩
/-- no test, one test -/
def JTs (X : Cx) (r : SR) (ifs : List Expr) (S : List Sl) (K : Bool → List Sl → Prop) : Prop := match ifs with
  | [] => K true S
  | [t] => JT X r t S K
  | _ => False
theorem jts_run {c : C} {F : Hp} {σ : St} {H : Hp} {ifs : List Expr} {K : Bool → List Sl → Prop} (hr : r.q c) (E : EvD c S F σ H) (Q : Bool → Hp → Prop) (h : JTs X r ifs S K) (q : ∀ b F' H' S', K b S' → EvD c S' F' σ H' → Ex F F' → Q b H') :
    ∀ pins s, Inv X pins σ H s → wpAny (model X.prog X.w) X.A (forIn ifs true fun c r => if r = true then do let ok ← isTrue c X.env (eval c X.env); pure (ForInStep.yield ok) else pure (ForInStep.yield r)) (TP X pins σ Q) X.xe s := fun pins s I => by
  match ifs, h with
  | [], h => exact pts_nil.run pins s σ H Q I (q true F H S h E (Ex.refl F))
  | [t], h =>
    have h : JT X r t S K := h
    exact (pts_one pt_tT).run pins s σ H Q I (h c F σ H hr E Q q)
/-- the turn of a comprehension, in its block -/
def LcTurn (X : Cx) (r : SR) (scope : Scope) (tg elt : Expr) (ifs : List Expr) (vs ts : List Nat) (d : D) (S : List Sl) (KY : D → List Sl → Prop) (KN : List Sl → Prop) : Prop :=
  Blk X scope fun Y => JG Y r tg ts d (wipeS S vs) fun S2 => Blk X scope fun Y => JTs Y r ifs S2 fun b S3 => if b = true then Blk X scope fun Y => JE Y r elt S3 fun y S4 => KY y (mrg vs S S4) else KN (mrg vs S S3)
theorem lc_runc {wi : TI} {elt tg : Expr} {ifs : List Expr} {scope : Scope} {own : List (Str × Nat)} (ts : List Nat) {K : List D → List Sl → Prop} (hts : ∀ j ∈ ts, j ∈ own.map (·.2))
    (c : C) (F : Hp) (σ : St) (H : Hp) (hr : r.q c) (Q : VK) (q : ∀ p ds F' H' S', K ds S' → NewL c S' F' H' σ p (.l ds) → Ex F F' → Q (.ref p) H')
    (h : JIw wi c F σ H fun ds S1 => ∃ I : Nat → List D → List Sl → Prop, I 0 [] S1 ∧ (∀ i acc S', I i acc S' → i ≤ ds.length → acc.length < sizeLine ∧ ∀ j ∈ own.map (·.2), ∀ xs, S'[j]? ≠ some (.ob xs)) ∧
      (∀ i d acc S', ds[i]? = some d → I i acc S' → LcTurn X r scope tg elt ifs (own.map (·.2)) ts d S' (fun y S4 => I (i + 1) (acc ++ [y]) S4) fun S4 => I (i + 1) acc S4) ∧ ∀ acc S', I ds.length acc S' → K acc S') :
    tLc wi (tGb X scope tg) (tTsb X scope ifs) (tEb X scope elt) (own.map (·.2)) σ H Q := by
  refine h _ fun J ds F1 H1 S1 h1 E1 k1 w => ?_
  · have kB : ∀ {Dl : Addr} {o : HO}, c.B Dl = none → Ex c.B (c.hold Dl o).B := fun nB => Ex.new nB
    obtain ⟨I, i0, side, step, fin⟩ := h1
    intro Dl nD
    have nF1 : F1 Dl = none := E1.fin.fh.back nD
    have nB : c.B Dl = none := E1.fin.bh.back nD
    have nF0 : c.F0 Dl = none := E1.fin.f0.back nF1
    obtain ⟨vs0, E2, hD, rv0, _, _, q2, no2⟩ := newL_of (p := Dl) (vs := []) (ds := []) E1 nD .nil
    refine ⟨fun i m H => m = ds.length - i ∧ i ≤ ds.length ∧ ∃ S' F' acc vacc, I i acc S' ∧ EvD (c.hold Dl (.lst vacc)) S' F' σ H ∧ RpA F' vacc acc ∧ Ex F1 F', ⟨ds.length, by omega, Nat.zero_le _, S1, F1, [], [], i0, E2.hold upd_same nF1 q2 no2, .nil, Ex.refl _⟩, fun i m H hw => ?_⟩
    obtain ⟨rfl, hi, S', F', acc, vacc, hI, E', rv, k'⟩ := hw
    obtain ⟨hacc, hside⟩ := side i acc S' hI hi
    by_cases hlt : i < ds.length
    · refine .inr ⟨w.go i H ((kB nB).trans E'.fin.bh) (k'.trans E'.fin.fh) hlt, fun H' => ∃ S2 F2 acc2 vacc2, I (i + 1) acc2 S2 ∧ EvD (c.hold Dl (.lst vacc2)) S2 F2 σ H' ∧ RpA F2 vacc2 acc2 ∧ Ex F1 F2, fun H' ⟨S2, F2, a2, v2, a, b, d, e⟩ => ⟨ds.length - (i + 1), by omega, rfl, hlt, S2, F2, a2, v2, a, b, d, e⟩, fun x H' y => ?_⟩
      obtain ⟨d, F2, ed, k2, rp, E2⟩ := w.next (kB nB) k' E' hlt y
      have turn := step i d acc S' ed hI
      intro s0 H0 C cl fp
      refine turn s0 H0 C cl fp (c.hold Dl (.lst vacc)) F2 _ H' x (r.st _ _ _ nB hr) (E2.wipe _) rp _ fun F3 σ3 H3 S3 h3 E3 k3 z3 => ?_
      have hw3 : L2.wipe σ3 (own.map (·.2)) = L2.wipe σ (own.map (·.2)) := wipe_same (z3.2.trans (wipe_length _ _)) hts z3.1
      refine ⟨hw3, fun s1 H1' C1 cl1 fp1 => jts_run (c := c.hold Dl (.lst vacc)) (r.st _ _ _ nB hr) E3 _ (h3 s1 H1' C1 cl1 fp1) fun b F4 H4 S4 h4 E4 k4 => ?_⟩
      cases b with
      | false =>
        rw [if_neg Bool.false_ne_true] at h4 ⊢
        exact ⟨_, F4, acc, vacc, h4, E2.out E4 (k3.trans k4) hw3 hside, rv.ex ((k2.trans k3).trans k4), ((k'.trans k2).trans k3).trans k4⟩
      | true =>
        rw [if_pos rfl] at h4 ⊢
        intro s2 H2' C2 cl2 fp2
        refine h4 s2 H2' C2 cl2 fp2 (c.hold Dl (.lst vacc)) F4 σ3 H4 (r.st _ _ _ nB hr) E4 _ fun v y F5 H5 S5 h5 E5 k5 r5 => ?_
        have E6 := E2.out E5 ((k3.trans k4).trans k5) hw3 hside
        obtain ⟨E7, h7, f7, s7, o7⟩ := E6.unhold (vs := .lst vacc) (fun _ z => nomatch z) nB nF0
        refine ⟨vacc, h7, by rw [rv.length]; exact hacc, ?_⟩
        have kk : Ex F' F5 := ((k2.trans k3).trans k4).trans k5
        have rv' := (rv.ex kk).append (.one r5)
        refine ⟨_, F5, acc ++ [y], vacc ++ [v], h5, ?_, rv', k'.trans kk⟩
        exact (E7.put f7 nB s7 o7).hold upd_same f7 s7 o7
    · have e : i = ds.length := by omega
      subst e
      obtain ⟨E7, h7, f7, s7, o7⟩ := E'.unhold (vs := .lst vacc) (fun _ z => nomatch z) nB nF0
      exact .inl ⟨w.stop _ H ((kB nB).trans E'.fin.bh) (k'.trans E'.fin.fh) (Nat.le_refl _), q Dl acc F' H S' (fin acc S' hI) ⟨.lst vacc, E7, h7, rv, f7, nB, s7, o7⟩ (k1.trans k')⟩
theorem lc_run {elt tg iter : Expr} {ifs : List Expr} {scope : Scope} {own : List (Str × Nat)} (ts : List Nat) {K : List D → List Sl → Prop} (hts : ∀ j ∈ ts, j ∈ own.map (·.2))
    (h : JI X r tg iter S fun ds S1 => ∃ I : Nat → List D → List Sl → Prop, I 0 [] S1 ∧ (∀ i acc S', I i acc S' → i ≤ ds.length → acc.length < sizeLine ∧ ∀ j ∈ own.map (·.2), ∀ xs, S'[j]? ≠ some (.ob xs)) ∧
      (∀ i d acc S', ds[i]? = some d → I i acc S' → LcTurn X r scope tg elt ifs (own.map (·.2)) ts d S' (fun y S4 => I (i + 1) (acc ++ [y]) S4) fun S4 => I (i + 1) acc S4) ∧ ∀ acc S', I ds.length acc S' → K acc S') :
    ∀ (c : C) F σ H, r.q c → EvD c S F σ H → ∀ Q : VK, (∀ p ds F' H' S', K ds S' → NewL c S' F' H' σ p (.l ds) → Ex F F' → Q (.ref p) H') → tLc (tI X tg iter) (tGb X scope tg) (tTsb X scope ifs) (tEb X scope elt) (own.map (·.2)) σ H Q :=
  fun c F σ H hr E Q q => lc_runc ts hts c F σ H hr Q q (h c F σ H hr E)
theorem jn_lc {elt tg iter : Expr} {ifs : List Expr} {scope : Scope} {pos : Pos} (own : List (Str × Nat)) (ts : List Nat) {K : List D → List Sl → Prop} (hc : X.calm = true) (hN : X.N.Nodup) (ok : BlkOk X.N X.env.scope scope own) (hs : ∀ x, foldedSetIterable iter X.env x = pure x) (hts : ∀ j ∈ ts, j ∈ own.map (·.2))
    (h : JI X r tg iter S fun ds S1 => ∃ I : Nat → List D → List Sl → Prop, I 0 [] S1 ∧ (∀ i acc S', I i acc S' → i ≤ ds.length → acc.length < sizeLine ∧ ∀ j ∈ own.map (·.2), ∀ xs, S'[j]? ≠ some (.ob xs)) ∧
      (∀ i d acc S', ds[i]? = some d → I i acc S' → LcTurn X r scope tg elt ifs (own.map (·.2)) ts d S' (fun y S4 => I (i + 1) (acc ++ [y]) S4) fun S4 => I (i + 1) acc S4) ∧ ∀ acc S', I ds.length acc S' → K acc S') :
    JN X r (.ListComp elt [⟨tg, iter, ifs, 0⟩] scope pos) S K := fun c F σ H hr E Q q =>
  of_pe (pe_lc hc hN pi_tI ok pg_tGb pts_tTsb pe_tEb hs) (lc_run ts hts h c F σ H hr E Q q)
end
end DL

/-! DL: operations on data; a def by its body. -/
namespace DL
open PySem L2

/-! ### == and in, of data -/
def rEqD (X : Cx) : R2 := fun x y H Q => ∃ F d1 d2, Ex F H ∧ Rp F x d1 ∧ Rp F y d2 ∧ d1.plain = true ∧ d2.plain = true ∧ X.A.units + min d1.depth d2.depth < cLine ∧ Q (.bl (PyData.eqv d1 d2)) H
def rNeD (X : Cx) : R2 := fun x y H Q => ∃ F d1 d2, Ex F H ∧ Rp F x d1 ∧ Rp F y d2 ∧ d1.plain = true ∧ d2.plain = true ∧ X.A.units + min d1.depth d2.depth < cLine ∧ Q (.bl (!PyData.eqv d1 d2)) H
section
variable {X : Cx}
theorem op_eqD : OpR X (compareOp .Eq) (rEqD X) := by
  intro pins s σ H x y v u Q I rx ry h
  obtain ⟨F, d1, d2, k, r1, r2, p1, p2, hu, q⟩ := h
  obtain ⟨as, h1⟩ := r1.reads k I.hok rx p1
  obtain ⟨bs, h2⟩ := r2.reads k I.hok ry p2
  exact PySem.SeqAt.eq_plain h1 h2 p1 p2 hu ⟨.bl _, H, I, rfl, q⟩
theorem op_neD : OpR X (compareOp .NotEq) (rNeD X) := by
  intro pins s σ H x y v u Q I rx ry h
  obtain ⟨F, d1, d2, k, r1, r2, p1, p2, hu, q⟩ := h
  obtain ⟨as, h1⟩ := r1.reads k I.hok rx p1
  obtain ⟨bs, h2⟩ := r2.reads k I.hok ry p2
  exact PySem.SeqAt.ne_plain h1 h2 p1 p2 hu ⟨.bl _, H, I, rfl, q⟩
/-- x in c, c a list or a tuple -/
def rInD (X : Cx) (neg : Bool) : R2 := fun x y H Q => ∃ F d xs, Ex F H ∧ Rp F x d ∧ (Rp F y (.list xs) ∨ Rp F y (.tuple xs)) ∧ d.plain = true ∧ PyData.plainAll xs = true ∧ X.A.units + 1 + min (PyData.depthAll xs) d.depth < cLine ∧
  Q (.bl (if neg = true then !(xs.any fun z => PyData.eqv z d) else xs.any fun z => PyData.eqv z d)) H
theorem op_inD : OpR X (compareOp .In) (rInD X false) := by
  intro pins s σ H x y v u Q I rx ry h
  obtain ⟨F, d, xs, k, r1, r2, p1, p2, hu, q⟩ := h
  obtain ⟨as, h1⟩ := r1.reads k I.hok rx p1
  rcases r2 with r2 | r2
  · obtain ⟨bs, h2⟩ := r2.reads k I.hok ry (by simpa only [PyData.plain] using p2)
    exact PySem.SeqAt.in_list_data h2 h1 p2 p1 hu ⟨.bl _, H, I, rfl, q⟩
  · obtain ⟨bs, h2⟩ := r2.reads k I.hok ry (by simpa only [PyData.plain] using p2)
    exact PySem.SeqAt.in_tuple_data h2 h1 p2 p1 hu ⟨.bl _, H, I, rfl, q⟩
theorem op_notInD : OpR X (compareOp .NotIn) (rInD X true) := by
  intro pins s σ H x y v u Q I rx ry h
  obtain ⟨F, d, xs, k, r1, r2, p1, p2, hu, q⟩ := h
  obtain ⟨as, h1⟩ := r1.reads k I.hok rx p1
  rcases r2 with r2 | r2
  · obtain ⟨bs, h2⟩ := r2.reads k I.hok ry (by simpa only [PyData.plain] using p2)
    exact PySem.SeqAt.notIn_list_data h2 h1 p2 p1 hu ⟨.bl _, H, I, rfl, q⟩
  · obtain ⟨bs, h2⟩ := r2.reads k I.hok ry (by simpa only [PyData.plain] using p2)
    exact PySem.SeqAt.notIn_tuple_data h2 h1 p2 p1 hu ⟨.bl _, H, I, rfl, q⟩
theorem units_le {k : Nat} (hr : Room k X.A) {n : Nat} (h : n ≤ 60) : X.A.units + 1 + n < cLine := by have := hr.units; omega
/-- typed data: == -/
theorem od_eq {α : Type} [DecidableEq α] [PySem.W.Datum α] {k : Nat} (hr : Room k X.A) {x y : α} {K : D → Prop} (hd : PySem.W.Datum.depth α ≤ 60) (h : K (.bool (decide (x = y)))) : OpD (rEqD X) (PySem.W.Datum.toD x) (PySem.W.Datum.toD y) K :=
  fun F H v1 v2 kF r1 r2 Q q => ⟨F, _, _, kF, r1, r2, PySem.W.Datum.plain x, PySem.W.Datum.plain y, (by
    have := units_le hr (Nat.le_trans (PySem.W.Datum.depth_le x) hd); have := Nat.min_le_left (PySem.W.Datum.toD x).depth (PySem.W.Datum.toD y).depth; omega), q _ _ F H (by rw [PySem.W.Datum.eqv]; exact h) (Grow.refl kF) (.bl _)⟩
theorem od_ne {α : Type} [DecidableEq α] [PySem.W.Datum α] {k : Nat} (hr : Room k X.A) {x y : α} {K : D → Prop} (hd : PySem.W.Datum.depth α ≤ 60) (h : K (.bool (!decide (x = y)))) : OpD (rNeD X) (PySem.W.Datum.toD x) (PySem.W.Datum.toD y) K :=
  fun F H v1 v2 kF r1 r2 Q q => ⟨F, _, _, kF, r1, r2, PySem.W.Datum.plain x, PySem.W.Datum.plain y, (by
    have := units_le hr (Nat.le_trans (PySem.W.Datum.depth_le x) hd); have := Nat.min_le_left (PySem.W.Datum.toD x).depth (PySem.W.Datum.toD y).depth; omega), q _ _ F H (by rw [PySem.W.Datum.eqv]; exact h) (Grow.refl kF) (.bl _)⟩
theorem in_typed {α : Type} [DecidableEq α] [PySem.W.Datum α] {k : Nat} (hr : Room k X.A) {x : α} {xs : List α} (hd : PySem.W.Datum.depth α ≤ 60) : X.A.units + 1 + min (PyData.depthAll (xs.map PySem.W.Datum.toD)) (PySem.W.Datum.toD x).depth < cLine := by
  have := units_le hr (Nat.le_trans (PySem.W.Datum.depth_le x) hd)
  have := Nat.min_le_right (PyData.depthAll (xs.map PySem.W.Datum.toD)) (PySem.W.Datum.toD x).depth
  omega
theorem od_inT {α : Type} [DecidableEq α] [PySem.W.Datum α] {k : Nat} (hr : Room k X.A) {x : α} {xs : List α} {K : D → Prop} (hd : PySem.W.Datum.depth α ≤ 60) (h : K (.bool (decide (x ∈ xs)))) : OpD (rInD X false) (PySem.W.Datum.toD x) (.tuple (xs.map PySem.W.Datum.toD)) K :=
  fun F H v1 v2 kF r1 r2 Q q => ⟨F, _, _, kF, r1, .inr r2, PySem.W.Datum.plain x, PySem.W.plainAll_map xs, in_typed hr hd, q _ _ F H (by rw [if_neg Bool.false_ne_true, PySem.W.any_datum]; exact h) (Grow.refl kF) (.bl _)⟩
theorem od_inL {α : Type} [DecidableEq α] [PySem.W.Datum α] {k : Nat} (hr : Room k X.A) {x : α} {xs : List α} {K : D → Prop} (hd : PySem.W.Datum.depth α ≤ 60) (h : K (.bool (decide (x ∈ xs)))) : OpD (rInD X false) (PySem.W.Datum.toD x) (.list (xs.map PySem.W.Datum.toD)) K :=
  fun F H v1 v2 kF r1 r2 Q q => ⟨F, _, _, kF, r1, .inl r2, PySem.W.Datum.plain x, PySem.W.plainAll_map xs, in_typed hr hd, q _ _ F H (by rw [if_neg Bool.false_ne_true, PySem.W.any_datum]; exact h) (Grow.refl kF) (.bl _)⟩
theorem od_niT {α : Type} [DecidableEq α] [PySem.W.Datum α] {k : Nat} (hr : Room k X.A) {x : α} {xs : List α} {K : D → Prop} (hd : PySem.W.Datum.depth α ≤ 60) (h : K (.bool (!decide (x ∈ xs)))) : OpD (rInD X true) (PySem.W.Datum.toD x) (.tuple (xs.map PySem.W.Datum.toD)) K :=
  fun F H v1 v2 kF r1 r2 Q q => ⟨F, _, _, kF, r1, .inr r2, PySem.W.Datum.plain x, PySem.W.plainAll_map xs, in_typed hr hd, q _ _ F H (by rw [if_pos rfl, PySem.W.any_datum]; exact h) (Grow.refl kF) (.bl _)⟩
theorem od_niL {α : Type} [DecidableEq α] [PySem.W.Datum α] {k : Nat} (hr : Room k X.A) {x : α} {xs : List α} {K : D → Prop} (hd : PySem.W.Datum.depth α ≤ 60) (h : K (.bool (!decide (x ∈ xs)))) : OpD (rInD X true) (PySem.W.Datum.toD x) (.list (xs.map PySem.W.Datum.toD)) K :=
  fun F H v1 v2 kF r1 r2 Q q => ⟨F, _, _, kF, r1, .inl r2, PySem.W.Datum.plain x, PySem.W.plainAll_map xs, in_typed hr hd, q _ _ F H (by rw [if_pos rfl, PySem.W.any_datum]; exact h) (Grow.refl kF) (.bl _)⟩

/-! ### ints -/
theorem od_I0 {g : Int → Int → Int} {i j : Int} {K : D → Prop} (h : K (.int (g i j))) : OpD (rI0 fun i j => .int (g i j)) (.int i) (.int j) K := fun F H v1 v2 kF r1 r2 Q q => by
  cases r1
  cases r2
  exact ⟨i, j, rfl, rfl, q _ _ F H h (Grow.refl kF) (.int _)⟩
theorem od_B0 {g : Int → Int → Bool} {i j : Int} {K : D → Prop} (h : K (.bool (g i j))) : OpD (rI0 fun i j => .bl (g i j)) (.int i) (.int j) K := fun F H v1 v2 kF r1 r2 Q q => by
  cases r1
  cases r2
  exact ⟨i, j, rfl, rfl, q _ _ F H h (Grow.refl kF) (.bl _)⟩
theorem od_I {C : Int → Int → Prop} {g : Int → Int → Int} {i j : Int} {K : D → Prop} (hc : C i j) (h : K (.int (g i j))) : OpD (rI C fun i j => .int (g i j)) (.int i) (.int j) K := fun F H v1 v2 kF r1 r2 Q q => by
  cases r1
  cases r2
  exact ⟨i, j, rfl, rfl, hc, q _ _ F H h (Grow.refl kF) (.int _)⟩
theorem ud_neg {i : Int} {K : D → Prop} (h : K (.int (-i))) : UnD (rU fun i => .int (-i)) (.int i) K := fun F H v1 kF r1 Q q => by
  cases r1
  exact ⟨i, rfl, q _ _ F H h (Grow.refl kF) (.int _)⟩
def isNone : D → Bool
  | .none => true
  | _ => false
theorem isN_data {F : Hp} {v : V} {d : D} (r : Rp F v d) : decide (v = V.non) = isNone d := by
  cases r <;> simp [isNone, dctD, ft]
theorem od_isN {d : D} {K : D → Prop} (h : K (.bool (isNone d))) : OpD (fun x y H Q => y = .non ∧ Q (.bl (decide (x = .non))) H) d .none K := fun F H v1 v2 kF r1 r2 Q q => by
  cases r2
  exact ⟨rfl, q _ _ F H h (Grow.refl kF) (by rw [isN_data r1]; exact .bl _)⟩
theorem od_notN {d : D} {K : D → Prop} (h : K (.bool (!isNone d))) : OpD (fun x y H Q => y = .non ∧ Q (.bl (!decide (x = .non))) H) d .none K := fun F H v1 v2 kF r1 r2 Q q => by
  cases r2
  exact ⟨rfl, q _ _ F H h (Grow.refl kF) (by rw [isN_data r1]; exact .bl _)⟩

/-! ### items, slices, lists and tuples joined -/
theorem atI_rp {F : Hp} {vs : List V} {ds : List D} (rv : RpA F vs ds) {i : Int} {d : D} (h : atI ds i = some d) : ∃ v, atI vs i = some v ∧ Rp F v d := by
  unfold atI at h ⊢
  rw [rv.length]
  cases e : ixN ds.length i with
  | none => rw [e] at h; cases h
  | some j =>
    rw [e] at h
    exact rv.get' h
theorem od_ixT {K0 : PySem.W.Frag} {ds : List D} {i : Int} {d : D} {K : D → Prop} (h : atI ds i = some d) (k : K d) : OpD (rIxT K0) (.tuple ds) (.int i) K := fun F H v1 v2 kF r1 r2 Q q => by
  cases r2
  cases r1 with
  | tup ha rv =>
    obtain ⟨v, e, rp⟩ := atI_rp rv h
    exact ⟨_, _, i, v, rfl, rfl, .inl (.inl (kF _ _ ha)), e, q v d F H k (Grow.refl kF) rp⟩
theorem od_ixL {K0 : PySem.W.Frag} {ds : List D} {i : Int} {d : D} {K : D → Prop} (h : atI ds i = some d) (k : K d) : OpD (rIxL K0) (.list ds) (.int i) K := fun F H v1 v2 kF r1 r2 Q q => by
  cases r2
  cases r1 with
  | lst ha rv =>
    obtain ⟨v, e, rp⟩ := atI_rp rv h
    exact ⟨_, _, i, v, rfl, rfl, .inl (.inl (kF _ _ ha)), e, q v d F H k (Grow.refl kF) rp⟩
def cutD (xs : List D) (lo hi : Option Int) : List D := (xs.drop (HT.sIx xs.length 0 lo)).take (HT.sIx xs.length xs.length hi - HT.sIx xs.length 0 lo)
theorem cut_rp {F : Hp} {vs : List V} {ds : List D} (rv : RpA F vs ds) (lo hi : Option Int) : RpA F (cutV vs lo hi) (cutD ds lo hi) := by
  unfold cutV cutD
  rw [rv.length]
  exact (rv.drop _).take _
def PtD (X : Cx) (r : SR) (S : List Sl) (e : Option Expr) (K : Option Int → List Sl → Prop) : Prop := match e with
  | none => K none S
  | some e => JE X r e S fun d S1 => ∃ i, d = .int i ∧ K (some i) S1
variable {r : SR} {S : List Sl}
def tO (X : Cx) (e : Option Expr) : TO := match e with
  | none => tNoPart
  | some e => tPart (tE X e)
theorem po_tO {e : Option Expr} : PO X e (tO X e) := match e with
  | none => po_none
  | some _ => po_some pe_tE
theorem ptd_run {e : Option Expr} {K : Option Int → List Sl → Prop} {c : C} {F : Hp} {σ : St} {H : Hp} (hr : r.q c) (E : EvD c S F σ H) (h : PtD X r S e K) (Q : Option Int → Hp → Prop) (q : ∀ o F' H' S', K o S' → EvD c S' F' σ H' → Ex F F' → Q o H') : tO X e σ H Q := by
  cases e with
  | none => exact q none F H S h E (Ex.refl F)
  | some e =>
    refine h c F σ H hr E _ fun v d F1 H1 S1 h1 E1 k1 r1 => ?_
    obtain ⟨i, rfl, kd⟩ := h1
    cases r1
    exact ⟨i, rfl, q (some i) F1 H1 S1 kd E1 k1⟩
/-- t[lo:hi] of a tuple -/
theorem je_cutT {K : D → List Sl → Prop} {e : Expr} {lo hi : Option Expr} {p2 pos : Pos} (h : JE X r e S fun d S1 => PtD X r S1 lo fun l S2 => PtD X r S2 hi fun u S3 => ∃ ds, d = .tuple ds ∧ K (.tuple (cutD ds l u)) S3) : JE X r (.Subscript e (.Slice lo hi none p2) pos) S K :=
  fun c F σ H hr E Q q => of_pe (pe_slice sl_tupA pe_tE po_tO po_tO) (h c F σ H hr E _ fun v d F1 H1 S1 h1 E1 k1 r1 => ptd_run hr E1 h1 _ fun l F2 H2 S2 h2 E2 k2 => ptd_run hr E2 h2 _ fun u F3 H3 S3 h3 E3 k3 => by
    obtain ⟨ds, rfl, kd⟩ := h3
    cases r1.ex (k2.trans k3) with
    | @tup a vs _ ha rv =>
      refine ⟨_, vs, rfl, .inl (.inl (E3.fin.fh _ _ ha)), fun w => ?_, fun _ p n => ?_⟩
      · have e : cutD ds l u = ds := by
          unfold cutD
          rw [rv.length] at w
          rw [w.1, w.2, List.drop_zero, Nat.sub_zero, List.take_length]
        rw [e] at kd
        exact q _ _ F3 H3 S3 kd E3 ((k1.trans k2).trans k3) (.tup ha rv)
      · have g := Grow.new E3.fin.fh (o := .tup (cutV vs l u)) n
        exact q _ _ _ _ S3 kd (E3.grow g) (((k1.trans k2).trans k3).trans g.kF) (.tup upd_same ((cut_rp rv l u).ex g.kF)))
/-- xs[lo:hi] of a list -/
theorem jn_cutL {K : List D → List Sl → Prop} {e : Expr} {lo hi : Option Expr} {p2 pos : Pos} (h : JE X r e S fun d S1 => PtD X r S1 lo fun l S2 => PtD X r S2 hi fun u S3 => ∃ ds, d = .list ds ∧ K (cutD ds l u) S3) : JN X r (.Subscript e (.Slice lo hi none p2) pos) S K :=
  fun c F σ H hr E Q q => of_pe (pe_slice sl_list pe_tE po_tO po_tO) (h c F σ H hr E _ fun v d F1 H1 S1 h1 E1 k1 r1 => ptd_run hr E1 h1 _ fun l F2 H2 S2 h2 E2 k2 => ptd_run hr E2 h2 _ fun u F3 H3 S3 h3 E3 k3 => by
    obtain ⟨ds, rfl, kd⟩ := h3
    cases r1.ex (k2.trans k3) with
    | @lst a vs _ ha rv => exact ⟨_, vs, rfl, .inl (.inl (E3.fin.fh _ _ ha)), fun p n => q p _ F3 _ S3 kd (newL_of E3 n (cut_rp rv l u)) ((k1.trans k2).trans k3)⟩)
theorem od_catT {K0 : PySem.W.Frag} {xs ys : List D} {K : D → Prop} (hl : xs.length + ys.length ≤ sizeLine) (k : K (.tuple (xs ++ ys))) : OpD (rCatA K0) (.tuple xs) (.tuple ys) K := fun F H v1 v2 kF r1 r2 Q q => by
  cases r1 with
  | @tup a vs _ ha rv =>
    cases r2 with
    | @tup b ws _ hb rw' =>
      refine ⟨a, b, vs, ws, rfl, rfl, .inl (.inl (kF _ _ ha)), .inl (.inl (kF _ _ hb)), by rw [rv.length, rw'.length]; exact hl, fun e => ?_, fun _ e => ?_, fun _ _ p n => ?_⟩
      · subst e; cases rv
        exact q _ _ F H k (Grow.refl kF) (.tup hb rw')
      · subst e; cases rw'
        rw [List.append_nil] at k
        exact q _ _ F H k (Grow.refl kF) (.tup ha rv)
      · have g := Grow.new kF (o := .tup (vs ++ ws)) n
        exact q _ _ _ _ k g (.tup upd_same ((rv.append rw').ex g.kF))
/-- xs + ys of lists: a new list -/
theorem jn_cat {K : List D → List Sl → Prop} {a b : Expr} {pos : Pos} (h : JE X r a S fun d1 S1 => JE X r b S1 fun d2 S2 => ∃ xs ys, d1 = .list xs ∧ d2 = .list ys ∧ xs.length + ys.length ≤ sizeLine ∧ K (xs ++ ys) S2) : JN X r (.BinOp a .Add b pos) S K :=
  fun c F σ H hr E Q q => of_pe (pe_op op_cat pe_tE pe_tE) (h c F σ H hr E _ fun v1 d1 F1 H1 S1 h1 E1 k1 r1 => h1 c F1 σ H1 hr E1 _ fun v2 d2 F2 H2 S2 h2 E2 k2 r2 => by
    obtain ⟨xs, ys, rfl, rfl, hl, kd⟩ := h2
    cases r1.ex k2 with
    | @lst a vs _ ha rv =>
      cases r2 with
      | @lst b ws _ hb rw' => exact ⟨a, b, vs, ws, rfl, rfl, E2.fin.fh _ _ ha, E2.fin.fh _ _ hb, by rw [rv.length, rw'.length]; exact hl, fun p n => q p _ F2 _ S2 kd (newL_of E2 n (rv.append rw')) (k1.trans k2)⟩)

/-! ### calls of built-ins -/
theorem cd_lenT {K0 : PySem.W.Frag} {xs : List D} {K : D → Prop} (k : K (.int (xs.length : Nat))) : CallD (fun vs H Q => ∃ p ys, vs = [.ref p] ∧ (SqL K0 H p ys ∨ SqT K0 H p ys) ∧ Q (.int ys.length) H) [.tuple xs] K := fun F H vs kF rv Q q => by
  cases rv with
  | cons r1 t =>
    cases t
    cases r1 with
    | @tup a ws _ ha rv => exact ⟨a, ws, rfl, .inr (.inl (.inl (kF _ _ ha))), q _ _ F H (by rw [← rv.length] at k; exact k) (Grow.refl kF) (.int _)⟩
theorem cd_lenL {K0 : PySem.W.Frag} {xs : List D} {K : D → Prop} (k : K (.int (xs.length : Nat))) : CallD (fun vs H Q => ∃ p ys, vs = [.ref p] ∧ (SqL K0 H p ys ∨ SqT K0 H p ys) ∧ Q (.int ys.length) H) [.list xs] K := fun F H vs kF rv Q q => by
  cases rv with
  | cons r1 t =>
    cases t
    cases r1 with
    | @lst a ws _ ha rv => exact ⟨a, ws, rfl, .inl (.inl (.inl (kF _ _ ha))), q _ _ F H (by rw [← rv.length] at k; exact k) (Grow.refl kF) (.int _)⟩
theorem RpA.bools {F : Hp} : ∀ {bs : List Bool} {vs : List V}, RpA F vs (bs.map PyData.bool) → vs = bs.map V.bl
  | [], _, h => by cases h; rfl
  | b :: bs, _, h => by
    cases h with
    | cons r t =>
      cases r
      rw [RpA.bools t]; rfl
theorem cd_all {K0 : PySem.W.Frag} {bs : List Bool} {K : D → Prop} (k : K (.bool (bs.all id))) : CallD (rAll K0) [.list (bs.map .bool)] K := fun F H vs kF rv Q q => by
  cases rv with
  | cons r1 t =>
    cases t
    cases r1 with
    | @lst a ws _ ha rv =>
      have e := rv.bools
      subst e
      exact ⟨a, bs, rfl, .inl (.inl (kF _ _ ha)), q _ _ F H k (Grow.refl kF) (.bl _)⟩
theorem cd_any {K0 : PySem.W.Frag} {bs : List Bool} {K : D → Prop} (k : K (.bool (bs.any id))) : CallD (rAny K0) [.list (bs.map .bool)] K := fun F H vs kF rv Q q => by
  cases rv with
  | cons r1 t =>
    cases t
    cases r1 with
    | @lst a ws _ ha rv =>
      have e := rv.bools
      subst e
      exact ⟨a, bs, rfl, .inl (.inl (kF _ _ ha)), q _ _ F H k (Grow.refl kF) (.bl _)⟩
/-- tuple(list) -/
theorem je_tupL {K : D → List Sl → Prop} {a : Expr} {p pos : Pos} (hg : Gl X "tuple") (hm : X.mg "tuple" = none) (na : starEach [a] X.env = (false, eval a X.env) :: starEach [] X.env) (h : JE X r a S fun d S1 => ∃ xs, d = .list xs ∧ K (.tuple xs) S1) : JE X r (.Call (.Name "tuple" p) [a] [] pos) S K :=
  fun c F σ H hr E Q q => of_pe (pe_tupleOf hg hm pe_tE na) (h c F σ H hr E _ fun v d F1 H1 S1 h1 E1 k1 r1 => by
    obtain ⟨xs, rfl, kd⟩ := h1
    cases r1 with
    | @lst a ws _ ha rv =>
      refine .inl ⟨a, ws, rfl, .inl (.inl (E1.fin.fh _ _ ha)), fun p n => ?_⟩
      have g := Grow.new E1.fin.fh (o := .tup ws) n
      exact q _ _ _ _ S1 kd (E1.grow g) (k1.trans g.kF) (.tup upd_same (rv.ex g.kF)))
theorem rg_rp {F : Hp} (a b : Int) : RpA F (rgV a b) (rangeD a (b - a).toNat) := by
  unfold rgV rangeD
  generalize List.range (b - a).toNat = l
  induction l with
  | nil => exact .nil
  | cons x l ih => exact .cons (.int _) ih
theorem jn_listRg1 {K : List D → List Sl → Prop} {a : Expr} {p p2 pos pos2 : Pos} (hc : X.calm = true) (hg : Gl X "list") (hm : X.mg "list" = none) (hg2 : Gl X "range") (hm2 : X.mg "range" = none) (na : starEach [a] X.env = (false, eval a X.env) :: starEach [] X.env)
    (ne : starEach [.Call (.Name "range" p2) [a] [] pos2] X.env = (false, eval (.Call (.Name "range" p2) [a] [] pos2) X.env) :: starEach [] X.env)
    (h : JE X r a S fun d S1 => ∃ n : Int, d = .int n ∧ RgOk 0 n ∧ K (rangeD 0 n.toNat) S1) : JN X r (.Call (.Name "list" p) [.Call (.Name "range" p2) [a] [] pos2] [] pos) S K :=
  fun c F σ H hr E Q q => of_pe (pe_listRg hc hg hm (prg_1 hg2 hm2 pe_tE na) ne) (h c F σ H hr E _ fun v d F1 H1 S1 h1 E1 k1 r1 => by
    obtain ⟨n, rfl, hb, kd⟩ := h1
    cases r1
    refine ⟨n, rfl, hb, fun p n' => q p _ F1 _ S1 kd (newL_of E1 n' ?_) k1⟩
    have := rg_rp (F := F1) 0 n
    rw [Int.sub_zero] at this
    exact this)
theorem je_tupRg1 {K : D → List Sl → Prop} {a : Expr} {p p2 pos pos2 : Pos} (hc : X.calm = true) (hg : Gl X "tuple") (hm : X.mg "tuple" = none) (hg2 : Gl X "range") (hm2 : X.mg "range" = none) (na : starEach [a] X.env = (false, eval a X.env) :: starEach [] X.env)
    (ne : starEach [.Call (.Name "range" p2) [a] [] pos2] X.env = (false, eval (.Call (.Name "range" p2) [a] [] pos2) X.env) :: starEach [] X.env)
    (h : JE X r a S fun d S1 => ∃ n : Int, d = .int n ∧ RgOk 0 n ∧ K (.tuple (rangeD 0 n.toNat)) S1) : JE X r (.Call (.Name "tuple" p) [.Call (.Name "range" p2) [a] [] pos2] [] pos) S K :=
  fun c F σ H hr E Q q => of_pe (pe_tupRg hc hg hm (prg_1 hg2 hm2 pe_tE na) ne) (h c F σ H hr E _ fun v d F1 H1 S1 h1 E1 k1 r1 => by
    obtain ⟨n, rfl, hb, kd⟩ := h1
    cases r1
    refine ⟨n, rfl, hb, fun p n' => ?_⟩
    have rv := rg_rp (F := F1) 0 n
    rw [Int.sub_zero] at rv
    have g := Grow.new E1.fin.fh (o := .tup (rgV 0 n)) n'
    exact q _ _ _ _ S1 kd (E1.grow g) (k1.trans g.kF) (.tup upd_same (rv.ex g.kF)))
/-- list(xs) -/
theorem cn_list {K0 : PySem.W.Frag} {xs : List D} {K : List D → Prop} {d : D} (hd : d = .list xs ∨ d = .tuple xs) (k : K xs) : CallN (fun vs H Q => ∃ p ys, vs = [.ref p] ∧ (SqL K0 H p ys ∨ SqT K0 H p ys) ∧ ∀ l, H l = none → Q (.ref l) (upd H l (.lst ys))) [d] K := fun F H vs kF rv Q q => by
  rcases hd with rfl | rfl
  all_goals
    cases rv with
    | cons r1 t =>
      cases t
      first
        | (cases r1 with
          | @lst a ws _ ha rv => exact ⟨a, ws, rfl, .inl (.inl (.inl (kF _ _ ha))), fun l n => q l ws xs k n rv⟩)
        | (cases r1 with
          | @tup a ws _ ha rv => exact ⟨a, ws, rfl, .inr (.inl (.inl (kF _ _ ha))), fun l n => q l ws xs k n rv⟩)
/-- repr -/
def rRepr (X : Cx) : List V → Hp → VK → Prop := fun vs H Q => ∃ F x d, vs = [x] ∧ Ex F H ∧ Rp F x d ∧ d.plain = true ∧ d.showable = true ∧ d.hasDict = false ∧ X.A.units + (d.depth + 1) < cLine ∧ d.shown.length ≤ sizeLine ∧ Q (.str d.shown) H
theorem call_repr (hg : X.A.guards = some []) : CallR X (.builtin "repr") (rRepr X) := by
  intro pins s σ H xs us Q I rr h
  obtain ⟨F, x, d, rfl, k, rp, hpl, hs, hd, hu, hz, q⟩ := h
  obtain ⟨u, rfl, rx⟩ := vals1 rr
  cases rp with
  | non =>
    cases rx
    exact PySem.P.repr_of_none ⟨.str _, H, I.tok _, ⟨_, rfl⟩, by simpa only [PyData.shown] using q⟩
  | bl b =>
    cases rx
    exact PySem.P.repr_of_bool ⟨.str _, H, I.tok _, ⟨_, rfl⟩, by simpa only [PyData.shown] using q⟩
  | int i =>
    obtain ⟨t, rfl⟩ := rx
    exact PySem.P.repr_of_int (by simpa only [PyData.showable, decide_eq_true_eq] using hs) ⟨.str _, H, I.tok _, ⟨_, rfl⟩, by simpa only [PyData.shown] using q⟩
  | str x =>
    obtain ⟨t, rfl⟩ := rx
    exact PySem.P.repr_of_str ⟨.str _, H, I.tok _, ⟨_, rfl⟩, by simpa only [PyData.shown] using q⟩ (by simpa only [PyData.shown] using hz)
  | @tup a ws ds ha rv =>
    cases rx
    obtain ⟨as, hr⟩ := (Rp.tup ha rv).reads k I.hok rfl hpl
    exact repr_of_reads' hr hs (fun e => by rw [hd] at e; cases e) hg hu (fun _ _ e => e) (fun h' u tk hk => ⟨.str _, H, I.kept hk, ⟨_, rfl⟩, q⟩) hz
  | @lst a ws ds ha rv =>
    cases rx
    obtain ⟨as, hr⟩ := (Rp.lst ha rv).reads k I.hok rfl hpl
    exact repr_of_reads' hr hs (fun e => by rw [hd] at e; cases e) hg hu (fun _ _ e => e) (fun h' u tk hk => ⟨.str _, H, I.kept hk, ⟨_, rfl⟩, q⟩) hz
  | dct ha rv => unfold dctD at hpl; simp only [PyData.plain] at hpl; cases hpl
  | ftup ha n rv => unfold ft at hpl; simp only [PyData.plain] at hpl; cases hpl
end

/-! ### a def by its body -/
def Ar.sl : Ar → Sl
  | Ar.d x => .val x
  | Ar.src => .src
def startS (N : List Str) (as : List Ar) : List Sl := as.map Ar.sl ++ List.replicate (N.length - as.length) .emp
theorem env_start {c : C} {H : Hp} {vs : List V} {as : List Ar} {N : List Str} (fn : Fin c c.F0 H) (ra : ArA c c.F0 vs as) : EvD c (startS N as) c.F0 (L2.start N vs) H := by
  have hl := ra.length
  refine ⟨fn, ?_, fun i s e => ?_, fun i j xs ys a e1 e2 _ _ => ?_⟩
  · unfold L2.start startS
    simp [hl]
  · unfold startS at e
    unfold L2.start
    by_cases hi : i < as.length
    · rw [List.getElem?_append_left (by rw [List.length_map]; exact hi)] at e
      rw [List.getElem?_append_left (by rw [List.length_map, hl]; exact hi)]
      clear hl fn
      induction ra generalizing i with
      | nil => simp at hi
      | @cons v a vs as rr t ih =>
        cases i with
        | zero =>
          simp at e
          subst e
          refine ⟨some v, by simp, ?_⟩
          cases a with
          | d d => exact ⟨v, rfl, rr⟩
          | src =>
            obtain ⟨p, e1, e2⟩ := rr
            exact ⟨p, e1, by rw [e2]⟩
        | succ i =>
          obtain ⟨x, e1, e2⟩ := ih i (by simpa using e) (by simpa using hi)
          exact ⟨x, by simpa using e1, e2⟩
    · rw [List.getElem?_append_right (by rw [List.length_map]; omega)] at e
      rw [List.getElem?_append_right (by rw [List.length_map, hl]; omega)]
      rw [List.length_map] at e ⊢
      rw [hl]
      have := (List.getElem?_eq_some_iff.mp e).1
      rw [List.length_replicate] at this
      rw [List.getElem?_replicate_of_lt this] at e
      cases e
      exact ⟨none, by rw [List.getElem?_replicate_of_lt this], trivial⟩
  · have no : ∀ {i : Nat} {xs : OB}, (startS N as)[i]? ≠ some (.ob xs) := fun {i xs} e => by
      have hm := List.mem_of_getElem? e
      unfold startS at hm
      rcases List.mem_append.mp hm with hm | hm
      · obtain ⟨a, _, e⟩ := List.mem_map.mp hm
        cases a <;> cases e
      · have := List.eq_of_mem_replicate hm
        cases this
    exact absurd e1 no
section
variable {P : Program} {w : World} {K : PySem.W.Frag} {mg : Str → Option Value} {base : Heap}
theorem fn_D {x qual : Str} {st : Stmt} {f : Addr} {fd : FuncData} {N ps : List Str} {k : Nat} {φ : List Ar → (D → Prop) → Prop} (F : Fun K x qual st f fd) (Sc : FnScope N ps (defScope st)) (len : ∀ as Kd, φ as Kd → as.length = ps.length)
    (hbody : ∀ (as : List Ar) (Kd : D → Prop) (r : SR) (cdv : Value) (A : Around) (outer : List PySem.Env) (s : Shared) (H : Hp) (E : XK), Room k (A.deeper (PyProof.Rows.envOfC qual (defScope st) s.heap.objs.size f cdv)) → φ as Kd →
      JSs (cxOf CX0 P w K mg base N qual (defScope st) f cdv A outer s H E).nox r (defBody st) (startS N as) { nx := fun _ => Kd .none, rt := Kd }) : FnOk P w K mg base CX0 (k + 1) f fd ps (SpD φ) := by
  refine F.ok Sc (fun vs H Q E h => ?_) (fun cdv A outer s H vs Q E hr h => ?_)
  · obtain ⟨c, as, Kd, fn, ra, hφ, _⟩ := h
    rw [ra.length]; exact len as Kd hφ
  · obtain ⟨c, as, Kd, fn, ra, hφ, q⟩ := h
    refine ⟨_, pss_tSs, hbody as Kd (srL c) cdv A outer s H E hr hφ c c.F0 _ H (srL_refl c) (env_start fn ra) _ ⟨fun F' σ' H' S' a E' k' => q .non .none F' H' a E'.fin .non, fun v d F' H' a fn' rp => q v d F' H' a fn' rp, fun _ _ _ _ a => a.elim, fun _ _ _ _ a => a.elim⟩⟩
end
end DL

/-! DL: comprehensions that change nothing. -/
namespace DL
open PySem L2
section
variable {X : Cx} {r : SR} {S : List Sl}
/-- a turn that changes nothing: the test's answer p, the element y -/
def LcPure (X : Cx) (r : SR) (scope : Scope) (tg elt : Expr) (ifs : List Expr) (vs ts : List Nat) (d : D) (S : List Sl) (p : Bool) (y : D) : Prop :=
  Blk X scope fun Y => JG Y r tg ts d (wipeS S vs) fun S2 => Blk X scope fun Y => JTs Y r ifs S2 fun b S3 => b = p ∧ (p = false → mrg vs S S3 = S) ∧ (p = true → Blk X scope fun Y => JE Y r elt S3 fun z S4 => z = y ∧ mrg vs S S4 = S)
theorem JG.mono {tg : Expr} {ts : List Nat} {d : D} {K K' : List Sl → Prop} (h : JG X r tg ts d S K) (k : ∀ S', K S' → K' S') : JG X r tg ts d S K' :=
  fun c F σ H v hr E rv Q q => h c F σ H v hr E rv Q fun F' σ' H' S' a => q F' σ' H' S' (k S' a)
theorem JI.mono {tg iter : Expr} {K K' : List D → List Sl → Prop} (h : JI X r tg iter S K) (k : ∀ ds S', K ds S' → K' ds S') : JI X r tg iter S K' :=
  fun c F σ H hr E R q => h c F σ H hr E R fun J ds F' H' S' a => q J ds F' H' S' (k ds S' a)
theorem JTs.mono {ifs : List Expr} {K K' : Bool → List Sl → Prop} (h : JTs X r ifs S K) (k : ∀ b S', K b S' → K' b S') : JTs X r ifs S K' := by
  match ifs, h with
  | [], h => exact k true S h
  | [t], h => exact JT.mono (X := X) (r := r) (S := S) (K := K) (K' := K') h k
/-- the items as data, what becomes of them -/
def LcAll (X : Cx) (r : SR) (scope : Scope) (tg elt : Expr) (ifs : List Expr) (vs ts : List Nat) (ds : List D) (S : List Sl) (K : List D → Prop) : Prop :=
  ∃ (α : Type) (as : List α) (enc : α → D) (p : α → Bool) (g : α → D), ds = as.map enc ∧ as.length ≤ 1000000 ∧ (∀ a ∈ as, LcPure X r scope tg elt ifs vs ts (enc a) S (p a) (g a)) ∧ K ((as.filter p).map g)
theorem lc_pure {scope : Scope} {tg elt : Expr} {ifs : List Expr} {vs ts : List Nat} {ds : List D} {K : List D → List Sl → Prop} (hv : ∀ j ∈ vs, ∀ xs, S[j]? ≠ some (.ob xs)) (h : LcAll X r scope tg elt ifs vs ts ds S fun zs => K zs S) :
    ∃ I : Nat → List D → List Sl → Prop, I 0 [] S ∧ (∀ i acc S', I i acc S' → i ≤ ds.length → acc.length < sizeLine ∧ ∀ j ∈ vs, ∀ xs, S'[j]? ≠ some (.ob xs)) ∧
      (∀ i d acc S', ds[i]? = some d → I i acc S' → LcTurn X r scope tg elt ifs vs ts d S' (fun y S4 => I (i + 1) (acc ++ [y]) S4) fun S4 => I (i + 1) acc S4) ∧ ∀ acc S', I ds.length acc S' → K acc S' := by
  obtain ⟨α, as, enc, p, g, rfl, hl, turn, fin⟩ := h
  refine ⟨fun i acc S' => S' = S ∧ acc = ((as.take i).filter p).map g, ⟨rfl, rfl⟩, fun i acc S' hI hi => ?_, fun i d acc S' hd hI => ?_, fun acc S' hI => ?_⟩
  · obtain ⟨rfl, rfl⟩ := hI
    refine ⟨?_, hv⟩
    rw [List.length_map]
    refine Nat.lt_of_le_of_lt (List.length_filter_le _ _) ?_
    rw [List.length_take]
    have : sizeLine = 16777216 := sizeLine_eq
    have := Nat.min_le_right i as.length
    omega
  · obtain ⟨rfl, rfl⟩ := hI
    rw [List.getElem?_map] at hd
    cases ha : as[i]? with
    | none => rw [ha] at hd; cases hd
    | some a =>
      rw [ha] at hd
      cases hd
      have t := turn a (List.mem_of_getElem? ha)
      have tk : as.take (i + 1) = as.take i ++ [a] := by rw [List.take_add_one, ha]; rfl
      intro s H C cl fp
      refine (t s H C cl fp).mono fun S2 t2 s1 H1 C1 cl1 fp1 => (t2 s1 H1 C1 cl1 fp1).mono fun b S3 t3 => ?_
      obtain ⟨rfl, t3, t4⟩ := t3
      cases hp : p a with
      | false =>
        rw [if_neg Bool.false_ne_true]
        refine ⟨t3 hp, ?_⟩
        rw [tk, List.filter_append, List.map_append]
        simp [hp]
      | true =>
        rw [if_pos rfl]
        intro s2 H2 C2 cl2 fp2
        refine (t4 hp s2 H2 C2 cl2 fp2).mono fun z S4 t5 => ?_
        obtain ⟨rfl, t5⟩ := t5
        refine ⟨t5, ?_⟩
        rw [tk, List.filter_append, List.map_append]
        simp [hp]
  · obtain ⟨rfl, rfl⟩ := hI
    rw [List.length_map, List.take_length]
    exact fin
theorem jn_lcP {elt tg iter : Expr} {ifs : List Expr} {scope : Scope} {pos : Pos} (own : List (Str × Nat)) (ts : List Nat) {K : List D → List Sl → Prop} (hc : X.calm = true) (hN : X.N.Nodup) (ok : BlkOk X.N X.env.scope scope own) (hs : ∀ x, foldedSetIterable iter X.env x = pure x) (hts : ∀ j ∈ ts, j ∈ own.map (·.2))
    (h : JI X r tg iter S fun ds S1 => (∀ j ∈ own.map (·.2), ∀ xs, S1[j]? ≠ some (.ob xs)) ∧ LcAll X r scope tg elt ifs (own.map (·.2)) ts ds S1 fun zs => K zs S1) : JN X r (.ListComp elt [⟨tg, iter, ifs, 0⟩] scope pos) S K :=
  jn_lc own ts hc hN ok hs hts (h.mono fun ds S1 h => lc_pure h.1 h.2)
end
end DL

/-! DL: the rules in short, for steps of a proof. -/
namespace DL
open PySem L2
section
variable {X : Cx} {r : SR} {S : List Sl}
theorem ifb {b : Bool} {A B : Prop} (h1 : b = true → A) (h2 : b = false → B) : if b = true then A else B := by
  cases b with
  | true => rw [if_pos rfl]; exact h1 rfl
  | false => rw [if_neg Bool.false_ne_true]; exact h2 rfl
theorem ift {b : Bool} {A B : Prop} (h : b = true) (h1 : A) : if b = true then A else B := by rw [if_pos h]; exact h1
theorem iff' {b : Bool} {A B : Prop} (h : b = false) (h1 : B) : if b = true then A else B := by rw [if_neg (by rw [h]; exact Bool.false_ne_true)]; exact h1
theorem jv {K : D → List Sl → Prop} {x : Str} {pos : Pos} (i : Nat) {d : D} (k : K d S) (e : S[i]? = some (.val d) := by rfl) (hN : X.N[i]? = some x := by rfl) (hv : Vis X.env.scope x := by first | exact Or.inl rfl | exact Or.inr (Or.inl rfl) | exact Or.inr (Or.inr rfl)) (hd : (x == ("__debug__" : Str)) = false := by decide) (hcd : (x == ("__classdict__" : Str)) = false := by decide) :
    JE X r (.Name x pos) S K := je_var i hN hv hd hcd e k
theorem jo {K : D → List Sl → Prop} {x : Str} {pos : Pos} (i : Nat) {xs : List D} (k : K (.list xs) (S.set i (.val (.list xs)))) (e : S[i]? = some (.ob (.l xs)) := by rfl) (hN : X.N[i]? = some x := by rfl) (hv : Vis X.env.scope x := by first | exact Or.inl rfl | exact Or.inr (Or.inl rfl) | exact Or.inr (Or.inr rfl)) (hd : (x == ("__debug__" : Str)) = false := by decide) (hcd : (x == ("__classdict__" : Str)) = false := by decide) :
    JE X r (.Name x pos) S K := je_own i hN hv hd hcd e k
theorem joO {K : D → List Sl → Prop} {x : Str} {pos : Pos} (i : Nat) {xs : OB} (k : K (obD xs) (S.set i (.val (obD xs)))) (e : S[i]? = some (.ob xs) := by rfl) (hN : X.N[i]? = some x := by rfl) (hv : Vis X.env.scope x := by first | exact Or.inl rfl | exact Or.inr (Or.inl rfl) | exact Or.inr (Or.inr rfl)) (hd : (x == ("__debug__" : Str)) = false := by decide) (hcd : (x == ("__classdict__" : Str)) = false := by decide) :
    JE X r (.Name x pos) S K := je_own i hN hv hd hcd e k
theorem jA {K : List Ar → List Sl → Prop} {e : Expr} {es : List Expr} (h : JE X r e S fun d S1 => JA X r es S1 fun as S2 => K (.d d :: as) S2) (hs : starEach (e :: es) X.env = (false, eval e X.env) :: starEach es X.env := by rfl) : JA X r (e :: es) S K := ja_cons hs h
theorem jA0 {K : List Ar → List Sl → Prop} (k : K [] S) : JA X r [] S K := ja_nil k
theorem jAs {K : List Ar → List Sl → Prop} {x : Str} {p : Pos} {es : List Expr} (i : Nat) (h : JA X r es S fun as S2 => K (.src :: as) S2) (e : S[i]? = some .src := by rfl) (hN : X.N[i]? = some x := by rfl) (hv : Vis X.env.scope x := by first | exact Or.inl rfl | exact Or.inr (Or.inl rfl) | exact Or.inr (Or.inr rfl)) (hd : (x == ("__debug__" : Str)) = false := by decide) (hcd : (x == ("__classdict__" : Str)) = false := by decide)
    (hs : starEach (.Name x p :: es) X.env = (false, eval (.Name x p) X.env) :: starEach es X.env := by rfl) : JA X r (.Name x p :: es) S K := ja_src i hN hv hd hcd hs e h
theorem jret {e : Expr} {pos : Pos} {E : DE} (h : JE X r e S fun d _ => E.rt d) : JSs X r [.Return (some e) pos] S E := jss_cons (js_ret h)
theorem jset {x : Str} {e : Expr} {pos pos' : Pos} {E : DE} {rest : List Stmt} (i : Nat) (h : JE X r e S fun d S1 => JSs X r rest (S1.set i (.val d)) E) (hN : X.N.Nodup := by assumption) (hi : X.N[i]? = some x := by rfl) (hx : Loc X.env.scope x := by first | exact Or.inl rfl | exact Or.inr rfl) (hs : swapsWith e (some (.Name x pos')) pos.line X.env = pure false := by rfl) (hf : X.fn x = true ∨ X.env.scope.names.lookup x = some .local := by first | exact .inl rfl | exact .inr rfl) :
    JSs X r (.Assign [.Name x pos'] e pos :: rest) S E := jss_cons (js_set i hN hi hx hs hf h)
theorem jsetN {x : Str} {e : Expr} {pos pos' : Pos} {E : DE} {rest : List Stmt} (i : Nat) (h : JN X r e S fun ds S1 => JSs X r rest (S1.set i (.own ds)) E) (hN : X.N.Nodup := by assumption) (hi : X.N[i]? = some x := by rfl) (hx : Loc X.env.scope x := by first | exact Or.inl rfl | exact Or.inr rfl) (hs : swapsWith e (some (.Name x pos')) pos.line X.env = pure false := by rfl) (hf : X.fn x = true ∨ X.env.scope.names.lookup x = some .local := by first | exact .inl rfl | exact .inr rfl) :
    JSs X r (.Assign [.Name x pos'] e pos :: rest) S E := jss_cons (js_setN i hN hi hx hs hf h)
theorem jsetO {x : Str} {e : Expr} {pos pos' : Pos} {E : DE} {rest : List Stmt} (i : Nat) (h : JO X r e S fun o S1 => JSs X r rest (S1.set i (.ob o)) E) (hN : X.N.Nodup := by assumption) (hi : X.N[i]? = some x := by rfl) (hx : Loc X.env.scope x := by first | exact Or.inl rfl | exact Or.inr rfl) (hs : swapsWith e (some (.Name x pos')) pos.line X.env = pure false := by rfl) (hf : X.fn x = true ∨ X.env.scope.names.lookup x = some .local := by first | exact .inl rfl | exact .inr rfl) :
    JSs X r (.Assign [.Name x pos'] e pos :: rest) S E := jss_cons (js_setO i hN hi hx hs hf h)
theorem jif {t : Expr} {a b rest : List Stmt} {pos : Pos} {E : DE} (h : JT X r t S fun k S1 => if k = true then JSs X r a S1 { E with nx := fun S2 => JSs X r rest S2 E } else JSs X r b S1 { E with nx := fun S2 => JSs X r rest S2 E }) : JSs X r (.If t a b pos :: rest) S E := jss_cons (js_if h)
theorem jexpr {e : Expr} {pos : Pos} {rest : List Stmt} {E : DE} (h : JE X r e S fun _ S1 => JSs X r rest S1 E) (hs : swapsWith e none pos.line X.env = pure false := by rfl) : JSs X r (.Expr e pos :: rest) S E := jss_cons (js_expr hs h)
theorem jasg {tg e : Expr} {pos : Pos} {rest : List Stmt} {E : DE} (ts : List Nat) (h : JE X r e S fun d S1 => JG X r tg ts d S1 fun S2 => JSs X r rest S2 E) (hs : swapsWithSole [tg] e pos.line X.env = pure false := by rfl) (hw : swappedStores [tg] e X.env = pure none := by rfl) (h1 : (assignEach [tg] X.env).map (·.2) = [assign tg X.env] := by rfl) :
    JSs X r (.Assign [tg] e pos :: rest) S E := jss_cons (js_asg ts hs hw h1 h)
theorem jg {x : Str} {pos : Pos} {d : D} {K : List Sl → Prop} (i : Nat) (h : K (S.set i (.val d))) (hN : X.N.Nodup := by assumption) (hi : X.N[i]? = some x := by rfl) (hx : Loc X.env.scope x := by first | exact Or.inl rfl | exact Or.inr rfl) (hf : X.fn x = true ∨ X.env.scope.names.lookup x = some .local := by first | exact .inl rfl | exact .inr rfl) :
    JG X r (.Name x pos) [i] d S K := jg_name i hN hi hx hf h
theorem jgT {es : List Expr} {k : Nat} {pos : Pos} {ts : List Nat} {ds : List D} {K : List Sl → Prop} (h : JGs X r es ts ds S K) (hc : X.calm = true := by rfl) (hn : (assignEach es X.env).length = ds.length := by rfl) (hst : (assignEach es X.env).findIdx? (·.1) = none := by rfl) : JG X r (.Tuple es k pos) ts (.tuple ds) S K := jg_tup hc hn hst h
theorem jgs {e : Expr} {es : List Expr} {ts us : List Nat} {d : D} {ds : List D} {K : List Sl → Prop} (h : JG X r e ts d S fun S1 => JGs X r es us ds S1 K) (hs : (assignEach (e :: es) X.env).map (·.2) = assign e X.env :: (assignEach es X.env).map (·.2) := by rfl) : JGs X r (e :: es) (ts ++ us) (d :: ds) S K := jgs_cons hs h
theorem jcmp {K : D → List Sl → Prop} {a b : Expr} {op : CmpOp} {pos : Pos} {rr : R2} (ho : OpR X (compareOp op) rr) (h : JE X r a S fun d1 S1 => JE X r b S1 fun d2 S2 => OpD rr d1 d2 fun d => K d S2) (hm : behindInMarks op b = false := by first | exact nomark _ | rfl) : JE X r (.Compare a [op] [b] pos) S K := je_cmp ho hm h
theorem jtcmp {K : Bool → List Sl → Prop} {a b : Expr} {op : CmpOp} {pos : Pos} {rr : R2} (ho : OpR X (compareOp op) rr) (h : JE X r a S fun d1 S1 => JE X r b S1 fun d2 S2 => OpD rr d1 d2 fun d => ∃ b, d = .bool b ∧ K b S2) (hm : behindInMarks op b = false := by first | exact nomark _ | rfl) : JT X r (.Compare a [op] [b] pos) S K := jt_cmp ho hm h
theorem jtval {K : Bool → List Sl → Prop} {e : Expr} (h : JE X r e S fun d S' => ∃ b, d = .bool b ∧ K b S') (he : ∀ whole, isTrue e X.env whole = (do let v ← whole; standAt e.pos; holding [v] (truthy v)) := by intro _; rfl) : JT X r e S K := jt_val he h
theorem jix {K : D → List Sl → Prop} {a b : Expr} {pos : Pos} {rr : R2} (ho : IxR X rr) (h : JE X r a S fun d1 S1 => JE X r b S1 fun d2 S2 => OpD rr d1 d2 fun d => K d S2) (hs : PlainIx b := by exact fun _ _ => rfl) : JE X r (.Subscript a b pos) S K := je_ix ho hs h
theorem jfor {tg iter : Expr} {body rest : List Stmt} {pos : Pos} {E : DE} (ts : List Nat) (h : JI X r tg iter S fun ds S1 => ∃ I : Nat → List Sl → Prop, I 0 S1 ∧ (∀ i d S', ds[i]? = some d → I i S' → JG X r tg ts d S' fun S2 => JSs X r body S2 { nx := I (i + 1), rt := E.rt, ct := I (i + 1), bk := fun S3 => JSs X r rest S3 E }) ∧ ∀ S', I ds.length S' → JSs X r rest S' E)
    (hp : PassesOwn (model X.prog X.w) X.A X.env X.xe := by exact PassesOwn.never) (hc : X.calm = true := by rfl) (hs : ∀ x, foldedSetIterable iter X.env x = pure x := by intro _; rfl) : JSs X r (.For tg iter body [] pos :: rest) S E := jss_cons (js_for ts hp hc hs h)
theorem jwhile {t : Expr} {body rest : List Stmt} {pos : Pos} {E : DE} (I : Nat → List Sl → Prop) (m0 : Nat) (i0 : I m0 S)
    (step : ∀ m S', I m S' → JT X r t S' fun b S1 => if b = true then JSs X r body S1 { nx := fun S2 => ∃ m', m' < m ∧ I m' S2, rt := E.rt, ct := fun S2 => ∃ m', m' < m ∧ I m' S2, bk := fun S3 => JSs X r rest S3 E } else JSs X r rest S1 E)
    (hp : PassesOwn (model X.prog X.w) X.A X.env X.xe := by exact PassesOwn.never) : JSs X r (.While t body [] pos :: rest) S E := jss_cons (js_while hp I m0 i0 step)
theorem jlc {elt tg iter : Expr} {ifs : List Expr} {scope : Scope} {pos : Pos} (own : List (Str × Nat)) (ts : List Nat) {K : List D → List Sl → Prop}
    (h : JI X r tg iter S fun ds S1 => (∀ j ∈ own.map (·.2), ∀ xs, S1[j]? ≠ some (.ob xs)) ∧ LcAll X r scope tg elt ifs (own.map (·.2)) ts ds S1 fun zs => K zs S1)
    (hc : X.calm = true := by rfl) (hN : X.N.Nodup := by assumption) (ok : BlkOk X.N X.env.scope scope own := by exact blkOk_by rfl) (hs : ∀ x, foldedSetIterable iter X.env x = pure x := by intro _; rfl) (hts : ∀ j ∈ ts, j ∈ own.map (·.2) := by decide) : JN X r (.ListComp elt [⟨tg, iter, ifs, 0⟩] scope pos) S K := jn_lcP own ts hc hN ok hs hts h
theorem jtuple {K : D → List Sl → Prop} {a : Expr} {p pos : Pos} (hm : X.mg "tuple" = none) (h : JE X r a S fun d S1 => ∃ xs, d = .list xs ∧ K (.tuple xs) S1) (hg : Gl X "tuple" := by rfl) (na : starEach [a] X.env = (false, eval a X.env) :: starEach [] X.env := by rfl) : JE X r (.Call (.Name "tuple" p) [a] [] pos) S K := je_tupL hg hm na h
/-- tuple of a new list -/
theorem jtupN {K : D → List Sl → Prop} {a : Expr} {p pos : Pos} (hm : X.mg "tuple" = none) (h : JN X r a S fun xs S1 => K (.tuple xs) S1) (hg : Gl X "tuple" := by rfl) (na : starEach [a] X.env = (false, eval a X.env) :: starEach [] X.env := by rfl) : JE X r (.Call (.Name "tuple" p) [a] [] pos) S K := je_tupL hg hm na (h.mono fun xs S1 k => ⟨xs, rfl, k⟩).je
theorem jrange1 {tg a : Expr} {p pos : Pos} {K : List D → List Sl → Prop} (hm : X.mg "range" = none) (h : JE X r a S fun d S1 => ∃ n : Int, d = .int n ∧ -(2 ^ 62) ≤ n ∧ n < 2 ^ 62 ∧ K (rangeD 0 n.toNat) S1) (hg : Gl X "range" := by rfl) (hs : starEach [a] X.env = [(false, eval a X.env)] := by rfl) : JI X r tg (.Call (.Name "range" p) [a] [] pos) S K :=
  ji_range1 hg hm hs (ja_cons hs (h.mono fun d S1 ⟨n, e, b1, b2, k⟩ => ja_nil ⟨n, by rw [e], b1, b2, k⟩))
theorem jrange2 {tg a b : Expr} {p pos : Pos} {K : List D → List Sl → Prop} (hm : X.mg "range" = none) (h : JE X r a S fun d1 S1 => JE X r b S1 fun d2 S2 => ∃ i j : Int, d1 = .int i ∧ d2 = .int j ∧ (-(2 ^ 62) ≤ i ∧ i < 2 ^ 62 ∧ -(2 ^ 62) ≤ j ∧ j < 2 ^ 62) ∧ K (rangeD i (j - i).toNat) S2) (hg : Gl X "range" := by rfl) (hs : starEach [a, b] X.env = [(false, eval a X.env), (false, eval b X.env)] := by rfl) (hs2 : starEach [b] X.env = [(false, eval b X.env)] := by rfl) : JI X r tg (.Call (.Name "range" p) [a, b] [] pos) S K :=
  ji_range2 hg hm hs hs2 (ja_cons (by rw [hs, hs2]) (h.mono fun d S1 h => ja_cons hs2 (h.mono fun d2 S2 ⟨i, j, e1, e2, b, k⟩ => ja_nil ⟨i, j, by rw [e1, e2], b, k⟩)))
theorem jenum {e : Expr} {p pos tpos : Pos} {elts : List Expr} {kk : Nat} {K : List D → List Sl → Prop} (hm : X.mg "enumerate" = none) (h : JE X r e S fun d S1 => ∃ ds, d = .list ds ∧ K (enumD ds) S1) (hg : Gl X "enumerate" := by rfl) (hs : starEach [e] X.env = [(false, eval e X.env)] := by rfl) : JI X r (.Tuple elts kk tpos) (.Call (.Name "enumerate" p) [e] [] pos) S K :=
  ji_enum hg hm hs (ja_cons hs (h.mono fun d S1 ⟨ds, e, k⟩ => ja_nil ⟨ds, by rw [e], k⟩))
/-- a built-in function, a built-in type, called -/
theorem jB {K : D → List Sl → Prop} {x : Str} {id : String} {e : Expr} {es : List Expr} {p pos : Pos} {rr : List V → Hp → VK → Prop} (hc : CallR X (.builtin id) rr) (hm : X.mg x = none) (h : JA X r (e :: es) S fun as S1 => ∃ ds, dats as = some ds ∧ CallD rr ds fun d => K d S1)
    (hg : Gl X x := by rfl) (hv : bootBuiltins x = some (.builtin id) := by decide +kernel) (hn : x ≠ "__name__" := by decide) (hdb : (x == ("__debug__" : Str)) = false := by decide) (he : starEach (e :: es) X.env = (false, eval e X.env) :: starEach es X.env := by rfl) (hpl : (backTo pos (starEach es X.env)).any (·.1) = false := by rfl) :
    JE X r (.Call (.Name x p) (e :: es) [] pos) S K := je_callP (pe_callB hc hg hm hv pa_tA hn hdb he hpl) h
theorem jTy {K : D → List Sl → Prop} {x : Str} {T : String} {e : Expr} {es : List Expr} {p pos : Pos} {rr : List V → Hp → VK → Prop} (hc : CallR X (.type T) rr) (hm : X.mg x = none) (h : JA X r (e :: es) S fun as S1 => ∃ ds, dats as = some ds ∧ CallD rr ds fun d => K d S1)
    (hg : Gl X x := by rfl) (hv : bootBuiltins x = some (.type T) := by decide +kernel) (hn : x ≠ "__name__" := by decide) (hdb : (x == ("__debug__" : Str)) = false := by decide) (he : starEach (e :: es) X.env = (false, eval e X.env) :: starEach es X.env := by rfl) (hpl : (backTo pos (starEach es X.env)).any (·.1) = false := by rfl) :
    JE X r (.Call (.Name x p) (e :: es) [] pos) S K := je_callP (pe_callTy hc hg hm hv pa_tA hn hdb he hpl) h
theorem jnB {K : List D → List Sl → Prop} {x : Str} {id : String} {e : Expr} {es : List Expr} {p pos : Pos} {rr : List V → Hp → VK → Prop} (hc : CallR X (.builtin id) rr) (hm : X.mg x = none) (h : JA X r (e :: es) S fun as S1 => ∃ ds, dats as = some ds ∧ CallN rr ds fun d => K d S1)
    (hg : Gl X x := by rfl) (hv : bootBuiltins x = some (.builtin id) := by decide +kernel) (hn : x ≠ "__name__" := by decide) (hdb : (x == ("__debug__" : Str)) = false := by decide) (he : starEach (e :: es) X.env = (false, eval e X.env) :: starEach es X.env := by rfl) (hpl : (backTo pos (starEach es X.env)).any (·.1) = false := by rfl) :
    JN X r (.Call (.Name x p) (e :: es) [] pos) S K := jn_callP (pe_callB hc hg hm hv pa_tA hn hdb he hpl) h
theorem jnTy {K : List D → List Sl → Prop} {x : Str} {T : String} {e : Expr} {es : List Expr} {p pos : Pos} {rr : List V → Hp → VK → Prop} (hc : CallR X (.type T) rr) (hm : X.mg x = none) (h : JA X r (e :: es) S fun as S1 => ∃ ds, dats as = some ds ∧ CallN rr ds fun d => K d S1)
    (hg : Gl X x := by rfl) (hv : bootBuiltins x = some (.type T) := by decide +kernel) (hn : x ≠ "__name__" := by decide) (hdb : (x == ("__debug__" : Str)) = false := by decide) (he : starEach (e :: es) X.env = (false, eval e X.env) :: starEach es X.env := by rfl) (hpl : (backTo pos (starEach es X.env)).any (·.1) = false := by rfl) :
    JN X r (.Call (.Name x p) (e :: es) [] pos) S K := jn_callP (pe_callTy hc hg hm hv pa_tA hn hdb he hpl) h
theorem ja1 {e : Expr} {K : List Ar → List Sl → Prop} (h : JE X r e S fun d S1 => K [.d d] S1) (hs : starEach [e] X.env = (false, eval e X.env) :: starEach [] X.env := by rfl) : JA X r [e] S K := ja_cons hs (h.mono fun _ _ k => ja_nil k)
theorem jlen {K : D → List Sl → Prop} {a : Expr} {p pos : Pos} (hm : X.mg "len" = none) (h : JE X r a S fun d S1 => ∃ xs, (d = .list xs ∨ d = .tuple xs) ∧ K (.int (xs.length : Nat)) S1) (hg : Gl X "len" := by rfl) (hs : starEach [a] X.env = (false, eval a X.env) :: starEach [] X.env := by rfl) : JE X r (.Call (.Name "len" p) [a] [] pos) S K :=
  jB call_len_seq hm (ja1 (h.mono fun d S1 ⟨xs, e, k⟩ => ⟨[d], rfl, by rcases e with rfl | rfl; exact cd_lenL k; exact cd_lenT k⟩) hs) hg PySem.boot_len (by decide) (by decide) hs rfl
theorem jall {K : D → List Sl → Prop} {a : Expr} {p pos : Pos} (hc : X.calm = true) (hm : X.mg "all" = none) (h : JN X r a S fun ds S1 => ∃ bs : List Bool, ds = bs.map .bool ∧ K (.bool (bs.all id)) S1) (hg : Gl X "all" := by rfl) (hs : starEach [a] X.env = (false, eval a X.env) :: starEach [] X.env := by rfl) : JE X r (.Call (.Name "all" p) [a] [] pos) S K :=
  jB (cr_all hc) hm (ja1 (JN.je (h.mono fun ds S1 ⟨bs, e, k⟩ => ⟨[.list ds], rfl, by rw [e]; exact cd_all k⟩)) hs) hg (by decide +kernel) (by decide) (by decide) hs rfl

/-- a def of the text: where it stands -/
structure Dn (K : PySem.W.Frag) (mg : Str → Option Value) (x : Str) (st : Stmt) (ps : List Str) (f : Addr) (fd : FuncData) : Prop where
  F : Fun K x x st f fd
  g : mg x = some (.ref f)
  b : Binds K fd ps []
theorem jcall {K0 : D → List Sl → Prop} {k k' : Nat} {f : Addr} {fd : FuncData} {ps : List Str} {x : Str} {st : Stmt} {p pos : Pos} {e : Expr} {es : List Expr} {φ : List Ar → (D → Prop) → Prop} (hr : Room k' X.A) (N : Dn X.K X.mg x st ps f fd) (F : FnOk X.prog X.w X.K X.mg X.base CX0 k f fd ps (SpD φ))
    (h : JA X r (e :: es) S fun as S1 => φ as fun d => K0 d S1) (hk : k ≤ k' := by decide) (hg : Gl X x := by rfl) (hdb : (x == ("__debug__" : Str)) = false := by decide)
    (he : starEach (e :: es) X.env = (false, eval e X.env) :: starEach es X.env := by rfl) (hpl : (backTo pos (starEach es X.env)).any (·.1) = false := by rfl) : JE X r (.Call (.Name x p) (e :: es) [] pos) S K0 :=
  je_call F (hr.mono hk) hg N.g N.F.kp N.b hdb (fun ha => pe_call F (hr.mono hk) hg N.g N.F.kp N.b .nil pass0 ha hdb he hpl) h
end
end DL

/-! DL: data that is nice; comprehensions in short. -/
namespace DL
open PySem L2
/-! ### nice data -/
structure Nice (n : Nat) (d : D) : Prop where
  pl : d.plain = true
  dp : d.depth ≤ n
theorem Nice.mono {m n : Nat} {d : D} (h : Nice m d) (k : m ≤ n) : Nice n d := ⟨h.pl, Nat.le_trans h.dp k⟩
theorem nice_int {n : Nat} (i : Int) : Nice n (.int i) := ⟨rfl, Nat.zero_le _⟩
theorem nice_bool {n : Nat} (b : Bool) : Nice n (.bool b) := ⟨rfl, Nat.zero_le _⟩
theorem nice_str {n : Nat} (b : Str) : Nice n (.str b) := ⟨rfl, Nat.zero_le _⟩
theorem nice_none {n : Nat} : Nice n .none := ⟨rfl, Nat.zero_le _⟩
theorem plainAll_of : ∀ {ds : List D}, (∀ d ∈ ds, d.plain = true) → PyData.plainAll ds = true
  | [], _ => rfl
  | d :: ds, h => by
    rw [PyData.plainAll, h d List.mem_cons_self, plainAll_of fun x hx => h x (List.mem_cons_of_mem _ hx)]
    rfl
theorem depthAll_of {n : Nat} : ∀ {ds : List D}, (∀ d ∈ ds, d.depth ≤ n) → PyData.depthAll ds ≤ n
  | [], _ => Nat.zero_le _
  | d :: ds, h => by
    rw [PyData.depthAll]
    exact Nat.max_le.mpr ⟨h d List.mem_cons_self, depthAll_of fun x hx => h x (List.mem_cons_of_mem _ hx)⟩
theorem nice_list {n : Nat} {ds : List D} (h : ∀ d ∈ ds, Nice n d) : Nice (n + 1) (.list ds) := ⟨by simp only [PyData.plain]; exact plainAll_of fun d hd => (h d hd).pl, by simp only [PyData.depth]; exact Nat.succ_le_succ (depthAll_of fun d hd => (h d hd).dp)⟩
theorem nice_tup {n : Nat} {ds : List D} (h : ∀ d ∈ ds, Nice n d) : Nice (n + 1) (.tuple ds) := ⟨by simp only [PyData.plain]; exact plainAll_of fun d hd => (h d hd).pl, by simp only [PyData.depth]; exact Nat.succ_le_succ (depthAll_of fun d hd => (h d hd).dp)⟩
theorem nice_map {α : Type} {n : Nat} {f : α → D} {l : List α} (h : ∀ a, Nice n (f a)) : ∀ d ∈ l.map f, Nice n d := fun d hd => by
  obtain ⟨a, _, rfl⟩ := List.mem_map.mp hd
  exact h a
theorem nice_cons {n : Nat} {d : D} {ds : List D} (h : Nice n d) (t : ∀ d ∈ ds, Nice n d) : ∀ x ∈ d :: ds, Nice n x := fun x hx => by
  rcases List.mem_cons.mp hx with rfl | hx
  · exact h
  · exact t x hx
theorem nice_nil {n : Nat} : ∀ x ∈ ([] : List D), Nice n x := fun _ h => by cases h
section
variable {X : Cx} {r : SR} {S : List Sl}
theorem od_eqG {k : Nat} (hr : Room k X.A) {d1 d2 : D} {K : D → Prop} (h1 : Nice 50 d1) (h2 : Nice 50 d2) (h : K (.bool (PyData.eqv d1 d2))) : OpD (rEqD X) d1 d2 K :=
  fun F H v1 v2 kF r1 r2 Q q => ⟨F, _, _, kF, r1, r2, h1.pl, h2.pl, (by
    have := units_le hr (Nat.le_trans h1.dp (by decide : 50 ≤ 60)); have := Nat.min_le_left d1.depth d2.depth; omega), q _ _ F H h (Grow.refl kF) (.bl _)⟩
theorem od_neG {k : Nat} (hr : Room k X.A) {d1 d2 : D} {K : D → Prop} (h1 : Nice 50 d1) (h2 : Nice 50 d2) (h : K (.bool (!PyData.eqv d1 d2))) : OpD (rNeD X) d1 d2 K :=
  fun F H v1 v2 kF r1 r2 Q q => ⟨F, _, _, kF, r1, r2, h1.pl, h2.pl, (by
    have := units_le hr (Nat.le_trans h1.dp (by decide : 50 ≤ 60)); have := Nat.min_le_left d1.depth d2.depth; omega), q _ _ F H h (Grow.refl kF) (.bl _)⟩
theorem eqv_nil (zs : List D) : PyData.eqv (.list zs) (.list []) = zs.isEmpty := by
  cases zs <;> simp [PyData.eqv, PyData.eqvAll]
theorem eqv_nilT (zs : List D) : PyData.eqv (.tuple zs) (.tuple []) = zs.isEmpty := by
  cases zs <;> simp [PyData.eqv, PyData.eqvAll]
theorem eqv_int (i j : Int) : PyData.eqv (.int i) (.int j) = decide (i = j) := PySem.W.Datum.eqv (α := Int) i j
theorem eqv_bool (i j : Bool) : PyData.eqv (.bool i) (.bool j) = decide (i = j) := PySem.W.Datum.eqv (α := Bool) i j
theorem eqv_str (i j : Str) : PyData.eqv (.str i) (.str j) = decide (i = j) := PySem.W.Datum.eqv (α := Str) i j
theorem eqv_self {n : Nat} {d : D} (h : Nice n d) : PyData.eqv d d = true := PySem.SeqAt.eqv_refl_plain d h.pl
/-- [..] == [], as a test and as a value; [..] != [] -/
theorem od_eqNil {k : Nat} (hr : Room k X.A) {zs : List D} {K : D → Prop} (h1 : ∀ d ∈ zs, Nice 49 d) (h : K (.bool zs.isEmpty)) : OpD (rEqD X) (.list zs) (.list []) K := od_eqG hr (nice_list h1) (nice_list nice_nil) (by rw [eqv_nil]; exact h)
theorem od_neNil {k : Nat} (hr : Room k X.A) {zs : List D} {K : D → Prop} (h1 : ∀ d ∈ zs, Nice 49 d) (h : K (.bool (!zs.isEmpty))) : OpD (rNeD X) (.list zs) (.list []) K := od_neG hr (nice_list h1) (nice_list nice_nil) (by rw [eqv_nil]; exact h)

/-! ### comprehensions in short -/
def noOwn (vs : List Nat) (S : List Sl) : Bool := vs.all fun j => match S[j]? with
  | some (.ob _) => false
  | _ => true
theorem noOwn_of {vs : List Nat} (h : noOwn vs S = true) : ∀ j ∈ vs, ∀ xs, S[j]? ≠ some (.ob xs) := fun j hj xs e => by
  have := List.all_eq_true.mp h j hj
  rw [e] at this
  cases this
theorem rangeD0 (m : Nat) : rangeD 0 m = (List.range m).map fun (i : Nat) => PyData.int (i : Int) := by
  unfold rangeD
  simp
/-- the clause's condition, without a test -/
theorem lp0 {scope : Scope} {x : Str} {pos : Pos} {elt : Expr} {vs : List Nat} {d y : D} (i : Nat) (h : Blk X scope fun Y => JE Y r elt ((wipeS S vs).set i (.val d)) fun z S4 => z = y ∧ mrg vs S S4 = S) (hN : X.N.Nodup := by assumption) (hi : X.N[i]? = some x := by rfl)
    (hx : ∀ (s : Shared) (H : Hp) (C : Addr) (cl : List (Str × Addr)) (fp : List Addr), Loc (X.blk s H scope (compEnvC scope cl C X.env) fp).env.scope x := by intro _ _ _ _ _; first | exact Or.inl rfl | exact Or.inr rfl)
    (hf : ∀ (s : Shared) (H : Hp) (C : Addr) (cl : List (Str × Addr)) (fp : List Addr), (X.blk s H scope (compEnvC scope cl C X.env) fp).fn x = true ∨ (X.blk s H scope (compEnvC scope cl C X.env) fp).env.scope.names.lookup x = some .local := by intro _ _ _ _ _; first | exact Or.inl rfl | exact Or.inr rfl) :
    LcPure X r scope (.Name x pos) elt [] vs [i] d S true y := fun s H C cl fp => jg_name i hN hi (hx s H C cl fp) (hf s H C cl fp) fun _ _ _ _ _ => ⟨rfl, fun z => (by cases z), fun _ => h⟩
/-- .. with a test -/
theorem lp1 {scope : Scope} {x : Str} {pos : Pos} {elt t : Expr} {vs : List Nat} {d y : D} {p : Bool} (i : Nat) (h : Blk X scope fun Y => JT Y r t ((wipeS S vs).set i (.val d)) fun b S3 => b = p ∧ (p = false → mrg vs S S3 = S) ∧ (p = true → Blk X scope fun Y => JE Y r elt S3 fun z S4 => z = y ∧ mrg vs S S4 = S)) (hN : X.N.Nodup := by assumption) (hi : X.N[i]? = some x := by rfl)
    (hx : ∀ (s : Shared) (H : Hp) (C : Addr) (cl : List (Str × Addr)) (fp : List Addr), Loc (X.blk s H scope (compEnvC scope cl C X.env) fp).env.scope x := by intro _ _ _ _ _; first | exact Or.inl rfl | exact Or.inr rfl)
    (hf : ∀ (s : Shared) (H : Hp) (C : Addr) (cl : List (Str × Addr)) (fp : List Addr), (X.blk s H scope (compEnvC scope cl C X.env) fp).fn x = true ∨ (X.blk s H scope (compEnvC scope cl C X.env) fp).env.scope.names.lookup x = some .local := by intro _ _ _ _ _; first | exact Or.inl rfl | exact Or.inr rfl) :
    LcPure X r scope (.Name x pos) elt [t] vs [i] d S p y := fun s H C cl fp => jg_name i hN hi (hx s H C cl fp) (hf s H C cl fp) fun s1 H1 C1 cl1 fp1 => h s1 H1 C1 cl1 fp1
/-- .. with two targets and a test -/
theorem lp1P {scope : Scope} {x1 x2 : Str} {p1 p2 pos : Pos} {kk : Nat} {elt t : Expr} {vs : List Nat} {d1 d2 y : D} {p : Bool} (i j : Nat) (h : Blk X scope fun Y => JT Y r t (((wipeS S vs).set i (.val d1)).set j (.val d2)) fun b S3 => b = p ∧ (p = false → mrg vs S S3 = S) ∧ (p = true → Blk X scope fun Y => JE Y r elt S3 fun z S4 => z = y ∧ mrg vs S S4 = S)) (hc : X.calm = true := by rfl) (hN : X.N.Nodup := by assumption) (hi : X.N[i]? = some x1 := by rfl) (hj : X.N[j]? = some x2 := by rfl)
    (hx : ∀ (s : Shared) (H : Hp) (C : Addr) (cl : List (Str × Addr)) (fp : List Addr), Loc (X.blk s H scope (compEnvC scope cl C X.env) fp).env.scope x1 ∧ Loc (X.blk s H scope (compEnvC scope cl C X.env) fp).env.scope x2 := by intro _ _ _ _ _; exact ⟨by first | exact Or.inl rfl | exact Or.inr rfl, by first | exact Or.inl rfl | exact Or.inr rfl⟩)
    (hf : ∀ (s : Shared) (H : Hp) (C : Addr) (cl : List (Str × Addr)) (fp : List Addr), ((X.blk s H scope (compEnvC scope cl C X.env) fp).fn x1 = true ∨ (X.blk s H scope (compEnvC scope cl C X.env) fp).env.scope.names.lookup x1 = some .local) ∧ ((X.blk s H scope (compEnvC scope cl C X.env) fp).fn x2 = true ∨ (X.blk s H scope (compEnvC scope cl C X.env) fp).env.scope.names.lookup x2 = some .local) := by intro _ _ _ _ _; exact ⟨by first | exact Or.inl rfl | exact Or.inr rfl, by first | exact Or.inl rfl | exact Or.inr rfl⟩) :
    LcPure X r scope (.Tuple [.Name x1 p1, .Name x2 p2] kk pos) elt [t] vs [i, j] (.tuple [d1, d2]) S p y := fun s H C cl fp => by
  refine jg_tup (X := X.blk s H scope (compEnvC scope cl C X.env) fp) hc rfl rfl (ts := [i, j]) ?_
  refine jgs_cons (ts := [i]) (us := [j]) rfl ?_
  refine jg_name i hN hi (hx s H C cl fp).1 (hf s H C cl fp).1 ?_
  refine jgs_cons (ts := [j]) (us := []) rfl ?_
  refine jg_name j hN hj (hx s H C cl fp).2 (hf s H C cl fp).2 ?_
  refine jgs_nil ?_
  exact fun s1 H1 C1 cl1 fp1 => h s1 H1 C1 cl1 fp1
theorem lp0P {scope : Scope} {x1 x2 : Str} {p1 p2 pos : Pos} {kk : Nat} {elt : Expr} {vs : List Nat} {d1 d2 y : D} (i j : Nat) (h : Blk X scope fun Y => JE Y r elt (((wipeS S vs).set i (.val d1)).set j (.val d2)) fun z S4 => z = y ∧ mrg vs S S4 = S) (hc : X.calm = true := by rfl) (hN : X.N.Nodup := by assumption) (hi : X.N[i]? = some x1 := by rfl) (hj : X.N[j]? = some x2 := by rfl)
    (hx : ∀ (s : Shared) (H : Hp) (C : Addr) (cl : List (Str × Addr)) (fp : List Addr), Loc (X.blk s H scope (compEnvC scope cl C X.env) fp).env.scope x1 ∧ Loc (X.blk s H scope (compEnvC scope cl C X.env) fp).env.scope x2 := by intro _ _ _ _ _; exact ⟨by first | exact Or.inl rfl | exact Or.inr rfl, by first | exact Or.inl rfl | exact Or.inr rfl⟩)
    (hf : ∀ (s : Shared) (H : Hp) (C : Addr) (cl : List (Str × Addr)) (fp : List Addr), ((X.blk s H scope (compEnvC scope cl C X.env) fp).fn x1 = true ∨ (X.blk s H scope (compEnvC scope cl C X.env) fp).env.scope.names.lookup x1 = some .local) ∧ ((X.blk s H scope (compEnvC scope cl C X.env) fp).fn x2 = true ∨ (X.blk s H scope (compEnvC scope cl C X.env) fp).env.scope.names.lookup x2 = some .local) := by intro _ _ _ _ _; exact ⟨by first | exact Or.inl rfl | exact Or.inr rfl, by first | exact Or.inl rfl | exact Or.inr rfl⟩) :
    LcPure X r scope (.Tuple [.Name x1 p1, .Name x2 p2] kk pos) elt [] vs [i, j] (.tuple [d1, d2]) S true y := fun s H C cl fp => by
  refine jg_tup (X := X.blk s H scope (compEnvC scope cl C X.env) fp) hc rfl rfl (ts := [i, j]) ?_
  refine jgs_cons (ts := [i]) (us := [j]) rfl ?_
  refine jg_name i hN hi (hx s H C cl fp).1 (hf s H C cl fp).1 ?_
  refine jgs_cons (ts := [j]) (us := []) rfl ?_
  refine jg_name j hN hj (hx s H C cl fp).2 (hf s H C cl fp).2 ?_
  refine jgs_nil ?_
  exact fun _ _ _ _ _ => ⟨rfl, fun z => (by cases z), fun _ => h⟩
/-- over range(n) -/
theorem lcR {scope : Scope} {tg elt : Expr} {ifs : List Expr} {vs ts : List Nat} {K : List D → Prop} {n : Int} {m : Nat} (p : Nat → Bool) (g : Nat → D) (turn : ∀ a, a < m → LcPure X r scope tg elt ifs vs ts (.int (a : Int)) S (p a) (g a)) (k : K (((List.range m).filter p).map g)) (e : n.toNat = m := by omega) (hm : m ≤ 1000000 := by omega) (hv : noOwn vs S = true := by rfl) :
    (∀ j ∈ vs, ∀ xs, S[j]? ≠ some (.ob xs)) ∧ LcAll X r scope tg elt ifs vs ts (rangeD 0 n.toNat) S K :=
  ⟨noOwn_of hv, Nat, List.range m, fun i => .int (i : Int), p, g, by rw [e, rangeD0], by rw [List.length_range]; exact hm, fun a ha => turn a (List.mem_range.mp ha), k⟩
/-- over items -/
theorem lcL {scope : Scope} {tg elt : Expr} {ifs : List Expr} {vs ts : List Nat} {K : List D → Prop} {α : Type} (as : List α) (enc : α → D) (p : α → Bool) (g : α → D) (turn : ∀ a ∈ as, LcPure X r scope tg elt ifs vs ts (enc a) S (p a) (g a)) (k : K ((as.filter p).map g)) (hl : as.length ≤ 1000000 := by omega) (hv : noOwn vs S = true := by rfl) :
    (∀ j ∈ vs, ∀ xs, S[j]? ≠ some (.ob xs)) ∧ LcAll X r scope tg elt ifs vs ts (as.map enc) S K :=
  ⟨noOwn_of hv, α, as, enc, p, g, rfl, hl, turn, k⟩
/-- y = [..] on one line, y a plain local name -/
theorem jsetLc {y : Str} {py : Pos} {elt tg iter : Expr} {ifs : List Expr} {scope : Scope} {pos spos : Pos} {rest : List Stmt} {E : DE} (i : Nat) (own : List (Str × Nat)) (ts : List Nat)
    (h : JI X r tg iter S fun ds S1 => (∀ j ∈ own.map (·.2), ∀ xs, S1[j]? ≠ some (.ob xs)) ∧ LcAll X r scope tg elt ifs (own.map (·.2)) ts ds S1 fun zs => JSs X r rest (S1.set i (.own zs)) E)
    (hc : X.calm = true := by rfl) (hN : X.N.Nodup := by assumption) (hy : X.N[i]? = some y := by rfl) (hyl : X.env.scope.names.lookup y = some .local := by rfl) (hsw : swapsWith (.ListComp elt [⟨tg, iter, ifs, 0⟩] scope pos) (some (.Name y py)) spos.line X.env = pure true := by exact sw_true rfl rfl rfl (by decide +kernel))
    (ok : BlkOk X.N X.env.scope scope own := by exact blkOk_by rfl) (hs : ∀ x, foldedSetIterable iter X.env x = pure x := by intro _; rfl) (hts : ∀ j ∈ ts, j ∈ own.map (·.2) := by decide) : JSs X r (.Assign [.Name y py] (.ListComp elt [⟨tg, iter, ifs, 0⟩] scope pos) spos :: rest) S E :=
  jss_cons (js_setP i (ps_setLc hc hN hy hyl hsw pi_tI ok pg_tGb pts_tTsb pe_tEb hs) (lc_run (K := fun zs S' => JSs X r rest (S'.set i (.own zs)) E) ts hts (h.mono fun ds S1 h => lc_pure h.1 h.2)))
/-- the iterables -/
theorem jiT {tg e : Expr} {K : List D → List Sl → Prop} (h : JE X r e S fun d S1 => ∃ ds, d = .tuple ds ∧ K ds S1) : JI X r tg e S K := ji_tup h
theorem jiL {tg e : Expr} {K : List D → List Sl → Prop} (h : JE X r e S fun d S1 => ∃ ds, d = .list ds ∧ K ds S1) : JI X r tg e S K := ji_list h
theorem jiN {tg e : Expr} {K : List D → List Sl → Prop} (h : JN X r e S K) : JI X r tg e S K := ji_list (JN.je (h.mono fun ds S1 k => ⟨ds, rfl, k⟩))
theorem filter_true {α : Type} (l : List α) : l.filter (fun _ => true) = l := by simp
theorem atI_nn {ds : List D} {i : Nat} {d : D} (h : ds[i]? = some d) : atI ds (i : Int) = some d := atI_nat h
end
end DL

/-! DL: the source of draws: its dict, its numbers. -/
namespace DL
open PySem L2
abbrev kC : Key := .inr "cells"
abbrev kL : Key := .inr "left"
abbrev kM : Key := .inr "mixed"
abbrev kT : Key := .inr "turn"
theorem nCL : ¬ kC = kL := by decide +kernel
theorem nCM : ¬ kC = kM := by decide +kernel
theorem nCT : ¬ kC = kT := by decide +kernel
theorem nLM : ¬ kL = kM := by decide +kernel
theorem nLT : ¬ kL = kT := by decide +kernel
theorem nMT : ¬ kM = kT := by decide +kernel
theorem nLC : ¬ kL = kC := by decide +kernel
theorem nMC : ¬ kM = kC := by decide +kernel
theorem nTC : ¬ kT = kC := by decide +kernel
theorem nML : ¬ kM = kL := by decide +kernel
theorem nTL : ¬ kT = kL := by decide +kernel
theorem nTM : ¬ kT = kM := by decide +kernel
def srcO (l : Addr) (a b c : Int) : HO := .dK [(kC, .ref l), (kL, .int a), (kM, .int b), (kT, .int c)]
section
variable (l : Addr) (a b c v : Int)
theorem gC : valV [(kC, V.ref l), (kL, .int a), (kM, .int b), (kT, .int c)] kC = some (.ref l) := by rw [valV_pos rfl]
theorem gL : valV [(kC, V.ref l), (kL, .int a), (kM, .int b), (kT, .int c)] kL = some (.int a) := by rw [valV_neg nCL, valV_pos rfl]
theorem gM : valV [(kC, V.ref l), (kL, .int a), (kM, .int b), (kT, .int c)] kM = some (.int b) := by rw [valV_neg nCM, valV_neg nLM, valV_pos rfl]
theorem gT : valV [(kC, V.ref l), (kL, .int a), (kM, .int b), (kT, .int c)] kT = some (.int c) := by rw [valV_neg nCT, valV_neg nLT, valV_neg nMT, valV_pos rfl]
theorem pL : putK [(kC, V.ref l), (kL, .int a), (kM, .int b), (kT, .int c)] kL (.int v) = [(kC, V.ref l), (kL, .int v), (kM, .int b), (kT, .int c)] := by
  unfold putK
  rw [if_pos (by simp)]
  simp only [List.map_cons, List.map_nil, if_neg nCL, if_neg nML, if_neg nTL, if_pos]
theorem pM : putK [(kC, V.ref l), (kL, .int a), (kM, .int b), (kT, .int c)] kM (.int v) = [(kC, V.ref l), (kL, .int a), (kM, .int v), (kT, .int c)] := by
  unfold putK
  rw [if_pos (by simp)]
  simp only [List.map_cons, List.map_nil, if_neg nCM, if_neg nLM, if_neg nTM, if_pos]
theorem pT : putK [(kC, V.ref l), (kL, .int a), (kM, .int b), (kT, .int c)] kT (.int v) = [(kC, V.ref l), (kL, .int a), (kM, .int b), (kT, .int v)] := by
  unfold putK
  rw [if_pos (by simp)]
  simp only [List.map_cons, List.map_nil, if_neg nCT, if_neg nLT, if_neg nMT, if_pos]
end
/-- the state of a draw: the source at p holds n cells; all else stands as at the entry -/
def At (p : Addr × Addr) (H0 H : Hp) (n : Nat) : Prop := (∃ (cells : List Int) (x y z : Int), cells.length = n ∧ H p.1 = some (srcO p.2 x y z) ∧ H p.2 = some (.lst (cells.map V.int))) ∧ ∀ q o, q ≠ p.1 → q ≠ p.2 → H0 q = some o → H q = some o
theorem At.ne {p : Addr × Addr} {H0 H : Hp} {n : Nat} (h : At p H0 H n) : p.2 ≠ p.1 := by
  obtain ⟨⟨cs, x, y, z, _, h1, h2⟩, _⟩ := h
  exact ne_of h2 h1 (by intro q; cases q)
theorem At.put {p : Addr × Addr} {H0 H : Hp} {n : Nat} (h : At p H0 H n) (x y z : Int) : At p H0 (upd H p.1 (srcO p.2 x y z)) n := by
  have hne := h.ne
  obtain ⟨⟨cs, _, _, _, e, h1, h2⟩, k⟩ := h
  exact ⟨⟨cs, x, y, z, e, upd_same, by rw [upd_ne hne]; exact h2⟩, fun q o n1 n2 e => by rw [upd_ne n1]; exact k q o n1 n2 e⟩
theorem At.pop {p : Addr × Addr} {H0 H : Hp} {n : Nat} {cs : List Int} {x y z : Int} (h : At p H0 H n) (h1 : H p.1 = some (srcO p.2 x y z)) : At p H0 (upd H p.2 (.lst (cs.map V.int))) cs.length := by
  have hne := h.ne
  obtain ⟨_, k⟩ := h
  exact ⟨⟨cs, x, y, z, rfl, by rw [upd_ne hne.symm]; exact h1, upd_same⟩, fun q o n1 n2 e => by rw [upd_ne n2]; exact k q o n1 n2 e⟩
theorem dgC {H : Hp} {a l : Addr} {x y z : Int} (h : H a = some (srcO l x y z)) : DGet H a (.str "cells") (some (.ref l)) := by have := DGet.k (k := kC) h; rw [gC] at this; exact this
theorem dgL {H : Hp} {a l : Addr} {x y z : Int} (h : H a = some (srcO l x y z)) : DGet H a (.str "left") (some (.int x)) := by have := DGet.k (k := kL) h; rw [gL] at this; exact this
theorem dgM {H : Hp} {a l : Addr} {x y z : Int} (h : H a = some (srcO l x y z)) : DGet H a (.str "mixed") (some (.int y)) := by have := DGet.k (k := kM) h; rw [gM] at this; exact this
theorem dgT {H : Hp} {a l : Addr} {x y z : Int} (h : H a = some (srcO l x y z)) : DGet H a (.str "turn") (some (.int z)) := by have := DGet.k (k := kT) h; rw [gT] at this; exact this
theorem dpL {H : Hp} {a l : Addr} {x y z : Int} (v : Int) (h : H a = some (srcO l x y z)) : DPut H a (.str "left") (.int v) (upd H a (srcO l v y z)) := by have := DPut.k (k := kL) (v := .int v) h (by show 4 < sizeLine; decide); rw [pL] at this; exact this
theorem dpM {H : Hp} {a l : Addr} {x y z : Int} (v : Int) (h : H a = some (srcO l x y z)) : DPut H a (.str "mixed") (.int v) (upd H a (srcO l x v z)) := by have := DPut.k (k := kM) (v := .int v) h (by show 4 < sizeLine; decide); rw [pM] at this; exact this
theorem dpT {H : Hp} {a l : Addr} {x y z : Int} (v : Int) (h : H a = some (srcO l x y z)) : DPut H a (.str "turn") (.int v) (upd H a (srcO l x y v)) := by have := DPut.k (k := kT) (v := .int v) h (by show 4 < sizeLine; decide); rw [pT] at this; exact this
theorem whl {c : TT} {tb : TS} {D : Ends} {σ : St} {H : Hp} (I : Nat → St → Hp → Prop) (m0 : Nat) (i0 : I m0 σ H) (exit : ∀ m σ H, I m σ H → D.nx σ H)
    (step : ∀ X : St → Hp → Prop, (∀ m σ H, I m σ H → X σ H) → ∀ m σ H, I m σ H → c σ H fun b H1 => if b = true then ∃ N : St → Hp → Prop, (∀ σ' H', N σ' H' → ∃ m', m' < m ∧ I m' σ' H') ∧ tb { D with nx := N, ct := N, bk := X } σ H1 else X σ H1) : tWhile c tb D σ H :=
  ⟨I, ⟨m0, i0⟩, fun m σ H h => step D.nx exit m σ H h⟩
theorem merge4 (l : Addr) (a b c : Int) : mergeK [] [(kC, V.ref l), (kL, .int a), (kM, .int b), (kT, .int c)] = [(kC, V.ref l), (kL, .int a), (kM, .int b), (kT, .int c)] := by
  have p1 : putK ([] : List (Key × V)) kC (.ref l) = [(kC, V.ref l)] := rfl
  have p2 : putK [(kC, V.ref l)] kL (.int a) = [(kC, V.ref l), (kL, .int a)] := by unfold putK; rw [if_neg (by simp only [List.any_cons, List.any_nil, decide_eq_false nCL, Bool.or_false]; decide)]; rfl
  have p3 : putK [(kC, V.ref l), (kL, .int a)] kM (.int b) = [(kC, V.ref l), (kL, .int a), (kM, .int b)] := by unfold putK; rw [if_neg (by simp only [List.any_cons, List.any_nil, decide_eq_false nCM, decide_eq_false nLM, Bool.or_false]; decide)]; rfl
  have p4 : putK [(kC, V.ref l), (kL, .int a), (kM, .int b)] kT (.int c) = [(kC, V.ref l), (kL, .int a), (kM, .int b), (kT, .int c)] := by unfold putK; rw [if_neg (by simp only [List.any_cons, List.any_nil, decide_eq_false nCT, decide_eq_false nLT, decide_eq_false nMT, Bool.or_false]; decide)]; rfl
  show putK (putK (putK (putK [] kC (.ref l)) kL (.int a)) kM (.int b)) kT (.int c) = _
  rw [p1, p2, p3, p4]
/-- what makes the source -/
def spSource (K : PySem.W.Frag) : Sp := fun vs H Q _ => ∃ (a : Addr) (ns : List Int), vs = [.ref a] ∧ SqL K H a (ns.map V.int) ∧ ns.length ≤ 1000 ∧ ∀ H' p, Same H H' → H p.1 = none → H p.2 = none → SrcOk H' p → Q (.ref p.1) H'
theorem same_upd {H : Hp} {p : Addr} {o : HO} (h : H p = none) : Same H (upd H p o) := fun b x e => by
  rw [upd_ne (ne_of_none e h)]
  exact e
theorem same_upd2 {H H' : Hp} {p : Addr} {o : HO} (s : Same H H') (h : H p = none) : Same H (upd H' p o) := fun b x e => by
  rw [upd_ne (ne_of_none e h)]
  exact s b x e
/-- what a draw gives -/
def φPick : List Ar → (D → Prop) → Prop := fun as Kd => ∃ many : Int, as = [.src, .d (.int many)] ∧ many < 1073741824 ∧ ∀ v : Int, 0 ≤ v → v < (if many > 1 then many else 1) → Kd (.int v)
end DL

/-! DL: dicts updated by dicts. -/
namespace DL
open PySem L2
section
variable {X : Cx}
/-- d.update(e), d and e two dicts, keys ints and texts -/
def rUpdK : V → List V → Hp → VK → Prop := fun x vs H Q => ∃ (a b : Addr) (kvs more : List (Key × V)), x = .ref a ∧ vs = [.ref b] ∧ a ≠ b ∧ H a = some (.dK kvs) ∧ H b = some (.dK more) ∧ kvs.length + more.length ≤ sizeLine ∧ Q .non (upd H a (.dK (mergeK kvs more)))
theorem mt_updK : MtR X "dict.update" rUpdK := by
  intro pins s σ H x vs v us Q I rx rv h
  obtain ⟨a, b, kvs, more, ex, ev, hne, ha, hb, hl, q⟩ := h
  subst ex
  subst ev
  obtain rfl : v = Value.ref a := rx
  obtain ⟨u, rfl, ru⟩ := rv.one
  obtain rfl : u = Value.ref b := ru
  obtain ⟨z1, d1, vs1, rel1, dd1⟩ := dk_of I.hok ha
  obtain ⟨z2, d2, vs2, rel2, dd2⟩ := dk_of I.hok hb
  refine call_meetsIn PySem.F.slot_dict_update dd1.typeIs PySem.F.entry_dict_update (PySem.F.args_dict_update_2 _ _) (meets_dict_update (mixKind X.prog X.w) a b hne d2) ⟨vs1, vs2, dd1, dd2, by rw [← rel1.length, ← rel2.length]; exact hl, fun h' dd' _ hs => ?_⟩
  have he : ∃ q, h'.get? a = some q := let ⟨q, _, _, hq, _⟩ := dd'; ⟨q, hq⟩
  have hlen : (mergeK kvs more).length ≤ sizeLine := Nat.le_trans (length_mergeK more kvs) hl
  exact ⟨.non, _, d_write (t' := s.toks) I (by rw [ha]; exact True.intro) hs he (dk_new hlen d1 (KV.merge rel2 rel1) dd'), rfl, q⟩
end
end DL

/-! DL: a list of dicts with int keys (closing pairs). -/
namespace DL
open PySem L2
def kvI (ks : List Int) : List (Key × V) := ks.map fun k => (Sum.inl k, V.int 0)
def mrgI (a b : List Int) : List Int := b.foldl (fun acc k => if k ∈ acc then acc else acc ++ [k]) a
theorem putK_kvI (a : List Int) (k : Int) : putK (kvI a) (Sum.inl k) (V.int 0) = kvI (if k ∈ a then a else a ++ [k]) := by
  unfold putK
  have e : ((kvI a).any fun kv => decide (kv.1 = (Sum.inl k : Key))) = decide (k ∈ a) := by
    unfold kvI
    rw [List.any_map]
    induction a with
    | nil => rfl
    | cons x a ih =>
      rw [List.any_cons, ih]
      by_cases h : x = k
      · subst h; simp
      · have : ¬ k = x := fun z => h z.symm
        simp [h, this]
  rw [e]
  by_cases h : k ∈ a
  · rw [if_pos (by simpa using h), if_pos h]
    unfold kvI
    rw [List.map_map]
    refine List.map_congr_left fun x hx => ?_
    by_cases e2 : x = k
    · subst e2; simp
    · simp [e2]
  · rw [if_neg (by simpa using h), if_neg h]
    unfold kvI
    rw [List.map_append]
    rfl
theorem mergeK_kvI : ∀ (b a : List Int), mergeK (kvI a) (kvI b) = kvI (mrgI a b)
  | [], _ => rfl
  | k :: b, a => by
    show mergeK (putK (kvI a) (Sum.inl k) (V.int 0)) (kvI b) = _
    rw [putK_kvI, mergeK_kvI b]
    rfl
theorem kvI_keys (ks : List Int) : (kvI ks).map (·.1) = ks.map Sum.inl := by
  unfold kvI
  rw [List.map_map]
  rfl
theorem mrgI_len : ∀ (b a : List Int), (mrgI a b).length ≤ a.length + b.length
  | [], a => Nat.le_refl _
  | k :: b, a => by
    have h := mrgI_len b (if k ∈ a then a else a ++ [k])
    show (mrgI (if k ∈ a then a else a ++ [k]) b).length ≤ _
    rw [List.length_cons]
    by_cases e : k ∈ a
    · rw [if_pos e] at h ⊢; omega
    · rw [if_neg e] at h ⊢
      rw [List.length_append, List.length_singleton] at h
      omega
theorem mem_mrgI {x : Int} : ∀ (b a : List Int), x ∈ mrgI a b ↔ x ∈ a ∨ x ∈ b
  | [], a => by show x ∈ a ↔ _; simp
  | k :: b, a => by
    show x ∈ mrgI (if k ∈ a then a else a ++ [k]) b ↔ _
    rw [mem_mrgI b]
    by_cases e : k ∈ a
    · rw [if_pos e, List.mem_cons]
      constructor
      · rintro (h | h)
        · exact .inl h
        · exact .inr (.inr h)
      · rintro (h | rfl | h)
        · exact .inl h
        · exact .inl e
        · exact .inr h
    · rw [if_neg e, List.mem_append, List.mem_singleton, List.mem_cons]
      constructor
      · rintro ((h | h) | h)
        · exact .inl h
        · exact .inr (.inl h)
        · exact .inr (.inr h)
      · rintro (h | h | h)
        · exact .inl (.inl h)
        · exact .inl (.inr h)
        · exact .inr h
theorem nodup_mrgI : ∀ (b a : List Int), a.Nodup → (mrgI a b).Nodup
  | [], _, h => h
  | k :: b, a, h => by
    show (mrgI (if k ∈ a then a else a ++ [k]) b).Nodup
    by_cases e : k ∈ a
    · rw [if_pos e]; exact nodup_mrgI b a h
    · rw [if_neg e]
      refine nodup_mrgI b _ ?_
      rw [List.nodup_append]
      refine ⟨h, by simp, fun x hx y hy => ?_⟩
      rw [List.mem_singleton.mp hy]
      intro z; rw [z] at hx; exact e hx
/-- one pair taken: what is under x is under y -/
def stepU (u : List (List Int)) (p : Nat × Nat) : List (List Int) := u.set p.2 (mrgI (u.getD p.2 []) (u.getD p.1 []))
def lapU (pairs : List (Nat × Nat)) (u : List (List Int)) : List (List Int) := pairs.foldl stepU u
def startU (n : Nat) : List (List Int) := (List.range n).map fun (y : Nat) => [(y : Int)]
def lapsU (pairs : List (Nat × Nat)) : Nat → List (List Int) → List (List Int)
  | 0, u => u
  | k + 1, u => lapU pairs (lapsU pairs k u)
def closedU (n : Nat) (pairs : List (Nat × Nat)) : List (List Int) := lapsU pairs n (startU n)
/-- the lots are of n things below n, none twice -/
def WfU (n : Nat) (u : List (List Int)) : Prop := u.length = n ∧ ∀ l ∈ u, l.Nodup ∧ ∀ x ∈ l, 0 ≤ x ∧ x < n
theorem nodup_len : ∀ {n : Nat} {l : List Int}, l.Nodup → (∀ x ∈ l, 0 ≤ x ∧ x < n) → l.length ≤ n
  | 0, l, _, hr => by
    cases l with
    | nil => exact Nat.le_refl _
    | cons x l => have := hr x List.mem_cons_self; omega
  | n + 1, l, hn, hr => by
    have h := nodup_len (n := n) (l := l.erase (n : Int)) (hn.erase _) fun x hx => by
      obtain ⟨h1, h2⟩ := (hn.mem_erase_iff).mp hx
      have := hr x h2
      omega
    have h2 := List.length_erase (a := (n : Int)) (l := l)
    by_cases e : (n : Int) ∈ l
    · rw [if_pos e] at h2; omega
    · rw [if_neg e] at h2; omega
theorem WfU.step {n : Nat} {u : List (List Int)} {p : Nat × Nat} (h : WfU n u) (h1 : p.1 < n) : WfU n (stepU u p) := by
  refine ⟨by unfold stepU; rw [List.length_set]; exact h.1, fun l hl => ?_⟩
  have get : ∀ i, (u.getD i []).Nodup ∧ ∀ x ∈ u.getD i [], 0 ≤ x ∧ x < n := fun i => by
    by_cases hi : i < u.length
    · rw [List.getD_eq_getElem?_getD, List.getElem?_eq_getElem hi]
      exact h.2 _ (List.getElem_mem hi)
    · rw [List.getD_eq_getElem?_getD, List.getElem?_eq_none (by omega)]
      exact ⟨List.nodup_nil, fun x hx => by cases hx⟩
  rcases List.mem_or_eq_of_mem_set hl with hl | rfl
  · exact h.2 l hl
  · refine ⟨nodup_mrgI _ _ (get p.2).1, fun x hx => ?_⟩
    rcases (mem_mrgI _ _).mp hx with hx | hx
    · exact (get p.2).2 x hx
    · exact (get p.1).2 x hx
theorem WfU.lap {n : Nat} : ∀ {pairs : List (Nat × Nat)} {u : List (List Int)}, WfU n u → (∀ p ∈ pairs, p.1 < n) → WfU n (lapU pairs u)
  | [], _, h, _ => h
  | p :: pairs, u, h, hp => WfU.lap (pairs := pairs) (h.step (hp p List.mem_cons_self)) fun q hq => hp q (List.mem_cons_of_mem _ hq)
theorem wfU_start (n : Nat) : WfU n (startU n) := by
  refine ⟨by unfold startU; rw [List.length_map, List.length_range], fun l hl => ?_⟩
  obtain ⟨y, hy, rfl⟩ := List.mem_map.mp hl
  have := List.mem_range.mp hy
  exact ⟨by simp, fun x hx => by rw [List.mem_singleton.mp hx]; omega⟩
theorem wfU_laps {n : Nat} {pairs : List (Nat × Nat)} {u : List (List Int)} (h : WfU n u) (hp : ∀ p ∈ pairs, p.1 < n) : ∀ k, WfU n (lapsU pairs k u)
  | 0 => h
  | k + 1 => (wfU_laps h hp k).lap hp
theorem wfU_at {n : Nat} {u : List (List Int)} (h : WfU n u) (i : Nat) : (u.getD i []).Nodup ∧ (∀ x ∈ u.getD i [], 0 ≤ x ∧ x < n) ∧ (u.getD i []).length ≤ n := by
  by_cases hi : i < u.length
  · rw [List.getD_eq_getElem?_getD, List.getElem?_eq_getElem hi]
    have := h.2 _ (List.getElem_mem hi)
    exact ⟨this.1, this.2, nodup_len this.1 this.2⟩
  · rw [List.getD_eq_getElem?_getD, List.getElem?_eq_none (by omega)]
    exact ⟨List.nodup_nil, fun x hx => (by cases hx), Nat.zero_le _⟩
/-! ### in the heap -/
/-- a list at u of dicts at ds, with keys us; all of it new behind H0 -/
structure UAt (H0 H : Hp) (u : Addr) (ds : List Addr) (us : List (List Int)) : Prop where
  same : Same H0 H
  nu : H0 u = none
  nd : ∀ d ∈ ds, H0 d = none
  dis : ds.Nodup
  unot : u ∉ ds
  len : ds.length = us.length
  lst : H u = some (.lst (ds.map V.ref))
  dk : ∀ (i : Nat) d k, ds[i]? = some d → us[i]? = some k → H d = some (.dK (kvI k))
/-- a new object, not ours -/
theorem UAt.new {H0 H : Hp} {u : Addr} {ds : List Addr} {us : List (List Int)} {p : Addr} {o : HO} (h : UAt H0 H u ds us) (n : H p = none) : UAt H0 (upd H p o) u ds us := by
  refine ⟨fun b x e => ?_, h.nu, h.nd, h.dis, h.unot, h.len, ?_, fun i d k e1 e2 => ?_⟩
  · have := h.same b x e
    rw [upd_ne (ne_of_none this n)]; exact this
  · rw [upd_ne (ne_of_none h.lst n)]; exact h.lst
  · have := h.dk i d k e1 e2
    rw [upd_ne (ne_of_none this n)]; exact this
/-- one of the dicts is changed -/
theorem UAt.upd {H0 H : Hp} {u : Addr} {ds : List Addr} {us : List (List Int)} {i : Nat} {d : Addr} {k : List Int} (h : UAt H0 H u ds us) (e : ds[i]? = some d) : UAt H0 (L2.upd H d (.dK (kvI k))) u ds (us.set i k) := by
  have hd : d ∈ ds := List.mem_of_getElem? e
  have hi : i < us.length := by rw [← h.len]; exact (List.getElem?_eq_some_iff.mp e).1
  refine ⟨fun b x e => ?_, h.nu, h.nd, h.dis, h.unot, by rw [List.length_set]; exact h.len, ?_, fun j d' k' e1 e2 => ?_⟩
  · rw [upd_ne (fun z => by rw [z, h.nd d hd] at e; cases e)]; exact h.same b x e
  · rw [upd_ne (fun z => h.unot (by rw [z]; exact hd))]; exact h.lst
  · by_cases hj : i = j
    · subst hj
      rw [e] at e1; cases e1
      rw [List.getElem?_set_self hi] at e2; cases e2
      exact upd_same
    · rw [List.getElem?_set_ne hj] at e2
      have hne : d' ≠ d := fun z => by
        subst z
        obtain ⟨l1, q1⟩ := List.getElem?_eq_some_iff.mp e
        obtain ⟨l2, q2⟩ := List.getElem?_eq_some_iff.mp e1
        exact hj ((List.getElem_inj h.dis).mp (q1.trans q2.symm))
      rw [upd_ne hne]; exact h.dk j d' k' e1 e2
/-- one dict more -/
theorem UAt.app {H0 H : Hp} {u : Addr} {ds : List Addr} {us : List (List Int)} {d : Addr} {k : List Int} (h : UAt H0 H u ds us) (n : H d = none) : UAt H0 (L2.upd (L2.upd H d (.dK (kvI k))) u (.lst ((ds ++ [d]).map V.ref))) u (ds ++ [d]) (us ++ [k]) := by
  have hne : d ≠ u := fun z => by rw [z, h.lst] at n; cases n
  have hnew : d ∉ ds := fun hd => by
    obtain ⟨i, hi, e⟩ := List.getElem_of_mem hd
    have e1 : ds[i]? = some d := by rw [List.getElem?_eq_getElem hi, e]
    have hi2 : i < us.length := by rw [← h.len]; exact hi
    have e2 : us[i]? = some us[i] := List.getElem?_eq_getElem hi2
    rw [h.dk i d _ e1 e2] at n; cases n
  have n0 : H0 d = none := h.same.free n
  refine ⟨fun b x e => ?_, h.nu, fun x hx => ?_, ?_, ?_, by rw [List.length_append, List.length_append, h.len]; rfl, upd_same, fun j d' k' e1 e2 => ?_⟩
  · rw [upd_ne (fun z => by rw [z, h.nu] at e; cases e), upd_ne (fun z => by rw [z, n0] at e; cases e)]
    exact h.same b x e
  · rcases List.mem_append.mp hx with hx | hx
    · exact h.nd x hx
    · rw [List.mem_singleton.mp hx]; exact n0
  · rw [List.nodup_append]
    refine ⟨h.dis, by simp, fun x hx y hy => ?_⟩
    rw [List.mem_singleton.mp hy]
    intro z; rw [z] at hx; exact hnew hx
  · intro hu
    rcases List.mem_append.mp hu with hu | hu
    · exact h.unot hu
    · exact hne (List.mem_singleton.mp hu).symm
  · by_cases hj : j < ds.length
    · rw [List.getElem?_append_left hj] at e1
      rw [List.getElem?_append_left (by rw [← h.len]; exact hj)] at e2
      have hd' : d' ∈ ds := List.mem_of_getElem? e1
      rw [upd_ne (fun z => h.unot (by rw [← z]; exact hd')), upd_ne (fun z => hnew (by rw [← z]; exact hd'))]
      exact h.dk j d' k' e1 e2
    · rw [List.getElem?_append_right (by omega)] at e1
      rw [List.getElem?_append_right (by rw [← h.len]; omega)] at e2
      have : j - ds.length = 0 := by
        have := (List.getElem?_eq_some_iff.mp e1).1
        simp at this; omega
      rw [this] at e1
      rw [← h.len, this] at e2
      cases e1
      cases e2
      rw [upd_ne hne]
      exact upd_same
theorem Fin.same {c : C} {F H H' : Hp} (h : Fin c F H) (s : Same H H') : Fin c F H' :=
  ⟨h.f0, fun a o e => s a o (h.fh a o e), fun a o e => s a o (h.bh a o e), h.bf, fun p ep => let ⟨x, r⟩ := h.src p ep; ⟨x.ex s, r⟩⟩
theorem Fin.upd {c : C} {F H : Hp} {p : Addr} {o : HO} (h : Fin c F H) (nF : F p = none) (nB : c.B p = none) (ns : ∀ q, c.sr = some q → p ≠ q.1 ∧ p ≠ q.2) : Fin c F (L2.upd H p o) := by
  refine ⟨h.f0, h.fh.upd2 nF, h.bh.upd2 nB, h.bf, fun q eq => ?_⟩
  obtain ⟨⟨cs, x, y, z, h1, h2⟩, r⟩ := h.src q eq
  obtain ⟨m1, m2⟩ := ns q eq
  exact ⟨⟨cs, x, y, z, by rw [upd_ne m1.symm]; exact h1, by rw [upd_ne m2.symm]; exact h2⟩, r⟩
theorem Fin.froz {c : C} {F H : Hp} {p : Addr} {o : HO} (h : Fin c F H) (n : H p = none) : Fin c (L2.upd F p o) (L2.upd H p o) := by
  have nF : F p = none := h.fh.back n
  have nB : c.B p = none := h.bh.back n
  have g := Grow.new h.fh (o := o) n
  refine ⟨h.f0.trans g.kF, g.fh, h.bh.trans g.kH, fun a u e => ?_, fun q eq => ?_⟩
  · rw [upd_ne (ne_of_none e nB)]; exact h.bf a u e
  · obtain ⟨⟨cs, x, y, z, h1, h2⟩, n1, n2, b1, b2⟩ := h.src q eq
    have m1 : q.1 ≠ p := ne_of_none h1 n
    have m2 : q.2 ≠ p := ne_of_none h2 n
    exact ⟨⟨cs, x, y, z, by rw [upd_ne m1]; exact h1, by rw [upd_ne m2]; exact h2⟩, by rw [upd_ne m1]; exact n1, by rw [upd_ne m2]; exact n2, b1, b2⟩
/-- an object that stands, not frozen, changes -/
theorem UAt.oth {H0 H : Hp} {u : Addr} {ds : List Addr} {us : List (List Int)} {p : Addr} {o : HO} (h : UAt H0 H u ds us) (n0 : H0 p = none) (nu : p ≠ u) (nd : p ∉ ds) : UAt H0 (L2.upd H p o) u ds us := by
  refine ⟨fun b x e => ?_, h.nu, h.nd, h.dis, h.unot, h.len, ?_, fun i d k e1 e2 => ?_⟩
  · rw [upd_ne (fun z => by rw [z, n0] at e; cases e)]; exact h.same b x e
  · rw [upd_ne nu.symm]; exact h.lst
  · have hd : d ∈ ds := List.mem_of_getElem? e1
    rw [upd_ne (fun z => nd (by rw [← z]; exact hd))]; exact h.dk i d k e1 e2
end DL

/-! DL: methods of a list of one's own: pop, len, append; list(..); a list built anew. -/
namespace DL
open PySem L2
section
variable {X : Cx} {r : SR} {S : List Sl}
/-- x.pop(i), x a list of one's own -/
theorem je_popO {K : D → List Sl → Prop} {x : Str} {p apos pos : Pos} {a : Expr} (i : Nat) {xs0 : List D} (h0 : S[i]? = some (.own xs0)) (hp : PE X (.Call (.Attribute (.Name x p) "pop" apos) [a] [] pos) (tBM X.K "list" rPopAt (tVar i) (tCons (tE X a) tNil)))
    (h : JE X r a S fun d S1 => ∃ (xs : List D) (k : Nat) (d' : D), d = .int k ∧ S1[i]? = some (.own xs) ∧ xs.length ≤ 1000000 ∧ xs[k]? = some d' ∧ K d' (S1.set i (.own (xs.eraseIdx k)))) :
    JE X r (.Call (.Attribute (.Name x p) "pop" apos) [a] [] pos) S K := fun c F σ H hr E Q q => of_pe hp (by
  obtain ⟨y, e1, l, hh, e2, ha, rv, nF, nb, q0⟩ := E.sl i _ h0
  subst e2
  obtain ⟨vs, rfl, rv⟩ := obr_l rv
  refine ⟨.ref l, e1, .inl ⟨rfl, _, .inl (.inl ha)⟩, h c F σ H hr E _ fun v d F1 H1 S1 h1 E1 k1 r1 => ?_⟩
  obtain ⟨xs, k, d', rfl, e3, hl, hk, kd⟩ := h1
  cases r1
  obtain ⟨y, e1', l', hh', e2', ha', rv', _⟩ := E1.sl i _ e3
  rw [e1] at e1'; cases e1'; cases e2'
  obtain ⟨vs', rfl, rv'⟩ := obr_l rv'
  obtain ⟨v, ev, rp⟩ := rv'.get' hk
  have hlt : k < xs.length := (List.getElem?_eq_some_iff.mp hk).1
  refine ⟨l, vs', (k : Int), k, v, rfl, rfl, ha', by omega, by omega, ?_, ev, ?_⟩
  · unfold seqIndex?
    have := rv'.length
    simp
    omega
  · exact q v d' F1 _ _ kd (E1.write (vs := .lst (vs'.eraseIdx k)) (ds := .l (xs.eraseIdx k)) e3 e1 (rv'.erase k)) k1 rp)
/-- len(x), x a list of one's own -/
theorem je_lenO {K : D → List Sl → Prop} {x : Str} {p p2 pos : Pos} (i : Nat) {xs : List D} (hm : X.mg "len" = none) (k : K (.int (xs.length : Nat)) S) (e : S[i]? = some (.own xs) := by rfl) (hg : Gl X "len" := by rfl) (hN : X.N[i]? = some x := by rfl) (hv : Vis X.env.scope x := by first | exact Or.inl rfl | exact Or.inr (Or.inl rfl) | exact Or.inr (Or.inr rfl)) (hd : (x == ("__debug__" : Str)) = false := by decide) (hcd : (x == ("__classdict__" : Str)) = false := by decide)
    (hs : starEach [.Name x p2] X.env = (false, eval (.Name x p2) X.env) :: starEach [] X.env := by rfl) :
    JE X r (.Call (.Name "len" p) [.Name x p2] [] pos) S K := fun c F σ H hr E Q q => of_pe (pe_callB call_len_seq hg hm PySem.boot_len (pa_cons (pe_var hN hv hd hcd) pa_nil hs) (by decide) (by decide) hs rfl) (by
  obtain ⟨y, e1, l, hh, e2, ha, rv, nF, nb, q0⟩ := E.sl i _ e
  subst e2
  obtain ⟨vs, rfl, rv⟩ := obr_l rv
  refine ⟨_, e1, l, vs, rfl, .inl (.inl (.inl ha)), ?_⟩
  rw [rv.length]
  exact q _ _ F H S k E (Ex.refl F) (.int _))
/-- list(x) -/
theorem jlist {K : List D → List Sl → Prop} {a : Expr} {p pos : Pos} (hm : X.mg "list" = none) (h : JE X r a S fun d S1 => ∃ xs, (d = .list xs ∨ d = .tuple xs) ∧ K xs S1) (hg : Gl X "list" := by rfl) (hs : starEach [a] X.env = (false, eval a X.env) :: starEach [] X.env := by rfl) : JN X r (.Call (.Name "list" p) [a] [] pos) S K :=
  jnTy call_list_of hm (ja1 (h.mono fun d S1 ⟨xs, e, k⟩ => ⟨[d], rfl, cn_list e k⟩) hs) hg (by decide +kernel) (by decide) (by decide) hs rfl
theorem jts_nil {K : Bool → List Sl → Prop} (h : K true S) : JTs X r [] S K := h
end
theorem perm_of_map {α β : Type} {f : α → β} {es : List β} {m : List β} (h : es.Perm m) : ∀ l : List α, m = l.map f → ∃ l' : List α, es = l'.map f ∧ l'.Perm l := by
  induction h with
  | nil => intro l e; exact ⟨[], rfl, by cases l with | nil => exact .nil | cons a l => cases e⟩
  | cons x _ ih =>
    intro l e
    cases l with
    | nil => cases e
    | cons a l =>
      injection e with e1 e2
      obtain ⟨l', rfl, p⟩ := ih l e2
      exact ⟨a :: l', by rw [e1]; rfl, p.cons a⟩
  | swap x y t =>
    intro l e
    match l, e with
    | a :: b :: l, e =>
      injection e with e1 e2
      injection e2 with e2 e3
      exact ⟨b :: a :: l, by rw [e1, e2, e3]; rfl, List.Perm.swap _ _ _⟩
  | trans _ _ ih1 ih2 =>
    intro l e
    obtain ⟨l1, e1, p1⟩ := ih2 l e
    obtain ⟨l2, e2, p2⟩ := ih1 l1 e1
    exact ⟨l2, e2, p2.trans p1⟩
theorem eraseIdx_perm {α : Type} : ∀ (l : List α) (j : Nat) (h : j < l.length), (l[j] :: l.eraseIdx j).Perm l
  | a :: l, 0, _ => List.Perm.refl _
  | a :: l, j + 1, h => by
    have h : j < l.length := Nat.lt_of_succ_lt_succ h
    show (l[j] :: a :: l.eraseIdx j).Perm (a :: l)
    exact (List.Perm.swap _ _ _).trans (List.Perm.cons _ (eraseIdx_perm l j h))
end DL

/-! DL: sorted(..) of a list of data. -/
namespace DL
open PySem L2
section
variable {X : Cx} {r : SR} {S : List Sl}
def rSortD (X : Cx) : List V → Hp → VK → Prop := fun vs H Q => ∃ F x ds, vs = [x] ∧ Ex F H ∧ Rp F x (.list ds) ∧ PyData.plainAll ds = true ∧ PySem.W.AllAlike ds ∧ PySem.W.Sortable ds ∧ (∀ d ∈ ds, X.A.units + 2 + d.depth < cLine) ∧
  ∀ p ws, RpA F ws (ds.mergeSort (PySem.W.dataLe false id)) → H p = none → Q (.ref p) (upd H p (.lst ws))
theorem each_of {P : Program} {w : World} {F H : Hp} {h : Heap} (k : Ex F H) (ok : HOk P w H h) : ∀ {vs : List V} {us : List Value} {ds : List D}, RpA F vs ds → Vals vs us → PyData.plainAll ds = true →
    PySem.W.EachIs (fun u (d : D) => ∃ v, RelV v u ∧ Rp F v d) us ds ∧ PySem.W.EachIs (fun u (d : D) => ∃ as, Reads h u (id d) as) us ds
  | _, _, _, .nil, e, _ => by cases e; exact ⟨.nil, .nil⟩
  | _, _, _, .cons r t, e, hp => by
    cases e with
    | cons e1 e2 =>
      rw [PyData.plainAll, Bool.and_eq_true] at hp
      obtain ⟨a, b⟩ := each_of k ok t e2 hp.2
      exact ⟨.cons ⟨_, e1, r⟩ a, .cons (Rp.reads k ok r e1 hp.1) b⟩
theorem of_each {F : Hp} : ∀ {us : List Value} {ds : List D}, PySem.W.EachIs (fun u (d : D) => ∃ v, RelV v u ∧ Rp F v d) us ds → ∃ vs, Vals vs us ∧ RpA F vs ds
  | _, _, .nil => ⟨[], .nil, .nil⟩
  | _, _, .cons ⟨v, e, r⟩ t => by
    obtain ⟨vs, a, b⟩ := of_each t
    exact ⟨v :: vs, .cons e a, .cons r b⟩
theorem call_sortD : CallR X (.builtin "sorted") (rSortD X) := by
  intro pins s σ H xs us Q I rr h
  obtain ⟨F, x, ds, rfl, k, rp, hpl, hal, hso, hu, q⟩ := h
  obtain ⟨u, rfl, rx⟩ := vals1 rr
  cases rp with
  | @lst a ws _ ha rv =>
    cases rx
    obtain ⟨z, its, n, rw', ho⟩ := I.hok _ _ (k _ _ ha)
    obtain ⟨e, er⟩ := each_of k I.hok rv rw' hpl
    have hz : ds.length ≤ sizeLine := by rw [← rv.length]; exact z
    refine PySem.W.sorted_data (bs := ds) (enc := id) (vs := its) (R := fun u (d : D) => ∃ v, RelV v u ∧ Rp F v d) ?_ e er (by rw [List.map_id]; exact hal) (by rw [List.map_id]; exact hso) hz hu ?_
    · exact ⟨_, ho, rfl, _, rfl⟩
    · intro out hl he
      obtain ⟨vs, v1, v2⟩ := of_each he
      obtain ⟨ep, he'⟩ := PyProof.Rows.sortedAll_at s.heap its out.toArray
      have hlen : vs.length ≤ sizeLine := by rw [v2.length, List.length_mergeSort]; exact hz
      exact ⟨.ref _, upd H (s.heap.objs.size + 1) (.lst vs), I.laid (t' := s.toks) (fun _ _ => PyProof.Rows.sortedAll_old) (Nat.le_succ _) ⟨hlen, out, ep, v1, he'⟩, rfl, q _ vs v2 (I.hok.fresh (Nat.le_succ _))⟩
theorem cn_sort {ds : List D} {K : List D → Prop} {k : Nat} (hr : Room k X.A) (h1 : ∀ d ∈ ds, Nice 50 d) (h2 : PySem.W.AllAlike ds) (h3 : PySem.W.Sortable ds) (kd : K (ds.mergeSort (PySem.W.dataLe false id))) : CallN (rSortD X) [.list ds] K := fun F H vs kF rv Q q => by
  cases rv with
  | cons r1 t =>
    cases t
    refine ⟨F, _, ds, rfl, kF, r1, plainAll_of fun d hd => (h1 d hd).pl, h2, h3, fun d hd => ?_, fun p ws rw n => q p ws _ kd n rw⟩
    have := (h1 d hd).dp
    have := hr.un
    omega
theorem jsorted {K : List D → List Sl → Prop} {a : Expr} {p pos : Pos} {k : Nat} (hr : Room k X.A) (hm : X.mg "sorted" = none) (h : JE X r a S fun d S1 => ∃ ds, d = .list ds ∧ (∀ d ∈ ds, Nice 50 d) ∧ PySem.W.AllAlike ds ∧ PySem.W.Sortable ds ∧ K (ds.mergeSort (PySem.W.dataLe false id)) S1) (hg : Gl X "sorted" := by rfl) (hs : starEach [a] X.env = (false, eval a X.env) :: starEach [] X.env := by rfl) : JN X r (.Call (.Name "sorted" p) [a] [] pos) S K :=
  jnB call_sortD hm (ja1 (h.mono fun d S1 ⟨ds, e, h1, h2, h3, k⟩ => ⟨[d], rfl, by rw [e]; exact cn_sort hr h1 h2 h3 k⟩) hs) hg (by decide +kernel) (by decide) (by decide) hs rfl
theorem sort_map {β : Type} {enc : β → D} {le : β → β → Bool} (e : PySem.W.dataLe false enc = le) (l : List β) : (l.map enc).mergeSort (PySem.W.dataLe false id) = (l.mergeSort le).map enc := by
  subst e
  exact (List.map_mergeSort (f := enc) (r := PySem.W.dataLe false enc) (s := PySem.W.dataLe false id) fun a _ b _ => rfl).symm
theorem alike_map {β : Type} {enc : β → D} {l : List β} (h : ∀ b b', PySem.W.alike (enc b) (enc b') = true) : PySem.W.AllAlike (l.map enc) := PySem.W.AllAlike.of h
/-- of ints -/
theorem jsortI {K : List D → List Sl → Prop} {a : Expr} {p pos : Pos} {k : Nat} (hr : Room k X.A) (hm : X.mg "sorted" = none) (h : JE X r a S fun d S1 => ∃ ns : List Int, d = .list (ns.map .int) ∧ ∀ ns' : List Int, ns'.Perm ns → ns'.Pairwise (· ≤ ·) → K (ns'.map .int) S1) (hg : Gl X "sorted" := by rfl) (hs : starEach [a] X.env = (false, eval a X.env) :: starEach [] X.env := by rfl) : JN X r (.Call (.Name "sorted" p) [a] [] pos) S K :=
  jsorted hr hm (h.mono fun d S1 ⟨ns, e, k⟩ => ⟨_, e, nice_map fun a => nice_int a, alike_map fun a b => by simp [PySem.W.alike], PySem.W.Sortable.others fun b => ⟨(by intro z; cases z), (by intro _ z; cases z)⟩, by
    rw [sort_map (PySem.W.dataLe_int fun b => b)]
    refine k _ (List.mergeSort_perm _ _) ?_
    have := List.pairwise_mergeSort (le := fun a b : Int => decide (a ≤ b)) (by intro a b c; simp; omega) (by intro a b; simp; omega) ns
    simpa using this⟩) hg hs
end
end DL

/-! DL: a, b = x, y; truth values without a trace; slices. -/
namespace DL
open PySem L2
section
variable {X : Cx} {r : SR} {S : List Sl}
/-- a, b = x, y: data -/
theorem jpar2 {x y : Str} {a b : Expr} {px py pt pos : Pos} {kt k2 pt2} {E : DE} {rest : List Stmt} (i j : Nat) (h : JE X r a S fun d1 S1 => JE X r b S1 fun d2 S2 => JSs X r rest ((S2.set i (.val d1)).set j (.val d2)) E)
    (hc : X.calm = true := by rfl) (hN : X.N.Nodup := by assumption) (hi : X.N[i]? = some x := by rfl) (hj : X.N[j]? = some y := by rfl) (hij : i ≠ j := by decide) (hx : X.env.scope.names.lookup x = some .local := by rfl) (hy : X.env.scope.names.lookup y = some .local := by rfl)
    (hw : swappedStores [.Tuple [.Name x px, .Name y py] kt pt] (.Tuple [a, b] k2 pt2) X.env = pure (some [x, y]) := by rfl) (hs : swapsWithSole [.Tuple [.Name x px, .Name y py] kt pt] (.Tuple [a, b] k2 pt2) pos.line X.env = pure false := by rfl)
    (s1 : starEach [a, b] X.env = (false, eval a X.env) :: starEach [b] X.env := by rfl) (s2 : starEach [b] X.env = (false, eval b X.env) :: starEach [] X.env := by rfl) :
    JSs X r (.Assign [.Tuple [.Name x px, .Name y py] kt pt] (.Tuple [a, b] k2 pt2) pos :: rest) S E := jss_cons fun c F σ H hr Ev G g =>
  of_ps (ps_par hc hN hi hj hij hx hy (pa_cons pe_tE (pa_cons pe_tE pa_nil s2) s1) hw hs) (h c F σ H hr Ev _ fun v d F1 H1 S1 h1 E1 k1 r1 => h1 c F1 σ H1 hr E1 _ fun v2 d2 F2 H2 S2 h2 E2 k2 r2 =>
    ⟨v, v2, rfl, g.nx F2 _ H2 _ h2 ((E2.set (r1.ex k2)).set r2) (k1.trans k2)⟩)
/-- a, b, c = x, y, z: data -/
theorem jpar3 {x y z : Str} {a b e : Expr} {px py pz pt pos : Pos} {kt k2 pt2} {E : DE} {rest : List Stmt} (i j l : Nat) (h : JE X r a S fun d1 S1 => JE X r b S1 fun d2 S2 => JE X r e S2 fun d3 S3 => JSs X r rest (((S3.set i (.val d1)).set j (.val d2)).set l (.val d3)) E)
    (hc : X.calm = true := by rfl) (hN : X.N.Nodup := by assumption) (hi : X.N[i]? = some x := by rfl) (hj : X.N[j]? = some y := by rfl) (hl : X.N[l]? = some z := by rfl) (hij : i ≠ j := by decide) (hil : i ≠ l := by decide) (hjl : j ≠ l := by decide) (hx : X.env.scope.names.lookup x = some .local := by rfl) (hy : X.env.scope.names.lookup y = some .local := by rfl) (hz : X.env.scope.names.lookup z = some .local := by rfl)
    (hw : swappedStores [.Tuple [.Name x px, .Name y py, .Name z pz] kt pt] (.Tuple [a, b, e] k2 pt2) X.env = pure (some [x, y, z]) := by rfl) (hs : swapsWithSole [.Tuple [.Name x px, .Name y py, .Name z pz] kt pt] (.Tuple [a, b, e] k2 pt2) pos.line X.env = pure false := by rfl)
    (s1 : starEach [a, b, e] X.env = (false, eval a X.env) :: starEach [b, e] X.env := by rfl) (s2 : starEach [b, e] X.env = (false, eval b X.env) :: starEach [e] X.env := by rfl) (s3 : starEach [e] X.env = (false, eval e X.env) :: starEach [] X.env := by rfl) :
    JSs X r (.Assign [.Tuple [.Name x px, .Name y py, .Name z pz] kt pt] (.Tuple [a, b, e] k2 pt2) pos :: rest) S E := jss_cons fun c F σ H hr Ev G g =>
  of_ps (ps_par3 hc hN hi hj hl hij hil hjl hx hy hz (pa_cons pe_tE (pa_cons pe_tE (pa_cons pe_tE pa_nil s3) s2) s1) hw hs) (h c F σ H hr Ev _ fun v d F1 H1 S1 h1 E1 k1 r1 => h1 c F1 σ H1 hr E1 _ fun v2 d2 F2 H2 S2 h2 E2 k2 r2 => h2 c F2 σ H2 hr E2 _ fun v3 d3 F3 H3 S3 h3 E3 k3 r3 =>
    ⟨v, v2, v3, rfl, g.nx F3 _ H3 _ h3 (((E3.set (r1.ex (k2.trans k3))).set (r2.ex k3)).set r3) ((k1.trans k2).trans k3)⟩)
/-- .. the last one a new list -/
theorem jpar3N {x y z : Str} {a b e : Expr} {px py pz pt pos : Pos} {kt k2 pt2} {E : DE} {rest : List Stmt} (i j l : Nat) (h : JE X r a S fun d1 S1 => JE X r b S1 fun d2 S2 => JN X r e S2 fun ds S3 => S3[i]? = some .emp ∧ S3[j]? = some .emp ∧ JSs X r rest (((S3.set i (.val d1)).set j (.val d2)).set l (.own ds)) E)
    (hc : X.calm = true := by rfl) (hN : X.N.Nodup := by assumption) (hi : X.N[i]? = some x := by rfl) (hj : X.N[j]? = some y := by rfl) (hl : X.N[l]? = some z := by rfl) (hij : i ≠ j := by decide) (hil : i ≠ l := by decide) (hjl : j ≠ l := by decide) (hx : X.env.scope.names.lookup x = some .local := by rfl) (hy : X.env.scope.names.lookup y = some .local := by rfl) (hz : X.env.scope.names.lookup z = some .local := by rfl)
    (hw : swappedStores [.Tuple [.Name x px, .Name y py, .Name z pz] kt pt] (.Tuple [a, b, e] k2 pt2) X.env = pure (some [x, y, z]) := by rfl) (hs : swapsWithSole [.Tuple [.Name x px, .Name y py, .Name z pz] kt pt] (.Tuple [a, b, e] k2 pt2) pos.line X.env = pure false := by rfl)
    (s1 : starEach [a, b, e] X.env = (false, eval a X.env) :: starEach [b, e] X.env := by rfl) (s2 : starEach [b, e] X.env = (false, eval b X.env) :: starEach [e] X.env := by rfl) (s3 : starEach [e] X.env = (false, eval e X.env) :: starEach [] X.env := by rfl) :
    JSs X r (.Assign [.Tuple [.Name x px, .Name y py, .Name z pz] kt pt] (.Tuple [a, b, e] k2 pt2) pos :: rest) S E := jss_cons fun c F σ H hr Ev G g =>
  of_ps (ps_par3 hc hN hi hj hl hij hil hjl hx hy hz (pa_cons pe_tE (pa_cons pe_tE (pa_cons pe_tE pa_nil s3) s2) s1) hw hs) (h c F σ H hr Ev _ fun v d F1 H1 S1 h1 E1 k1 r1 => h1 c F1 σ H1 hr E1 _ fun v2 d2 F2 H2 S2 h2 E2 k2 r2 => h2 c F2 σ H2 hr E2 _ fun p ds F3 H3 S3 h3 n k3 => by
    obtain ⟨hh, E3, hp, hv, nF, b, q, no⟩ := n
    obtain ⟨e1, e2, kk⟩ := h3
    have E4 := (E3.set (i := i) (r1.ex (k2.trans k3))).set (i := j) (r2.ex k3)
    refine ⟨v, v2, .ref p, rfl, g.nx F3 _ H3 _ kk (E4.setOwn hp hv nF b q fun m xs em => ?_) ((k1.trans k2).trans k3)⟩
    have hli : i < S3.length := (List.getElem?_eq_some_iff.mp e1).1
    have hlj : j < S3.length := (List.getElem?_eq_some_iff.mp e2).1
    by_cases hm : j = m
    · subst hm
      rw [List.getElem?_set_self (by rw [List.length_set]; exact hlj)] at em; cases em
    · rw [List.getElem?_set_ne hm] at em ⊢
      by_cases hm : i = m
      · subst hm
        rw [List.getElem?_set_self hli] at em; cases em
      · rw [List.getElem?_set_ne hm] at em ⊢
        exact no m xs em)
/-! ### a truth value, whichever; the slots as before -/
def JB (X : Cx) (r : SR) (e : Expr) (S : List Sl) : Prop := JE X r e S fun d S' => S' = S ∧ ∃ k : Bool, d = .bool k
def JBT (X : Cx) (r : SR) (e : Expr) (S : List Sl) : Prop := JT X r e S fun _ S' => S' = S
def JBW (X : Cx) (r : SR) (e : Expr) (S : List Sl) : Prop := JW X r e S fun _ S' => S' = S
theorem jb_one {op : BoolOp} {a : Expr} {pos : Pos} (h : JB X r a S) : JB X r (.BoolOp op [a] pos) S := je_one h
theorem jb_and {a b : Expr} {rest : List Expr} {pos : Pos} (h : JB X r a S) (h2 : JB X r (.BoolOp .And (b :: rest) pos) S) : JB X r (.BoolOp .And (a :: b :: rest) pos) S :=
  je_and (h.mono fun d S' ⟨e, k, ed⟩ => ⟨k, ed, by subst e; exact ifb (fun _ => h2) fun _ => ⟨rfl, false, rfl⟩⟩)
theorem jb_or {a b : Expr} {rest : List Expr} {pos : Pos} (h : JB X r a S) (h2 : JB X r (.BoolOp .Or (b :: rest) pos) S) : JB X r (.BoolOp .Or (a :: b :: rest) pos) S :=
  je_or (h.mono fun d S' ⟨e, k, ed⟩ => ⟨k, ed, by subst e; exact ifb (fun _ => ⟨rfl, true, rfl⟩) fun _ => h2⟩)
theorem jbw_and1 {a : Expr} {pos : Pos} (h : JBT X r a S) : JBW X r (.BoolOp .And [a] pos) S := jw_and1 h
theorem jbw_or1 {a : Expr} {pos : Pos} (h : JBT X r a S) : JBW X r (.BoolOp .Or [a] pos) S := jw_or1 h
theorem jbw_and {a b : Expr} {rest : List Expr} {pos : Pos} (h : JBT X r a S) (h2 : JBW X r (.BoolOp .And (b :: rest) pos) S) : JBW X r (.BoolOp .And (a :: b :: rest) pos) S :=
  jw_and (h.mono fun d S' e => by subst e; exact ifb (fun _ => h2) fun _ => rfl)
theorem jbw_or {a b : Expr} {rest : List Expr} {pos : Pos} (h : JBT X r a S) (h2 : JBW X r (.BoolOp .Or (b :: rest) pos) S) : JBW X r (.BoolOp .Or (a :: b :: rest) pos) S :=
  jw_or (h.mono fun d S' e => by subst e; exact ifb (fun _ => rfl) fun _ => h2)
theorem JBW.t {a : Expr} (h : JBW X r a S) : JBT X r a S := JW.jt h
/-- if, whichever way -/
theorem jifB {t : Expr} {a b rest : List Stmt} {pos : Pos} {E : DE} (h : JBT X r t S) (h1 : JSs X r a S { E with nx := fun S2 => JSs X r rest S2 E }) (h2 : JSs X r b S { E with nx := fun S2 => JSs X r rest S2 E }) : JSs X r (.If t a b pos :: rest) S E :=
  jif (h.mono fun k S' e => by subst e; exact ifb (fun _ => h1) fun _ => h2)
/-- if, never taken -/
theorem jifF {t : Expr} {a b rest : List Stmt} {pos : Pos} {E : DE} (h : JT X r t S fun k S' => k = false ∧ S' = S) (h2 : JSs X r b S { E with nx := fun S2 => JSs X r rest S2 E }) : JSs X r (.If t a b pos :: rest) S E :=
  jif (h.mono fun k S' ⟨e1, e2⟩ => by subst e1; subst e2; exact iff' rfl h2)
/-- .. and both ways meet -/
theorem jifM {N : List Sl → Prop} {t : Expr} {a b rest : List Stmt} {pos : Pos} {E : DE} (h : JBT X r t S) (h1 : JSs X r a S { E with nx := N }) (h2 : JSs X r b S { E with nx := N }) (h3 : ∀ S2, N S2 → JSs X r rest S2 E) : JSs X r (.If t a b pos :: rest) S E :=
  jifB h (h1.mono h3 (fun _ z => z) (fun _ z => z) (fun _ z => z)) (h2.mono h3 (fun _ z => z) (fun _ z => z) (fun _ z => z))
/-- x.append(e), x a list of one's own -/
theorem jappend {e : Expr} {x : Str} {p apos cpos pos : Pos} {E : DE} {rest : List Stmt} (i : Nat) (xs0 : List D)
    (h : JE X r e S fun d S1 => ∃ xs, S1[i]? = some (.own xs) ∧ xs.length < sizeLine ∧ JSs X r rest (S1.set i (.own (xs ++ [d]))) E) (h0 : S[i]? = some (.own xs0) := by rfl)
    (hp : PS X (.Expr (.Call (.Attribute (.Name x p) "append" apos) [e] [] cpos) pos) (tDrop (tBM X.K "list" rAppend (tVar i) (tCons (tE X e) tNil))) := by exact ps_expr (pe_bm PySem.F.plainAttrs_list PySem.F.slot_list_append PySem.F.type_list_append mt_append (pv _) (pa_cons pe_tE pa_nil))) :
    JSs X r (.Expr (.Call (.Attribute (.Name x p) "append" apos) [e] [] cpos) pos :: rest) S E := jss_cons (js_append (rr := fun _ _ _ _ => True) i hp h h0)
/-! ### small displays -/
theorem jtup0 {K : D → List Sl → Prop} {k : Nat} {pos : Pos} (h : K (.tuple []) S) : JE X r (.Tuple [] k pos) S K := je_tup (jA0 ⟨[], rfl, Nat.zero_le _, h⟩)
theorem jtup1 {K : D → List Sl → Prop} {a : Expr} {k : Nat} {pos : Pos} (h : JE X r a S fun d S1 => K (.tuple [d]) S1) (s1 : starEach [a] X.env = (false, eval a X.env) :: starEach [] X.env := by rfl) : JE X r (.Tuple [a] k pos) S K :=
  je_tup (ja1 (h.mono fun d S1 k => ⟨[d], rfl, by show 1 ≤ sizeLine; decide, k⟩) s1)
theorem jtup2 {K : D → List Sl → Prop} {a b : Expr} {k : Nat} {pos : Pos} (h : JE X r a S fun d1 S1 => JE X r b S1 fun d2 S2 => K (.tuple [d1, d2]) S2) (s1 : starEach [a, b] X.env = (false, eval a X.env) :: starEach [b] X.env := by rfl) (s2 : starEach [b] X.env = (false, eval b X.env) :: starEach [] X.env := by rfl) : JE X r (.Tuple [a, b] k pos) S K :=
  je_tup (jA (h.mono fun d1 S1 h2 => ja1 (h2.mono fun d2 S2 k => ⟨[d1, d2], rfl, by show 2 ≤ sizeLine; decide, k⟩) s2) s1)
theorem jlst1 {K : List D → List Sl → Prop} {a : Expr} {pos : Pos} (h : JE X r a S fun d S1 => K [d] S1) (s1 : starEach [a] X.env = (false, eval a X.env) :: starEach [] X.env := by rfl) : JN X r (.List [a] pos) S K :=
  jn_lst (ja1 (h.mono fun d S1 k => ⟨[d], rfl, by show 1 ≤ sizeLine; decide, k⟩) s1)
theorem jlst2 {K : List D → List Sl → Prop} {a b : Expr} {pos : Pos} (h : JE X r a S fun d1 S1 => JE X r b S1 fun d2 S2 => K [d1, d2] S2) (s1 : starEach [a, b] X.env = (false, eval a X.env) :: starEach [b] X.env := by rfl) (s2 : starEach [b] X.env = (false, eval b X.env) :: starEach [] X.env := by rfl) : JN X r (.List [a, b] pos) S K :=
  jn_lst (jA (h.mono fun d1 S1 h2 => ja1 (h2.mono fun d2 S2 k => ⟨[d1, d2], rfl, by show 2 ≤ sizeLine; decide, k⟩) s2) s1)
theorem jA2 {K : List Ar → List Sl → Prop} {a b : Expr} (h : JE X r a S fun d1 S1 => JE X r b S1 fun d2 S2 => K [.d d1, .d d2] S2) (s1 : starEach [a, b] X.env = (false, eval a X.env) :: starEach [b] X.env := by rfl) (s2 : starEach [b] X.env = (false, eval b X.env) :: starEach [] X.env := by rfl) : JA X r [a, b] S K :=
  jA (h.mono fun d1 S1 h2 => ja1 h2 s2) s1
/-! ### slices -/
theorem cutD_from (ds : List D) (k : Nat) : cutD ds (some (k : Int)) none = ds.drop k := by
  unfold cutD
  rw [HT.sIx_none, HT.sIx_nat]
  by_cases h : k ≤ ds.length
  · rw [Nat.min_eq_left h, List.take_of_length_le (by rw [List.length_drop]; exact Nat.le_refl _)]
  · have e : min k ds.length = ds.length := Nat.min_eq_right (by omega)
    rw [e, List.drop_of_length_le (Nat.le_refl _), List.drop_of_length_le (by omega), List.take_nil]
theorem cutD_to (ds : List D) (k : Nat) : cutD ds none (some (k : Int)) = ds.take k := by
  unfold cutD
  rw [HT.sIx_none, HT.sIx_nat, List.drop_zero, Nat.sub_zero]
  by_cases h : k ≤ ds.length
  · rw [Nat.min_eq_left h]
  · rw [Nat.min_eq_right (by omega), List.take_length, List.take_of_length_le (by omega)]
theorem cutD_last (ds : List D) : cutD ds none (some (-1)) = ds.dropLast := by
  unfold cutD
  rw [HT.sIx_none, List.drop_zero, Nat.sub_zero]
  have e : HT.sIx ds.length ds.length (some (-1)) = ds.length - 1 := by
    show (if (-1 : Int) < 0 then ((-1 : Int) + (ds.length : Int)).toNat else min (-1 : Int).toNat ds.length) = _
    rw [if_pos (by decide)]; omega
  rw [e, List.dropLast_eq_take]
theorem atI_last {ds : List D} {d : D} (h : ds.getLast? = some d) : atI ds (-1) = some d := by
  rw [List.getLast?_eq_getElem?] at h
  have hl := (List.getElem?_eq_some_iff.mp h).1
  unfold atI
  have e : ixN ds.length (-1) = some (ds.length - 1) := by
    unfold ixN
    rw [if_neg (by decide)]
    split
    · congr 1; omega
    · omega
  rw [e]
  exact h
end
end DL

/-! DL: dicts whose keys are tuples of ints. -/
namespace DL
open PySem L2
/-! ### the data -/
def putD (kvs : List (List Int × D)) (k : List Int) (d : D) : List (List Int × D) :=
  if (kvs.any fun kv => decide (kv.1 = k)) = true then kvs.map (fun kv => if kv.1 = k then (kv.1, d) else kv) else kvs ++ [(k, d)]
def mergeD (kvs more : List (List Int × D)) : List (List Int × D) := more.foldl (fun acc p => putD acc p.1 p.2) kvs
def entD (p : List Int × D) : D := .tuple [.tuple (p.1.map .int), p.2]
/-- keys alone, as a set -/
def uni {α : Type} [DecidableEq α] (a b : List α) : List α := b.foldl (fun acc k => if k ∈ acc then acc else acc ++ [k]) a
def kvL (ks : List (List Int)) : List (List Int × D) := ks.map fun k => (k, .int 0)
section
variable {α : Type} [DecidableEq α]
theorem mem_uni {x : α} : ∀ (b a : List α), x ∈ uni a b ↔ x ∈ a ∨ x ∈ b
  | [], a => by show x ∈ a ↔ _; simp
  | k :: b, a => by
    show x ∈ uni (if k ∈ a then a else a ++ [k]) b ↔ _
    rw [mem_uni b]
    by_cases e : k ∈ a
    · rw [if_pos e, List.mem_cons]
      constructor
      · rintro (h | h)
        · exact .inl h
        · exact .inr (.inr h)
      · rintro (h | rfl | h)
        · exact .inl h
        · exact .inl e
        · exact .inr h
    · rw [if_neg e, List.mem_append, List.mem_singleton, List.mem_cons, or_assoc]
theorem nodup_uni : ∀ (b a : List α), a.Nodup → (uni a b).Nodup
  | [], _, h => h
  | k :: b, a, h => by
    show (uni (if k ∈ a then a else a ++ [k]) b).Nodup
    by_cases e : k ∈ a
    · rw [if_pos e]; exact nodup_uni b a h
    · rw [if_neg e]
      refine nodup_uni b _ ?_
      rw [List.nodup_append]
      refine ⟨h, by simp, fun x hx y hy => ?_⟩
      rw [List.mem_singleton.mp hy]
      intro z; rw [z] at hx; exact e hx
theorem uni_len : ∀ (b a : List α), (uni a b).length ≤ a.length + b.length
  | [], a => Nat.le_refl _
  | k :: b, a => by
    have h := uni_len b (if k ∈ a then a else a ++ [k])
    show (uni (if k ∈ a then a else a ++ [k]) b).length ≤ _
    rw [List.length_cons]
    by_cases e : k ∈ a
    · rw [if_pos e] at h ⊢; omega
    · rw [if_neg e] at h ⊢
      rw [List.length_append, List.length_singleton] at h
      omega
end
theorem putD_kvL (a : List (List Int)) (k : List Int) : putD (kvL a) k (.int 0) = kvL (uni a [k]) := by
  unfold putD uni
  simp only [List.foldl_cons, List.foldl_nil]
  have e : ((kvL a).any fun kv => decide (kv.1 = k)) = decide (k ∈ a) := by
    unfold kvL
    rw [List.any_map]
    induction a with
    | nil => rfl
    | cons x a ih =>
      rw [List.any_cons, ih]
      by_cases h : x = k
      · subst h; simp
      · have : ¬ k = x := fun z => h z.symm
        simp [h, this]
  rw [e]
  by_cases h : k ∈ a
  · rw [if_pos (by simpa using h), if_pos h]
    unfold kvL
    rw [List.map_map]
    refine List.map_congr_left fun x hx => ?_
    by_cases e2 : x = k
    · subst e2; simp
    · simp [e2]
  · rw [if_neg (by simpa using h), if_neg h]
    unfold kvL
    rw [List.map_append]
    rfl
theorem mergeD_kvL : ∀ (b a : List (List Int)), mergeD (kvL a) (kvL b) = kvL (uni a b)
  | [], _ => rfl
  | k :: b, a => by
    show mergeD (putD (kvL a) k (.int 0)) (kvL b) = _
    rw [putD_kvL, mergeD_kvL b]
    rfl
theorem kvL_length (ks : List (List Int)) : (kvL ks).length = ks.length := by unfold kvL; rw [List.length_map]
theorem putD_len (kvs : List (List Int × D)) (k : List Int) (d : D) : (putD kvs k d).length ≤ kvs.length + 1 := by
  unfold putD
  split
  · rw [List.length_map]; omega
  · rw [List.length_append]; exact Nat.le_refl _
theorem mergeD_len : ∀ (more kvs : List (List Int × D)), (mergeD kvs more).length ≤ kvs.length + more.length
  | [], kvs => Nat.le_refl _
  | p :: more, kvs => by
    have := mergeD_len more (putD kvs p.1 p.2)
    have := putD_len kvs p.1 p.2
    show (mergeD (putD kvs p.1 p.2) more).length ≤ _
    rw [List.length_cons]
    omega
/-! ### its values -/
def kI (k : List Int) : List Key := k.map Sum.inl
theorem kI_inj {a b : List Int} (h : kI a = kI b) : a = b := by
  induction a generalizing b with
  | nil => cases b with
    | nil => rfl
    | cons y b => cases h
  | cons x a ih => cases b with
    | nil => cases h
    | cons y b =>
      have h : (Sum.inl x : Key) :: kI a = Sum.inl y :: kI b := h
      injection h with h1 h2
      injection h1 with h1
      rw [h1, ih h2]
theorem RpK.length {F : Hp} : ∀ {ws : List (List Key × V)} {kvs : List (List Int × D)}, RpK F ws kvs → ws.length = kvs.length
  | _, _, .nil => rfl
  | _, _, .cons _ t => by rw [List.length_cons, List.length_cons, RpK.length t]
theorem RpK.any {F : Hp} (k : List Int) : ∀ {ws : List (List Key × V)} {kvs : List (List Int × D)}, RpK F ws kvs → (ws.any fun kv => decide (kv.1 = kI k)) = kvs.any fun kv => decide (kv.1 = k)
  | _, _, .nil => rfl
  | _, _, .cons (k := k0) _ t => by
    rw [List.any_cons, List.any_cons, RpK.any k t]
    have e : decide (List.map Sum.inl k0 = kI k) = decide (k0 = k) := decide_eq_decide.mpr ⟨fun z => kI_inj z, fun z => by rw [z]; rfl⟩
    rw [e]
theorem RpK.repl {F : Hp} {v : V} {d : D} (k : List Int) (r : Rp F v d) : ∀ {ws : List (List Key × V)} {kvs : List (List Int × D)}, RpK F ws kvs → RpK F (ws.map fun kv => if kv.1 = kI k then (kv.1, v) else kv) (kvs.map fun kv => if kv.1 = k then (kv.1, d) else kv)
  | _, _, .nil => .nil
  | _, _, .cons (k := k0) r0 t => by
    rw [List.map_cons, List.map_cons]
    by_cases e : k0 = k
    · subst e
      rw [if_pos rfl, if_pos (show List.map Sum.inl k0 = kI k0 from rfl)]
      exact .cons r (RpK.repl k0 r t)
    · rw [if_neg e, if_neg (show ¬ (List.map Sum.inl k0 = kI k) from fun z => e (kI_inj z))]
      exact .cons r0 (RpK.repl k r t)
theorem RpK.snoc {F : Hp} {v : V} {d : D} (k : List Int) (r : Rp F v d) : ∀ {ws : List (List Key × V)} {kvs : List (List Int × D)}, RpK F ws kvs → RpK F (ws ++ [(kI k, v)]) (kvs ++ [(k, d)])
  | _, _, .nil => .cons r .nil
  | _, _, .cons r0 t => .cons r0 (RpK.snoc k r t)
theorem RpK.put {F : Hp} {v : V} {d : D} {k : List Int} {ws : List (List Key × V)} {kvs : List (List Int × D)} (h : RpK F ws kvs) (r : Rp F v d) : RpK F (putK ws (kI k) v) (putD kvs k d) := by
  unfold putK putD
  rw [h.any k]
  split
  · exact h.repl k r
  · exact h.snoc k r
def mergeT (ws more : List (List Key × V)) : List (List Key × V) := more.foldl (fun acc p => putK acc p.1 p.2) ws
theorem RpK.merge {F : Hp} : ∀ {ws2 : List (List Key × V)} {kvs2 : List (List Int × D)} {ws : List (List Key × V)} {kvs : List (List Int × D)}, RpK F ws2 kvs2 → RpK F ws kvs → RpK F (mergeT ws ws2) (mergeD kvs kvs2)
  | _, _, _, _, .nil, h => h
  | _, _, ws, kvs, .cons (k := k) (v := v) (d := d) (ws := ws2) (kvs := kvs2) r t, h => by
    show RpK F (mergeT (putK ws (kI k) v) ws2) (mergeD (putD kvs k d) kvs2)
    exact RpK.merge t (h.put (k := k) r)
theorem KT.merge {H : Hp} : ∀ {more : List (List Key × V)} {xs2 : List (List Key × Addr × Value)} {ws : List (List Key × V)} {xs : List (List Key × Addr × Value)}, KT H more xs2 → KT H ws xs → KT H (mergeT ws more) (storedAllH xs xs2)
  | _, _, _, _, .nil, h => h
  | (k, v) :: m2, (k', b, u) :: x2, ws, xs, .cons z t, h => by
    obtain ⟨e, hb, r⟩ := z
    simp only at e hb r
    subst e
    show KT H (mergeT (putK ws k v) m2) (storedAllH (storedH xs k b u) x2)
    exact KT.merge t (KT.put h k hb r)
/-! ### dict(xs) -/
section
variable {X : Cx}
theorem RpA.tupI {F : Hp} {k : List Int} {vs : List V} (r : RpA F vs (k.map .int)) : vs = (kI k).map kV := by
  rw [RpA.ints_of r]
  unfold kI
  rw [List.map_map]
  rfl
theorem ents_of {P : Program} {w : World} {F H : Hp} {h : Heap} (k : Ex F H) (ok : HOk P w H h) : ∀ {vs : List V} {us : List Value} {ps : List (List Int × D)}, RpA F vs (ps.map entD) → Vals vs us →
    ∃ (ts : List Addr) (xs : List (List Key × Addr × Value)) (ws : List (List Key × V)), us = ts.map Value.ref ∧ xs.length = ts.length ∧ RpK F ws ps ∧ KT H ws xs ∧ ∀ (j : Nat) x, xs[j]? = some x → ∃ t, ts[j]? = some t ∧ PairAt h t (.ref x.2.1) x.2.2
  | _, _, [], r, v => by
    cases r
    cases v
    exact ⟨[], [], [], rfl, rfl, .nil, .nil, fun j x e => by simp at e⟩
  | _, _, p :: ps, r, v => by
    rw [List.map_cons] at r
    cases r with
    | cons r1 rt =>
      cases v with
      | cons v1 vt =>
        obtain ⟨ts, xs, ws, e1, e2, e3, e4, e5⟩ := ents_of k ok rt vt
        cases r1 with
        | @tup t zs _ ht hz =>
          cases hz with
          | @cons z1 _ zs1 _ a1 at1 =>
            cases at1 with
            | @cons z2 _ zs2 _ a2 at2 =>
              cases at2
              cases a1 with
              | @tup b ys _ hb hy =>
                have ey := RpA.tupI hy
                subst ey
                cases v1
                obtain ⟨_, its, rv, hT⟩ := (show ObjOk P w H h t (.tup [.ref b, z2]) from ok _ _ (k _ _ ht))
                obtain ⟨u1, u2, ei, r1, r2⟩ := vals2 rv
                subst ei
                cases r1
                refine ⟨t :: ts, (kI p.1, b, u2) :: xs, (kI p.1, z2) :: ws, by rw [e1]; rfl, by rw [List.length_cons, List.length_cons, e2], .cons a2 e3, .cons ⟨rfl, k _ _ hb, r2⟩ e4, fun j x e => ?_⟩
                cases j with
                | zero =>
                  cases e
                  exact ⟨t, rfl, .inl hT⟩
                | succ j =>
                  obtain ⟨t', f1, f2⟩ := e5 j x (by simpa using e)
                  exact ⟨t', by simpa using f1, f2⟩
def rDictT : List V → Hp → VK → Prop := fun vs H Q => ∃ F x ps, vs = [x] ∧ Ex F H ∧ Rp F x (.list (ps.map entD)) ∧ ∀ p ws, RpK F ws (mergeD [] ps) → H p = none → Q (.ref p) (upd H p (.dT ws))
theorem call_dictT (hcalm : X.calm = true) (hu : X.A.units + 2 < cLine) : CallR X (.type "dict") rDictT := by
  intro pins s σ H xs us Q I rr h
  obtain ⟨F, x, ps, rfl, k, rp, q⟩ := h
  obtain ⟨u, rfl, rx⟩ := vals1 rr
  cases rp with
  | @lst a ws _ ha rv =>
    cases rx
    obtain ⟨z, its, n, rw', ho⟩ := (show ObjOk X.prog X.w H s.heap a (.lst ws) from I.hok _ _ (k _ _ ha))
    obtain ⟨ts, ys, w2, e1, e2, e3, e4, e5⟩ := ents_of k I.hok rv rw'
    subst e1
    have hz : ys.length ≤ sizeLine := by
      have := rw'.length
      rw [List.length_map] at this
      omega
    have hp : PairItems s.heap (ts.map Value.ref).toArray (fun j => ts.getD j 0) (ys.map fun y => (Value.ref y.2.1, y.2.2)) := by
      refine ⟨by simp [e2], fun j kk v e => ?_⟩
      rw [List.getElem?_map] at e
      cases ey : ys[j]? with
      | none => rw [ey] at e; cases e
      | some y =>
        rw [ey] at e
        cases e
        obtain ⟨t, f1, f2⟩ := e5 j y ey
        have g : ts.getD j 0 = t := by rw [List.getD_eq_getElem?_getD, f1]; rfl
        show (List.map Value.ref ts).toArray[j]? = some (Value.ref (ts.getD j 0)) ∧ PairAt s.heap (ts.getD j 0) _ _
        rw [g]
        exact ⟨by simp [f1], f2⟩
    refine call_dict_pairsH (knd := tupleKind (mixKind X.prog X.w)) (ps := ys) (PairArg.list a (ts.map Value.ref).toArray (fun j => ts.getD j 0) (ys.map fun y => (Value.ref y.2.1, y.2.2))) (I.ok.hd hcalm) hu ⟨⟨_, n, ho, rfl, rfl, rfl⟩, hp⟩ ⟨by rw [List.length_map], fun i key v hrel => ?_⟩ (fun h' hk y hy => ?_) (by rw [List.length_map]; exact hz) fun h' tk hd' hk => ?_
    · have hrel : (ys.map fun y => (Value.ref y.2.1, y.2.2))[i]? = some (key, v) := hrel
      rw [List.getElem?_map] at hrel
      cases ey : ys[i]? with
      | none => rw [ey] at hrel; cases hrel
      | some y =>
        rw [ey] at hrel
        cases hrel
        exact ⟨y.1, y.2.1, rfl, rfl⟩
    · have all : ∀ {l : List (List Key × V)} {m : List (List Key × Addr × Value)}, KT H l m → ∀ x ∈ m, H x.2.1 = some (.tup (x.1.map kV)) := by
        intro l m q
        induction q with
        | nil => intro x hx; exact nomatch hx
        | @cons p q ps qs hq t ih =>
          intro x hx
          rcases List.mem_cons.mp hx with e | hx
          · subst e; rw [← hq.1]; exact hq.2.1
          · exact ih x hx
      have hb := all e4 y hy
      obtain ⟨_, its, r, o, h1, h2, n, h3⟩ := (show ObjOk X.prog X.w H s.heap y.2.1 (.tup (y.1.map kV)) from I.hok _ _ hb)
      exact ⟨o, its.toArray, n, hk _ _ (Nat.ne_of_lt (Heap.lt_size h1)) (by simp) h1, h2, h3, by simpa using items_are r⟩
    · have hm : (s.heap.objs.size == sysModules) = false := beq_eq_false_iff_ne.mpr (Nat.ne_of_gt I.big)
      have hlen : (mergeT [] w2).length ≤ sizeLine := by
        rw [(RpK.merge (ws := []) (kvs := []) e3 .nil).length]
        refine Nat.le_trans (mergeD_len _ _) ?_
        rw [List.length_nil, Nat.zero_add, ← e3.length]
        have := Paired.length e4
        omega
      obtain ⟨o, es, ep, g1, g2, g3, g4, _, g5⟩ := hd'
      refine ⟨.ref s.heap.objs.size, upd H s.heap.objs.size (.dT (mergeT [] w2)), I.laid (t' := tk) (fun b o e => hk b o (by simp) e) (Nat.le_refl _) ⟨hlen, hm, _, (KT.merge e4 .nil).keeps fun b ys eb => ?_, o, es, ep, g1, g2, g3, g4, g5⟩, rfl, q _ _ (RpK.merge e3 .nil) (I.hok.fresh (Nat.le_refl _))⟩
      rw [upd_ne (ne_of_none eb (I.hok.fresh (Nat.le_refl _)))]
      exact eb
/-! ### d.update(e) -/
def rUpdT : V → List V → Hp → VK → Prop := fun x vs H Q => ∃ (a b : Addr) (kvs more : List (List Key × V)), x = .ref a ∧ vs = [.ref b] ∧ a ≠ b ∧ H a = some (.dT kvs) ∧ H b = some (.dT more) ∧ kvs ≠ [] ∧ kvs.length + more.length ≤ sizeLine ∧ Q .non (upd H a (.dT (mergeT kvs more)))
theorem length_mergeT : ∀ (more kvs : List (List Key × V)), (mergeT kvs more).length ≤ kvs.length + more.length
  | [], kvs => Nat.le_refl _
  | p :: more, kvs => by
    have := length_mergeT more (putK kvs p.1 p.2)
    have := length_putK kvs p.1 p.2
    show (mergeT (putK kvs p.1 p.2) more).length ≤ _
    rw [List.length_cons]
    omega
theorem mt_updT (hu : X.A.units + 2 < cLine) : MtR X "dict.update" rUpdT := by
  intro pins s σ H x vs v us Q I rx rv h
  obtain ⟨a, b, kvs, more, ex, ev, hne, ha, hb, h0, hl, q⟩ := h
  subst ex
  subst ev
  obtain rfl : v = Value.ref a := rx
  obtain ⟨u, rfl, ru⟩ := rv.one
  obtain rfl : u = Value.ref b := ru
  obtain ⟨z1, d1, xs1, rel1, dd1⟩ := dt_of I.hok ha
  obtain ⟨z2, d2, xs2, rel2, dd2⟩ := dt_of I.hok hb
  have l1 := Paired.length rel1
  have l2 := Paired.length rel2
  have hx : xs1 ≠ [] := fun z => by rw [z] at l1; exact h0 (List.length_eq_zero_iff.mp l1)
  refine call_update_dictH (knd := tupleKind (mixKind X.prog X.w)) (show X.A.units + 1 < cLine by omega) hne d2 dd1 dd2 (.inl hx) (by omega) fun h' dd' _ hs => ?_
  have he : ∃ q, h'.get? a = some q := let ⟨q, _, _, hq, _⟩ := dd'; ⟨q, hq⟩
  have hlen : (mergeT kvs more).length ≤ sizeLine := Nat.le_trans (length_mergeT more kvs) hl
  obtain ⟨o, es, ep, g1, g2, g3, g4, _, g5⟩ := dd'
  refine ⟨.non, _, d_write (t' := s.toks) (ob := .dT (mergeT kvs more)) I (by rw [ha]; exact True.intro) hs he ⟨hlen, d1, _, (KT.merge rel2 rel1).keeps fun c ys ec => ?_, o, es, ep, g1, g2, g3, g4, g5⟩, rfl, q⟩
  rw [upd_ne (ne_of ec ha (fun z => nomatch z))]
  exact ec
end
end DL

/-! DL: dicts with tuple keys as objects of one's own: dict(..), update, comprehensions over them. -/
namespace DL
open PySem L2
section
variable {X : Cx} {r : SR} {S : List Sl}
/-- dict([(k, v), ..]) -/
theorem jdict {K : OB → List Sl → Prop} {a : Expr} {p pos : Pos} {k : Nat} (hr : Room k X.A) (hm : X.mg "dict" = none) (h : JE X r a S fun d S1 => ∃ ps : List (List Int × D), d = .list (ps.map entD) ∧ K (.d (mergeD [] ps)) S1) (hc : X.calm = true := by rfl) (hg : Gl X "dict" := by rfl) (hs : starEach [a] X.env = (false, eval a X.env) :: starEach [] X.env := by rfl) :
    JO X r (.Call (.Name "dict" p) [a] [] pos) S K := fun c F σ H hr' E Q q =>
  of_pe (pe_callTy (call_dictT hc (by have := hr.un; omega)) hg hm (by decide +kernel) (pa_cons pe_tE pa_nil hs) (by decide) (by decide) hs rfl) (h c F σ H hr' E _ fun v d F1 H1 S1 h1 E1 k1 r1 => by
    obtain ⟨ps, rfl, kd⟩ := h1
    exact ⟨F1, v, ps, rfl, E1.fin.fh, r1, fun p ws rw' n => q p _ F1 _ S1 kd (newL_ob (h := .dT ws) (o := .d (mergeD [] ps)) E1 n rw') k1⟩)
theorem int_map_inj : ∀ {a b : List Int}, a.map PyData.int = b.map PyData.int → a = b
  | [], [], _ => rfl
  | [], _ :: _, e => by cases e
  | _ :: _, [], e => by cases e
  | x :: a, y :: b, e => by
    rw [List.map_cons, List.map_cons] at e
    injection e with e1 e2
    injection e1 with e1
    rw [e1, int_map_inj e2]
theorem dctD_inj : ∀ {a b : List (List Int × D)}, dctD a = dctD b → a = b := fun {a b} h => by
  unfold dctD at h
  injection h with h
  induction a generalizing b with
  | nil => cases b with
    | nil => rfl
    | cons y b => cases h
  | cons x a ih => cases b with
    | nil => cases h
    | cons y b =>
      rw [List.map_cons, List.map_cons] at h
      injection h with h1 h2
      injection h1 with h1 h3
      injection h1 with h1
      obtain ⟨x1, x2⟩ := x
      obtain ⟨y1, y2⟩ := y
      simp only at h1 h3
      rw [int_map_inj h1, h3, ih h2]
theorem dctD_ne_ft {kvs : List (List Int × D)} {ds : List D} (e : dctD kvs = ft ds) : False := by
  unfold dctD ft at e
  injection e with e
  cases kvs with
  | nil => cases e
  | cons p t =>
    rw [List.map_cons] at e
    injection e with e1 _
    have := congrArg Prod.fst e1
    cases this
theorem rp_dct {F : Hp} {v : V} {kvs : List (List Int × D)} (r : Rp F v (dctD kvs)) : ∃ a ws, v = .ref a ∧ F a = some (.dT ws) ∧ RpK F ws kvs := by
  generalize e : dctD kvs = d at r
  cases r with
  | dct ha rk =>
    have := dctD_inj e
    subst this
    exact ⟨_, _, rfl, ha, rk⟩
  | ftup => exact (dctD_ne_ft e).elim
  | _ => unfold dctD at e; cases e
/-- x.update(e), x a dict of one's own, not empty -/
theorem jupd {e : Expr} {x : Str} {p apos cpos pos : Pos} {E : DE} {rest : List Stmt} {k : Nat} (hr : Room k X.A) (i : Nat) (kvs0 : List (List Int × D))
    (h : JE X r e S fun d S1 => ∃ kvs more, d = dctD more ∧ S1[i]? = some (.ob (.d kvs)) ∧ kvs ≠ [] ∧ kvs.length + more.length ≤ sizeLine ∧ JSs X r rest (S1.set i (.ob (.d (mergeD kvs more)))) E) (h0 : S[i]? = some (.ob (.d kvs0)) := by rfl)
    (hp : ∀ {rr : V → List V → Hp → VK → Prop}, MtR X "dict.update" rr → PS X (.Expr (.Call (.Attribute (.Name x p) "update" apos) [e] [] cpos) pos) (tDrop (tBM X.K "dict" rr (tVar i) (tCons (tE X e) tNil))) := by exact fun hm => ps_expr (pe_bm PySem.F.plainAttrs_dict PySem.F.slot_dict_update PySem.F.type_dict_update hm (pv _) (pa_cons pe_tE pa_nil))) :
    JSs X r (.Expr (.Call (.Attribute (.Name x p) "update" apos) [e] [] cpos) pos :: rest) S E := jss_cons fun c F σ H hr' Ev G g => of_ps (hp (mt_updT (by have := hr.un; omega))) (by
  obtain ⟨y, e1, a, hh, e2, ha, rv, nF, nb, q0⟩ := Ev.sl i _ h0
  subst e2
  obtain ⟨vs, rfl, rv⟩ := obr_d rv
  refine ⟨.ref a, e1, .inr (.inr (.inl ⟨rfl, .inr ⟨_, ha⟩⟩)), h c F σ H hr' Ev _ fun v d F1 H1 S1 h1 E1 k1 r1 => ?_⟩
  obtain ⟨kvs, more, rfl, e3, hne, hl, kx⟩ := h1
  obtain ⟨y, e1', a', hh', e2', ha', rv', nF', _⟩ := E1.sl i _ e3
  rw [e1] at e1'; cases e1'; cases e2'
  obtain ⟨ws, rfl, rv'⟩ := obr_d rv'
  obtain ⟨b, ws2, rfl, hb, rk⟩ := rp_dct r1
  have hab : a ≠ b := fun z => by rw [z, hb] at nF'; cases nF'
  have hw0 : ws ≠ [] := fun z => by
    have := rv'.length
    rw [z] at this
    exact hne (List.length_eq_zero_iff.mp this.symm)
  exact ⟨a, b, ws, ws2, rfl, rfl, hab, ha', E1.fin.fh _ _ hb, hw0, by rw [rv'.length, rk.length]; exact hl, g.nx F1 σ _ _ kx (E1.write (vs := .dT (mergeT ws ws2)) (ds := .d (mergeD kvs more)) e3 e1 (RpK.merge rk rv')) k1⟩)
/-! ### over the keys -/
def keysD (kvs : List (List Int × D)) : List D := kvs.map fun p => .tuple (p.1.map .int)
theorem RpK.key {F : Hp} : ∀ {ws : List (List Key × V)} {kvs : List (List Int × D)} {i : Nat} {k : List Key} {v : V}, RpK F ws kvs → ws[i]? = some (k, v) → ∃ k0 d, kvs[i]? = some (k0, d) ∧ k = kI k0
  | _, _, _, _, _, .nil, e => by simp at e
  | _, _, 0, _, _, .cons _ _, e => by simp at e; exact ⟨_, _, rfl, e.1.symm⟩
  | _, _, i + 1, k, v, .cons _ t, e => by
    obtain ⟨k0, d, h1, h2⟩ := RpK.key (i := i) (k := k) (v := v) t (by simpa using e)
    exact ⟨k0, d, by simpa using h1, h2⟩
theorem RpA.kI {F : Hp} : ∀ k : List Int, RpA F ((DL.kI k).map kV) (k.map .int)
  | [] => .nil
  | x :: k => .cons (.int x) (RpA.kI k)
theorem itkt_d {B F : Hp} {d : Addr} {od : Obj} {ws : List (List Key × V)} {kvs : List (List Int × D)} (hb : B d = some (.frz od (.dT ws))) (rk : RpK F ws kvs) : ItD (Itkt d od ws) B F (keysD kvs) := by
  have hl : (keysD kvs).length = ws.length := by unfold keysD; rw [List.length_map, rk.length]
  refine ⟨fun i H kb k hi => ⟨kb _ _ hb, by omega⟩, fun i H kb k hi => ⟨kb _ _ hb, by omega⟩, fun i H x H' kb k y hi => ?_⟩
  obtain ⟨e, kk, v, q, h1, h2, h3⟩ := y
  obtain ⟨k0, d0, g1, g2⟩ := rk.key h1
  refine .inr (.inr ⟨q, _, k0.map .int, h2, h3, e, by rw [g2]; exact RpA.kI k0, ?_⟩)
  unfold keysD
  rw [List.getElem?_map, g1]
  rfl
/-- [.. for y in x], x a dict of one's own -/
theorem jn_lcK {elt tg : Expr} {ifs : List Expr} {scope : Scope} {x : Str} {px pos : Pos} (i : Nat) (own : List (Str × Nat)) (ts : List Nat) {K : List D → List Sl → Prop} {kvs : List (List Int × D)} (e : S[i]? = some (.ob (.d kvs)))
    (h : ∃ I : Nat → List D → List Sl → Prop, I 0 [] (S.set i .emp) ∧ (∀ j acc S', I j acc S' → j ≤ kvs.length → acc.length < sizeLine ∧ S'[i]? = some .emp ∧ ∀ j ∈ own.map (·.2), ∀ xs, S'[j]? ≠ some (.ob xs)) ∧
      (∀ j d acc S', (keysD kvs)[j]? = some d → I j acc S' → LcTurn X r scope tg elt ifs (own.map (·.2)) ts d S' (fun y S4 => I (j + 1) (acc ++ [y]) S4) fun S4 => I (j + 1) acc S4) ∧ ∀ acc S', I kvs.length acc S' → K acc (S'.set i (.ob (.d kvs))))
    (hc : X.calm = true := by rfl) (hN : X.N.Nodup := by assumption) (ok : BlkOk X.N X.env.scope scope own := by exact blkOk_by rfl) (hs : ∀ y, foldedSetIterable (.Name x px) X.env y = pure y := by intro _; rfl) (hts : ∀ j ∈ ts, j ∈ own.map (·.2) := by decide)
    (hNi : X.N[i]? = some x := by rfl) (hv : Vis X.env.scope x := by first | exact Or.inl rfl | exact Or.inr (Or.inl rfl) | exact Or.inr (Or.inr rfl)) (hd : (x == ("__debug__" : Str)) = false := by decide) (hcd : (x == ("__classdict__" : Str)) = false := by decide) :
    JN X r (.ListComp elt [⟨tg, .Name x px, ifs, 0⟩] scope pos) S K := fun c F σ H hr E Q q => by
  obtain ⟨y, e1, d, hh, e2, ha, rv, nF, nB, ns⟩ := E.sl i _ e
  subst e2
  obtain ⟨ws, rfl, rk⟩ := obr_d rv
  have hl : i < S.length := (List.getElem?_eq_some_iff.mp e).1
  have nF0 : c.F0 d = none := E.fin.f0.back nF
  have E0 := E.hide (i := i) hl
  have no : ∀ (j : Nat) xs, (S.set i .emp)[j]? = some (.ob xs) → σ[j]? ≠ some (some (.ref d)) := fun j xs ej ea => by
    by_cases hj : i = j
    · subst hj; rw [List.getElem?_set_self hl] at ej; cases ej
    · rw [List.getElem?_set_ne hj] at ej
      exact hj (E.ds i j _ _ d e ej e1 ea)
  have kl : (keysD kvs).length = kvs.length := by unfold keysD; rw [List.length_map]
  obtain ⟨I, i0, side, step, fin⟩ := h
  refine of_pe (pe_lock (pe_lc hc hN (pi_keys (pe_var hNi hv hd hcd)) ok pg_tGb pts_tTsb pe_tEb hs)) ⟨d, .dT ws, ha, True.intro, fun od => ?_⟩
  have E1 : EvD c (S.set i .emp) F σ (upd H d (.frz od (.dT ws))) := E0.put nF nB ns no
  have E2 := E1.hold upd_same nF ns no
  have run : JIw (iKeys (tVar i)) (c.hold d (.frz od (.dT ws))) F σ (upd H d (.frz od (.dT ws))) fun ds S' => (∃ I : Nat → List D → List Sl → Prop, I 0 [] S' ∧ (∀ i acc S', I i acc S' → i ≤ ds.length → acc.length < sizeLine ∧ ∀ j ∈ own.map (·.2), ∀ xs, S'[j]? ≠ some (.ob xs)) ∧
      (∀ i d acc S', ds[i]? = some d → I i acc S' → LcTurn X r scope tg elt ifs (own.map (·.2)) ts d S' (fun y S4 => I (i + 1) (acc ++ [y]) S4) fun S4 => I (i + 1) acc S4) ∧ ∀ acc S', I ds.length acc S' → (S'[i]? = some .emp ∧ K acc (S'.set i (.ob (.d kvs))))) := fun R k => by
    refine ⟨.ref d, e1, d, od, rfl, .inr ⟨ws, upd_same, k _ (keysD kvs) F _ _ ⟨I, i0, fun j acc S' hI hj => ?_, step, fun acc S' hI => ?_⟩ E2 (Ex.refl F) (itkt_d (show upd c.B d _ d = _ from upd_same) rk)⟩⟩
    · obtain ⟨s1, _, s2⟩ := side j acc S' hI (by omega)
      exact ⟨s1, s2⟩
    · rw [kl] at hI
      exact ⟨(side _ acc S' hI (Nat.le_refl _)).2.1, fin acc S' hI⟩
  refine lc_runc (r := r) (K := fun acc S' => S'[i]? = some .emp ∧ K acc (S'.set i (.ob (.d kvs)))) ts hts (c.hold d (.frz od (.dT ws))) F σ _ (r.st _ _ _ nB hr) _ (fun p ds F' H' S' kk n kF => ?_) run
  obtain ⟨e3, kk⟩ := kk
  obtain ⟨h9, E3, g1, g2, g3, g4, g5, g6⟩ := n
  have hpd : p ≠ d := fun z => by rw [z, show (c.hold d (.frz od (.dT ws))).B d = some _ from upd_same] at g4; cases g4
  obtain ⟨E4, f1, f2, f3, f4⟩ := E3.unhold (vs := .frz od (.dT ws)) (fun _ z => nomatch z) nB nF0
  have E5 : EvD c S' F' σ (upd H' d (.dT ws)) := E4.put f2 nB f3 f4
  have es : σ.set i (some (.ref d)) = σ := by
    apply List.ext_getElem?
    intro j
    by_cases hj : i = j
    · subst hj
      rw [List.getElem?_set_self (by rw [E.len]; exact hl), e1]
    · rw [List.getElem?_set_ne hj]
  have rk' : RpK F' ws kvs := rk.ex kF
  have E6 := E5.setOwn (i := i) (a := d) (vs := .dT ws) (ds := .d kvs) upd_same rk' f2 nB f3 f4
  rw [es] at E6
  refine ⟨f1, q p _ F' _ _ kk ⟨h9, E6, by rw [upd_ne hpd]; exact g1, g2, g3, ?_, g5, fun j xs ej ea => ?_⟩ kF⟩
  · have g4' : upd c.B d (.frz od (.dT ws)) p = none := g4
    rw [upd_ne hpd] at g4'; exact g4'
  · by_cases hj : i = j
    · subst hj
      rw [e1] at ea
      cases ea
      exact hpd rfl
    · rw [List.getElem?_set_ne hj] at ej
      exact g6 j xs ej ea
end
end DL

/-! DL: the end of a law whose def calls repr: run where no repr is under way. -/
namespace DL
open PySem L2 PySem.Spec PyProof.Rows
/-- the promise of a def, where no repr is under way -/
def FnG (P : Program) (w : World) (K : PySem.W.Frag) (mg : Str → Option Value) (base : Heap) (k : Nat) (f : Addr) (fd : FuncData) (ps : List Str) (sp : Sp) : Prop :=
  ∀ (A : Around) (outer : List Env) (s : Shared) (H : Hp) (args : Args) (us : List Value) (vs : List V) (Q : VK) (E : XK), A.guards = some [] → Room k A → Env0 P w K mg base A outer s H →
    BindsTo s fd args (ps.zip us) → Vals vs us → sp vs H Q E → codeAny (model P w) A (.call (.ref f) args) (CR CX0 outer P w H s Q E) s
section
variable {P : Program} {w : World} {K : PySem.W.Frag} {mg : Str → Option Value} {base : Heap}
theorem fnG_of {x qual : Str} {st : Stmt} {f : Addr} {fd : FuncData} {N ps : List Str} {k : Nat} {sp : Sp} (F : Fun K x qual st f fd) (Sc : FnScope N ps (defScope st)) (len : ∀ vs H Q E, sp vs H Q E → vs.length = ps.length)
    (hbody : ∀ (cdv : Value) (A : Around) (outer : List Env) (s : Shared) (H : Hp) (vs : List V) (Q : VK) (E : XK), A.guards = some [] → Room k (A.deeper (envOfC qual (defScope st) s.heap.objs.size f cdv)) → sp vs H Q E →
      ∃ t, PSs (cxOf CX0 P w K mg base N qual (defScope st) f cdv A outer s H E).nox (defBody st) t ∧ t { nx := fun _ H' => Q .non H', rt := Q } (start N vs) H) : FnG P w K mg base (k + 1) f fd ps sp := by
  obtain ⟨oc, od, kV, doc, pm, an, cdv, ct, osl, rfl, lk, hcd⟩ := F.ex
  intro A outer s H args us vs Q E hg hr e0 hb rv hsp
  obtain ⟨t, ht, hq⟩ := hbody cdv A outer s H vs Q E hg (hr.deeper _) hsp
  have hlen := len _ _ _ _ hsp
  have up : ∀ b o, base.get? b = some o → s.heap.get? b = some o := fun b o e => (e0.bs b o e).1
  have KX : K.In s.heap := e0.mod.kin.keeps up
  have kinds : ∀ y ∈ ps.zip us, (defScope st).names.lookup y.1 = some .local ∨ ((defScope st).names.lookup y.1 = some .cell ∧ ((cellsFrom (s.heap.objs.size + 1) (defScope st).names []).lookup y.1).isSome = true) := by
    rintro ⟨a, b⟩ hy
    exact (Sc.par a (List.of_mem_zip hy).1).elim .inl fun z => .inr ⟨z, PySem.W.cellsFrom_some _ _ _ (.inl z)⟩
  refine codeAny_call_function hr.depth (KX _ _ lk) rfl Sc.co Sc.gen rfl (PySem.W.codeRec_of KX hcd) (hb _ _ _ _ (wpAny_newFunctionEnv_cells Sc.kind kinds ?_))
  rintro env rfl s1 x
  refine ⟨(e0.mod.nolimit.keeps up).keeps x.toInCall.keep, codeAny_func (wpAny_mono (ht.nox.run [] s1 (start N vs) H _ (inv_start Sc hr.hd e0 hlen rv x) hq) ?_ fun e s' hs => ?_)⟩
  · intro fl s' hs
    cases fl with
    | brk => exact hs.elim fun _ z => z.elim fun _ z => z.2.elim
    | cont => exact hs.elim fun _ z => z.elim fun _ z => z.2.elim
    | next => obtain ⟨σ', H', J, q⟩ := hs; exact ⟨V.non, H', J.os, J.bare, J.base, J.hok, rfl, q⟩
    | ret u => obtain ⟨v, σ', H', J, r, q⟩ := hs; exact ⟨v, H', J.os, J.bare, J.base, J.hok, r, q⟩
  · exact hs
/-- the law's promise, at the heap behind the top -/
theorem law_atG {mb : Str → Option Value} {k : Nat} {fa a : Addr} {fd : FuncData} {x : Str} {sp : Sp} {t : Shared} {us : List Value} {ns : List Int} (KX : K.In t.heap) (gn : t.heap.Ns mainGlobals mg) (bn : t.heap.Ns builtinsNs mb) (bb : ∀ y : Str, y ≠ "__name__" → mb y = bootBuiltins y)
    (nl : t.heap.NoLimit) (ng : t.gens = #[]) (ha : t.heap.get? a = some { cls := .type "list", data := .seq us.toArray }) (hi : IntsAre us ns) (hl : ns.length ≤ sizeLine) (hr : Room k callerA) (F : ∀ base : Heap, K.In base → base.Ns mainGlobals mg → FnG P w K mg base k fa fd [x] sp)
    (bd : ∀ (s : Shared) (u : Value), BindsTo s fd ⟨[u], []⟩ [(x, u)]) (hsp : ∀ H : Hp, Only H → SqL K H a (ns.map V.int) → sp [.ref a] H (fun v _ => v = .bl true) fun _ _ _ => False) :
    codeAny (model P w) callerA (.call (.ref fa) ⟨[.ref a], []⟩) (fun r s' => r = .ok (.ret (.bool true)) ∧ OldK t.heap s'.heap ∧ s'.os = t.os ∧ AllBare s'.gens) t := by
  have rv := vals_ints hi
  have lenU := hi.length
  let ob : Obj := { cls := .type "list", data := .seq us.toArray }
  let H : Hp := fun b => if b = a ∧ K.lookup a = none then some (.frz ob (.lst (ns.map V.int))) else none
  have Hat : ∀ {b : Addr} {u : HO}, H b = some u → b = a ∧ K.lookup a = none ∧ u = .frz ob (.lst (ns.map V.int)) := fun {b u} e => by
    by_cases z : b = a ∧ K.lookup a = none
    · have e2 : H b = some (.frz ob (.lst (ns.map V.int))) := if_pos z
      rw [e2] at e; cases e; exact ⟨z.1, z.2, rfl⟩
    · have e2 : H b = none := if_neg z
      rw [e2] at e; cases e
  have only : Only H := fun b => by
    cases e : H b with
    | none => exact .inl rfl
    | some u => obtain ⟨_, _, z⟩ := Hat e; exact .inr ⟨_, _, by rw [z]⟩
  have sq : SqL K H a (ns.map V.int) := by
    by_cases z : K.lookup a = none
    · exact .inl (.inr ⟨ob, if_pos ⟨rfl, z⟩⟩)
    · obtain ⟨o, eo⟩ := Option.ne_none_iff_exists'.mp z
      have e := KX a o eo
      rw [ha] at e
      cases e
      exact .inr ⟨ob, us.toArray, _, eo, rfl, rfl, rfl, by rw [List.size_toArray, lenU]; exact hl, by simpa using rv⟩
  have ok : HOk P w H t.heap := fun b u e => by
    obtain ⟨rfl, _, rfl⟩ := Hat e
    exact ⟨ha, by rw [List.length_map]; exact hl, us, _, rv, ha⟩
  have stay : ∀ {b : Addr} {o : Obj}, t.heap.get? b = some o → b ≠ a ∨ K.lookup a ≠ none → (hidT t.heap H).get? b = some o := fun {b o} e z => hidT_get e (if_neg fun y => z.elim (fun q => q y.1) fun q => q y.2)
  have nsUp : ∀ {b : Addr} {m : Str → Option Value}, t.heap.Ns b m → (hidT t.heap H).Ns b m := fun {b m} ⟨o, es, ep, e, d, r⟩ => ⟨o, es, ep, stay e (.inl fun z => by
    subst z
    rw [ha] at e; cases e
    have d2 : Data.seq us.toArray _ = Data.dict es ep := d
    cases d2), d, r⟩
  have KH : K.In (hidT t.heap H) := fun b o e => stay (KX b o e) (by
    by_cases z : b = a
    · subst z; exact .inr (by rw [e]; simp)
    · exact .inl z)
  have md : Mod K mg (hidT t.heap H) := by
    obtain ⟨mc, c1, c2⟩ := nl
    exact ⟨KH, nsUp gn, ⟨mb, nsUp bn, bb⟩, mc, nsUp c1, c2⟩
  have e0 : Env0 P w K mg (hidT t.heap H) callerA [] t H := ⟨rfl, md, fun b o e => of_hidT e, Nat.le_of_eq (hidT_size _ _), trivial, fun b hb => (by cases hb), ok, .of_eq ng⟩
  refine codeAny_mono (F _ KH (nsUp gn) callerA [] t H ⟨[.ref a], []⟩ [.ref a] [.ref a] _ _ rfl hr e0 (bd t (.ref a)) (.cons rfl .nil) (hsp H only sq)) ?_
  rintro (e | fl) s' h
  · exact False.elim h
  · cases fl with
    | next => exact False.elim h
    | brk => exact False.elim h
    | cont => exact False.elim h
    | ret u =>
      obtain ⟨v, H', hos, hbare, un, hok', r', q⟩ := h
      subst q
      obtain rfl : u = Value.bool true := r'
      refine ⟨rfl, OldK.of_keep fun b o e => ?_, hos, hbare⟩
      cases eb : H b with
      | none => exact un.keep b o e eb (fun z => by cases z) (by simp)
      | some y =>
        obtain ⟨_, _, rfl⟩ := Hat eb
        have g2 := (hok' b _ (un.frzs b _ _ eb)).1
        rw [(ok b _ eb).1] at e; cases e
        exact g2
end
/-- the goal that k_head leaves -/
theorem walk_G {l : PySem.W.OpenLaw} {n k : Nat} {q : Program} {loose : List Str} {XP : (Str → Option Value) → Heap → Prop} {YP : World → Heap → Prop} {d : DefRec} {K : Params → PySem.W.Frag} {sp : PySem.W.Frag → Sp} {x : Str} (hn : l.most = some n) (hn2 : n ≤ sizeLine) (hdf : d.params.defaults = []) (hr : Room k callerA)
    (hY : ∀ (w : World) (h : Heap), YP w h → (K w.params).In h) (F : ∀ (w : World) (mg : Str → Option Value) (fa : Addr) (h : Heap), (K w.params).In h → h.Ns mainGlobals mg → mg d.name = some (.ref fa) → ∃ fd : FuncData, (∀ (s : Shared) (u : Value), BindsTo s fd ⟨[u], []⟩ [(x, u)]) ∧
      ∀ base : Heap, (K w.params).In base → base.Ns mainGlobals mg → FnG l.prog w (K w.params) mg base k fa fd [x] (sp (K w.params)))
    (hsp : ∀ (K : PySem.W.Frag) (H : Hp) (a : Addr) (ns : List Int), ns.length ≤ n → Only H → SqL K H a (ns.map V.int) → sp K [.ref a] H (fun v _ => v = .bl true) fun _ _ _ => False) : PySem.W.WalkO q loose XP YP l.row.toRowW d [] (fun f vs => PySem.call f vs) := by
  refine Att.attach_call hn hdf fun w s₀ t mg mb fa o pm cd doc a us ns G Y ho hd hcd hmg hobj hints hlen hg => ?_
  obtain ⟨fd, bd, hF⟩ := F w mg fa _ (hY w _ Y) G.T.g hmg
  exact law_atG (hY w _ Y) G.T.g G.T.b G.T.builtins G.T.nolimit hg hobj hints (Nat.le_trans hlen hn2) hr hF bd fun H hO hS => hsp (K w.params) H a ns hlen hO hS
end DL

/-! DL: data that can be told by repr. -/
namespace DL
open PySem L2
structure ShD (k w : Nat) (d : D) : Prop where
  ni : Nice k d
  sh : d.showable = true
  hd : d.hasDict = false
  lv : d.leavesShort 13 = true
  wt : d.weight ≤ w
theorem ShD.mono {k k' w w' : Nat} {d : D} (h : ShD k w d) (hk : k ≤ k') (hw : w ≤ w') : ShD k' w' d := ⟨h.ni.mono hk, h.sh, h.hd, h.lv, Nat.le_trans h.wt hw⟩
theorem log2_small {a : Nat} (h : a < 1000000) : a.log2 < 20 := by
  by_cases z : a = 0
  · subst z; decide
  · exact (Nat.log2_lt z).mpr (by omega)
theorem sh_int {k : Nat} {i : Int} (h : i.natAbs < 1000000) : ShD k 20 (.int i) := by
  refine ⟨nice_int i, ?_, rfl, ?_, ?_⟩
  · simp only [PyData.showable, decide_eq_true_eq]
    have := log2_small h
    omega
  · simp only [PyData.leavesShort, decide_eq_true_eq]
    exact PyData.shown_int_le (by omega)
  · simp only [PyData.weight]
    have := log2_small h
    split <;> omega
theorem sh_bool {k w : Nat} (b : Bool) : ShD k w (.bool b) := ⟨nice_bool b, rfl, rfl, rfl, Nat.zero_le _⟩
theorem sh_none {k w : Nat} : ShD k w .none := ⟨nice_none, rfl, rfl, rfl, Nat.zero_le _⟩
theorem showableAll_of : ∀ {ds : List D}, (∀ d ∈ ds, d.showable = true) → PyData.showableAll ds = true
  | [], _ => rfl
  | d :: ds, h => by
    rw [PyData.showableAll, h d List.mem_cons_self, showableAll_of fun x hx => h x (List.mem_cons_of_mem _ hx)]; rfl
theorem hasDictAll_of : ∀ {ds : List D}, (∀ d ∈ ds, d.hasDict = false) → PyData.hasDictAll ds = false
  | [], _ => rfl
  | d :: ds, h => by
    rw [PyData.hasDictAll, h d List.mem_cons_self, hasDictAll_of fun x hx => h x (List.mem_cons_of_mem _ hx)]; rfl
theorem leavesShortAll_of {B : Nat} : ∀ {ds : List D}, (∀ d ∈ ds, d.leavesShort B = true) → PyData.leavesShortAll B ds = true
  | [], _ => rfl
  | d :: ds, h => by
    rw [PyData.leavesShortAll, h d List.mem_cons_self, leavesShortAll_of fun x hx => h x (List.mem_cons_of_mem _ hx)]; rfl
theorem weightAll_of {w : Nat} : ∀ {ds : List D}, (∀ d ∈ ds, d.weight ≤ w) → PyData.weightAll ds ≤ ds.length * (w + 1)
  | [], _ => Nat.zero_le _
  | d :: ds, h => by
    have h1 := h d List.mem_cons_self
    have h2 := weightAll_of (ds := ds) fun x hx => h x (List.mem_cons_of_mem _ hx)
    rw [PyData.weightAll, List.length_cons, Nat.add_mul]
    omega
theorem sh_tup {k w : Nat} {ds : List D} (h : ∀ d ∈ ds, ShD k w d) : ShD (k + 1) (ds.length * (w + 1)) (.tuple ds) :=
  ⟨nice_tup fun d hd => (h d hd).ni, by simp only [PyData.showable]; exact showableAll_of fun d hd => (h d hd).sh, by simp only [PyData.hasDict]; exact hasDictAll_of fun d hd => (h d hd).hd, by simp only [PyData.leavesShort]; exact leavesShortAll_of fun d hd => (h d hd).lv, by simp only [PyData.weight]; exact weightAll_of fun d hd => (h d hd).wt⟩
theorem sh_list {k w : Nat} {ds : List D} (h : ∀ d ∈ ds, ShD k w d) : ShD (k + 1) (ds.length * (w + 1)) (.list ds) :=
  ⟨nice_list fun d hd => (h d hd).ni, by simp only [PyData.showable]; exact showableAll_of fun d hd => (h d hd).sh, by simp only [PyData.hasDict]; exact hasDictAll_of fun d hd => (h d hd).hd, by simp only [PyData.leavesShort]; exact leavesShortAll_of fun d hd => (h d hd).lv, by simp only [PyData.weight]; exact weightAll_of fun d hd => (h d hd).wt⟩
section
variable {X : Cx} {r : SR} {S : List Sl}
theorem cd_repr {k : Nat} (hr : Room k X.A) {d : D} {K : D → Prop} (h : ShD 40 (2 ^ 20) d) (kd : K (.str d.shown)) : CallD (rRepr X) [d] K := fun F H vs kF rv Q q => by
  cases rv with
  | cons r1 t =>
    cases t
    exact ⟨F, _, d, rfl, kF, r1, h.ni.pl, h.sh, h.hd, by have := h.ni.dp; have := hr.un; omega, PyData.shown_fits (B := 13) (by decide) (by decide) h.lv h.wt, q _ _ F H kd (Grow.refl kF) (.str _)⟩
theorem jrepr {K : D → List Sl → Prop} {a : Expr} {p pos : Pos} {k : Nat} (hg0 : X.A.guards = some []) (hr : Room k X.A) (hm : X.mg "repr" = none) (h : JE X r a S fun d S1 => ShD 40 (2 ^ 20) d ∧ K (.str d.shown) S1) (hg : Gl X "repr" := by rfl) (hs : starEach [a] X.env = (false, eval a X.env) :: starEach [] X.env := by rfl) : JE X r (.Call (.Name "repr" p) [a] [] pos) S K :=
  jB (call_repr hg0) hm (ja1 (h.mono fun d S1 ⟨h1, k⟩ => ⟨[d], rfl, cd_repr hr h1 k⟩) hs) hg (by decide +kernel) (by decide) (by decide) hs rfl
end
end DL

/-! DL: sorted(..) of tuples, some of them empty. -/
namespace DL
open PySem L2 PyProof.Rows PySem.W
section
variable {prog : Program} {w : World} {A : Around} {s : Shared}
/-- the call of tuple's own __lt__, as sorting makes it -/
theorem call_tup_lt {E : Value → Shared → Prop} {Q : Value → Shared → Prop} {l b : Addr} {items items2 : Array Value} {e r : Nat → Bool} (hl : s.heap.IsTuple l items) (hb : s.heap.IsTuple b items2)
    (he : ∀ j (h1 : j < items.size) (h2 : j < items2.size), SeqAt.EqAt A.in1 s items[j] items2[j] (e j)) (hr : ∀ j (h1 : j < items.size) (h2 : j < items2.size), e j = false → SeqAt.RcLt A.in1 s items[j] items2[j] (r j))
    (h : Q (.bool (SeqAt.firstLt e r (decide (items.size < items2.size)) (List.range (min items.size items2.size)))) s) : wpAny (model prog w) A (call (.builtin "tuple.__lt__") [.ref l, .ref b]) Q E s := by
  obtain ⟨⟨c1, d1, t1, s1⟩, h1, h2, n1, h3⟩ := id hl
  obtain ⟨⟨c2, d2, t2, s2⟩, k1, k2, n2, k3⟩ := id hb
  simp only at h2 h3 k2 k3
  subst h2 h3 k2 k3
  exact call_meets F.slot_tuple_lt ⟨_, h1, rfl⟩ F.entry_tuple_lt (F.args_tuple_lt_2 _ _) (SeqAt.tuple_ltAt l b items items2 n1 n2 d1 d2 s1 s2 e r) ⟨h1, k1, he, hr, h⟩
theorem oneLt_tups {xs ys : List PyData} {a b : Value} {as bs : List Addr} {E : Value → Shared → Prop} {Q : Bool → Shared → Prop} (ra : Reads s.heap a (.tuple xs) as) (rb : Reads s.heap b (.tuple ys) bs) (h : alikeAll xs ys = true)
    (hu : A.units + min (PyData.tuple xs).depth (PyData.tuple ys).depth < cLine) (hq : Q (dataLt (.tuple xs) (.tuple ys)) s) : wpAny (model prog w) A (oneLt' true a b) Q E s := by
  cases ra with
  | @tuple l o vs n _ as1 h1 h2 h3 h4 =>
    cases rb with
    | @tuple l2 o2 vs2 n2 _ bs1 k1 k2 k3 k4 =>
      have e1 : vs.size = xs.length := by simpa using SeqAt.ReadsAll.length _ _ _ h4
      have e2 : vs2.size = ys.length := by simpa using SeqAt.ReadsAll.length _ _ _ k4
      rw [dataLt_tuple, ← firstLt_toks xs ys h, ← e1, ← e2] at hq
      rw [oneLt'_eq]
      simp only [if_true]
      refine wpAny_bind (wpAny_cRoomFor (SeqAt.room_here hu) (wpAny_bind (wpAny_callSpecialIfBound?_slot (T := "tuple") ⟨_, h1, h2⟩ F.slot_tuple_lt (call_tup_lt (e := SeqAt.pairEq xs ys) (r := fun j => dataLt (xs.getD j .none) (ys.getD j .none)) ⟨_, h1, h2, _, h3⟩ ⟨_, k1, k2, _, k3⟩ (fun j j1 j2 => ?_) (fun j j1 j2 hj => ?_) (wpAny_truthy_bool hq)))))
      · exact eqAt_alikeAll xs ys A.in1 s vs.toList vs2.toList _ _ h4 k4 h (SeqAt.room_in hu) j (by simpa using j1) (by simpa using j2)
      · exact rcLt_alikeAll xs ys A.in1 s vs.toList vs2.toList _ _ h4 k4 h (SeqAt.room_in hu) j (by simpa using j1) (by simpa using j2) hj
/-- the first items of tuples, where they have any -/
theorem firsts_mapM {M : Model} {E : Value → Shared → Prop} : ∀ {vs : List Value} {ds : List PyData}, EachIs (fun v d => ∃ as, Reads s.heap v d as) vs ds → (∀ d ∈ ds, ∃ xs, d = .tuple xs) →
    ∃ fs : List (Option Value), EachIs (fun o d => ∃ xs, d = PyData.tuple xs ∧ o.isSome = !xs.isEmpty) fs ds ∧ ∀ {Q : List (Option Value) → Shared → Prop}, Q fs s → wpAny M A (vs.mapM firstOfTuple') Q E s
  | _, _, .nil, _ => ⟨[], .nil, fun {Q} h => by rw [List.mapM_nil]; exact wpAny_pure h⟩
  | _, _, .cons (a := v) (as := vs) (b := d) (bs := ds) ⟨as, r⟩ t, ht => by
    obtain ⟨fs, g1, g2⟩ := firsts_mapM (M := M) (E := E) t fun d hd => ht d (List.mem_cons_of_mem _ hd)
    obtain ⟨xs, rfl⟩ := ht d List.mem_cons_self
    cases r with
    | @tuple a o its n _ _ h1 h2 h3 h4 =>
      have hl : its.size = xs.length := by simpa using SeqAt.ReadsAll.length _ _ _ h4
      refine ⟨its[0]? :: fs, .cons ⟨xs, rfl, ?_⟩ g1, fun {Q} h => ?_⟩
      · cases xs with
        | nil =>
          rw [Array.getElem?_eq_none (by have h0 : its.size = 0 := hl; omega)]
          rfl
        | cons x xs =>
          rw [Array.getElem?_eq_getElem (by have h0 : its.size = xs.length + 1 := hl; omega)]
          rfl
      · rw [List.mapM_cons]
        refine wpAny_bind ?_
        rw [kas_first_eq]
        refine wpAny_bind (Looks.here (show Looks M s.heap (typeOf (.ref a)) o.cls from (Looks.ld h1).andThen .now) ?_)
        rw [h2, if_neg (by first | decide | simp)]
        exact wpAny_bind (listItems_at h1 h3 (wpAny_pure (wpAny_bind (g2 (Q := fun bs s' => wpAny M A (pure (its[0]? :: bs)) Q E s') (wpAny_pure h)))))
theorem each_len {α β : Type} {R : α → β → Prop} : ∀ {as : List α} {bs : List β}, EachIs R as bs → as.length = bs.length
  | _, _, .nil => rfl
  | _, _, .cons _ t => by rw [List.length_cons, List.length_cons, each_len t]
theorem each_all {fs : List (Option Value)} {ds : List PyData} (h : EachIs (fun o d => ∃ xs, d = PyData.tuple xs ∧ o.isSome = !xs.isEmpty) fs ds) (ha : fs.all (·.isSome) = true) : ∀ d ∈ ds, ∃ x r, d = PyData.tuple (x :: r) := by
  induction h with
  | nil => intro d hd; cases hd
  | @cons o d fs ds r t ih =>
    intro e he
    rw [List.all_cons, Bool.and_eq_true] at ha
    rcases List.mem_cons.mp he with rfl | he
    · obtain ⟨xs, rfl, h2⟩ := r
      rw [ha.1] at h2
      cases xs with
      | nil => cases h2
      | cons x xs => exact ⟨x, xs, rfl⟩
    · exact ih ha.2 e he
theorem sortsAt_tups {vs : List Value} {ds : List PyData} (e : EachIs (fun v d => ∃ as, Reads s.heap v d as) vs ds) (hal : AllAlike ds) (ht : ∀ d ∈ ds, ∃ xs, d = PyData.tuple xs) (hu : ∀ d, d ∈ ds → A.units + d.depth < cLine) : SortsAt prog w A s (dataKind s.heap ds) vs := by
  by_cases hne : ∀ d ∈ ds, ∃ x r, d = PyData.tuple (x :: r)
  · exact SortsAt.data e hal (.inl hne) hu
  have room : ∀ {d d' : PyData}, d ∈ ds → A.units + min d.depth d'.depth < cLine := fun {d d'} hd => Nat.lt_of_le_of_lt (Nat.add_le_add_left (Nat.min_le_left _ _) _) (hu d hd)
  refine ⟨fun v hv => ?_, ?_⟩
  · obtain ⟨d, hd, as, r⟩ := e.left v hv
    exact ⟨_, dataKind_some hal hd r⟩
  have both : ∀ f : Bool, ∀ (E : Value → Shared → Prop) (x y : Value) (a b : (dataKind s.heap ds).α) {Q : Bool → Shared → Prop}, (dataKind s.heap ds).keyOf x = some a → (dataKind s.heap ds).keyOf y = some b → Q ((dataKind s.heap ds).blt a b) s → wpAny (model prog w) A (oneLt' f x y) Q E s := by
    intro f E x y a b Q ha hb hq
    obtain ⟨d, as, hd, ra, rfl⟩ := dataKind_inv ha
    obtain ⟨d', as', hd', rb, rfl⟩ := dataKind_inv hb
    obtain ⟨xs, rfl⟩ := ht d hd
    obtain ⟨ys, rfl⟩ := ht d' hd'
    have al := hal _ hd _ hd'
    cases f with
    | false => exact oneLt_alike (fun z => by cases z) ra rb al (fun z => by cases z) (room hd) hq
    | true => exact oneLt_tups ra rb (by simpa [alike] using al) (room hd) hq
  cases ds with
  | nil => exact absurd (fun d hd => by cases hd) hne
  | cons d0 ds0 =>
    obtain ⟨xs0, e0⟩ := ht d0 List.mem_cons_self
    refine ⟨if xs0 = [] then oneType' else general', ?_, fun h2 E Q hq => ?_⟩
    · intro E x y a b Q ha hb hq
      by_cases z : xs0 = []
      · rw [if_pos z]
        exact both true E x y a b ha hb hq
      · rw [if_neg z]
        exact both false E x y a b ha hb hq
    · obtain ⟨fs, g1, g2⟩ := firsts_mapM (M := model prog w) (A := A) (E := E) e ht
      rw [keyKind'_eq, List.mapM_toArray, map_eq_pure_bind]
      refine wpAny_bind (wpAny_bind (g2 (wpAny_pure ?_)))
      have hall : fs.toArray.all (·.isSome) = false := by
        cases q : fs.toArray.all (·.isSome) with
        | false => rfl
        | true =>
          rw [List.all_toArray] at q
          exact absurd (each_all g1 q) hne
      rw [if_neg (by rw [hall]; exact Bool.false_ne_true)]
      cases g1 with
      | @cons o _ fs1 _ r t =>
        obtain ⟨xs, e1, h1⟩ := r
        rw [e0] at e1
        cases e1
        have hf : (((o :: fs1).toArray)[0]?.bind id) = o := by simp
        rw [hf]
        by_cases z : xs0 = []
        · rw [if_pos z] at hq
          subst z
          rw [if_neg (by rw [h1]; decide)]
          rw [oneTypeOnly'_eq, List.mapM_toArray, map_eq_pure_bind]
          have looks : ∀ v ∈ vs, Looks (model prog w) s.heap (typeOf v) (Value.type "tuple") := fun v hv => by
            obtain ⟨d, hd, as, r⟩ := e.left v hv
            obtain ⟨ys, rfl⟩ := ht d hd
            exact looks_reads r
          refine wpAny_bind (wpAny_bind (wpAny_bind (kas_mapM (r := Value.type "tuple") _ (fun v hv Q' hq => (looks v hv).here hq) (wpAny_pure ?_))))
          obtain ⟨v1, vr, rfl⟩ : ∃ v1 vr, vs = v1 :: vr := by
            cases vs with
            | nil => simp at h2
            | cons v1 vr => exact ⟨v1, vr, rfl⟩
          have hall2 : ((List.map (fun _ => Value.type "tuple") (v1 :: vr)).toArray.all fun x => x == Value.type "tuple") = true := by
            simp only [List.all_toArray, List.all_map, List.all_eq_true]
            intro _ _
            exact beq_self_eq_true _
          have h0 : (List.map (fun _ => Value.type "tuple") (v1 :: vr)).toArray[0]? = some (Value.type "tuple") := by simp
          rw [h0]
          simp only [hall2, if_true]
          exact wpAny_pure (wpAny_pure hq)
        · rw [if_neg z] at hq
          have hs : o.isSome = true := by
            rw [h1]
            cases xs0 with
            | nil => exact absurd rfl z
            | cons x xs => rfl
          rw [if_pos hs]
          exact wpAny_pure hq
end
end DL

/-! DL: tuples of ints in order; sorted(..) of them, of a dict's keys; a dict's get, in, store; isinstance, sum, stars. -/
namespace DL
open PySem L2
def tupI (l : List Int) : D := .tuple (l.map .int)
theorem tupI_inj {a b : List Int} (h : tupI a = tupI b) : a = b := int_map_inj (by unfold tupI at h; injection h)
theorem nice_tupI {n : Nat} (l : List Int) : Nice (n + 1) (tupI l) := nice_tup (nice_map fun i => nice_int i)
/-! ### the order -/
abbrev ltL : List Int → List Int → Bool := PySem.W.listLt (α := Int)
def leL (a b : List Int) : Bool := !ltL b a
theorem lt_tupI (a b : List Int) : PySem.W.dataLt (tupI a) (tupI b) = ltL a b := PySem.W.DatumOrd.lt_eq (α := PySem.W.Tup Int) ⟨a⟩ ⟨b⟩
theorem dataLe_tupI : PySem.W.dataLe false tupI = leL := by
  funext a b
  show (!PySem.W.dataLt (tupI b) (tupI a)) = _
  rw [lt_tupI]
  rfl
theorem ltL_nil (b : List Int) : ltL [] b = !b.isEmpty := by cases b <;> rfl
theorem ltL_cons (x y : Int) (a b : List Int) : ltL (x :: a) (y :: b) = if x = y then ltL a b else decide (x < y) := rfl
theorem ltL_irrefl : ∀ a : List Int, ltL a a = false
  | [] => rfl
  | x :: a => by rw [ltL_cons, if_pos rfl]; exact ltL_irrefl a
theorem ltL_tri : ∀ {a b : List Int}, ltL a b = false → ltL b a = false → a = b
  | [], [], _, _ => rfl
  | [], _ :: _, h, _ => by cases h
  | _ :: _, [], _, h => by cases h
  | x :: a, y :: b, h1, h2 => by
    rw [ltL_cons] at h1 h2
    by_cases e : x = y
    · subst e
      rw [if_pos rfl] at h1 h2
      rw [ltL_tri h1 h2]
    · rw [if_neg e] at h1
      rw [if_neg (fun z => e z.symm)] at h2
      have := of_decide_eq_false h1
      have := of_decide_eq_false h2
      omega
theorem ltL_trans : ∀ {a b c : List Int}, ltL a b = true → ltL b c = true → ltL a c = true
  | [], [], [], h, _ => by cases h
  | [], _ :: _, [], _, h2 => by cases h2
  | [], _, _ :: _, _, _ => rfl
  | _ :: _, [], _, h, _ => by cases h
  | _ :: _, _ :: _, [], _, h => by cases h
  | x :: a, y :: b, z :: c, h1, h2 => by
    rw [ltL_cons] at h1 h2 ⊢
    by_cases e1 : x = y
    · subst e1
      rw [if_pos rfl] at h1
      by_cases e2 : x = z
      · subst e2
        rw [if_pos rfl] at h2 ⊢
        exact ltL_trans h1 h2
      · rw [if_neg e2] at h2 ⊢
        exact h2
    · rw [if_neg e1] at h1
      have l1 := of_decide_eq_true h1
      by_cases e2 : y = z
      · subst e2
        rw [if_neg e1]
        exact h1
      · rw [if_neg e2] at h2
        have l2 := of_decide_eq_true h2
        rw [if_neg (by omega)]
        exact decide_eq_true (by omega)
theorem ltL_asymm {a b : List Int} (h : ltL a b = true) : ltL b a = false := by
  cases e : ltL b a with
  | false => rfl
  | true =>
    have := ltL_trans h e
    rw [ltL_irrefl] at this; cases this
theorem leL_trans (a b c : List Int) (h1 : leL a b = true) (h2 : leL b c = true) : leL a c = true := by
  unfold leL at *
  rw [Bool.not_eq_true'] at *
  cases e : ltL c a with
  | false => rfl
  | true =>
    cases e2 : ltL a b with
    | true =>
      have := ltL_trans e e2
      rw [h2] at this; cases this
    | false =>
      have := ltL_tri e2 h1
      subst this
      rw [e] at h2; cases h2
theorem leL_total (a b : List Int) : (leL a b || leL b a) = true := by
  unfold leL
  cases e : ltL b a with
  | false => rfl
  | true => rw [ltL_asymm e]; rfl
def sortL (ls : List (List Int)) : List (List Int) := ls.mergeSort leL
theorem sortL_perm (ls : List (List Int)) : (sortL ls).Perm ls := List.mergeSort_perm _ _
theorem sortL_le (ls : List (List Int)) : (sortL ls).Pairwise fun a b => leL a b = true := List.pairwise_mergeSort leL_trans leL_total ls
theorem sortL_lt {ls : List (List Int)} (nd : ls.Nodup) : (sortL ls).Pairwise fun a b => ltL a b = true := by
  have h1 := sortL_le ls
  have h2 : (sortL ls).Pairwise (· ≠ ·) := List.nodup_iff_pairwise_ne.mp ((sortL_perm ls).nodup_iff.mpr nd)
  refine (h1.and h2).imp fun {a b} ⟨x, y⟩ => ?_
  unfold leL at x
  rw [Bool.not_eq_true'] at x
  cases e : ltL a b with
  | true => rfl
  | false => exact absurd (ltL_tri e x) y
/-- two lists in this order, of the same members, are one -/
theorem sorted_one : ∀ {a b : List (List Int)}, (a.Pairwise fun x y => ltL x y = true) → (b.Pairwise fun x y => ltL x y = true) → (∀ x, x ∈ a ↔ x ∈ b) → a = b
  | [], [], _, _, _ => rfl
  | [], y :: b, _, _, h => by have := (h y).mpr List.mem_cons_self; cases this
  | x :: a, [], _, _, h => by have := (h x).mp List.mem_cons_self; cases this
  | x :: a, y :: b, h1, h2, h => by
    rw [List.pairwise_cons] at h1 h2
    have e : x = y := by
      rcases List.mem_cons.mp ((h x).mp List.mem_cons_self) with e | hx
      · exact e
      · rcases List.mem_cons.mp ((h y).mpr List.mem_cons_self) with e | hy
        · exact e.symm
        · have l1 := h2.1 x hx
          have l2 := h1.1 y hy
          rw [ltL_asymm l1] at l2; cases l2
    subst e
    refine congrArg _ (sorted_one h1.2 h2.2 fun z => ?_)
    have no : ∀ {l : List (List Int)}, (∀ a ∈ l, ltL x a = true) → x ∉ l := fun hl hx => by
      have := hl x hx
      rw [ltL_irrefl] at this; cases this
    constructor
    · intro hz
      rcases List.mem_cons.mp ((h z).mp (List.mem_cons_of_mem _ hz)) with e | hz2
      · subst e; exact absurd hz (no h1.1)
      · exact hz2
    · intro hz
      rcases List.mem_cons.mp ((h z).mpr (List.mem_cons_of_mem _ hz)) with e | hz2
      · subst e; exact absurd hz (no h2.1)
      · exact hz2
/-! ### sorted(..) -/
section
variable {X : Cx} {r : SR} {S : List Sl}
theorem alike_tupI (a b : List Int) : PySem.W.alike (tupI a) (tupI b) = true := by
  unfold tupI
  simp only [PySem.W.alike, PySem.W.alike_ints]
def rSortT (X : Cx) : List V → Hp → VK → Prop := fun vs H Q => ∃ F x ls, vs = [x] ∧ Ex F H ∧ Rp F x (.list (ls.map tupI)) ∧ X.A.units + 5 < cLine ∧ ∀ p ws, RpA F ws ((sortL ls).map tupI) → H p = none → Q (.ref p) (upd H p (.lst ws))
theorem depth_tupI (l : List Int) : (tupI l).depth = 1 := by
  unfold tupI
  simp only [PyData.depth, PySem.W.depth_ints]
theorem call_sortT : CallR X (.builtin "sorted") (rSortT X) := by
  intro pins s σ H xs us Q I rr h
  obtain ⟨F, x, ls, rfl, k, rp, hu, q⟩ := h
  obtain ⟨u, rfl, rx⟩ := vals1 rr
  cases rp with
  | @lst a ws _ ha rv =>
    cases rx
    obtain ⟨z, its, n, rw', ho⟩ := (show ObjOk X.prog X.w H s.heap a (.lst ws) from I.hok _ _ (k _ _ ha))
    obtain ⟨e, er⟩ := each_of k I.hok rv rw' (plainAll_of fun d hd => by obtain ⟨l, _, rfl⟩ := List.mem_map.mp hd; exact (nice_tupI (n := 1) l).pl)
    have hz : (ls.map tupI).length ≤ sizeLine := by rw [← rv.length]; exact z
    have hal : PySem.W.AllAlike (ls.map tupI) := PySem.W.AllAlike.of alike_tupI
    have ht : ∀ d ∈ ls.map tupI, ∃ xs, d = PyData.tuple xs := fun d hd => by
      obtain ⟨l, _, rfl⟩ := List.mem_map.mp hd
      exact ⟨_, rfl⟩
    have hd : ∀ d ∈ ls.map tupI, d.depth = 1 := fun d hd => by
      obtain ⟨l, _, rfl⟩ := List.mem_map.mp hd
      exact depth_tupI l
    have er' : PySem.W.EachIs (fun v d => ∃ as, Reads (PySem.W.sortingHeap (PySem.W.copyHeap s.heap its) (s.heap.objs.size + 1) its) v d as) its (ls.map tupI) := er.mono fun _ _ ⟨as, r⟩ => ⟨as, PyProof.Rows.Reads.keeps (fun _ _ => PySem.W.sorting_copy_old) r⟩
    refine PySem.W.sorted_vals (vs := its) ⟨_, ho, rfl, _, rfl⟩ (sortsAt_tups (s := { s with heap := PySem.W.sortingHeap (PySem.W.copyHeap s.heap its) (s.heap.objs.size + 1) its }) er' hal ht fun d h => by rw [hd d h]; show X.A.units + 1 + 1 + 1 < cLine; omega) (by rw [e.length]; exact hz) ?_
    have out := PySem.W.sortVals_data (enc := id) false e er' (by rw [List.map_id]; exact hal)
    rw [List.map_id, sort_map dataLe_tupI] at out
    obtain ⟨vs, v1, v2⟩ := of_each out
    obtain ⟨ep, he'⟩ := PyProof.Rows.sortedAll_at s.heap its (PySem.W.sortVals (PySem.W.dataKind (PySem.W.sortingHeap (PySem.W.copyHeap s.heap its) (s.heap.objs.size + 1) its) (ls.map tupI)) false its its).toArray
    have hlen : vs.length ≤ sizeLine := by
      rw [v2.length, List.length_map, List.length_mergeSort]
      rw [List.length_map] at hz; exact hz
    exact ⟨.ref _, upd H (s.heap.objs.size + 1) (.lst vs), I.laid (t' := s.toks) (fun _ _ => PyProof.Rows.sortedAll_old) (Nat.le_succ _) ⟨hlen, _, ep, v1, he'⟩, rfl, q _ vs v2 (I.hok.fresh (Nat.le_succ _))⟩
/-- sorted(xs), xs a list of tuples of ints -/
theorem jsortL {K : List D → List Sl → Prop} {a : Expr} {p pos : Pos} {k : Nat} (hr : Room k X.A) (hm : X.mg "sorted" = none) (h : JE X r a S fun d S1 => ∃ ls : List (List Int), d = .list (ls.map tupI) ∧ K ((sortL ls).map tupI) S1) (hg : Gl X "sorted" := by rfl) (hs : starEach [a] X.env = (false, eval a X.env) :: starEach [] X.env := by rfl) : JN X r (.Call (.Name "sorted" p) [a] [] pos) S K :=
  jnB call_sortT hm (ja1 (h.mono fun d S1 ⟨ls, e, kk⟩ => ⟨[d], rfl, by
    rw [e]
    intro F H vs kF rv Q q
    cases rv with
    | cons r1 t =>
      cases t
      exact ⟨F, _, ls, rfl, kF, r1, by have := hr.un; omega, fun p ws rw' n => q p ws _ kk n rw'⟩⟩) hs) hg (by decide +kernel) (by decide) (by decide) hs rfl
/-! ### a dict's keys -/
/-- tuples of ints that stand are frozen -/
theorem EvD.freezeAll {c : C} {σ : St} {H : Hp} : ∀ {bs : List Addr} {ks : List (List Int)} {F : Hp}, EvD c S F σ H → (∀ (i : Nat) b k, bs[i]? = some b → ks[i]? = some k → H b = some (.tup ((kI k).map kV))) → bs.length = ks.length →
    ∃ F', Ex F F' ∧ EvD c S F' σ H ∧ RpA F' (bs.map V.ref) (ks.map tupI)
  | [], [], F, E, _, _ => ⟨F, Ex.refl F, E, .nil⟩
  | [], _ :: _, _, _, _, h => by cases h
  | _ :: _, [], _, _, _, h => by cases h
  | b :: bs, k :: ks, F, E, h, hl => by
    have hb := h 0 b k rfl rfl
    obtain ⟨F1, k1, E1, e1⟩ : ∃ F1, Ex F F1 ∧ EvD c S F1 σ H ∧ F1 b = some (.tup ((kI k).map kV)) := by
      cases q : F b with
      | none => exact ⟨_, Ex.new q, E.freezeT hb q, upd_same⟩
      | some u =>
        have h2 := E.fin.fh _ _ q
        rw [hb] at h2; cases h2
        exact ⟨F, Ex.refl F, E, q⟩
    obtain ⟨F2, k2, E2, r2⟩ := EvD.freezeAll (bs := bs) (ks := ks) E1 (fun i b k e1 e2 => h (i + 1) b k (by simpa using e1) (by simpa using e2)) (by simpa using hl)
    exact ⟨F2, k1.trans k2, E2, .cons (.tup (k2 _ _ e1) (RpA.kI k)) r2⟩
theorem isKeys_at {H : Hp} {F : Hp} {ws : List (List Key × V)} {bs : List Addr} (hk : IsKeys H ws bs) : ∀ {kvs : List (List Int × D)}, RpK F ws kvs → bs.length = kvs.length ∧ ∀ (i : Nat) b k, bs[i]? = some b → (kvs.map (·.1))[i]? = some k → H b = some (.tup ((kI k).map kV)) := by
  unfold IsKeys at hk
  induction hk with
  | nil =>
    intro kvs rk
    cases rk
    exact ⟨rfl, fun i b k e => by simp at e⟩
  | @cons p b0 ws bs h t ih =>
    intro kvs rk
    cases rk with
    | @cons k0 v d _ kvs r rt =>
    obtain ⟨h1, h2⟩ := ih rt
    refine ⟨by rw [List.length_cons, List.length_cons, h1], fun i b k e1 e2 => ?_⟩
    cases i with
    | zero =>
      simp at e1 e2
      subst e1 e2
      exact h
    | succ i => exact h2 i b k (by simpa using e1) (by simpa using e2)
/-- list(x), x a dict of one's own -/
theorem jlistK {K : List D → List Sl → Prop} {x : Str} {px p pos : Pos} (i : Nat) {kvs : List (List Int × D)} (hc : X.calm = true) (hm : X.mg "list" = none) (k : K (keysD kvs) S) (e : S[i]? = some (.ob (.d kvs)) := by rfl) (hg : Gl X "list" := by rfl) (hN : X.N[i]? = some x := by rfl) (hv : Vis X.env.scope x := by first | exact Or.inl rfl | exact Or.inr (Or.inl rfl) | exact Or.inr (Or.inr rfl))
    (hd : (x == ("__debug__" : Str)) = false := by decide) (hcd : (x == ("__classdict__" : Str)) = false := by decide) (hs : starEach [.Name x px] X.env = (false, eval (.Name x px) X.env) :: starEach [] X.env := by rfl) : JN X r (.Call (.Name "list" p) [.Name x px] [] pos) S K := fun c F σ H hr E Q q =>
  of_pe (pe_callTy (call_list_dT hc) hg hm (by decide +kernel) (pa_cons (pe_var hN hv hd hcd) pa_nil hs) (by decide) (by decide) hs rfl) (by
    obtain ⟨y, e1, l, hh, e2, ha, rv, nF, nb, q0⟩ := E.sl i _ e
    subst e2
    obtain ⟨ws, rfl, rk⟩ := obr_d rv
    refine ⟨_, e1, l, ws, rfl, .inl ha, fun p bs n hk => ?_⟩
    obtain ⟨h1, h2⟩ := isKeys_at hk rk
    obtain ⟨F', k1, E', ra⟩ := E.freezeAll (bs := bs) (ks := kvs.map (·.1)) h2 (by rw [List.length_map]; exact h1)
    have ek : (kvs.map (·.1)).map tupI = keysD kvs := by unfold keysD; rw [List.map_map]; rfl
    rw [ek] at ra
    exact q p _ F' _ S k (newL_of E' n ra) k1)
/-- len(x), x a dict of one's own -/
theorem je_lenK {K : D → List Sl → Prop} {x : Str} {p p2 pos : Pos} (i : Nat) {kvs : List (List Int × D)} (hm : X.mg "len" = none) (k : K (.int (kvs.length : Nat)) S) (e : S[i]? = some (.ob (.d kvs)) := by rfl) (hg : Gl X "len" := by rfl) (hN : X.N[i]? = some x := by rfl) (hv : Vis X.env.scope x := by first | exact Or.inl rfl | exact Or.inr (Or.inl rfl) | exact Or.inr (Or.inr rfl)) (hd : (x == ("__debug__" : Str)) = false := by decide) (hcd : (x == ("__classdict__" : Str)) = false := by decide)
    (hs : starEach [.Name x p2] X.env = (false, eval (.Name x p2) X.env) :: starEach [] X.env := by rfl) : JE X r (.Call (.Name "len" p) [.Name x p2] [] pos) S K := fun c F σ H hr E Q q => of_pe (pe_callB call_len_dT hg hm PySem.boot_len (pa_cons (pe_var hN hv hd hcd) pa_nil hs) (by decide) (by decide) hs rfl) (by
  obtain ⟨y, e1, l, hh, e2, ha, rv, nF, nb, q0⟩ := E.sl i _ e
  subst e2
  obtain ⟨ws, rfl, rk⟩ := obr_d rv
  refine ⟨_, e1, l, ws, rfl, ha, ?_⟩
  rw [rk.length]
  exact q _ _ F H S k E (Ex.refl F) (.int _))
/-! ### what a dict holds -/
def valD (kvs : List (List Int × D)) (k : List Int) : Option D := (kvs.find? fun kv => decide (kv.1 = k)).map (·.2)
inductive RpO (F : Hp) : Option V → Option D → Prop
  | none : RpO F none none
  | some {v d} : Rp F v d → RpO F (some v) (some d)
theorem RpO.isSome {F : Hp} {v : Option V} {d : Option D} (h : RpO F v d) : v.isSome = d.isSome := by cases h <;> rfl
theorem RpK.val {F : Hp} (k : List Int) : ∀ {ws : List (List Key × V)} {kvs : List (List Int × D)}, RpK F ws kvs → RpO F (valV ws (kI k)) (valD kvs k)
  | _, _, .nil => .none
  | _, _, .cons (k := k0) (v := v) (d := d) (ws := ws) (kvs := kvs) r t => by
    by_cases e : k0 = k
    · have h1 : valV ((List.map Sum.inl k0, v) :: ws) (kI k) = some v := by
        subst e
        unfold valV
        rw [List.find?_cons_of_pos (by simpa using (show List.map Sum.inl k0 = kI k0 from rfl))]
        rfl
      have h2 : valD ((k0, d) :: kvs) k = some d := by
        unfold valD
        rw [List.find?_cons_of_pos (by simpa using e)]
        rfl
      rw [h1, h2]
      exact .some r
    · have h1 : valV ((List.map Sum.inl k0, v) :: ws) (kI k) = valV ws (kI k) := by
        unfold valV
        rw [List.find?_cons_of_neg (by simpa using (show ¬ (List.map Sum.inl k0 = kI k) from fun z => e (kI_inj z)))]
      have h2 : valD ((k0, d) :: kvs) k = valD kvs k := by
        unfold valD
        rw [List.find?_cons_of_neg (by simpa using e)]
      rw [h1, h2]
      exact RpK.val k t
theorem rp_tupI {F : Hp} {v : V} {k : List Int} (r : Rp F v (tupI k)) : ∃ b, v = .ref b ∧ F b = some (.tup ((kI k).map kV)) := by
  unfold tupI at r
  cases r with
  | @tup b ys _ hb hy =>
    have := RpA.tupI hy
    subst this
    exact ⟨b, rfl, hb⟩
theorem dget_of {F H : Hp} {v : V} {k : List Int} {a : Addr} {ws : List (List Key × V)} (kF : Ex F H) (r : Rp F v (tupI k)) (h : H a = some (.dT ws)) : DGet H a v (valV ws (kI k)) := by
  obtain ⟨b, rfl, hb⟩ := rp_tupI r
  exact DGet.t h (kF _ _ hb)
/-- a in b, b a dict -/
theorem jdin {K : D → List Sl → Prop} {a b : Expr} {pos : Pos} {k : Nat} (hr : Room k X.A) (h : JE X r a S fun d1 S1 => JE X r b S1 fun d2 S2 => ∃ ky kvs, d1 = tupI ky ∧ d2 = dctD kvs ∧ K (.bool (valD kvs ky).isSome) S2) (hm : behindInMarks .In b = false := by rfl) : JE X r (.Compare a [.In] [b] pos) S K :=
  fun c F σ H hr' E Q q => of_pe (pe_cmp (pc_din (by have := hr.un; omega) pe_tE pe_tE) hm) (h c F σ H hr' E _ fun v1 d1 F1 H1 S1 h1 E1 k1 r1 => h1 c F1 σ H1 hr' E1 _ fun v2 d2 F2 H2 S2 h2 E2 k2 r2 => by
    obtain ⟨ky, kvs, rfl, rfl, kk⟩ := h2
    obtain ⟨l, ws, rfl, hl, rk⟩ := rp_dct r2
    refine ⟨l, _, rfl, dget_of E2.fin.fh (r1.ex k2) (E2.fin.fh _ _ hl), ?_⟩
    rw [(rk.val ky).isSome]
    exact q _ _ F2 H2 S2 kk E2 (k1.trans k2) (.bl _))
theorem jtdnin {K : Bool → List Sl → Prop} {a b : Expr} {pos : Pos} {k : Nat} (hr : Room k X.A) (h : JE X r a S fun d1 S1 => JE X r b S1 fun d2 S2 => ∃ ky kvs, d1 = tupI ky ∧ d2 = dctD kvs ∧ K (!(valD kvs ky).isSome) S2) (hm : behindInMarks .NotIn b = false := by rfl) : JT X r (.Compare a [.NotIn] [b] pos) S K :=
  fun c F σ H hr' E Q q => of_pt (pt_cmp (pc_dnotin (by have := hr.un; omega) pe_tE pe_tE) hm) (h c F σ H hr' E _ fun v1 d1 F1 H1 S1 h1 E1 k1 r1 => h1 c F1 σ H1 hr' E1 _ fun v2 d2 F2 H2 S2 h2 E2 k2 r2 => by
    obtain ⟨ky, kvs, rfl, rfl, kk⟩ := h2
    obtain ⟨l, ws, rfl, hl, rk⟩ := rp_dct r2
    refine ⟨l, _, rfl, dget_of E2.fin.fh (r1.ex k2) (E2.fin.fh _ _ hl), ?_⟩
    rw [(rk.val ky).isSome]
    exact ⟨_, rfl, q _ F2 H2 S2 kk E2 (k1.trans k2)⟩)
/-- {} -/
theorem jemptyD {K : OB → List Sl → Prop} {pos : Pos} (k : K (.d []) S) : JO X r (.Dict [] [] pos) S K := fun c F σ H hr E Q q => of_pe pe_dnewT fun p n => q p _ F _ S k (newL_ob (h := .dT []) (o := .d []) E n .nil) (Ex.refl F)
end
end DL

/-! DL: get, store of dicts; stars; isinstance; sum; tuples compared. -/
namespace DL
open PySem L2
section
variable {X : Cx} {r : SR} {S : List Sl}
/-- x[k] = v, x a dict of one's own -/
theorem jdput {x : Str} {px pos pos' : Pos} {a b : Expr} {E : DE} {rest : List Stmt} {k : Nat} (hr : Room k X.A) (i : Nat) (o0 : OB) (h : JE X r b S fun d2 S1 => JE X r a S1 fun d1 S2 => ∃ ky kvs, d1 = tupI ky ∧ S2[i]? = some (.ob (.d kvs)) ∧ kvs.length < sizeLine ∧ JSs X r rest (S2.set i (.ob (.d (putD kvs ky d2)))) E)
    (h0 : S[i]? = some (.ob o0) := by rfl) (hN : X.N[i]? = some x := by rfl) (hv : Vis X.env.scope x := by first | exact Or.inl rfl | exact Or.inr (Or.inl rfl) | exact Or.inr (Or.inr rfl)) (hd : (x == ("__debug__" : Str)) = false := by decide) (hcd : (x == ("__classdict__" : Str)) = false := by decide)
    (hs : swapsWith b (some (.Subscript (.Name x px) a pos')) pos.line X.env = pure false := by rfl) : JSs X r (.Assign [.Subscript (.Name x px) a pos'] b pos :: rest) S E := jss_cons fun c F σ H hr' Ev G g =>
  of_ps (ps_dput (by have := hr.un; omega) (pe_var hN hv hd hcd) pe_tE pe_tE hs) (by
    obtain ⟨y, e1, l, hh, e2, ha, rv, nF, nb, q0⟩ := Ev.sl i _ h0
    subst e2
    refine h c F σ H hr' Ev _ fun v2 d2 F1 H1 S1 h1 E1 k1 r1 => ⟨.ref l, e1, h1 c F1 σ H1 hr' E1 _ fun v1 d1 F2 H2 S2 h2 E2 k2 r2 => ?_⟩
    obtain ⟨ky, kvs, rfl, es, hl, kk⟩ := h2
    obtain ⟨y, e1', l', hh', e2', ha', rv', _⟩ := E2.sl i _ es
    rw [e1] at e1'; cases e1'; cases e2'
    obtain ⟨ws, rfl, rk⟩ := obr_d rv'
    obtain ⟨b, rfl, hb⟩ := rp_tupI r2
    exact ⟨l, _, rfl, DPut.t ha' (E2.fin.fh _ _ hb) (by rw [rk.length]; exact hl), g.nx F2 σ _ _ kk (E2.write (vs := .dT (putK ws (kI ky) v2)) (ds := .d (putD kvs ky d2)) es e1 (rk.put (r1.ex k2))) (k1.trans k2)⟩)
/-- x.get(k, v), x a dict of one's own -/
theorem je_getO {K : D → List Sl → Prop} {x : Str} {px apos cpos : Pos} {a b : Expr} {k : Nat} (hr : Room k X.A) (i : Nat) (kvs0 : List (List Int × D)) (h : JE X r a S fun d1 S1 => JE X r b S1 fun d2 S2 => ∃ ky kvs, d1 = tupI ky ∧ S2[i]? = some (.ob (.d kvs)) ∧ K ((valD kvs ky).getD d2) S2)
    (h0 : S[i]? = some (.ob (.d kvs0)) := by rfl) (hN : X.N[i]? = some x := by rfl) (hv : Vis X.env.scope x := by first | exact Or.inl rfl | exact Or.inr (Or.inl rfl) | exact Or.inr (Or.inr rfl)) (hd : (x == ("__debug__" : Str)) = false := by decide) (hcd : (x == ("__classdict__" : Str)) = false := by decide)
    (m : M2 X (.Name x px) "get" apos a b cpos := by exact ⟨rfl, rfl, rfl, rfl⟩) : JE X r (.Call (.Attribute (.Name x px) "get" apos) [a, b] [] cpos) S K := fun c F σ H hr' E Q q =>
  of_pe (pe_dget2 (by have := hr.un; omega) (pe_var hN hv hd hcd) pe_tE pe_tE m) (by
    obtain ⟨y, e1, l, hh, e2, ha, rv, nF, nb, q0⟩ := E.sl i _ h0
    subst e2
    obtain ⟨ws0, rfl, rk0⟩ := obr_d rv
    refine ⟨.ref l, e1, l, rfl, .inr ⟨ws0, .inl ha⟩, h c F σ H hr' E _ fun v1 d1 F1 H1 S1 h1 E1 k1 r1 => h1 c F1 σ H1 hr' E1 _ fun v2 d2 F2 H2 S2 h2 E2 k2 r2 => ?_⟩
    obtain ⟨ky, kvs, rfl, es, kk⟩ := h2
    obtain ⟨y, e1', l', hh', e2', ha', rv', _⟩ := E2.sl i _ es
    rw [e1] at e1'; cases e1'; cases e2'
    obtain ⟨ws, rfl, rk⟩ := obr_d rv'
    refine ⟨_, dget_of E2.fin.fh (r1.ex k2) ha', ?_⟩
    have ro := rk.val ky
    generalize valV ws (kI ky) = ov at *
    generalize valD kvs ky = od at *
    cases ro with
    | none => exact q _ _ F2 H2 S2 kk E2 (k1.trans k2) r2
    | some r => exact q _ _ F2 H2 S2 kk E2 (k1.trans k2) r)
/-- d.get(k, v), d a dict -/
theorem je_getD {K : D → List Sl → Prop} {o a b : Expr} {apos cpos : Pos} {k : Nat} (hr : Room k X.A) (h : JE X r o S fun d0 S0 => ∃ kvs, d0 = dctD kvs ∧ JE X r a S0 fun d1 S1 => JE X r b S1 fun d2 S2 => ∃ ky, d1 = tupI ky ∧ K ((valD kvs ky).getD d2) S2)
    (m : M2 X o "get" apos a b cpos := by exact ⟨rfl, rfl, rfl, rfl⟩) : JE X r (.Call (.Attribute o "get" apos) [a, b] [] cpos) S K := fun c F σ H hr' E Q q =>
  of_pe (pe_dget2 (by have := hr.un; omega) pe_tE pe_tE pe_tE m) (h c F σ H hr' E _ fun v0 d0 F0 H0 S0 h0 E0 k0 r0 => by
    obtain ⟨kvs, rfl, h1⟩ := h0
    obtain ⟨l, ws, rfl, hl, rk⟩ := rp_dct r0
    refine ⟨l, rfl, .inr ⟨ws, .inl (E0.fin.fh _ _ hl)⟩, h1 c F0 σ H0 hr' E0 _ fun v1 d1 F1 H1 S1 h1 E1 k1 r1 => h1 c F1 σ H1 hr' E1 _ fun v2 d2 F2 H2 S2 h2 E2 k2 r2 => ?_⟩
    obtain ⟨ky, rfl, kk⟩ := h2
    refine ⟨_, dget_of E2.fin.fh (r1.ex k2) (E2.fin.fh _ _ (k2 _ _ (k1 _ _ hl))), ?_⟩
    have ro := (rk.ex (k1.trans k2)).val ky
    generalize valV ws (kI ky) = ov at *
    generalize valD kvs ky = od at *
    cases ro with
    | none => exact q _ _ F2 H2 S2 kk E2 ((k0.trans k1).trans k2) r2
    | some r => exact q _ _ F2 H2 S2 kk E2 ((k0.trans k1).trans k2) r)
/-- d[k], d a dict -/
theorem je_subD {K : D → List Sl → Prop} {o a : Expr} {pos : Pos} {k : Nat} (hr : Room k X.A) (h : JE X r o S fun d0 S0 => JE X r a S0 fun d1 S1 => ∃ ky kvs d, d0 = dctD kvs ∧ d1 = tupI ky ∧ valD kvs ky = some d ∧ K d S1) (hs : NoSl a := by exact fun _ _ => rfl) : JE X r (.Subscript o a pos) S K := fun c F σ H hr' E Q q =>
  of_pe (pe_dget (by have := hr.un; omega) pe_tE pe_tE hs) (h c F σ H hr' E _ fun v0 d0 F0 H0 S0 h0 E0 k0 r0 => h0 c F0 σ H0 hr' E0 _ fun v1 d1 F1 H1 S1 h1 E1 k1 r1 => by
    obtain ⟨ky, kvs, d, rfl, rfl, ed, kk⟩ := h1
    obtain ⟨l, ws, rfl, hl, rk⟩ := rp_dct r0
    have g := dget_of E1.fin.fh r1 (E1.fin.fh _ _ (k1 _ _ hl))
    have ro := (rk.ex k1).val ky
    rw [ed] at ro
    generalize valV ws (kI ky) = ov at *
    cases ro with
    | some r => exact ⟨l, _, rfl, g, q _ _ F1 H1 S1 kk E1 (k0.trans k1) r⟩)
/-! ### stars -/
theorem ArA.ofRp {c : C} {F : Hp} : ∀ {vs : List V} {ds : List D}, RpA F vs ds → ArA c F vs (ds.map Ar.d)
  | _, _, .nil => .nil
  | _, _, .cons r t => .cons (show ArR c F _ (.d _) from r) (ArA.ofRp t)
theorem ArA.app {c : C} {F : Hp} : ∀ {vs ws : List V} {as bs : List Ar}, ArA c F vs as → ArA c F ws bs → ArA c F (vs ++ ws) (as ++ bs)
  | _, _, _, _, .nil, h => h
  | _, _, _, _, .cons r t, h => .cons r (ArA.app t h)
theorem dats_map : ∀ ds : List D, dats (ds.map Ar.d) = some ds
  | [] => rfl
  | d :: ds => by rw [List.map_cons]; unfold dats; rw [dats_map ds]; rfl
theorem jA_star {K : List Ar → List Sl → Prop} {e : Expr} {p : Pos} {es : List Expr} (h : JE X r e S fun d S1 => ∃ ds, (d = .tuple ds ∨ d = .list ds) ∧ JA X r es S1 fun as S2 => K (ds.map Ar.d ++ as) S2) (hs : starEach (.Starred e p :: es) X.env = (true, eval e X.env) :: starEach es X.env := by rfl) : JA X r (.Starred e p :: es) S K := fun c F σ H hr E Q q =>
  of_pa (StX.pa_star pe_tE pa_tA hs) (h c F σ H hr E _ fun v d F1 H1 S1 h1 E1 k1 r1 => by
    obtain ⟨ds, ed, h2⟩ := h1
    rcases ed with rfl | rfl
    · cases r1 with
      | @tup a vs _ ha rv => exact ⟨a, vs, rfl, .inl (.inl (.inl (E1.fin.fh _ _ ha))), h2 c F1 σ H1 hr E1 _ fun ws as F2 H2 S2 h3 E2 k2 r2 => q _ _ F2 H2 S2 h3 E2 (k1.trans k2) (ArA.app (ArA.ofRp (rv.ex k2)) r2)⟩
    · cases r1 with
      | @lst a vs _ ha rv => exact ⟨a, vs, rfl, .inr (.inl (.inl (E1.fin.fh _ _ ha))), h2 c F1 σ H1 hr E1 _ fun ws as F2 H2 S2 h3 E2 k2 r2 => q _ _ F2 H2 S2 h3 E2 (k1.trans k2) (ArA.app (ArA.ofRp (rv.ex k2)) r2)⟩)
/-! ### isinstance -/
def tyD : D → String
  | .none => "NoneType"
  | .bool _ => "bool"
  | .int _ => "int"
  | .str _ => "str"
  | .list _ => "list"
  | .tuple _ => "tuple"
  | .dict ((.none, _) :: _) => "tuple"
  | .dict _ => "dict"
theorem tyD_dct (kvs : List (List Int × D)) : tyD (dctD kvs) = "dict" := by cases kvs <;> rfl
theorem rp_ty {K : PySem.W.Frag} {F H : Hp} {v : V} {d : D} (k : Ex F H) (r : Rp F v d) : TyX K H v (.type (tyD d)) := by
  cases r with
  | non => exact .base .non
  | bl b => exact .base (.bl b)
  | int i => exact .base (.int i)
  | str x => exact .base (.str x)
  | tup h _ => exact .base (.tup (k _ _ h))
  | lst h _ => exact .base (.lst (k _ _ h))
  | dct h _ => rw [tyD_dct]; exact .base (.dT (k _ _ h))
  | ftup h _ _ => exact .fTuple (k _ _ h)
theorem jisi {K : D → List Sl → Prop} {T : Str} {Tn : String} {e : Expr} {p p2 pos : Pos} (hm : X.mg "isinstance" = none) (hmT : X.mg T = none) (h : JE X r e S fun d S1 => ∃ b, kitB (tyD d) Tn = some b ∧ K (.bool b) S1) (hg : Gl X "isinstance" := by rfl) (hgT : Gl X T := by rfl) (hvT : bootBuiltins T = some (.type Tn) := by decide +kernel) (hnT : T ≠ "__name__" := by decide) (hdT : (T == ("__debug__" : Str)) = false := by decide)
    (s1 : starEach [e, .Name T p2] X.env = (false, eval e X.env) :: starEach [.Name T p2] X.env := by rfl) (s2 : starEach [.Name T p2] X.env = (false, eval (.Name T p2) X.env) :: starEach [] X.env := by rfl) (hpl : (backTo pos (starEach [.Name T p2] X.env)).any (·.1) = false := by rfl) :
    JE X r (.Call (.Name "isinstance" p) [e, .Name T p2] [] pos) S K := fun c F σ H hr E Q q =>
  of_pe (pe_callB call_isi hg hm (by decide +kernel) (pa_cons pe_tE (pa_cons (pe_bltn (v := .ty Tn) hgT hmT hvT rfl hnT hdT) pa_nil s2) s1) (by decide) (by decide) s1 hpl) (h c F σ H hr E _ fun v d F1 H1 S1 h1 E1 k1 r1 => by
    obtain ⟨b, e1, kk⟩ := h1
    exact ⟨v, .ty Tn, _, _, b, rfl, .ty Tn, rp_ty E1.fin.fh r1, kit_ty e1, q _ _ F1 H1 S1 kk E1 k1 (.bl b)⟩)
/-! ### sum -/
theorem jsum {K : D → List Sl → Prop} {a : Expr} {p pos : Pos} (hc : X.calm = true) (hm : X.mg "sum" = none) (h : JE X r a S fun d S1 => ∃ ns : List Int, d = .list (ns.map .int) ∧ K (.int ns.sum) S1) (hg : Gl X "sum" := by rfl) (hs : starEach [a] X.env = (false, eval a X.env) :: starEach [] X.env := by rfl) : JE X r (.Call (.Name "sum" p) [a] [] pos) S K :=
  jB (cr_sum hc) hm (ja1 (h.mono fun d S1 ⟨ns, e, kk⟩ => ⟨[d], rfl, by
    rw [e]
    intro F H vs kF rv Q q
    cases rv with
    | cons r1 t =>
      cases t
      cases r1 with
      | @lst a ws _ ha rw' =>
        have := RpA.ints_of rw'
        subst this
        exact ⟨a, ns, rfl, .inl (.inl (kF _ _ ha)), q _ _ F H kk (Grow.refl kF) (.int _)⟩⟩) hs) hg (by decide +kernel) (by decide) (by decide) hs rfl
/-! ### tuples of ints compared -/
def rLeTI (X : Cx) : R2 := fun x y H Q => ∃ F a b, Ex F H ∧ Rp F x (tupI a) ∧ Rp F y (tupI b) ∧ X.A.units + 1 < cLine ∧ Q (.bl (!ltL b a)) H
theorem op_leTI : OpR X (compareOp .LtE) (rLeTI X) := by
  intro pins s σ H x y v u Q I rx ry h
  obtain ⟨F, a, b, k, r1, r2, hu, q⟩ := h
  obtain ⟨as, h1⟩ := Rp.reads k I.hok r1 rx (nice_tupI (n := 1) a).pl
  obtain ⟨bs, h2⟩ := Rp.reads k I.hok r2 ry (nice_tupI (n := 1) b).pl
  exact PySem.W.le_datum (x := (⟨a⟩ : PySem.W.Tup Int)) (y := ⟨b⟩) ⟨as, h1⟩ ⟨bs, h2⟩ hu ⟨.bl _, H, I, rfl, q⟩
theorem od_leTI {k : Nat} (hr : Room k X.A) {a b : List Int} {K : D → Prop} (h : K (.bool (!ltL b a))) : OpD (rLeTI X) (tupI a) (tupI b) K := fun F H v1 v2 kF r1 r2 Q q => ⟨F, a, b, kF, r1, r2, by have := hr.un; omega, q _ _ F H h (Grow.refl kF) (.bl _)⟩
end
end DL

/-! DL: update of a dict that may be empty; hashes of tuples of ints. -/
namespace DL
open PySem L2
def hI (k : List Int) : Int := PySem.reduceHash (PySem.Builtin.Tuple.tupleHashOf (k.map PySem.hashInt))
theorem hash_kI (P : Program) (w : World) (k : List Int) : (tupleKind (mixKind P w)).hash (kI k) = hI k := by
  show PySem.tupleKeyHash _ _ = _
  unfold PySem.tupleKeyHash kI hI
  rw [List.map_map]
  rfl
theorem RpK.hash {F : Hp} (P : Program) (w : World) : ∀ {ws : List (List Key × V)} {kvs : List (List Int × D)}, RpK F ws kvs → (ws.map fun p => (tupleKind (mixKind P w)).hash p.1) = kvs.map fun p => hI p.1
  | _, _, .nil => rfl
  | _, _, .cons (k := k) _ t => by
    rw [List.map_cons, List.map_cons, RpK.hash P w t]
    exact congrArg (· :: _) (hash_kI P w k)
theorem KT.same {H : Hp} {α : Type} (f : List Key → α) : ∀ {more : List (List Key × V)} {xs : List (List Key × Addr × Value)}, KT H more xs → (xs.map fun x => f x.1) = more.map fun p => f p.1
  | _, _, .nil => rfl
  | _, _, .cons z t => by rw [List.map_cons, List.map_cons, KT.same f t, z.1]
section
variable {X : Cx} {r : SR} {S : List Sl}
def rUpdT2 (X : Cx) : V → List V → Hp → VK → Prop := fun x vs H Q => ∃ (a b : Addr) (kvs more : List (List Key × V)), x = .ref a ∧ vs = [.ref b] ∧ a ≠ b ∧ H a = some (.dT kvs) ∧ H b = some (.dT more) ∧
  (kvs ≠ [] ∨ (more.map fun p => (tupleKind (mixKind X.prog X.w)).hash p.1).Nodup) ∧ kvs.length + more.length ≤ sizeLine ∧ Q .non (upd H a (.dT (mergeT kvs more)))
theorem mt_updT2 (hu : X.A.units + 2 < cLine) : MtR X "dict.update" (rUpdT2 X) := by
  intro pins s σ H x vs v us Q I rx rv h
  obtain ⟨a, b, kvs, more, ex, ev, hne, ha, hb, h0, hl, q⟩ := h
  subst ex
  subst ev
  obtain rfl : v = Value.ref a := rx
  obtain ⟨u, rfl, ru⟩ := rv.one
  obtain rfl : u = Value.ref b := ru
  obtain ⟨z1, d1, xs1, rel1, dd1⟩ := dt_of I.hok ha
  obtain ⟨z2, d2, xs2, rel2, dd2⟩ := dt_of I.hok hb
  have l1 := Paired.length rel1
  have l2 := Paired.length rel2
  have hap : xs1 ≠ [] ∨ ((∀ x ∈ xs2, s.TypeIs (.ref x.2.1) "tuple") ∧ (xs2.map fun x => (tupleKind (mixKind X.prog X.w)).hash x.1).Nodup) := by
    rcases h0 with h0 | h0
    · exact .inl fun z => by rw [z] at l1; exact h0 (List.length_eq_zero_iff.mp l1)
    · refine .inr ⟨?_, by rw [KT.same _ rel2]; exact h0⟩
      have all : ∀ {l : List (List Key × V)} {m : List (List Key × Addr × Value)}, KT H l m → ∀ x ∈ m, H x.2.1 = some (.tup (x.1.map kV)) := by
        intro l m q
        induction q with
        | nil => intro x hx; exact nomatch hx
        | @cons p q ps qs hq t ih =>
          intro x hx
          rcases List.mem_cons.mp hx with e | hx
          · subst e; rw [← hq.1]; exact hq.2.1
          · exact ih x hx
      intro x hx
      obtain ⟨_, _, _, o, g1, g2, _⟩ := (show ObjOk X.prog X.w H s.heap x.2.1 (.tup (x.1.map kV)) from I.hok _ _ (all rel2 x hx))
      exact ⟨o, g1, g2⟩
  refine call_update_dictH (knd := tupleKind (mixKind X.prog X.w)) (show X.A.units + 1 < cLine by omega) hne d2 dd1 dd2 hap (by omega) fun h' dd' _ hs => ?_
  have he : ∃ q, h'.get? a = some q := let ⟨q, _, _, hq, _⟩ := dd'; ⟨q, hq⟩
  have hlen : (mergeT kvs more).length ≤ sizeLine := Nat.le_trans (length_mergeT more kvs) hl
  obtain ⟨o, es, ep, g1, g2, g3, g4, _, g5⟩ := dd'
  refine ⟨.non, _, d_write (t' := s.toks) (ob := .dT (mergeT kvs more)) I (by rw [ha]; exact True.intro) hs he ⟨hlen, d1, _, (KT.merge rel2 rel1).keeps fun c ys ec => ?_, o, es, ep, g1, g2, g3, g4, g5⟩, rfl, q⟩
  rw [upd_ne (ne_of ec ha (fun z => nomatch z))]
  exact ec
/-- x.update(e), x a dict of one's own, perhaps empty -/
theorem jupd2 {e : Expr} {x : Str} {p apos cpos pos : Pos} {E : DE} {rest : List Stmt} {k : Nat} (hr : Room k X.A) (i : Nat) (kvs0 : List (List Int × D))
    (h : JE X r e S fun d S1 => ∃ kvs more, d = dctD more ∧ S1[i]? = some (.ob (.d kvs)) ∧ (kvs ≠ [] ∨ (more.map fun p => hI p.1).Nodup) ∧ kvs.length + more.length ≤ sizeLine ∧ JSs X r rest (S1.set i (.ob (.d (mergeD kvs more)))) E) (h0 : S[i]? = some (.ob (.d kvs0)) := by rfl)
    (hp : ∀ {rr : V → List V → Hp → VK → Prop}, MtR X "dict.update" rr → PS X (.Expr (.Call (.Attribute (.Name x p) "update" apos) [e] [] cpos) pos) (tDrop (tBM X.K "dict" rr (tVar i) (tCons (tE X e) tNil))) := by exact fun hm => ps_expr (pe_bm PySem.F.plainAttrs_dict PySem.F.slot_dict_update PySem.F.type_dict_update hm (pv _) (pa_cons pe_tE pa_nil))) :
    JSs X r (.Expr (.Call (.Attribute (.Name x p) "update" apos) [e] [] cpos) pos :: rest) S E := jss_cons fun c F σ H hr' Ev G g => of_ps (hp (mt_updT2 (by have := hr.un; omega))) (by
  obtain ⟨y, e1, a, hh, e2, ha, rv, nF, nb, q0⟩ := Ev.sl i _ h0
  subst e2
  obtain ⟨vs, rfl, rv⟩ := obr_d rv
  refine ⟨.ref a, e1, .inr (.inr (.inl ⟨rfl, .inr ⟨_, ha⟩⟩)), h c F σ H hr' Ev _ fun v d F1 H1 S1 h1 E1 k1 r1 => ?_⟩
  obtain ⟨kvs, more, rfl, e3, hne, hl, kx⟩ := h1
  obtain ⟨y, e1', a', hh', e2', ha', rv', nF', _⟩ := E1.sl i _ e3
  rw [e1] at e1'; cases e1'; cases e2'
  obtain ⟨ws, rfl, rv'⟩ := obr_d rv'
  obtain ⟨b, ws2, rfl, hb, rk⟩ := rp_dct r1
  have hab : a ≠ b := fun z => by rw [z, hb] at nF'; cases nF'
  refine ⟨a, b, ws, ws2, rfl, rfl, hab, ha', E1.fin.fh _ _ hb, ?_, by rw [rv'.length, rk.length]; exact hl, g.nx F1 σ _ _ kx (E1.write (vs := .dT (mergeT ws ws2)) (ds := .d (mergeD kvs more)) e3 e1 (RpK.merge rk rv')) k1⟩
  rcases hne with hne | hne
  · exact .inl fun z => by
      have := rv'.length
      rw [z] at this
      exact hne (List.length_eq_zero_iff.mp this.symm)
  · exact .inr (by rw [rk.hash]; exact hne))
end
end DL

/-! DL: sorted(..) of a dict's keys; a, b = x, []. -/
namespace DL
open PySem L2 PyProof.Rows
section
variable {X : Cx} {r : SR} {S : List Sl}
theorem sort_read {h : Heap} {H : Hp} {P : Program} {w : World} (ok : HOk P w H h) : ∀ {bs : List Addr} {ks : List (List Int)}, (∀ (i : Nat) b k, bs[i]? = some b → ks[i]? = some k → H b = some (.tup ((kI k).map kV))) → bs.length = ks.length →
    PySem.W.EachIs (fun u (d : D) => ∃ b k, u = Value.ref b ∧ d = tupI k ∧ H b = some (.tup ((kI k).map kV))) (bs.map Value.ref) (ks.map tupI) ∧ PySem.W.EachIs (fun u (d : D) => ∃ as, Reads h u d as) (bs.map Value.ref) (ks.map tupI)
  | [], [], _, _ => ⟨.nil, .nil⟩
  | [], _ :: _, _, e => by cases e
  | _ :: _, [], _, e => by cases e
  | b :: bs, k :: ks, hb, e => by
    obtain ⟨h1, h2⟩ := sort_read ok (bs := bs) (ks := ks) (fun i b k e1 e2 => hb (i + 1) b k (by simpa using e1) (by simpa using e2)) (by simpa using e)
    have h0 := hb 0 b k rfl rfl
    refine ⟨.cons ⟨b, k, rfl, rfl, h0⟩ h1, .cons ?_ h2⟩
    exact Rp.reads (F := H) (Ex.refl H) ok (.tup h0 (RpA.kI k)) rfl (nice_tupI (n := 1) k).pl
theorem of_keys {H : Hp} : ∀ {us : List Value} {ks : List (List Int)}, PySem.W.EachIs (fun u (d : D) => ∃ b k, u = Value.ref b ∧ d = tupI k ∧ H b = some (.tup ((kI k).map kV))) us (ks.map tupI) →
    ∃ bs : List Addr, us = bs.map Value.ref ∧ bs.length = ks.length ∧ ∀ (i : Nat) b k, bs[i]? = some b → ks[i]? = some k → H b = some (.tup ((kI k).map kV))
  | _, [], h => by cases h; exact ⟨[], rfl, rfl, fun i b k e => by simp at e⟩
  | _, k :: ks, h => by
    rw [List.map_cons] at h
    cases h with
    | cons h1 t =>
      obtain ⟨b, k', rfl, ek, hb⟩ := h1
      have := tupI_inj ek
      subst this
      obtain ⟨bs, rfl, h2, h3⟩ := of_keys t
      refine ⟨b :: bs, rfl, by rw [List.length_cons, List.length_cons, h2], fun i b k e1 e2 => ?_⟩
      cases i with
      | zero => simp at e1 e2; subst e1 e2; exact hb
      | succ i => exact h3 i b k (by simpa using e1) (by simpa using e2)
/-- sorted(d), d a dict whose keys are tuples of ints -/
def rSortK (X : Cx) : List V → Hp → VK → Prop := fun vs H Q => ∃ (a : Addr) (ws : List (List Key × V)) (ks : List (List Int)), vs = [.ref a] ∧ Rd H a (.dT ws) ∧ ws.map (·.1) = ks.map kI ∧ X.A.units + 5 < cLine ∧
  ∀ (p : Addr) (bs : List Addr), bs.length = (sortL ks).length → (∀ (i : Nat) b k, bs[i]? = some b → (sortL ks)[i]? = some k → H b = some (.tup ((kI k).map kV))) → H p = none → Q (.ref p) (upd H p (.lst (bs.map V.ref)))
theorem call_sortK (hcalm : X.calm = true) : CallR X (.builtin "sorted") (rSortK X) := by
  intro pins s σ H xs us Q I r q
  obtain ⟨a, ws, ks, ex, hd, hks, hu, q⟩ := q
  subst ex
  obtain ⟨u, eu, rx⟩ := vals1 r
  subst eu
  cases rx
  obtain ⟨z, hs, ys, pr, o, es, ep, ho, hx, hdt, he, hn⟩ := (show ObjOk X.prog X.w H s.heap a (.dT ws) from hd.ok I.hok)
  have l1 : es.size = ys.length := size_of_entries he
  have l2 : ws.length = ys.length := Paired.length pr
  have l3 : ws.length = ks.length := by have := congrArg List.length hks; rw [List.length_map, List.length_map] at this; exact this
  refine Calls.call_function_entry PyProof.Rows.kind_sorted PyProof.Rows.plain_sorted PyProof.Rows.entry_sorted (PyProof.Rows.args_sorted1 _) ?_
  unfold Builtin.«sorted»
  refine wpAny_bind (m := checkCount "sorted" 1 1 _) (wpAny_pure ?_)
  refine wpAny_bind (PySem.W.kdu_collect (A := X.A.in1) (kdl_raw hs hx hdt) (I.ok.hd hcalm) ho (by omega) fun h' tk acc hk it => ?_)
  have ea : acc.toList = ys.map fun y => Value.ref y.2.1 := by
    have hl : acc.toList.length = ys.length := by rw [Array.length_toList, it.1]; exact l1
    apply List.ext_getElem?
    intro j
    rw [List.getElem?_map]
    cases hj : acc.toList[j]? with
    | none =>
      have h1 := List.getElem?_eq_none_iff.mp hj
      rw [List.getElem?_eq_none (by omega)]
      rfl
    | some v =>
      obtain ⟨en, hen, hv⟩ := it.2 j v (by rw [← Array.getElem?_toList]; exact hj)
      have qe := entry_at he j
      rw [hen] at qe
      cases hb : ys[j]? with
      | none => rw [hb] at qe; exact nomatch (show some en = none from qe)
      | some b =>
        rw [hb] at qe
        have e2 : en = entryOfKey (tupleKind (mixKind X.prog X.w)) b := Option.some.inj qe
        rw [hv, e2]
        rfl
  have I1 : Inv X pins σ H { s with heap := h', toks := tk } := I.kept hk
  have hB : ∀ (i : Nat) b k, (ys.map fun y => y.2.1)[i]? = some b → ks[i]? = some k → H b = some (.tup ((kI k).map kV)) := fun i b k e1 e2 => by
    rw [List.getElem?_map] at e1
    cases ey : ys[i]? with
    | none => rw [ey] at e1; cases e1
    | some y =>
      rw [ey] at e1
      cases e1
      have hi : i < ws.length := by rw [l2]; exact (List.getElem?_eq_some_iff.mp ey).1
      obtain ⟨y', ey', g1, g2, _⟩ := paired_get pr (List.getElem?_eq_getElem hi)
      rw [ey] at ey'
      cases ey'
      have e3 : (ws.map (·.1))[i]? = some ws[i].1 := by rw [List.getElem?_map, List.getElem?_eq_getElem hi]; rfl
      rw [hks, List.getElem?_map, e2] at e3
      have e4 : kI k = ws[i].1 := Option.some.inj e3
      rw [e4]
      exact g2
  have hlen : (ys.map fun y => y.2.1).length = ks.length := by rw [List.length_map]; omega
  have ea2 : acc.toList = (ys.map fun y => y.2.1).map Value.ref := by rw [ea, List.map_map]; rfl
  obtain ⟨e1, er1⟩ := sort_read I1.hok hB hlen
  rw [← ea2] at e1 er1
  have hz : acc.toList.length ≤ sizeLine := by rw [ea, List.length_map]; omega
  refine wpAny_bind (wpAny_newList ?_ hz)
  have hoL : (h'.push (seqObj "list" acc.toList.toArray 0)).get? h'.objs.size = some (seqObj "list" acc.toList.toArray 0) := Heap.get?_push_size _ rfl
  show wpAny _ _ _ _ _ { s with heap := h'.push (seqObj "list" acc.toList.toArray 0), toks := tk }
  have hal : PySem.W.AllAlike (ks.map tupI) := PySem.W.AllAlike.of alike_tupI
  have ht : ∀ d ∈ ks.map tupI, ∃ xs, d = PyData.tuple xs := fun d hd => by
    obtain ⟨l, _, rfl⟩ := List.mem_map.mp hd
    exact ⟨_, rfl⟩
  have hdp : ∀ d ∈ ks.map tupI, d.depth = 1 := fun d hd => by
    obtain ⟨l, _, rfl⟩ := List.mem_map.mp hd
    exact depth_tupI l
  have keepS : ∀ b u, h'.get? b = some u → (PySem.W.sortingHeap (h'.push (seqObj "list" acc.toList.toArray 0)) h'.objs.size acc.toList).get? b = some u := fun b u e =>
    PySem.W.sortingHeap_old (Nat.ne_of_lt (Heap.lt_size e)) (Heap.get?_push_of_some _ e)
  have er2 : PySem.W.EachIs (fun v d => ∃ as, Reads (PySem.W.sortingHeap (h'.push (seqObj "list" acc.toList.toArray 0)) h'.objs.size acc.toList) v d as) acc.toList (ks.map tupI) := er1.mono fun _ _ ⟨as, r⟩ => ⟨as, PyProof.Rows.Reads.keeps keepS r⟩
  refine wpAny_bind (wpAny_holding (wpAny_call_entry PyProof.Rows.slot_list_sort ⟨_, hoL, rfl⟩ PyProof.Rows.entry_list_sort
    (PySem.W.list_sort_vals (s := { s with heap := h'.push (seqObj "list" acc.toList.toArray 0), toks := tk }) hoL (sortsAt_tups (s := { s with heap := PySem.W.sortingHeap (h'.push (seqObj "list" acc.toList.toArray 0)) h'.objs.size acc.toList, toks := tk }) er2 hal ht fun d h => by rw [hdp d h]; show X.A.units + 1 + 1 + 1 < cLine; omega) hz ⟨_, rfl, ?_⟩) (PyProof.Rows.args_list_sort _)))
  have out := PySem.W.sortVals_data (enc := id) (R := fun u (d : D) => ∃ b k, u = Value.ref b ∧ d = tupI k ∧ H b = some (.tup ((kI k).map kV))) false e1 er2 (by rw [List.map_id]; exact hal)
  rw [List.map_id, sort_map dataLe_tupI] at out
  obtain ⟨bs, eo, g1, g2⟩ := of_keys out
  obtain ⟨e', he'⟩ := PyProof.Rows.sortedHeap_at (vs := acc.toList) (out := (PySem.W.sortVals (PySem.W.dataKind (PySem.W.sortingHeap (h'.push (seqObj "list" acc.toList.toArray 0)) h'.objs.size acc.toList) (ks.map tupI)) false acc.toList acc.toList).toArray) hoL
  have hlen2 : (bs.map V.ref).length ≤ sizeLine := by
    rw [List.length_map, g1, List.length_mergeSort, ← hlen, List.length_map]
    omega
  refine wpAny_pure ⟨_, rfl, .ref h'.objs.size, upd H h'.objs.size (.lst (bs.map V.ref)), I1.laid (t' := tk) (fun b u e => ?_) (Nat.le_refl _) (show ObjOk X.prog X.w _ _ _ (.lst (bs.map V.ref)) from ⟨hlen2, _, e', by rw [eo]; exact vals_refs bs, he'⟩), rfl, q _ bs g1 g2 (I1.hok.fresh (Nat.le_refl _))⟩
  have hb : b < h'.objs.size := Heap.lt_size e
  rw [PyProof.Rows.sortedHeap_old (Nat.ne_of_lt hb) (by rw [size_push']; exact Nat.lt_succ_of_lt hb)]
  exact Heap.get?_push_of_some _ e
theorem RpK.keys {F : Hp} : ∀ {ws : List (List Key × V)} {kvs : List (List Int × D)}, RpK F ws kvs → ws.map (·.1) = (kvs.map (·.1)).map kI
  | _, _, .nil => rfl
  | _, _, .cons _ t => by rw [List.map_cons, List.map_cons, List.map_cons, RpK.keys t]; rfl
theorem jsortK {K : List D → List Sl → Prop} {a : Expr} {p pos : Pos} {k : Nat} (hr : Room k X.A) (hc : X.calm = true) (hm : X.mg "sorted" = none) (h : JE X r a S fun d S1 => ∃ kvs : List (List Int × D), d = dctD kvs ∧ K ((sortL (kvs.map (·.1))).map tupI) S1) (hg : Gl X "sorted" := by rfl) (hs : starEach [a] X.env = (false, eval a X.env) :: starEach [] X.env := by rfl) : JN X r (.Call (.Name "sorted" p) [a] [] pos) S K := fun c F σ H hr' E Q q =>
  of_pe (pe_callB (call_sortK hc) hg hm (by decide +kernel) (pa_cons pe_tE pa_nil hs) (by decide) (by decide) hs rfl) (h c F σ H hr' E _ fun v d F1 H1 S1 h1 E1 k1 r1 => by
    obtain ⟨kvs, rfl, kk⟩ := h1
    obtain ⟨l, ws, rfl, hl, rk⟩ := rp_dct r1
    refine ⟨l, ws, kvs.map (·.1), rfl, .inl (E1.fin.fh _ _ hl), rk.keys, by have := hr.un; omega, fun p bs hb1 hb2 n => ?_⟩
    obtain ⟨F', k2, E', ra⟩ := E1.freezeAll hb2 hb1
    exact q p _ F' _ S1 kk (newL_of E' n ra) (k1.trans k2))
/-- a, b = x, []: the second a new list -/
theorem jpar2N {x y : Str} {a b : Expr} {px py pt pos : Pos} {kt k2 pt2} {E : DE} {rest : List Stmt} (i j : Nat) (h : JE X r a S fun d1 S1 => JN X r b S1 fun ds S2 => S2[i]? = some .emp ∧ JSs X r rest ((S2.set i (.val d1)).set j (.own ds)) E)
    (hc : X.calm = true := by rfl) (hN : X.N.Nodup := by assumption) (hi : X.N[i]? = some x := by rfl) (hj : X.N[j]? = some y := by rfl) (hij : i ≠ j := by decide) (hx : X.env.scope.names.lookup x = some .local := by rfl) (hy : X.env.scope.names.lookup y = some .local := by rfl)
    (hw : swappedStores [.Tuple [.Name x px, .Name y py] kt pt] (.Tuple [a, b] k2 pt2) X.env = pure (some [x, y]) := by rfl) (hs : swapsWithSole [.Tuple [.Name x px, .Name y py] kt pt] (.Tuple [a, b] k2 pt2) pos.line X.env = pure false := by rfl)
    (s1 : starEach [a, b] X.env = (false, eval a X.env) :: starEach [b] X.env := by rfl) (s2 : starEach [b] X.env = (false, eval b X.env) :: starEach [] X.env := by rfl) :
    JSs X r (.Assign [.Tuple [.Name x px, .Name y py] kt pt] (.Tuple [a, b] k2 pt2) pos :: rest) S E := jss_cons fun c F σ H hr Ev G g =>
  of_ps (ps_par hc hN hi hj hij hx hy (pa_cons pe_tE (pa_cons pe_tE pa_nil s2) s1) hw hs) (h c F σ H hr Ev _ fun v d F1 H1 S1 h1 E1 k1 r1 => h1 c F1 σ H1 hr E1 _ fun p ds F2 H2 S2 h2 n k2 => by
    obtain ⟨hh, E2, hp, hv, nF, b, q, no⟩ := n
    obtain ⟨e1, kk⟩ := h2
    refine ⟨v, .ref p, rfl, g.nx F2 _ H2 _ kk ((E2.set (i := i) (r1.ex k2)).setOwn hp hv nF b q fun m xs em => ?_) (k1.trans k2)⟩
    have hli : i < S2.length := (List.getElem?_eq_some_iff.mp e1).1
    by_cases hm : i = m
    · subst hm
      rw [List.getElem?_set_self hli] at em; cases em
    · rw [List.getElem?_set_ne hm] at em ⊢
      exact no m xs em)
end
end DL

/-! DL: plain facts of dicts with keys that are tuples of ints; walks over range(1, n). -/
namespace DL
open PySem L2
def keyL (kvs : List (List Int × D)) : List (List Int) := kvs.map (·.1)
theorem valD_none {kvs : List (List Int × D)} {k : List Int} : valD kvs k = none ↔ k ∉ keyL kvs := by
  unfold valD keyL
  rw [Option.map_eq_none_iff, List.find?_eq_none]
  constructor
  · intro h hk
    obtain ⟨p, hp, rfl⟩ := List.mem_map.mp hk
    exact h p hp (by simp)
  · intro h p hp e
    rw [decide_eq_true_eq] at e
    exact h (List.mem_map.mpr ⟨p, hp, e⟩)
theorem any_key (kvs : List (List Int × D)) (k : List Int) : (kvs.any fun kv => decide (kv.1 = k)) = decide (k ∈ keyL kvs) := by
  rw [Bool.eq_iff_iff, List.any_eq_true, decide_eq_true_eq]
  unfold keyL
  rw [List.mem_map]
  exact ⟨fun ⟨p, h, e⟩ => ⟨p, h, of_decide_eq_true e⟩, fun ⟨p, h, e⟩ => ⟨p, h, decide_eq_true e⟩⟩
theorem putD_keys (kvs : List (List Int × D)) (k : List Int) (d : D) : keyL (putD kvs k d) = if k ∈ keyL kvs then keyL kvs else keyL kvs ++ [k] := by
  unfold putD
  rw [any_key]
  by_cases h : k ∈ keyL kvs
  · rw [if_pos (decide_eq_true h), if_pos h]
    unfold keyL
    rw [List.map_map]
    refine List.map_congr_left fun p _ => ?_
    show (if p.1 = k then (p.1, d) else p).1 = p.1
    split <;> rfl
  · rw [if_neg (by rw [decide_eq_false h]; exact Bool.false_ne_true), if_neg h]
    unfold keyL
    rw [List.map_append]; rfl
theorem putD_nodup {kvs : List (List Int × D)} (h : (keyL kvs).Nodup) (k : List Int) (d : D) : (keyL (putD kvs k d)).Nodup := by
  rw [putD_keys]
  split
  · exact h
  · rename_i n
    rw [List.nodup_append]
    refine ⟨h, List.nodup_cons.mpr ⟨List.not_mem_nil, List.nodup_nil⟩, fun a ha b hb e => ?_⟩
    rw [List.mem_singleton] at hb
    exact n (by rw [← hb, ← e]; exact ha)
theorem valD_put (kvs : List (List Int × D)) (k k' : List Int) (d : D) : valD (putD kvs k d) k' = if k' = k then some d else valD kvs k' := by
  unfold putD
  rw [any_key]
  by_cases h : k ∈ keyL kvs
  · rw [if_pos (decide_eq_true h)]
    induction kvs with
    | nil => cases h
    | cons p kvs ih =>
      unfold valD at ih ⊢
      rw [List.map_cons]
      by_cases e : p.1 = k
      · rw [if_pos e]
        by_cases e2 : k' = k
        · rw [if_pos e2, List.find?_cons_of_pos (by simp [e, e2])]; rfl
        · rw [if_neg e2, List.find?_cons_of_neg (by simp [e]; exact fun z => e2 z.symm), List.find?_cons_of_neg (by simp [e]; exact fun z => e2 z.symm)]
          by_cases h2 : k ∈ keyL kvs
          · rw [ih h2, if_neg e2]
          · have : kvs.map (fun kv => if kv.1 = k then (kv.1, d) else kv) = kvs := by
              conv => rhs; rw [← List.map_id kvs]
              refine List.map_congr_left fun q hq => ?_
              rw [if_neg (fun z => h2 (List.mem_map.mpr ⟨q, hq, z⟩))]; rfl
            rw [this]
      · have h2 : k ∈ keyL kvs := (List.mem_cons.mp h).resolve_left fun z => e z.symm
        rw [if_neg e]
        by_cases e2 : p.1 = k'
        · rw [List.find?_cons_of_pos (by simp [e2]), List.find?_cons_of_pos (by simp [e2]), if_neg (fun z => e (e2.trans z))]
        · rw [List.find?_cons_of_neg (by simp [e2]), List.find?_cons_of_neg (by simp [e2])]
          exact ih h2
  · rw [if_neg (by rw [decide_eq_false h]; exact Bool.false_ne_true)]
    unfold valD
    rw [List.find?_append]
    by_cases e2 : k' = k
    · subst e2
      have := valD_none.mpr h
      unfold valD at this
      rw [Option.map_eq_none_iff] at this
      rw [if_pos rfl, this, Option.none_or, List.find?_cons_of_pos (by simp)]; rfl
    · rw [if_neg e2, List.find?_cons_of_neg (by simp; exact fun z => e2 z.symm), List.find?_nil, Option.or_none]
theorem mem_keys_merge {k : List Int} : ∀ (ps kvs : List (List Int × D)), k ∈ keyL (mergeD kvs ps) ↔ k ∈ keyL kvs ∨ k ∈ keyL ps
  | [], kvs => by
    show k ∈ keyL kvs ↔ k ∈ keyL kvs ∨ k ∈ []
    simp
  | p :: ps, kvs => by
    show k ∈ keyL (mergeD (putD kvs p.1 p.2) ps) ↔ _
    rw [mem_keys_merge ps, putD_keys]
    show _ ↔ k ∈ keyL kvs ∨ k ∈ p.1 :: keyL ps
    rw [List.mem_cons]
    split
    · rename_i h
      constructor
      · rintro (h1 | h1)
        · exact .inl h1
        · exact .inr (.inr h1)
      · rintro (h1 | rfl | h1)
        · exact .inl h1
        · exact .inl h
        · exact .inr h1
    · rw [List.mem_append, List.mem_singleton, or_assoc]
theorem nodup_merge : ∀ (ps : List (List Int × D)) {kvs : List (List Int × D)}, (keyL kvs).Nodup → (keyL (mergeD kvs ps)).Nodup
  | [], _, h => h
  | p :: ps, _, h => nodup_merge ps (putD_nodup h p.1 p.2)
theorem valD_isSome (kvs : List (List Int × D)) (k : List Int) : (valD kvs k).isSome = decide (k ∈ keyL kvs) := by
  by_cases h : k ∈ keyL kvs
  · rw [decide_eq_true h]
    cases e : valD kvs k with
    | none => exact absurd h (valD_none.mp e)
    | some d => rfl
  · rw [decide_eq_false h, valD_none.mpr h]; rfl
/-- a dict that says of some lots that they are there -/
def knownD (fam : List (List Int)) : List (List Int × D) := mergeD [] (fam.map fun l => (l, PyData.bool true))
theorem known_isSome (fam : List (List Int)) (k : List Int) : (valD (knownD fam) k).isSome = decide (k ∈ fam) := by
  rw [valD_isSome]
  congr 1
  unfold knownD
  rw [mem_keys_merge, eq_iff_iff]
  unfold keyL
  rw [List.map_map]
  have : (fam.map ((fun p : List Int × D => p.1) ∘ fun l => (l, PyData.bool true))) = fam := by
    conv => rhs; rw [← List.map_id fam]
    rfl
  rw [this]
  simp
/-! ### slices of tuples, int(..), isinstance -/
section
variable {X : Cx} {r : SR} {S : List Sl}
theorem je_cutTo {K : D → List Sl → Prop} {e hi : Expr} {p2 pos : Pos} (h : JE X r e S fun d S1 => JE X r hi S1 fun d2 S2 => ∃ (ds : List D) (k : Nat), d = .tuple ds ∧ d2 = .int k ∧ K (.tuple (ds.take k)) S2) : JE X r (.Subscript e (.Slice none (some hi) none p2) pos) S K :=
  je_cutT (h.mono fun d S1 h1 => (show JE X r hi S1 _ from h1.mono fun d2 S2 ⟨ds, k, e1, e2, kk⟩ => ⟨k, e2, ds, e1, by rw [cutD_to]; exact kk⟩))
theorem je_cutFrom {K : D → List Sl → Prop} {e lo : Expr} {p2 pos : Pos} (h : JE X r e S fun d S1 => JE X r lo S1 fun d2 S2 => ∃ (ds : List D) (k : Nat), d = .tuple ds ∧ d2 = .int k ∧ K (.tuple (ds.drop k)) S2) : JE X r (.Subscript e (.Slice (some lo) none none p2) pos) S K :=
  je_cutT (h.mono fun d S1 h1 => (show JE X r lo S1 _ from h1.mono fun d2 S2 ⟨ds, k, e1, e2, kk⟩ => ⟨k, e2, ds, e1, by rw [cutD_from]; exact kk⟩))
theorem jint {K : D → List Sl → Prop} {a : Expr} {p pos : Pos} (hm : X.mg "int" = none) (h : JE X r a S fun d S1 => ∃ i : Int, d = .int i ∧ K (.int i) S1) (hg : Gl X "int" := by rfl) (hs : starEach [a] X.env = (false, eval a X.env) :: starEach [] X.env := by rfl) : JE X r (.Call (.Name "int" p) [a] [] pos) S K :=
  jTy call_int1 hm (ja1 (h.mono fun d S1 ⟨i, e, k⟩ => ⟨[d], rfl, by
    rw [e]
    intro F H vs kF rv Q q
    cases rv with
    | cons r1 t =>
      cases t
      cases r1
      exact .inl ⟨i, rfl, q _ _ F H k (Grow.refl kF) (.int _)⟩⟩) hs) hg (by decide +kernel) (by decide) (by decide) hs rfl
end
theorem kt_tt (ds : List D) : kitB (tyD (.tuple ds)) "tuple" = some true := by show kitB "tuple" "tuple" = _; decide +kernel
theorem kt_ii (i : Int) : kitB (tyD (.int i)) "int" = some true := by show kitB "int" "int" = _; decide +kernel
theorem kt_ib (i : Int) : kitB (tyD (.int i)) "bool" = some false := by show kitB "int" "bool" = _; decide +kernel
/-! ### tuples of ints in a tuple, in a list of such -/
section
variable {X : Cx}
theorem mem_tup {k : List Int} {fam : List (List Int)} : ((⟨k⟩ : PySem.W.Tup Int) ∈ fam.map fun l => (⟨l⟩ : PySem.W.Tup Int)) = (k ∈ fam) := by
  rw [List.mem_map, eq_iff_iff]
  exact ⟨fun ⟨a, h, e⟩ => by injection e with e; rw [← e]; exact h, fun h => ⟨_, h, rfl⟩⟩
theorem dec_tup (k : List Int) (fam : List (List Int)) : decide ((⟨k⟩ : PySem.W.Tup Int) ∈ fam.map fun l => (⟨l⟩ : PySem.W.Tup Int)) = decide (k ∈ fam) := by
  rw [Bool.eq_iff_iff, decide_eq_true_eq, decide_eq_true_eq, mem_tup]
theorem tup_map (fam : List (List Int)) : (fam.map fun l => (⟨l⟩ : PySem.W.Tup Int)).map PySem.W.Datum.toD = fam.map tupI := by rw [List.map_map]; rfl
theorem od_inTT {n : Nat} (hr : Room n X.A) {k : List Int} {fam : List (List Int)} {K : D → Prop} (h : K (.bool (decide (k ∈ fam)))) : OpD (rInD X false) (tupI k) (.tuple (fam.map tupI)) K := by
  rw [← tup_map]
  exact od_inT (α := PySem.W.Tup Int) (x := ⟨k⟩) hr (by decide) (by rw [dec_tup]; exact h)
theorem od_niTT {n : Nat} (hr : Room n X.A) {k : List Int} {fam : List (List Int)} {K : D → Prop} (h : K (.bool (!decide (k ∈ fam)))) : OpD (rInD X true) (tupI k) (.tuple (fam.map tupI)) K := by
  rw [← tup_map]
  exact od_niT (α := PySem.W.Tup Int) (x := ⟨k⟩) hr (by decide) (by rw [dec_tup]; exact h)
theorem od_inLT {n : Nat} (hr : Room n X.A) {k : List Int} {fam : List (List Int)} {K : D → Prop} (h : K (.bool (decide (k ∈ fam)))) : OpD (rInD X false) (tupI k) (.list (fam.map tupI)) K := by
  rw [← tup_map]
  exact od_inL (α := PySem.W.Tup Int) (x := ⟨k⟩) hr (by decide) (by rw [dec_tup]; exact h)
theorem od_niLT {n : Nat} (hr : Room n X.A) {k : List Int} {fam : List (List Int)} {K : D → Prop} (h : K (.bool (!decide (k ∈ fam)))) : OpD (rInD X true) (tupI k) (.list (fam.map tupI)) K := by
  rw [← tup_map]
  exact od_niL (α := PySem.W.Tup Int) (x := ⟨k⟩) hr (by decide) (by rw [dec_tup]; exact h)
end
/-- over range(1, n) -/
theorem lcR1 {X : Cx} {r : SR} {S : List Sl} {scope : Scope} {tg elt : Expr} {ifs : List Expr} {vs ts : List Nat} {K : List D → Prop} {n : Int} {m : Nat} (p : Nat → Bool) (g : Nat → D) (turn : ∀ a, a < m → LcPure X r scope tg elt ifs vs ts (.int (1 + (a : Int))) S (p a) (g a)) (k : K (((List.range m).filter p).map g)) (e : (n - 1).toNat = m := by omega) (hm : m ≤ 1000000 := by omega) (hv : noOwn vs S = true := by rfl) :
    (∀ j ∈ vs, ∀ xs, S[j]? ≠ some (.ob xs)) ∧ LcAll X r scope tg elt ifs vs ts (rangeD 1 (n - 1).toNat) S K :=
  ⟨noOwn_of hv, Nat, List.range m, fun i => .int (1 + (i : Int)), p, g, by rw [e]; rfl, by rw [List.length_range]; exact hm, fun a ha => turn a (List.mem_range.mp ha), k⟩
end DL

/-! DL: the start of a law: its script's source of draws. -/
namespace DL
open PySem L2
def spLaw (K : PySem.W.Frag) : Sp := fun vs H Q _ => ∃ (a : Addr) (ns : List Int), vs = [.ref a] ∧ SqL K H a (ns.map V.int) ∧ ns.length ≤ 63 ∧ ∀ H', Q (.bl true) H'
theorem ev_src {H H' : Hp} {p : Addr × Addr} {σ : St} {m j : Nat} (hl : σ.length = m) (hj : σ[j]? = some (some (.ref p.1))) (sm : Ex H H') (n1 : H p.1 = none) (n2 : H p.2 = none) (ok : SrcOk H' p) :
    EvD ⟨H, fun _ => none, some p⟩ ((List.replicate m .emp).set j .src) (fun _ => none) σ H' := by
  have em : ∀ {i : Nat} {s : Sl}, ((List.replicate m .emp).set j .src)[i]? = some s → (i = j ∧ s = .src) ∨ s = .emp := fun {i s} e => by
    have hm := List.mem_of_getElem? e
    by_cases h : j = i
    · subst h
      have hj' := (List.getElem?_eq_some_iff.mp e).1
      rw [List.length_set] at hj'
      rw [List.getElem?_set_self hj'] at e
      cases e; exact .inl ⟨rfl, rfl⟩
    · rw [List.getElem?_set_ne h] at e
      exact .inr (List.eq_of_mem_replicate (List.mem_of_getElem? e))
  refine ⟨⟨Ex.refl _, fun a o e => (by cases e), sm, fun a o e => .inl rfl, fun q eq => ?_⟩, by rw [List.length_set, List.length_replicate]; exact hl, fun i s e => ?_, fun i k xs ys a e1 e2 _ _ => ?_⟩
  · cases eq
    exact ⟨ok, rfl, rfl, n1, n2⟩
  · rcases em e with ⟨rfl, rfl⟩ | rfl
    · exact ⟨_, hj, p, rfl, rfl⟩
    · have hi := (List.getElem?_eq_some_iff.mp e).1
      rw [List.length_set, List.length_replicate, ← hl] at hi
      exact ⟨σ[i], List.getElem?_eq_getElem hi, trivial⟩
  · rcases em e1 with ⟨_, z⟩ | z <;> cases z
/-- a slot that holds data, or nothing -/
def vS : Option D → Sl
  | none => .emp
  | some d => .val d
theorem ne_eq' {α : Type} [DecidableEq α] {x y : α} (h : x = y) : (!decide (x = y)) = false := by simp [h]
theorem ne_self {α : Type} [DecidableEq α] (x : α) : (!decide (x = x)) = false := by simp
theorem neqv_self {n : Nat} {d : D} (h : Nice n d) : (!PyData.eqv d d) = false := by rw [eqv_self h]; rfl
theorem mem2 {p : D → Prop} {a b : D} (ha : p a) (hb : p b) : ∀ d ∈ [a, b], p d := fun d hd => by
  rcases List.mem_cons.mp hd with rfl | hd
  · exact ha
  · rw [List.mem_singleton.mp hd]; exact hb
theorem get_map {α : Type} {l : List α} {f : α → D} {i : Nat} {d : D} (h : (l.map f)[i]? = some d) : ∃ x, x ∈ l ∧ l[i]? = some x ∧ d = f x := by
  rw [List.getElem?_map] at h
  cases e : l[i]? with
  | none => rw [e] at h; cases h
  | some x => rw [e] at h; exact ⟨x, List.mem_of_getElem? e, rfl, (Option.some.inj h).symm⟩
end DL

/-! DL: tuples that are known to have no dict: made, walked, compared, told; dict(..) of one. -/
namespace DL
open PySem L2
theorem ft_inj {a b : List D} (h : ft a = ft b) : a = b := by
  unfold ft at h
  injection h with h
  injection h with h _
  have := congrArg Prod.snd h
  injection this
theorem rp_ft {F : Hp} {v : V} {ds : List D} (r : Rp F v (ft ds)) : ∃ a o xs, v = .ref a ∧ F a = some (.frz o (.tup xs)) ∧ o.dict = none ∧ RpA F xs ds := by
  generalize e : ft ds = d at r
  cases r with
  | ftup h n r =>
    have := ft_inj e
    subst this
    exact ⟨_, _, _, rfl, h, n, r⟩
  | dct => exact (dctD_ne_ft e.symm).elim
  | _ => unfold ft at e; cases e
theorem ft_reads {P : Program} {w : World} {F H : Hp} {h : Heap} (k : Ex F H) (ok : HOk P w H h) {v : V} {ds : List D} {u : Value} (r : Rp F v (ft ds)) (e : RelV v u) (hp : PyData.plainAll ds = true) : ∃ as, Reads h u (.tuple ds) as := by
  obtain ⟨a, o, xs, rfl, ha, _, rv⟩ := rp_ft r
  cases e
  obtain ⟨_, _, its, rw', o', ho, hc, n, hd⟩ := ok _ _ (k _ _ ha)
  obtain ⟨as, hr⟩ := RpA.reads k ok rv rw' hp
  exact ⟨_, .tuple ho hc hd (by simpa using hr)⟩
section
variable {X : Cx} {r : SR} {S : List Sl}
/-! ### made -/
def rTupF (X : Cx) : List V → Hp → VK → Prop := fun xs H Q => ∃ p ys, xs = [.ref p] ∧ SqL X.K H p ys ∧ ∀ l o, o.dict = none → H l = none → Q (.ref l) (upd H l (.frz o (.tup ys)))
theorem call_tupF : CallR X (.type "tuple") (rTupF X) := by
  intro pins s σ H xs us Q I rr h
  obtain ⟨p, ys, rfl, hq, q⟩ := h
  obtain ⟨u, rfl, rx⟩ := vals1 rr
  cases rx
  obtain ⟨its, r', pl, hz⟩ := I.list hq
  have hlen := r'.length
  refine call_tuple_list pl.isList (fun h' kp => ?_) (by simp only [List.size_toArray] <;> omega)
  have I1 : Inv X pins σ H { s with heap := h' } := I.kept (t' := s.toks) kp
  have I2 : Inv X pins σ (upd H h'.objs.size (.frz { cls := .type "tuple", data := .seq its.toArray } (.tup ys))) { s with heap := h'.push { cls := .type "tuple", data := .seq its.toArray } } :=
    I1.laid (t' := s.toks) (fun b o e => Heap.get?_push_of_some _ e) (Nat.le_refl _) (show ObjOk X.prog X.w _ _ _ (.frz _ (.tup ys)) from ⟨Heap.get?_push_size _ rfl, hz, its, r', ⟨_, Heap.get?_push_size _ rfl, rfl, _, rfl⟩⟩)
  exact ⟨.ref h'.objs.size, _, I2, rfl, q _ _ rfl (I1.hok.fresh (Nat.le_refl _))⟩
/-- tuple(xs), xs a new list: known to have no dict -/
theorem jtupF {K : D → List Sl → Prop} {a : Expr} {p pos : Pos} (hm : X.mg "tuple" = none) (h : JN X r a S fun xs S1 => K (ft xs) S1) (hg : Gl X "tuple" := by rfl) (hs : starEach [a] X.env = (false, eval a X.env) :: starEach [] X.env := by rfl) : JE X r (.Call (.Name "tuple" p) [a] [] pos) S K :=
  jTy call_tupF hm (ja1 ((JN.je (K := fun d S1 => ∃ ys, d = .list ys ∧ K (ft ys) S1) (h.mono fun xs S1 k => ⟨xs, rfl, k⟩)).mono fun d S1 ⟨xs, e, k⟩ => ⟨[d], rfl, by
    rw [e]
    intro F H vs kF rv Q q
    cases rv with
    | cons r1 t =>
      cases t
      cases r1 with
      | @lst a ws _ ha rv =>
        refine ⟨a, ws, rfl, .inl (.inl (kF _ _ ha)), fun l o ho n => ?_⟩
        have g := Grow.new kF (o := .frz o (.tup ws)) n
        exact q _ _ _ _ k g (.ftup upd_same ho (rv.ex g.kF))⟩) hs) hg (by decide +kernel) (by decide) (by decide) hs rfl
def tTupF (t : TA) : TE := fun σ H Q => t σ H fun xs H1 => xs.length ≤ sizeLine ∧ ∀ p o, o.dict = none → H1 p = none → Q (.ref p) (upd H1 p (.frz o (.tup xs)))
theorem pe_tupF {es : List Expr} {x1} {pos : Pos} {t : TA} (h : PA X es t) : PE X (.Tuple es x1 pos) (tTupF t) := by
  refine ⟨fun pins s σ H Q I hq => ?_⟩
  refine wpAny_Tuple_spliced (thn (h.run pos pins s σ H _ I hq) fun us s1 ⟨xs, H1, I1, r, z, q⟩ => ⟨by rw [← r.length]; exact z, ?_⟩)
  have hf : H1 s1.heap.objs.size = none := I1.hok.fresh (Nat.le_refl _)
  refine ⟨.ref s1.heap.objs.size, upd H1 s1.heap.objs.size (.frz { cls := .type "tuple", data := .seq us.toArray } (.tup xs)), I1.laid (t' := s1.toks) (fun b u e => Heap.get?_push_of_some _ e) (Nat.le_refl _) ?_, rfl, q _ _ rfl hf⟩
  exact ⟨Heap.get?_push_size _ rfl, z, us, r, ⟨_, Heap.get?_push_size _ rfl, rfl, _, rfl⟩⟩
/-- (a, b, ..), known to have no dict -/
theorem je_tupF {K : D → List Sl → Prop} {es : List Expr} {x1} {pos : Pos} (h : JA X r es S fun as S1 => ∃ ds, dats as = some ds ∧ ds.length ≤ sizeLine ∧ K (ft ds) S1) : JE X r (.Tuple es x1 pos) S K :=
  fun c F σ H hr E Q q => of_pe (pe_tupF pa_tA) (h c F σ H hr E _ fun vs as F1 H1 S1 h1 E1 k1 r1 => by
    obtain ⟨ds, e, hl, kd⟩ := h1
    have rp := r1.dats e
    refine ⟨by rw [rp.length]; exact hl, fun p o ho n => ?_⟩
    have g := Grow.new E1.fin.fh (o := .frz o (.tup vs)) n
    exact q _ _ _ _ S1 kd (E1.grow g) (k1.trans g.kF) (.ftup upd_same ho (rp.ex g.kF)))
theorem jtup1F {K : D → List Sl → Prop} {a : Expr} {k : Nat} {pos : Pos} (h : JE X r a S fun d S1 => K (ft [d]) S1) (s1 : starEach [a] X.env = (false, eval a X.env) :: starEach [] X.env := by rfl) : JE X r (.Tuple [a] k pos) S K :=
  je_tupF (ja1 (h.mono fun d S1 k => ⟨[d], rfl, by show 1 ≤ sizeLine; decide, k⟩) s1)
theorem jtup0F {K : D → List Sl → Prop} {k : Nat} {pos : Pos} (h : K (ft []) S) : JE X r (.Tuple [] k pos) S K := je_tupF (jA0 ⟨[], rfl, Nat.zero_le _, h⟩)
/-! ### walked -/
theorem itf_d {K : PySem.W.Frag} {B F : Hp} {a : Addr} {o : Obj} {vs : List V} {ds : List D} (h : F a = some (.frz o (.tup vs))) (rv : RpA F vs ds) : ItD (Itt K a) B F ds :=
  ⟨fun i H kb k hi => ⟨vs, .inl (.inr ⟨o, k _ _ h⟩), by rw [rv.length]; exact hi⟩,
   fun i H kb k hi => by
    obtain ⟨v, e, _⟩ := rv.get' (i := i) (List.getElem?_eq_getElem hi)
    exact ⟨vs, v, .inl (.inr ⟨o, k _ _ h⟩), e⟩,
   fun i H x H' kb k y hi => by
    obtain ⟨e, f⟩ := y
    obtain ⟨d, e1, e2⟩ := rv.get (f vs (.inl (.inr ⟨o, k _ _ h⟩)))
    exact .inl ⟨e, d, e1, e2⟩⟩
theorem jiF {tg e : Expr} {K : List D → List Sl → Prop} (h : JE X r e S fun d S1 => ∃ ds, d = ft ds ∧ K ds S1) : JI X r tg e S K :=
  fun c F σ H hr E R q => of_pi (pi_tup pe_tE) (h c F σ H hr E _ fun v d F1 H1 S1 h1 E1 k1 r1 => by
    obtain ⟨ds, rfl, kd⟩ := h1
    obtain ⟨a, o, xs, rfl, ha, _, hv⟩ := rp_ft r1
    exact ⟨_, rfl, ⟨_, .inl (.inr ⟨o, E1.fin.fh _ _ ha⟩)⟩, q _ ds F1 H1 S1 kd E1 k1 (itf_d ha hv)⟩)
/-! ### compared, told -/
def rEqF (X : Cx) (neg : Bool) : R2 := fun x y H Q => ∃ F d1 d2, Ex F H ∧ Rp F x (ft d1) ∧ Rp F y (ft d2) ∧ (PyData.tuple d1).plain = true ∧ (PyData.tuple d2).plain = true ∧ X.A.units + min (PyData.tuple d1).depth (PyData.tuple d2).depth < cLine ∧ Q (.bl (if neg = true then !PyData.eqv (.tuple d1) (.tuple d2) else PyData.eqv (.tuple d1) (.tuple d2))) H
theorem op_eqF : OpR X (compareOp .Eq) (rEqF X false) := by
  intro pins s σ H x y v u Q I rx ry h
  obtain ⟨F, d1, d2, k, r1, r2, p1, p2, hu, q⟩ := h
  obtain ⟨as, h1⟩ := ft_reads k I.hok r1 rx (by simpa only [PyData.plain] using p1)
  obtain ⟨bs, h2⟩ := ft_reads k I.hok r2 ry (by simpa only [PyData.plain] using p2)
  exact PySem.SeqAt.eq_plain h1 h2 p1 p2 hu ⟨.bl _, H, I, rfl, q⟩
theorem op_neF : OpR X (compareOp .NotEq) (rEqF X true) := by
  intro pins s σ H x y v u Q I rx ry h
  obtain ⟨F, d1, d2, k, r1, r2, p1, p2, hu, q⟩ := h
  obtain ⟨as, h1⟩ := ft_reads k I.hok r1 rx (by simpa only [PyData.plain] using p1)
  obtain ⟨bs, h2⟩ := ft_reads k I.hok r2 ry (by simpa only [PyData.plain] using p2)
  exact PySem.SeqAt.ne_plain h1 h2 p1 p2 hu ⟨.bl _, H, I, rfl, q⟩
theorem od_eqF {k : Nat} (hr : Room k X.A) {neg : Bool} {d1 d2 : List D} {K : D → Prop} (h1 : Nice 50 (.tuple d1)) (h2 : Nice 50 (.tuple d2)) (h : K (.bool (if neg = true then !PyData.eqv (.tuple d1) (.tuple d2) else PyData.eqv (.tuple d1) (.tuple d2)))) : OpD (rEqF X neg) (ft d1) (ft d2) K :=
  fun F H v1 v2 kF r1 r2 Q q => ⟨F, _, _, kF, r1, r2, h1.pl, h2.pl, (by
    have := units_le hr (Nat.le_trans h1.dp (by decide : 50 ≤ 60)); have := Nat.min_le_left (PyData.tuple d1).depth (PyData.tuple d2).depth; omega), q _ _ F H h (Grow.refl kF) (.bl _)⟩
def rReprF (X : Cx) : List V → Hp → VK → Prop := fun vs H Q => ∃ F x ds, vs = [x] ∧ Ex F H ∧ Rp F x (ft ds) ∧ (PyData.tuple ds).plain = true ∧ (PyData.tuple ds).showable = true ∧ (PyData.tuple ds).hasDict = false ∧ X.A.units + ((PyData.tuple ds).depth + 1) < cLine ∧ (PyData.tuple ds).shown.length ≤ sizeLine ∧ Q (.str (PyData.tuple ds).shown) H
theorem call_reprF (hg : X.A.guards = some []) : CallR X (.builtin "repr") (rReprF X) := by
  intro pins s σ H xs us Q I rr h
  obtain ⟨F, x, ds, rfl, k, rp, hpl, hs, hd, hu, hz, q⟩ := h
  obtain ⟨u, rfl, rx⟩ := vals1 rr
  obtain ⟨as, hr⟩ := ft_reads k I.hok rp rx (by simpa only [PyData.plain] using hpl)
  obtain ⟨a, o, zs, rfl, ha, _, rv⟩ := rp_ft rp
  cases rx
  exact repr_of_reads' hr hs (fun e => by rw [hd] at e; cases e) hg hu (fun _ _ e => e) (fun h' u tk hk => ⟨.str _, H, I.kept hk, ⟨_, rfl⟩, q⟩) hz
theorem jreprF {K : D → List Sl → Prop} {a : Expr} {p pos : Pos} {k : Nat} (hg0 : X.A.guards = some []) (hr : Room k X.A) (hm : X.mg "repr" = none) (h : JE X r a S fun d S1 => ∃ ds, d = ft ds ∧ ShD 40 (2 ^ 20) (.tuple ds) ∧ K (.str (PyData.tuple ds).shown) S1) (hg : Gl X "repr" := by rfl) (hs : starEach [a] X.env = (false, eval a X.env) :: starEach [] X.env := by rfl) : JE X r (.Call (.Name "repr" p) [a] [] pos) S K :=
  jB (call_reprF hg0) hm (ja1 (h.mono fun d S1 ⟨ds, e, h1, k⟩ => ⟨[d], rfl, by
    rw [e]
    intro F H vs kF rv Q q
    cases rv with
    | cons r1 t =>
      cases t
      exact ⟨F, _, ds, rfl, kF, r1, h1.ni.pl, h1.sh, h1.hd, by have := h1.ni.dp; have := hr.un; omega, PyData.shown_fits (B := 13) (by decide) (by decide) h1.lv h1.wt, q _ _ F H k (Grow.refl kF) (.str _)⟩⟩) hs) hg (by decide +kernel) (by decide) (by decide) hs rfl
/-! ### dict(..) of such a tuple of pairs -/
def rDictTF : List V → Hp → VK → Prop := fun vs H Q => ∃ F x ps, vs = [x] ∧ Ex F H ∧ Rp F x (ft (ps.map entD)) ∧ ∀ p ws, RpK F ws (mergeD [] ps) → H p = none → Q (.ref p) (upd H p (.dT ws))
theorem call_dictTF (hcalm : X.calm = true) (hu : X.A.units + 2 < cLine) : CallR X (.type "dict") rDictTF := by
  intro pins s σ H xs us Q I rr h
  obtain ⟨F, x, ps, rfl, k, rp, q⟩ := h
  obtain ⟨u, rfl, rx⟩ := vals1 rr
  obtain ⟨a, o, ws, rfl, ha, hod, rv⟩ := rp_ft rp
  cases rx
  obtain ⟨ho0, z, its, rw', o', ho', hc, n, hdat⟩ := (show ObjOk X.prog X.w H s.heap a (.frz o (.tup ws)) from I.hok _ _ (k _ _ ha))
  obtain rfl : o = o' := Option.some.inj (ho0.symm.trans ho')
  obtain ⟨ts, ys, w2, e1, e2, e3, e4, e5⟩ := ents_of k I.hok rv rw'
  subst e1
  have hz : ys.length ≤ sizeLine := by
    have := rw'.length
    rw [List.length_map] at this
    omega
  have hp : PairItems s.heap (ts.map Value.ref).toArray (fun j => ts.getD j 0) (ys.map fun y => (Value.ref y.2.1, y.2.2)) := by
    refine ⟨by simp [e2], fun j kk v e => ?_⟩
    rw [List.getElem?_map] at e
    cases ey : ys[j]? with
    | none => rw [ey] at e; cases e
    | some y =>
      rw [ey] at e
      cases e
      obtain ⟨t, f1, f2⟩ := e5 j y ey
      have g : ts.getD j 0 = t := by rw [List.getD_eq_getElem?_getD, f1]; rfl
      show (List.map Value.ref ts).toArray[j]? = some (Value.ref (ts.getD j 0)) ∧ PairAt s.heap (ts.getD j 0) _ _
      rw [g]
      exact ⟨by simp [f1], f2⟩
  refine call_dict_pairsH (knd := tupleKind (mixKind X.prog X.w)) (ps := ys) (PairArg.tuple a (ts.map Value.ref).toArray (fun j => ts.getD j 0) (ys.map fun y => (Value.ref y.2.1, y.2.2))) (I.ok.hd hcalm) hu ⟨⟨_, n, ho', hc, hod, hdat⟩, hp⟩ ⟨by rw [List.length_map], fun i key v hrel => ?_⟩ (fun h' hk y hy => ?_) (by rw [List.length_map]; exact hz) fun h' tk hd' hk => ?_
  · have hrel : (ys.map fun y => (Value.ref y.2.1, y.2.2))[i]? = some (key, v) := hrel
    rw [List.getElem?_map] at hrel
    cases ey : ys[i]? with
    | none => rw [ey] at hrel; cases hrel
    | some y =>
      rw [ey] at hrel
      cases hrel
      exact ⟨y.1, y.2.1, rfl, rfl⟩
  · have all : ∀ {l : List (List Key × V)} {m : List (List Key × Addr × Value)}, KT H l m → ∀ x ∈ m, H x.2.1 = some (.tup (x.1.map kV)) := by
      intro l m q
      induction q with
      | nil => intro x hx; exact nomatch hx
      | @cons p q ps qs hq t ih =>
        intro x hx
        rcases List.mem_cons.mp hx with e | hx
        · subst e; rw [← hq.1]; exact hq.2.1
        · exact ih x hx
    have hb := all e4 y hy
    obtain ⟨_, its, r, o, h1, h2, n, h3⟩ := (show ObjOk X.prog X.w H s.heap y.2.1 (.tup (y.1.map kV)) from I.hok _ _ hb)
    exact ⟨o, its.toArray, n, hk _ _ (Nat.ne_of_lt (Heap.lt_size h1)) (by simp) h1, h2, h3, by simpa using items_are r⟩
  · have hm : (s.heap.objs.size == sysModules) = false := beq_eq_false_iff_ne.mpr (Nat.ne_of_gt I.big)
    have hlen : (mergeT [] w2).length ≤ sizeLine := by
      rw [(RpK.merge (ws := []) (kvs := []) e3 .nil).length]
      refine Nat.le_trans (mergeD_len _ _) ?_
      rw [List.length_nil, Nat.zero_add, ← e3.length]
      have := Paired.length e4
      omega
    obtain ⟨o, es, ep, g1, g2, g3, g4, _, g5⟩ := hd'
    refine ⟨.ref s.heap.objs.size, upd H s.heap.objs.size (.dT (mergeT [] w2)), I.laid (t' := tk) (fun b o e => hk b o (by simp) e) (Nat.le_refl _) ⟨hlen, hm, _, (KT.merge e4 .nil).keeps fun b ys eb => ?_, o, es, ep, g1, g2, g3, g4, g5⟩, rfl, q _ _ (RpK.merge e3 .nil) (I.hok.fresh (Nat.le_refl _))⟩
    rw [upd_ne (ne_of_none eb (I.hok.fresh (Nat.le_refl _)))]
    exact eb
theorem jdictF {K : OB → List Sl → Prop} {a : Expr} {p pos : Pos} {k : Nat} (hr : Room k X.A) (hm : X.mg "dict" = none) (h : JE X r a S fun d S1 => ∃ ps : List (List Int × D), d = ft (ps.map entD) ∧ K (.d (mergeD [] ps)) S1) (hc : X.calm = true := by rfl) (hg : Gl X "dict" := by rfl) (hs : starEach [a] X.env = (false, eval a X.env) :: starEach [] X.env := by rfl) :
    JO X r (.Call (.Name "dict" p) [a] [] pos) S K := fun c F σ H hr' E Q q =>
  of_pe (pe_callTy (call_dictTF hc (by have := hr.un; omega)) hg hm (by decide +kernel) (pa_cons pe_tE pa_nil hs) (by decide) (by decide) hs rfl) (h c F σ H hr' E _ fun v d F1 H1 S1 h1 E1 k1 r1 => by
    obtain ⟨ps, rfl, kd⟩ := h1
    exact ⟨F1, v, ps, rfl, E1.fin.fh, r1, fun p ws rw' n => q p _ F1 _ S1 kd (newL_ob (h := .dT ws) (o := .d (mergeD [] ps)) E1 n rw') k1⟩)
end
/-! ### dicts that hold ints -/
abbrev DI := List (List Int × Int)
def dI (m : DI) : List (List Int × D) := m.map fun p => (p.1, .int p.2)
def keyI (m : DI) : List (List Int) := m.map (·.1)
def getI (m : DI) (k : List Int) : Int := ((m.find? fun p => decide (p.1 = k)).map (·.2)).getD 0
def putI (m : DI) (k : List Int) (c : Int) : DI := if k ∈ keyI m then m.map (fun p => if p.1 = k then (p.1, c) else p) else m ++ [(k, c)]
def mergeI (m ps : DI) : DI := ps.foldl (fun acc p => putI acc p.1 p.2) m
theorem keyL_dI (m : DI) : keyL (dI m) = keyI m := by
  unfold keyL dI keyI
  rw [List.map_map]; rfl
theorem dI_put (m : DI) (k : List Int) (c : Int) : putD (dI m) k (.int c) = dI (putI m k c) := by
  unfold putD putI
  rw [any_key, keyL_dI]
  by_cases h : k ∈ keyI m
  · rw [if_pos (decide_eq_true h), if_pos h]
    unfold dI
    rw [List.map_map, List.map_map]
    refine List.map_congr_left fun p _ => ?_
    show (if p.1 = k then (p.1, PyData.int c) else (p.1, PyData.int p.2)) = ((if p.1 = k then (p.1, c) else p).1, PyData.int (if p.1 = k then (p.1, c) else p).2)
    split <;> rfl
  · rw [if_neg (by rw [decide_eq_false h]; exact Bool.false_ne_true), if_neg h]
    unfold dI
    rw [List.map_append]; rfl
theorem dI_merge : ∀ (ps m : DI), mergeD (dI m) (dI ps) = dI (mergeI m ps)
  | [], _ => rfl
  | p :: ps, m => by
    show mergeD (putD (dI m) p.1 (.int p.2)) (dI ps) = _
    rw [dI_put]
    exact dI_merge ps _
theorem valD_dI (m : DI) (k : List Int) : valD (dI m) k = if k ∈ keyI m then some (.int (getI m k)) else none := by
  induction m with
  | nil => rfl
  | cons p m ih =>
    unfold valD getI keyI dI at *
    rw [List.map_cons, List.map_cons]
    by_cases e : p.1 = k
    · rw [List.find?_cons_of_pos (by simpa using e), List.find?_cons_of_pos (by simpa using e), if_pos (by rw [e]; exact List.mem_cons_self)]; rfl
    · rw [List.find?_cons_of_neg (by simpa using e), List.find?_cons_of_neg (by simpa using e), ih]
      have : (k ∈ p.1 :: List.map (fun x => x.1) m) = (k ∈ List.map (fun x => x.1) m) := by
        rw [List.mem_cons, eq_iff_iff]
        exact ⟨fun h => h.resolve_left fun z => e z.symm, .inr⟩
      simp only [this]
theorem getI_none {m : DI} {k : List Int} (h : k ∉ keyI m) : getI m k = 0 := by
  unfold getI
  have : (m.find? fun p => decide (p.1 = k)) = none := List.find?_eq_none.mpr fun p hp e => h (List.mem_map.mpr ⟨p, hp, of_decide_eq_true e⟩)
  rw [this]; rfl
theorem valD_getD (m : DI) (k : List Int) : (valD (dI m) k).getD (.int 0) = .int (getI m k) := by
  rw [valD_dI]
  by_cases h : k ∈ keyI m
  · rw [if_pos h]; rfl
  · rw [if_neg h, getI_none h]; rfl
theorem getI_put (m : DI) (k k' : List Int) (c : Int) : getI (putI m k c) k' = if k' = k then c else getI m k' := by
  have h := valD_put (dI m) k k' (.int c)
  rw [dI_put] at h
  have h2 := congrArg (fun o : Option D => o.getD (.int 0)) h
  simp only [valD_getD] at h2
  by_cases e : k' = k
  · rw [if_pos e] at h2 ⊢
    injection h2
  · rw [if_neg e] at h2 ⊢
    rw [valD_getD] at h2
    injection h2
theorem keyI_put (m : DI) (k : List Int) (c : Int) : keyI (putI m k c) = if k ∈ keyI m then keyI m else keyI m ++ [k] := by
  have := putD_keys (dI m) k (.int c)
  rw [dI_put, keyL_dI, keyL_dI] at this
  exact this
theorem mem_keyI_put {m : DI} {k k' : List Int} {c : Int} : k' ∈ keyI (putI m k c) ↔ k' ∈ keyI m ∨ k' = k := by
  rw [keyI_put]
  split
  · rename_i h
    exact ⟨.inl, fun z => z.elim id fun e => e ▸ h⟩
  · rw [List.mem_append, List.mem_singleton]
theorem nodup_put {m : DI} (h : (keyI m).Nodup) (k : List Int) (c : Int) : (keyI (putI m k c)).Nodup := by
  have := putD_nodup (kvs := dI m) (by rw [keyL_dI]; exact h) k (.int c)
  rw [dI_put, keyL_dI] at this
  exact this
theorem nodup_mergeI (ps : DI) {m : DI} (h : (keyI m).Nodup) : (keyI (mergeI m ps)).Nodup := by
  have := nodup_merge (dI ps) (kvs := dI m) (by rw [keyL_dI]; exact h)
  rw [dI_merge, keyL_dI] at this
  exact this
theorem mem_mergeI {k : List Int} (ps m : DI) : k ∈ keyI (mergeI m ps) ↔ k ∈ keyI m ∨ k ∈ keyI ps := by
  have := mem_keys_merge (k := k) (dI ps) (dI m)
  rw [dI_merge, keyL_dI, keyL_dI, keyL_dI] at this
  exact this
theorem getI_merge {k : List Int} : ∀ (ps : DI) {m : DI}, (keyI ps).Nodup → getI (mergeI m ps) k = if k ∈ keyI ps then getI ps k else getI m k
  | [], m, _ => by show getI m k = _; rw [if_neg (by intro h; cases h)]
  | p :: ps, m, h => by
    have h' : (p.1 :: keyI ps).Nodup := h
    rw [List.nodup_cons] at h'
    show getI (mergeI (putI m p.1 p.2) ps) k = _
    rw [getI_merge ps h'.2, getI_put]
    have e0 : getI (p :: ps) k = if p.1 = k then p.2 else getI ps k := by
      unfold getI
      by_cases e : p.1 = k
      · rw [if_pos e, List.find?_cons_of_pos (by simpa using e)]; rfl
      · rw [if_neg e, List.find?_cons_of_neg (by simpa using e)]
    have em : k ∈ keyI (p :: ps) ↔ k = p.1 ∨ k ∈ keyI ps := List.mem_cons
    by_cases e : p.1 = k
    · subst e
      rw [if_neg h'.1, if_pos rfl, if_pos (em.mpr (.inl rfl)), e0, if_pos rfl]
    · have en : ¬ k = p.1 := fun z => e z.symm
      rw [if_neg en, e0, if_neg e]
      by_cases e2 : k ∈ keyI ps
      · rw [if_pos e2, if_pos (em.mpr (.inr e2))]
      · rw [if_neg e2, if_neg (fun z => (em.mp z).elim en e2)]
end DL

/-! DL: x.index(y) of lists and of tuples known to have no dict; enumerate of such a tuple; {k: v}; a module's number. -/
namespace DL
open PySem L2 PySem.Spec PyProof.Rows
section
variable {X : Cx} {r : SR} {S : List Sl}
/-- a module's number -/
theorem je_gint {K : D → List Sl → Prop} {x : Str} {pos : Pos} {i : Int} {t : Tok} (hm : X.mg x = some (.int i t)) (k : K (.int i) S) (hg : Gl X x := by rfl) (hd : (x == ("__debug__" : Str)) = false := by decide) : JE X r (.Name x pos) S K :=
  fun c F σ H _ E Q q => of_pe (pe_glob (v := .int i) hg hm ⟨t, rfl⟩ hd) (q _ _ F H S k E (Ex.refl F) (.int i))
/-! ### index -/
def rIdxD (X : Cx) : V → List V → Hp → VK → Prop := fun x xs H Q => ∃ (F : Hp) (y : V) (d : D) (ds : List D) (j : Nat) (z : D), xs = [y] ∧ Ex F H ∧ Rp F x (.list ds) ∧ Rp F y d ∧ PyData.plainAll ds = true ∧ d.plain = true ∧
  X.A.units + 1 + min (PyData.depthAll ds) d.depth < cLine ∧ ds[j]? = some z ∧ PyData.eqv z d = true ∧ (∀ (m : Nat) (z' : D), m < j → ds[m]? = some z' → PyData.eqv z' d = false) ∧ Q (.int (j : Nat)) H
theorem mt_idxD : MtR X "list.index" (rIdxD X) := by
  intro pins s σ H x xs v us Q I rx rxs h
  obtain ⟨F, y, d, ds, j, z, rfl, k, rl, ry, hp, hd, hu, hz, hzj, hno, q⟩ := h
  obtain ⟨uy, rfl, ruy⟩ := vals1 rxs
  obtain ⟨bs, r1⟩ := Rp.reads k I.hok ry ruy hd
  obtain ⟨as, r2⟩ := Rp.reads k I.hok rl rx (by simpa only [PyData.plain] using hp)
  cases rl with
  | @lst a ws _ ha rv =>
    cases rx
    obtain ⟨its, rv', ⟨⟨cls, dd, data, sls⟩, n, ho, hc, hdn, hdt⟩, hlen⟩ := I.list (.inl (.inl (k _ _ ha)))
    simp only at hc hdt
    subst hc hdt
    cases r2 with
    | list h1 h2 h3 h4 =>
      rw [ho] at h1
      cases h1
      cases h3
      have hn : its.length = ds.length := by rw [← rv'.length, rv.length]
      have hmap : its.map (SeqAt.readOf s.heap) = ds := SeqAt.readsAll_map_plain ds its _ hp (by simpa using h4)
      have hsl := sizeLine_eq
      have hwd := rv.length
      obtain ⟨hjd, _⟩ := List.getElem?_eq_some_iff.mp hz
      have hj : j < its.toArray.size := by simp; omega
      have at_ : ∀ (m : Nat) (hm : m < its.toArray.size) (z' : D), ds[m]? = some z' → SeqAt.readOf s.heap its.toArray[m] = z' := by
        intro m hm z' hz'
        have hml : m < its.length := by simpa using hm
        rw [← hmap, List.getElem?_map, List.getElem?_eq_getElem hml] at hz'
        have e1 : SeqAt.readOf s.heap its[m] = z' := Option.some.inj (show some (SeqAt.readOf s.heap its[m]) = some z' from hz')
        simpa using e1
      refine call_meets PySem.F.slot_list_index ⟨_, ho, rfl⟩ PySem.F.entry_list_index (PySem.F.args_list_index_2 _ _)
        (SeqAt.list_indexAt a its.toArray n dd sls uy (fun u => PyData.eqv (SeqAt.readOf s.heap u) d) j hj (by omega) ?_ ?_) ⟨ho, SeqAt.items_plain h4 r1 hp hd hu, ?_⟩
      · show PyData.eqv (SeqAt.readOf s.heap its.toArray[j]) d = true
        rw [at_ j hj z hz]
        exact hzj
      · intro m hm hmj
        have hmd : m < ds.length := by omega
        have hz' : ds[m]? = some ds[m] := List.getElem?_eq_getElem hmd
        show PyData.eqv (SeqAt.readOf s.heap its.toArray[m]) d = false
        rw [at_ m hm _ hz']
        exact hno m _ hmj hz'
      · exact ⟨.int (j : Nat), H, I.tok _, ⟨_, rfl⟩, q⟩
/-- x.index(e), x a list -/
theorem je_idx {K : D → List Sl → Prop} {o e : Expr} {apos cpos : Pos} {k : Nat} (hr : Room k X.A) (h : JE X r o S fun d0 S0 => ∃ ds : List D, d0 = .list ds ∧ JE X r e S0 fun d1 S1 => ∃ (j : Nat) (z : D), (∀ d ∈ ds, Nice 50 d) ∧ Nice 50 d1 ∧ ds[j]? = some z ∧ PyData.eqv z d1 = true ∧ (∀ (m : Nat) (z' : D), m < j → ds[m]? = some z' → PyData.eqv z' d1 = false) ∧ K (.int (j : Nat)) S1)
    (hp : ∀ {rr : V → List V → Hp → VK → Prop}, MtR X "list.index" rr → PE X (.Call (.Attribute o "index" apos) [e] [] cpos) (tBM X.K "list" rr (tE X o) (tCons (tE X e) tNil)) := by exact fun hm => pe_bm PySem.F.plainAttrs_list PySem.F.slot_list_index PySem.F.type_list_index hm pe_tE (pa_cons pe_tE pa_nil)) :
    JE X r (.Call (.Attribute o "index" apos) [e] [] cpos) S K := fun c F σ H hr' E Q q =>
  of_pe (hp mt_idxD) (h c F σ H hr' E _ fun v0 d0 F0 H0 S0 h0 E0 k0 r0 => by
    obtain ⟨ds, rfl, h0⟩ := h0
    refine ⟨?_, h0 c F0 σ H0 hr' E0 _ fun v1 d1 F1 H1 S1 h1 E1 k1 r1 => ?_⟩
    · cases r0 with
      | @lst a ws _ ha rv => exact .inl ⟨rfl, _, .inl (.inl (E0.fin.fh _ _ ha))⟩
    · obtain ⟨j, z, n1, n2, hz, e1, e2, kk⟩ := h1
      refine ⟨F1, v1, d1, ds, j, z, rfl, E1.fin.fh, r0.ex k1, r1, plainAll_of fun d hd => (n1 d hd).pl, n2.pl, ?_, hz, e1, e2, q _ _ F1 H1 S1 kk E1 (k0.trans k1) (.int _)⟩
      have h50 : min (PyData.depthAll ds) d1.depth ≤ 50 := Nat.le_trans (Nat.min_le_right _ _) n2.dp
      have := units_le hr (n := 50) (by decide)
      omega)
/-- the same of a tuple known to have no dict -/
def tBMF (rr : V → List V → Hp → VK → Prop) (to : TE) (t : TA) : TE := fun σ H Q => to σ H fun x H1 => (∃ p o ys, x = .ref p ∧ H1 p = some (.frz o (.tup ys)) ∧ o.dict = none) ∧ t σ H1 fun xs H2 => rr x xs H2 Q
theorem pe_bmF {o e : Expr} {es : List Expr} {to : TE} {t : TA} {name : Str} {apos cpos : Pos} {id : String} {rr : V → List V → Hp → VK → Prop} (pa : PlainAttrs "tuple") (slot : Slot "tuple" name id) (hty : typeOf (.builtin id) = pure (.type "method_descriptor")) (hm : MtR X id rr) (ho : PE X o to) (ha : PA X (e :: es) t)
    (hbase : attributeBase o name X.env (eval o X.env) = eval o X.env := by rfl)
    (hfew : ((backTo cpos (starEach (e :: es) X.env)).all (fun x => !x.1) && (backToKw cpos (keywordEach [] X.env)).all (fun x => x.1.isSome)
      && decide ((e :: es).length + ([] : List Keyword).length + (if ([] : List Keyword).isEmpty then 0 else 1) < 30)) = true := by rfl)
    (hline : (apos.endLine == cpos.line) = true := by rfl) (hs : starEach (e :: es) X.env = (false, eval e X.env) :: starEach es X.env := by rfl) (hplain : (backTo cpos (starEach es X.env)).any (·.1) = false := by rfl) :
    PE X (.Call (.Attribute o name apos) (e :: es) [] cpos) (tBMF rr to t) := by
  refine ⟨fun pins s σ H Q I h => ?_⟩
  refine wpAny_Call_method_late hbase hfew hline rfl (thn (ho.run pins s σ H _ I h) fun v s1 ⟨x, H1, I1, r1, ty, q1⟩ => ?_)
  obtain ⟨p, ob, ys, rfl, hp, hod⟩ := ty
  obtain rfl : v = Value.ref p := r1
  obtain ⟨ho0, _, _, _, o', ho', hc, _⟩ := (show ObjOk X.prog X.w H1 s1.heap p (.frz ob (.tup ys)) from I1.hok _ _ hp)
  obtain rfl : ob = o' := Option.some.inj (ho0.symm.trans ho')
  refine ⟨"tuple", id, pa, slot, hty, ⟨_, ho0, hc⟩, fun a e2 => by cases e2; exact ⟨_, ho0, hod⟩, ?_⟩
  have hA := ha.run cpos pins s1 σ H1 _ I1 q1
  rw [hs] at hA ⊢
  refine Calls.callWith_builtin (by show (false || (backTo cpos (starEach es X.env)).any (·.1)) = false; rw [hplain] <;> rfl) (Calls.evalArgs_plain ?_)
  exact thn hA fun us s2 ⟨vs, H2, I2, r2, q2⟩ => hm pins s2 σ H2 (.ref p) vs _ us Q I2 rfl r2 q2
def rIdxF (X : Cx) : V → List V → Hp → VK → Prop := fun x xs H Q => ∃ (F : Hp) (y : V) (d : D) (ds : List D) (j : Nat) (z : D), xs = [y] ∧ Ex F H ∧ Rp F x (ft ds) ∧ Rp F y d ∧ PyData.plainAll ds = true ∧ d.plain = true ∧
  X.A.units + 1 + min (PyData.depthAll ds) d.depth < cLine ∧ ds[j]? = some z ∧ PyData.eqv z d = true ∧ (∀ (m : Nat) (z' : D), m < j → ds[m]? = some z' → PyData.eqv z' d = false) ∧ Q (.int (j : Nat)) H
theorem mt_idxF : MtR X "tuple.index" (rIdxF X) := by
  intro pins s σ H x xs v us Q I rx rxs h
  obtain ⟨F, y, d, ds, j, z, rfl, k, rl, ry, hp, hd, hu, hz, hzj, hno, q⟩ := h
  obtain ⟨uy, rfl, ruy⟩ := vals1 rxs
  obtain ⟨bs, r1⟩ := Rp.reads k I.hok ry ruy hd
  obtain ⟨as, r2⟩ := ft_reads k I.hok rl rx hp
  obtain ⟨a, ob, ws, rfl, ha, hod, rv⟩ := rp_ft rl
  cases rx
  obtain ⟨its, rv', ⟨⟨cls, dd, data, sls⟩, ho, hc, n, hdt⟩, hlen⟩ := I.tuple (.inl (.inr ⟨ob, k _ _ ha⟩))
  simp only at hc hdt
  subst hc hdt
  cases r2 with
  | tuple h1 h2 h3 h4 =>
    rw [ho] at h1
    cases h1
    cases h3
    have hn : its.length = ds.length := by rw [← rv'.length, rv.length]
    have hmap : its.map (SeqAt.readOf s.heap) = ds := SeqAt.readsAll_map_plain ds its _ hp (by simpa using h4)
    have hsl := sizeLine_eq
    have hwd := rv.length
    obtain ⟨hjd, _⟩ := List.getElem?_eq_some_iff.mp hz
    have hj : j < its.toArray.size := by simp; omega
    have at_ : ∀ (m : Nat) (hm : m < its.toArray.size) (z' : D), ds[m]? = some z' → SeqAt.readOf s.heap its.toArray[m] = z' := by
      intro m hm z' hz'
      have hml : m < its.length := by simpa using hm
      rw [← hmap, List.getElem?_map, List.getElem?_eq_getElem hml] at hz'
      have e1 : SeqAt.readOf s.heap its[m] = z' := Option.some.inj (show some (SeqAt.readOf s.heap its[m]) = some z' from hz')
      simpa using e1
    refine call_meets PySem.F.slot_tuple_index ⟨_, ho, rfl⟩ PySem.F.entry_tuple_index (PySem.F.args_tuple_index_2 _ _)
      (TI.tuple_indexAt a its.toArray n dd sls uy (fun u => PyData.eqv (SeqAt.readOf s.heap u) d) j hj ?_ ?_) ⟨ho, SeqAt.items_plain h4 r1 hp hd hu, ?_⟩
    · show PyData.eqv (SeqAt.readOf s.heap its.toArray[j]) d = true
      rw [at_ j hj z hz]
      exact hzj
    · intro m hm hmj
      have hmd : m < ds.length := by omega
      have hz' : ds[m]? = some ds[m] := List.getElem?_eq_getElem hmd
      show PyData.eqv (SeqAt.readOf s.heap its.toArray[m]) d = false
      rw [at_ m hm _ hz']
      exact hno m _ hmj hz'
    · exact ⟨.int (j : Nat), H, I.tok _, ⟨_, rfl⟩, q⟩
/-- x.index(e), x a tuple known to have no dict -/
theorem je_idxF {K : D → List Sl → Prop} {o e : Expr} {apos cpos : Pos} {k : Nat} (hr : Room k X.A) (h : JE X r o S fun d0 S0 => ∃ ds : List D, d0 = ft ds ∧ JE X r e S0 fun d1 S1 => ∃ (j : Nat) (z : D), (∀ d ∈ ds, Nice 50 d) ∧ Nice 50 d1 ∧ ds[j]? = some z ∧ PyData.eqv z d1 = true ∧ (∀ (m : Nat) (z' : D), m < j → ds[m]? = some z' → PyData.eqv z' d1 = false) ∧ K (.int (j : Nat)) S1)
    (hp : ∀ {rr : V → List V → Hp → VK → Prop}, MtR X "tuple.index" rr → PE X (.Call (.Attribute o "index" apos) [e] [] cpos) (tBMF rr (tE X o) (tCons (tE X e) tNil)) := by exact fun hm => pe_bmF PySem.F.plainAttrs_tuple PySem.F.slot_tuple_index PySem.F.type_tuple_index hm pe_tE (pa_cons pe_tE pa_nil)) :
    JE X r (.Call (.Attribute o "index" apos) [e] [] cpos) S K := fun c F σ H hr' E Q q =>
  of_pe (hp mt_idxF) (h c F σ H hr' E _ fun v0 d0 F0 H0 S0 h0 E0 k0 r0 => by
    obtain ⟨ds, rfl, h0⟩ := h0
    refine ⟨?_, h0 c F0 σ H0 hr' E0 _ fun v1 d1 F1 H1 S1 h1 E1 k1 r1 => ?_⟩
    · obtain ⟨a, ob, ws, rfl, ha, hod, rv⟩ := rp_ft r0
      exact ⟨a, ob, ws, rfl, E0.fin.fh _ _ ha, hod⟩
    · obtain ⟨j, z, n1, n2, hz, e1, e2, kk⟩ := h1
      refine ⟨F1, v1, d1, ds, j, z, rfl, E1.fin.fh, r0.ex k1, r1, plainAll_of fun d hd => (n1 d hd).pl, n2.pl, ?_, hz, e1, e2, q _ _ F1 H1 S1 kk E1 (k0.trans k1) (.int _)⟩
      have h50 : min (PyData.depthAll ds) d1.depth ≤ 50 := Nat.le_trans (Nat.min_le_right _ _) n2.dp
      have := units_le hr (n := 50) (by decide)
      omega)
/-! ### {k: v} -/
theorem jdisp1 {K : OB → List Sl → Prop} {ke ve : Expr} {pos : Pos} {k0 : Nat} (hr : Room k0 X.A) (h : JE X r ke S fun d1 S1 => JE X r ve S1 fun d2 S2 => ∃ ky, d1 = tupI ky ∧ K (.d [(ky, d2)]) S2) : JO X r (.Dict [some ke] [ve] pos) S K := fun c F σ H hr' E Q q pins s I => by
  have hn := I.hok.fresh (Nat.le_refl s.heap.objs.size)
  have I1 := I.laid (a := s.heap.objs.size) (o := .dT []) (h' := s.heap.push { cls := .type "dict", data := .dict #[] }) (t' := s.toks) (fun _ _ q => Heap.get?_push_of_some _ q) (Nat.le_refl _) (dt_empty s.heap I.big)
  obtain ⟨hh, E1, hp, hv, nF, nB, ns, no⟩ := newL_ob (h := .dT []) (o := .d []) E hn .nil
  rw [upd_same] at hp
  cases hp
  have E2 := E1.hold (vs := .dT []) upd_same nF ns no
  have hsh : (evalEachOpt [some ke] X.env).zip ((evalEach [ve] X.env).map fun v => do let x ← v; standAt pos; pure x) = (pairTrees [some ke] [ve] X.env pos).map fun p => (some p.1, p.2) := zip_pairTrees _ _ _ _ rfl rfl
  rw [arm_eval_Dict, hsh, dictDisplay_pairs (pairTrees [some ke] [ve] X.env pos) (by intro z; cases z) (by show 1 < _; decide)]
  refine wpAny_bind (wpAny_standAt (wpAny_bind (wpAny_subDictH (knd := tupleKind (mixKind X.prog X.w)) (by show X.A.units < cLine; have := hr.un; omega) (by show 1 ≤ 15; decide) ?_)))
  refine thn ((pps_cons pe_tE pe_tE pps_nil : PPs X pos [some ke] [ve] _).run pins _ σ _ (fun ps H2 => ∃ ky d2 v1 v2 F2 S2, ps = [(v1, v2)] ∧ K (.d [(ky, d2)]) S2 ∧ EvD (c.hold s.heap.objs.size (.dT [])) S2 F2 σ H2 ∧ Ex F F2 ∧ Rp F2 v1 (tupI ky) ∧ Rp F2 v2 d2) I1
    (h (c.hold s.heap.objs.size (.dT [])) F σ _ (r.st _ _ _ nB hr') E2 _ fun v1 d1 F1 H1 S1 h1 E3 k1 r1 => h1 (c.hold s.heap.objs.size (.dT [])) F1 σ H1 (r.st _ _ _ nB hr') E3 _ fun v2 d2 F2 H2 S2 h2 E4 k2 r2 => by
      obtain ⟨ky, rfl, kk⟩ := h2
      exact ⟨ky, d2, v1, v2, F2, S2, rfl, kk, E4, k1.trans k2, r1.ex k2, r2⟩)) fun ws s2 ⟨ps, H2, I2, rel, ky, d2, v1, v2, F2, S2, eps, kk, E4, kF, r1, r2⟩ => ?_
  subst eps
  cases rel with
  | @cons p0 q0 _ _ hrel t =>
  cases t
  obtain ⟨u1, u2⟩ := q0
  obtain ⟨b, rfl, hb⟩ := rp_tupI r1
  have hbH := E4.fin.fh _ _ hb
  have hr1 : u1 = Value.ref b := hrel.1
  subst hr1
  have hB : H2 s.heap.objs.size = some (.dT []) := E4.fin.bh _ _ upd_same
  obtain ⟨z1, d1, xs1, rel1, dd1⟩ := dt_of I2.hok hB
  cases rel1
  refine ⟨[(kI ky, b, u2)], ⟨rfl, rfl, key_of I2.hok hbH, True.intro⟩, dd1, fun h' tk hd' hs => wpAny_pure ?_⟩
  have he : ∃ q, h'.get? s.heap.objs.size = some q := let ⟨q, _, _, hq, _⟩ := hd'; ⟨q, hq⟩
  obtain ⟨o, es, ep, g1, g2, g3, g4, _, g5⟩ := hd'
  have rel2 : KT H2 [(kI ky, v2)] [(kI ky, b, u2)] := .cons ⟨rfl, hbH, hrel.2⟩ .nil
  have nF0 : c.F0 s.heap.objs.size = none := E.fin.f0.back nF
  obtain ⟨E7, h7, f7, s7, o7⟩ := E4.unhold (vs := .dT []) (fun _ z => nomatch z) nB nF0
  refine ⟨.ref s.heap.objs.size, upd H2 s.heap.objs.size (.dT [(kI ky, v2)]), d_write (t' := tk) (ob := .dT [(kI ky, v2)]) I2 (by rw [hB]; exact True.intro) hs he ⟨by show 1 ≤ sizeLine; decide, d1, _, (KT.merge rel2 .nil).keeps fun x ys ex => ?_, o, es, ep, g1, g2, g3, g4, g5⟩, rfl, ?_⟩
  · rw [upd_ne (ne_of ex hB (fun z => nomatch z))]
    exact ex
  · exact q s.heap.objs.size (.d [(ky, d2)]) F2 _ S2 kk ⟨.dT [(kI ky, v2)], E7.put f7 nB s7 o7, upd_same, (RpK.cons r2 .nil : RpK F2 [((ky.map Sum.inl), v2)] [(ky, d2)]), f7, nB, s7, o7⟩ kF
/-! ### enumerate of a tuple -/
theorem meets_enumerate_newB1 {v : Value} {o : Obj} {H : Heap → Prop} (B : Begins v o H) :
    Meets (Builtin.«enumerate.__new__» ⟨[.type "enumerate", v], []⟩) (fun _ R s => H s.heap ∧
      R (.ok (.ret (.ref (s.heap.push o).objs.size))) { s with heap := (s.heap.push o).push { cls := .type "enumerate", data := .fields #[.none, .bool false, .ref s.heap.objs.size, rawInt 0, .none, .none] } }) :=
  .of_wp fun prog w A R s h => by
    obtain ⟨hp, g, d, tk, os⟩ := s; obtain ⟨h1, h⟩ := h
    have hsub := sub_enumerate
    have q1 : ∀ {A' : Around} {E : Value → Shared → Prop} {Q : Value → Shared → Prop}, Q (.ref hp.objs.size) ⟨hp.push o, g, d, tk, os⟩ → wpAny (model prog w) A' (pyIter v) Q E ⟨hp, g, d, tk, os⟩ :=
      fun q => B.iter prog w _ _ ⟨hp, g, d, tk, os⟩ _ h1 q
    wp_walk using q1
    refine wpAny_stack_any fun st => wpAny_pure ?_
    split
    · rename_i c _ _ _ _ _
      cases (c == Value.type "enumerate")
      · wp_walk using q1
        exact ⟨_, rfl, h⟩
      · wp_walk using q1
        exact ⟨_, rfl, h⟩
    · wp_walk using q1
      exact ⟨_, rfl, h⟩
theorem call_enumerate_B1 {prog : Program} {w : World} {A : Around} {E : Value → Shared → Prop} {s : Shared} {v : Value} {o : Obj} {H : Heap → Prop} {Q : Value → Shared → Prop} (B : Begins v o H) (h1 : H s.heap)
    (h : ∀ h', IsEnum h' (s.heap.objs.size + 1) s.heap.objs.size 0 .none → h'.get? s.heap.objs.size = some o → h'.objs.size = s.heap.objs.size + 2 →
      (∀ b o, s.heap.get? b = some o → h'.get? b = some o) → Q (.ref (s.heap.objs.size + 1)) { s with heap := h' }) :
    wpAny (model prog w) A (call (.type "enumerate") [v]) Q E s := by
  refine callType_new PySem.F.called_enumerate (by decide) (PySem.F.typeCall_enumerate_1 _) (PySem.F.newCall_enumerate_1 _) (fun obj => PySem.F.args_object_init_2 obj _) PySem.F.entry_enumerate_new
    (meets_enumerate_newB1 B) ⟨h1, ?_⟩
  have hz : (s.heap.push o).objs.size = s.heap.objs.size + 1 := Heap.size_push ..
  show _ ∧ _
  rw [hz]
  have he : IsEnum ((s.heap.push o).push { cls := .type "enumerate", data := .fields #[.none, .bool false, .ref s.heap.objs.size, rawInt 0, .none, .none] }) (s.heap.objs.size + 1) s.heap.objs.size 0 .none := by
    have := Heap.get?_push_size (s.heap.push o) (o := { cls := .type "enumerate", data := .fields #[.none, .bool false, .ref s.heap.objs.size, rawInt 0, .none, .none] }) rfl
    rw [hz] at this; exact this
  refine ⟨⟨_, he, rfl⟩, h _ he (Heap.get?_push_of_some _ (Heap.get?_push_size _ B.free)) (by rw [Heap.size_push, hz]) fun b o x => Heap.get?_push_of_some _ (Heap.get?_push_of_some _ x)⟩
def IteT (a : Addr) : It :=
  ⟨fun i H => ∃ (xs : List V) (x : V), Rd H a (.tup xs) ∧ xs[i]? = some x, fun i H v H' => ∃ T x, v = .ref T ∧ H T = none ∧ H' = upd H T (.tup [.int (i : Nat), x]) ∧ ∀ xs, Rd H a (.tup xs) → xs[i]? = some x, fun i H => ∃ xs : List V, Rd H a (.tup xs) ∧ xs.length ≤ i⟩
theorem rd_ne {H : Hp} {a b : Addr} {u : HO} (h : Rd H a u) (n : H b = none) : a ≠ b := fun e => by
  subst e
  rcases h with h | ⟨o, h⟩ <;> rw [n] at h <;> cases h
theorem rd_inj {H : Hp} {a : Addr} {xs ys : List V} (h1 : Rd H a (.tup xs)) (h2 : Rd H a (.tup ys)) : xs = ys := by
  rcases h1 with h1 | ⟨o1, h1⟩ <;> rcases h2 with h2 | ⟨o2, h2⟩ <;> rw [h1] at h2 <;> cases h2 <;> rfl
theorem turn_enumT {P : Program} {w : World} {K : PySem.W.Frag} {elts : List Expr} {kk : Nat} {tpos : Pos} (a e it : Addr) :
    Turn P w K (.Tuple elts kk tpos) (IteT a) [e, it] e (fun i h => (∃ old, IsEnum h e it ((i : Nat) : Int) old) ∧ h.IsTupleIter it a i ∧ e ≠ it) where
  mem := by simp
  obj := fun i h st b hb => by
    obtain ⟨⟨old, he⟩, ⟨o, ho, hc, hd⟩, _⟩ := st
    have e' : b = e ∨ b = it := by simpa using hb
    rcases e' with z | z
    · rw [z]; exact ⟨_, he, fun v q => nomatch q⟩
    · rw [z]; exact ⟨o, ho, fun v q => by rw [hd] at q; cases q⟩
  keep := fun i h h' st k => let ⟨⟨old, he⟩, hi, hne⟩ := st; ⟨⟨old, k e (by simp) _ he⟩, hi.at fun o q => k it (by simp) o q, hne⟩
  item := by
    intro X hP hw hK hc i pins s σ H E I hf st hg
    subst hP hw hK
    obtain ⟨⟨old, he⟩, hit, hne⟩ := st
    obtain ⟨xs, x, hq, hx⟩ := hg
    obtain ⟨its, rv, p, hz⟩ := I.tuple (.inl hq)
    obtain ⟨u, hu, ru⟩ := rv.get hx
    have hel : e < s.heap.objs.size := Heap.lt_size he
    have hil : it < s.heap.objs.size := by obtain ⟨_, q, _⟩ := hit; exact Heap.lt_size q
    have hae : a ≠ e := rd_ne hq (hf e (by simp)).1
    have hai : a ≠ it := rd_ne hq (hf it (by simp)).1
    have Dr : Draws X.prog X.w X.A.in1 it [it, a] its.toArray.size (fun i v => its.toArray[i]? = some v) (fun i h => h.IsTupleIter it a i ∧ h.IsTuple a its.toArray) := Draws.tuple (A := X.A.in1) (show X.A.in1.handled = none from I.ok.hd hc) it a hai its.toArray
    have hlt : i < its.toArray.size := by
      have := (List.getElem?_eq_some_iff.mp hu).1
      simpa using this
    refine wpAny_pyNext_enum_itemC Dr he ⟨hit, p⟩ hlt hne (by simp only [List.mem_cons, List.not_mem_nil, or_false]; rintro (z | z); exact hne z; exact hae z.symm) fun x' h' tk hP ho hst' hT hsz hk => ?_
    obtain rfl : u = x' := by
      have : its.toArray[i]? = some u := by simpa using hu
      rw [this] at hP
      exact Option.some.inj hP
    refine ⟨_, rfl, wpAny_letOwnedTupleGo_enum (s := { s with heap := h', toks := tk + 1 }) ho fun h'' he' sb => ?_⟩
    have hT2 : h''.get? s.heap.objs.size = some { cls := .type "tuple", data := .seq #[.int i tk, u] } := (sb.2 _ (Nat.ne_of_gt hel)).trans hT
    have new : ObjOk X.prog X.w (upd H s.heap.objs.size (.tup [.int (i : Nat), x])) h'' s.heap.objs.size (.tup [.int (i : Nat), x]) :=
      ⟨by show 2 ≤ sizeLine; decide, [.int i tk, u], .cons ⟨_, rfl⟩ (.cons ru .nil), ⟨_, hT2, rfl, _, rfl⟩⟩
    have I1 : Inv X pins σ (upd H s.heap.objs.size (.tup [.int (i : Nat), x])) { s with heap := h'', toks := tk + 1 } :=
      I.turnedNew (ch := [e, it]) (fun b ob hb q => (sb.2 b (fun z => hb (by simp [z]))).trans (hk b ob (fun z => hb (by simp [z])) (fun z => hb (by simp [z])) q)) hf (Nat.le_refl _) new
    refine ⟨.ref s.heap.objs.size, _, I1, rfl, ⟨_, x, rfl, I.hok.fresh (Nat.le_refl _), rfl, fun ys hy => by rw [rd_inj hy hq]; exact hx⟩, ⟨⟨u, ?_⟩, hst'.1.at fun o q => (sb.2 it (Ne.symm hne)).trans q, hne⟩, fun b hb => ?_⟩
    · have e1 : ((i + 1 : Nat) : Int) = (i : Int) + 1 := by omega
      rw [e1]; exact he'
    · have hb' : b < s.heap.objs.size := by
        have e' : b = e ∨ b = it := by simpa using hb
        rcases e' with z | z
        · rw [z]; exact hel
        · rw [z]; exact hil
      rw [upd_ne (Nat.ne_of_lt hb')]
      exact (hf b hb).1
  done := by
    intro X hP hw hK hc i pins s σ H E I hf st hg
    subst hP hw hK
    obtain ⟨⟨old, he⟩, hit, hne⟩ := st
    obtain ⟨xs, hq, hx⟩ := hg
    obtain ⟨its, rv, p, hz⟩ := I.tuple (.inl hq)
    obtain ⟨f0, f1, f2, f3, f4, f5⟩ := hf it (by simp)
    have hl := rv.length
    have hT : s.TypeIs (.ref e) "enumerate" := ⟨_, he, rfl⟩
    unfold pyNext
    refine wpAny_bind (wpAny_attempt (wpAny_callSpecial?_slot (name := Str.ofString "__next__") hT PySem.F.slot_enumerate_next
      (wpAny_call_entry PySem.F.slot_enumerate_next hT PySem.F.entry_enumerate_next ?_ (PySem.F.args_enumerate_next_1 _))))
    show wpAny _ _ (field (.ref e) 2 >>= _) _ _ _
    refine wpAny_bind (wpAny_field he rfl (x := .ref it) rfl ?_)
    refine wpAny_bind (wpAny_nextOf_tuple_end (show X.A.in1.handled = none from I.ok.hd hc) hit p (by simp; omega) fun h' x he' hx' => ?_)
    obtain ⟨o, ho, hc'⟩ := hx'
    refine wpAny_bind (wpAny_isInstance (T := "StopIteration") (b := true) ⟨o, ho, hc'⟩ isSubtype_stop ?_)
    exact wpAny_pure ⟨rfl, I.turned (t' := s.toks) (fun b o hb q => he' b o hb q) f0 f1 f3 f4 f5⟩
  self := fun A i s Q E st h => let ⟨⟨_, he⟩, _⟩ := st; wpAny_pyIter_enum he h
def iEnumT (ta : TA) : TI := fun σ H R => ta σ H fun vs H1 => ∃ a xs, vs = [.ref a] ∧ Rd H1 a (.tup xs) ∧ R (IteT a) H1
theorem pi_enumT {e : Expr} {ta : TA} {p pos tpos : Pos} {elts : List Expr} {kk : Nat} (hg : Gl X "enumerate") (hm : X.mg "enumerate" = none) (ha : PA X [e] ta) (hs : starEach [e] X.env = [(false, eval e X.env)] := by rfl) :
    PI X (.Tuple elts kk tpos) (.Call (.Name "enumerate" p) [e] [] pos) (iEnumT ta) := by
  refine ⟨fun pins s σ H R I h => ?_⟩
  refine Call_ (ld_blt I hg hm boot_enumerate (PyProof.Rows.callWith_type1 (thn (ha.run _ pins s σ H _ I h) fun us s1 ⟨vs, H1, I1, r1, q1⟩ => ?_) hs rfl))
  obtain ⟨a, xs, ex, hq, q⟩ := q1
  subst ex
  cases r1 with
  | cons r rr =>
    cases rr
    cases r
    obtain ⟨its, rv, p', hz⟩ := I1.tuple (.inl hq)
    refine call_enumerate_B1 (begins_tuple a its.toArray) p' fun h' he hit hsz hk => wpAny_pyIter_enum he ?_
    have I2 : Inv X pins σ H1 { s1 with heap := h' } := I1.kept (t' := s1.toks) hk
    refine ⟨s1.heap.objs.size + 1, [s1.heap.objs.size + 1, s1.heap.objs.size], _, _, H1, rfl, I2, turn_enumT a (s1.heap.objs.size + 1) s1.heap.objs.size, ⟨⟨.none, he⟩, ⟨_, hit, rfl, rfl⟩, Nat.succ_ne_self _⟩, fun b hb => ?_, q⟩
    have e' : b = s1.heap.objs.size + 1 ∨ b = s1.heap.objs.size := by simpa using hb
    have hle : s1.heap.objs.size ≤ b := by
      rcases e' with z | z
      · rw [z]; exact Nat.le_add_right _ _
      · rw [z]; exact Nat.le_refl _
    exact I1.fpOk hle (I1.hok.fresh hle)
theorem itet_d {B F : Hp} {a : Addr} {vs : List V} {ds : List D} (h : Rd F a (.tup vs)) (rv : RpA F vs ds) : ItD (IteT a) B F (enumD ds) := by
  have up : ∀ {H : Hp}, Ex F H → Rd H a (.tup vs) := fun k => h.elim (fun h => .inl (k _ _ h)) fun ⟨o, h⟩ => .inr ⟨o, k _ _ h⟩
  have hl : (enumD ds).length = ds.length := by unfold enumD; rw [List.length_map, List.length_range]
  refine ⟨fun i H kb k hi => ⟨vs, up k, by rw [rv.length, ← hl]; exact hi⟩, fun i H kb k hi => ?_, fun i H x H' kb k y hi => ?_⟩
  · rw [hl] at hi
    obtain ⟨v, e, _⟩ := rv.get' (i := i) (List.getElem?_eq_getElem hi)
    exact ⟨vs, v, up k, e⟩
  · obtain ⟨T, z, rfl, nT, rfl, f⟩ := y
    obtain ⟨d, e1, e2⟩ := rv.get (f vs (up k))
    rw [hl] at hi
    refine .inr (.inl ⟨T, _, [.int (i : Nat), d], rfl, nT, rfl, .cons (.int _) (.cons e2 .nil), ?_⟩)
    unfold enumD
    rw [List.getElem?_map, List.getElem?_range hi]
    show some (PyData.tuple [.int (i : Nat), ds.getD i .none]) = _
    rw [List.getD_eq_getElem?_getD, e1]; rfl
/-- enumerate(x), x a tuple known to have no dict -/
theorem jenumF {e : Expr} {p pos tpos : Pos} {elts : List Expr} {kk : Nat} {K : List D → List Sl → Prop} (hm : X.mg "enumerate" = none) (h : JE X r e S fun d S1 => ∃ ds, d = ft ds ∧ K (enumD ds) S1) (hg : Gl X "enumerate" := by rfl) (hs : starEach [e] X.env = [(false, eval e X.env)] := by rfl) : JI X r (.Tuple elts kk tpos) (.Call (.Name "enumerate" p) [e] [] pos) S K :=
  fun c F σ H hr E R q => of_pi (pi_enumT hg hm (pa_cons pe_tE pa_nil hs) hs) (h c F σ H hr E _ fun v d F1 H1 S1 h1 E1 k1 r1 => by
    obtain ⟨ds, rfl, kd⟩ := h1
    obtain ⟨a, o, xs, rfl, ha, _, hv⟩ := rp_ft r1
    exact ⟨_, xs, rfl, .inr ⟨o, E1.fin.fh _ _ ha⟩, q _ _ F1 H1 S1 kd E1 k1 (itet_d (.inr ⟨o, ha⟩) hv)⟩)
end
end DL

/-! DL: exceptions: raise of a class of the program's own, a def that may raise, try .. except. -/
namespace DL
open PySem L2 PySem.Spec PyProof.Rows
/-! ### raise -/
/-- what is known of the program's exception class at C -/
structure OwnExc (K : PySem.W.Frag) (mg : Str → Option Value) (x : Str) (C : Addr) : Prop where
  g : mg x = some (.ref C)
  k : PySem.W.keepIn K (.ref C) = true
  q : PySem.W.excIn K C [.type "ValueError", .type "Exception", .type "BaseException", .type "object"] "ValueError.__new__" = true
  s : PySem.W.subIn K (.ref C) (.type "BaseException") = some true
  t : PySem.W.typeIn K (.ref C) = some (.type "type")
  m : PySem.W.exmOne K (.ref C) (.ref C) = some true
section
variable {X : Cx} {r : SR} {S : List Sl}
theorem pmk_own0 {x : Str} {C : Addr} {p pos : Pos} (O : OwnExc X.K X.mg x C) (hg : Gl X x := by rfl) (hdb : (x == ("__debug__" : Str)) = false := by decide) : PMk X (.Call (.Name x p) [] [] pos) (fun _ H Q => Q (.ref C) none H) := by
  intro pins s σ H Q I h
  refine wpAny_Call_Name_kw (ld_glob I hg O.g ?_ hdb)
  refine PySem.W.callWith_K0 I.kIn O.k ?_
  show wpAny _ _ (call (.ref C) []) _ _ _
  obtain ⟨bm, N, nm, qn, bs, hdct, sn, sub, ab, col, dd, k0, k1, k2, k3, k5, mN, hC, hN, hni, T⟩ := exc_obj I.kIn O.q
  refine wpAny_call_exc_subT PySem.F.excBase_ValueError T hC hN hni (fun h' e hm => ?_) (by show 0 ≤ sizeLine; exact Nat.zero_le _)
  exact mk_of I hm (raises_own O.s O.t) h (I.hok.gone hm.new)
/-- where an exception of a class may be let out, the slots being as they are -/
def LetOut (X : Cx) (r : SR) (W : WX) (KE : Value → List Sl → Prop) : Prop := ∀ cls dd (c : C) S' F' σ' H', KE cls S' → r.q c → EvD c S' F' σ' H' → W cls dd σ' H'
theorem js_raise {e : Expr} {pos : Pos} {E : DE} {C : Addr} {W : WX} {KE : Value → List Sl → Prop} (hc : X.calm = true) (tk : Takes X W) (he : PMk X e (fun _ H Q => Q (.ref C) none H)) (lo : LetOut X r W KE) (k : KE (.ref C) S) : JS X r (.Raise (some e) none pos) S E :=
  fun c F σ H hr Ev G g => of_ps (ps_raise hc tk he) (lo _ _ c S F σ H k hr Ev)
theorem jraise {x : Str} {p cpos pos : Pos} {E : DE} {C : Addr} {W : WX} {rest : List Stmt} {KE : Value → List Sl → Prop} (tk : Takes X W) (O : OwnExc X.K X.mg x C) (lo : LetOut X r W KE) (k : KE (.ref C) S) (hc : X.calm = true := by rfl) (hg : Gl X x := by rfl) (hdb : (x == ("__debug__" : Str)) = false := by decide) :
    JSs X r (.Raise (some (.Call (.Name x p) [] [] cpos)) none pos :: rest) S E := jss_cons (js_raise hc tk (pmk_own0 O hg hdb) lo k)
/-! ### a def that may raise -/
def SpX (φ : List Ar → (D → Prop) → (Value → Prop) → Prop) : Sp := fun vs H Q XE => ∃ (c : C) (as : List Ar) (K : D → Prop) (KE : Value → Prop), Fin c c.F0 H ∧ ArA c c.F0 vs as ∧ φ as K KE ∧ (∀ v d F' H', K d → Fin c F' H' → Rp F' v d → Q v H') ∧ ∀ cls dd F' H', KE cls → Fin c F' H' → XE cls dd H'
end
section
variable {P : Program} {w : World} {K : PySem.W.Frag} {mg : Str → Option Value} {base : Heap}
theorem fn_X {x qual : Str} {st : Stmt} {f : Addr} {fd : FuncData} {N ps : List Str} {k : Nat} {φ : List Ar → (D → Prop) → (Value → Prop) → Prop} (F : Fun K x qual st f fd) (Sc : FnScope N ps (defScope st)) (len : ∀ as Kd KE, φ as Kd KE → as.length = ps.length)
    (hbody : ∀ (as : List Ar) (Kd : D → Prop) (KE : Value → Prop) (r : SR) (cdv : Value) (A : Around) (outer : List PySem.Env) (s : Shared) (H : Hp) (E : XK), Room k (A.deeper (PyProof.Rows.envOfC qual (defScope st) s.heap.objs.size f cdv)) → φ as Kd KE →
      Takes (cxOf (L2.CX P w) P w K mg base N qual (defScope st) f cdv A outer s H E) (fun cls d _ H => E cls d H) →
      PassesOwn (model P w) (cxOf (L2.CX P w) P w K mg base N qual (defScope st) f cdv A outer s H E).A (cxOf (L2.CX P w) P w K mg base N qual (defScope st) f cdv A outer s H E).env (cxOf (L2.CX P w) P w K mg base N qual (defScope st) f cdv A outer s H E).xe →
      LetOut (cxOf (L2.CX P w) P w K mg base N qual (defScope st) f cdv A outer s H E) r (fun cls d _ H => E cls d H) (fun cls _ => KE cls) →
      JSs (cxOf (L2.CX P w) P w K mg base N qual (defScope st) f cdv A outer s H E) r (defBody st) (startS N as) { nx := fun _ => Kd .none, rt := Kd }) : FnOk P w K mg base (L2.CX P w) (k + 1) f fd ps (SpX φ) := by
  refine F.okX Sc (fun vs H Q E h => ?_) (fun cdv A outer s H vs Q E hr h => ?_)
  · obtain ⟨c, as, Kd, KE, fn, ra, hφ, _⟩ := h
    rw [ra.length]; exact len as Kd KE hφ
  · obtain ⟨c, as, Kd, KE, fn, ra, hφ, q, qe⟩ := h
    refine ⟨_, pss_tSs, hbody as Kd KE (srL c) cdv A outer s H E hr hφ (takes_of rfl rfl rfl rfl) (passes_of rfl) (fun cls dd c' S' F' σ' H' ke hq Ev => qe cls dd F' H' ke (srL_fin hq Ev.fin)) c c.F0 _ H (srL_refl c) (env_start fn ra) _ ⟨fun F' σ' H' S' a E' k' => q .non .none F' H' a E'.fin .non, fun v d F' H' a fn' rp => q v d F' H' a fn' rp, fun _ _ _ _ a => a.elim, fun _ _ _ _ a => a.elim⟩⟩
end
/-! ### its call -/
section
variable {X : Cx} {r : SR} {S : List Sl}
theorem run_fnAt {CX : CXT} {k : Nat} {f : Addr} {fd : FuncData} {ps : List Str} {sp : Sp} {E : XK} {pins : List (Addr × Obj)} {σ : L2.St} {H : Hp} {s : Shared} {Q : VK} {us : List Value} {vs : List V} (F : FnOk X.prog X.w X.K X.mg X.base CX k f fd ps sp) (hr : Room k X.A) (hb : Binds X.K fd ps []) (hx : ∀ e s', CX X.stack H s E e s' → X.xe e s')
    (I : Inv X pins σ H s) (rr : Vals vs us) (h : sp vs H Q E) : wpAny (model X.prog X.w) X.A (call (.ref f) us) (EP X pins σ Q) X.xe s := by
  have hl : us.length = ps.length := by rw [← rr.length]; exact F.len _ _ _ _ h
  have hb' := hb s us I.kIn (by rw [List.append_nil]; exact hl)
  rw [List.append_nil] at hb'
  refine wpAny_call (codeAny_mono (F.run X.A X.stack s H ⟨us, []⟩ us vs Q E hr I.env0 hb' rr h) fun r s' hq => ?_)
  cases r with
  | error e => exact hx e s' hq
  | ok fl =>
    cases fl with
    | ret u => exact I.after hq
    | next => exact False.elim hq
    | brk => exact False.elim hq
    | cont => exact False.elim hq
theorem sp_callX {φ : List Ar → (D → Prop) → (Value → Prop) → Prop} {c : C} {F : Hp} {σ : L2.St} {H : Hp} {vs : List V} {as : List Ar} {Q : VK} {XE : XK} {K : D → Prop} {KE : Value → Prop} (E : EvD c S F σ H) (ra : ArA c F vs as) (h : φ as K KE)
    (q : ∀ v d F' H', K d → EvD c S F' σ H' → Ex F F' → Rp F' v d → Q v H') (qe : ∀ cls dd F' H', KE cls → EvD c S F' σ H' → Ex F F' → XE cls dd H') : SpX φ vs H Q XE := by
  have ns : ∀ a, (∃ p, c.sr = some p ∧ (a = p.1 ∨ a = p.2)) → F a = none ∧ c.B a = none := fun a ⟨p, ep, z⟩ => by
    obtain ⟨_, n1, n2, b1, b2⟩ := E.fin.src p ep
    rcases z with z | z <;> subst z
    · exact ⟨n1, b1⟩
    · exact ⟨n2, b2⟩
  let B' : Hp := fun a => match c.sr with
    | none => H a
    | some p => if a = p.1 ∨ a = p.2 then none else H a
  have hB : ∀ a o, B' a = some o → H a = some o := fun a o e => by
    show H a = some o
    cases hs : c.sr with
    | none => simp only [B', hs] at e; exact e
    | some p =>
      simp only [B', hs] at e
      by_cases z : a = p.1 ∨ a = p.2
      · rw [if_pos z] at e; cases e
      · rw [if_neg z] at e; exact e
  have hB2 : ∀ a, (∀ p, c.sr = some p → a ≠ p.1 ∧ a ≠ p.2) → B' a = H a := fun a z => by
    cases hs : c.sr with
    | none => simp only [B', hs]
    | some p =>
      obtain ⟨z1, z2⟩ := z p hs
      simp only [B', hs]
      rw [if_neg (by intro q; rcases q with q | q; exact z1 q; exact z2 q)]
  have back : ∀ F' H', Fin ⟨B', F, c.sr⟩ F' H' → EvD c S F' σ H' ∧ Ex F F' := fun F' H' fn => by
    have kF : Ex F F' := fn.f0
    refine ⟨?_, kF⟩
    have hk : ∀ a o, (∀ p, c.sr = some p → a ≠ p.1 ∧ a ≠ p.2) → H a = some o → H' a = some o ∧ (F' a = F a ∨ ∃ xs, o = .tup xs) := fun a o z e => by
      have e' : B' a = some o := by rw [hB2 a z]; exact e
      exact ⟨fn.bh a o e', fn.bf a o e'⟩
    have hcB : ∀ a o, c.B a = some o → (∀ p, c.sr = some p → a ≠ p.1 ∧ a ≠ p.2) := fun a o e p ep => by
      obtain ⟨_, _, _, b1, b2⟩ := E.fin.src p ep
      exact ⟨fun z => (by rw [z, b1] at e; cases e), fun z => (by rw [z, b2] at e; cases e)⟩
    refine ⟨⟨E.fin.f0.trans kF, fn.fh, fun a o e => (hk a o (hcB a o e) (E.fin.bh a o e)).1, fun a o e => ((hk a o (hcB a o e) (E.fin.bh a o e)).2).elim (fun z => (E.fin.bf a o e).elim (fun y => .inl (z.trans y)) .inr) .inr, fun p ep => ?_⟩, E.len, fun i s e => ?_, E.ds⟩
    · obtain ⟨s, n1, n2, _, _⟩ := fn.src p ep
      obtain ⟨_, _, _, b1, b2⟩ := E.fin.src p ep
      exact ⟨s, n1, n2, b1, b2⟩
    · obtain ⟨x, e1, rr⟩ := E.sl i s e
      refine ⟨x, e1, ?_⟩
      cases s with
      | emp => trivial
      | src => exact rr
      | rf _ => exact rr
      | val d =>
        obtain ⟨v, e2, rr⟩ := rr
        exact ⟨v, e2, rr.ex kF⟩
      | ob ds =>
        obtain ⟨a, ws, e2, h1, r1, n1, b1, q1⟩ := rr
        have za : ∀ p, c.sr = some p → a ≠ p.1 ∧ a ≠ p.2 := q1
        obtain ⟨g1, g2⟩ := hk a _ za h1
        rcases g2 with g2 | ⟨xs, g2⟩
        · exact ⟨a, ws, e2, g1, r1.ex kF, by rw [g2]; exact n1, b1, q1⟩
        · have m := r1.mut
          rw [g2] at m
          exact m.elim
  refine ⟨⟨B', F, c.sr⟩, as, K, KE, ⟨Ex.refl F, E.fin.fh, hB, fun _ _ _ => .inl rfl, fun p ep => ?_⟩, ?_, h, fun v d F' H' kd fn rp => q v d F' H' kd (back F' H' fn).1 (back F' H' fn).2 rp, fun cls dd F' H' ke fn => qe cls dd F' H' ke (back F' H' fn).1 (back F' H' fn).2⟩
  · obtain ⟨s, n1, n2, b1, b2⟩ := E.fin.src p ep
    have ep' : c.sr = some p := ep
    refine ⟨s, n1, n2, ?_, ?_⟩
    · show B' p.1 = none
      simp [B', ep']
    · show B' p.2 = none
      simp [B', ep']
  · clear q qe h
    induction ra with
    | nil => exact .nil
    | cons rr _ ih =>
      refine .cons ?_ ih
      revert rr
      cases ‹Ar› with
      | d d => exact fun z => z
      | src => exact fun z => z
/-- a call that may raise -/
theorem je_callX {K0 : D → List Sl → Prop} {W : WX} {k k' : Nat} {f : Addr} {fd : FuncData} {ps : List Str} {x : Str} {st : Stmt} {p pos : Pos} {e : Expr} {es : List Expr} {φ : List Ar → (D → Prop) → (Value → Prop) → Prop} (KS : Value → List Sl → Prop) (tk : Takes X W) (lo : LetOut X r W KS) (hr : Room k' X.A) (N : Dn X.K X.mg x st ps f fd) (F : FnOk X.prog X.w X.K X.mg X.base (L2.CX X.prog X.w) k f fd ps (SpX φ))
    (h : JA X r (e :: es) S fun as S1 => ∃ KE, φ as (fun d => K0 d S1) KE ∧ ∀ cls, KE cls → KS cls S1) (hk : k ≤ k' := by decide) (hg : Gl X x := by rfl) (hdb : (x == ("__debug__" : Str)) = false := by decide)
    (he : starEach (e :: es) X.env = (false, eval e X.env) :: starEach es X.env := by rfl) (hpl : (backTo pos (starEach es X.env)).any (·.1) = false := by rfl) : JE X r (.Call (.Name x p) (e :: es) [] pos) S K0 := fun c F0 σ H hr' Ev Q q pins s I => by
  refine wpAny_Call_Name_kw (ld_glob I hg N.g ?_ hdb)
  refine PySem.W.callWith_K (h₀ := X.base) I.ok.mod.kin N.F.kp (thn (h c F0 σ H hr' Ev (fun vs H1 => SpX φ vs H1 Q fun cls dd H' => W cls dd σ H') (fun vs as F1 H1 S1 ⟨KE, hφ, hKE⟩ E1 k1 r1 => ?_) pos pins s I) fun us s1 ⟨vs, H1, I1, rr, q1⟩ => ⟨I1.kIn, ?_⟩) he hpl
  · exact sp_callX E1 r1 hφ (fun v d F' H' kd Ev' kF rp => q v d F' H' S1 kd Ev' (k1.trans kF) rp) fun cls dd F' H' ke Ev' kF => lo cls dd c S1 F' σ H' (hKE cls ke) hr' Ev'
  · exact run_fnAt F (hr.mono hk) N.b (fun e' s' cx => tk e' s' (XE.of_call I1 (fun _ _ _ h => h) cx)) I1 rr q1
/-! ### try .. except -/
theorem EvD.to {c0 c : C} {F H : Hp} {σ : L2.St} (h : (srL c0).q c) (E : EvD c S F σ H) : EvD c0 S F σ H := by
  refine ⟨srL_fin h E.fin, E.len, fun i s e => ?_, E.ds⟩
  obtain ⟨a, b, ex⟩ := h
  obtain ⟨x, e1, rr⟩ := E.sl i s e
  refine ⟨x, e1, ?_⟩
  cases s with
  | emp => trivial
  | val d => exact rr
  | src =>
    obtain ⟨p, ep, z⟩ := rr
    exact ⟨p, a ▸ ep, z⟩
  | rf _ => exact rr
  | ob o =>
    obtain ⟨a', hh, z, ha, ro, nF, nB, ns⟩ := rr
    exact ⟨a', hh, z, ha, ro, nF, ex.back nB, fun p ep => ns p (a.trans ep)⟩
/-- the same place, from now on -/
def C.now (c : C) (F : Hp) : C := ⟨c.B, F, c.sr⟩
theorem EvD.now {c : C} {F H : Hp} {σ : L2.St} (E : EvD c S F σ H) : EvD (c.now F) S F σ H := by
  refine ⟨⟨Ex.refl F, E.fin.fh, E.fin.bh, fun _ _ _ => .inl rfl, E.fin.src⟩, E.len, fun i s e => ?_, E.ds⟩
  obtain ⟨x, e1, rr⟩ := E.sl i s e
  refine ⟨x, e1, ?_⟩
  cases s <;> exact rr
theorem fin_past {c : C} {F H F' H' : Hp} (f : Fin c F H) (f' : Fin (c.now F) F' H') : Fin c F' H' :=
  ⟨f.f0.trans f'.f0, f'.fh, f'.bh, fun a o e => (f'.bf a o e).elim (fun z => (f.bf a o e).elim (fun y => .inl (z.trans y)) .inr) .inr, f'.src⟩
theorem EvD.past {c : C} {F H F' H' : Hp} {σ : L2.St} {S' : List Sl} (f : Fin c F H) (E : EvD (c.now F) S' F' σ H') : EvD c S' F' σ H' := by
  refine ⟨fin_past f E.fin, E.len, fun i s e => ?_, E.ds⟩
  obtain ⟨x, e1, rr⟩ := E.sl i s e
  refine ⟨x, e1, ?_⟩
  cases s <;> exact rr
theorem js_try {body suite : List Stmt} {b₀ : Stmt} {x : Str} {np pos' pos : Pos} {C : Addr} {E : DE} (KH : Value → List Sl → Prop) (hc : Names X x (.ref C)) (hm : ∀ cls S', KH cls S' → PySem.W.exmOne X.K cls (.ref C) = some true)
    (hb : ∀ (W : WX) (pn : List (Addr × Obj)) (xe : Value → Shared → Prop) (r' : SR), Takes (X.tr pn xe) W → PassesOwn (model X.prog X.w) X.A X.env xe → LetOut (X.tr pn xe) r' W KH → JSs (X.tr pn xe) r' body S E)
    (hsu : ∀ cls S' (a : Addr) (pn : List (Addr × Obj)) (r' : SR), KH cls S' → JSs (X.suite a pn) r' (b₀ :: suite) S' E) (hs : X.stack = X.env :: X.outer := by rfl) (hf : X.env.frame = some X.env.locals := by rfl) :
    JS X r (.Try body [.ExceptHandler (some (.Name x np)) none (b₀ :: suite) pos'] [] [] pos) S E := fun c F σ H hr Ev G g => by
  have E1 := Ev.now
  have g1 : EndsR (c.now F) F E G := ⟨fun F' σ' H' S' a E' k' => g.nx F' σ' H' S' a (EvD.past Ev.fin E') k', fun v d F' H' a fn rp => g.rt v d F' H' a (fin_past Ev.fin fn) rp, fun F' σ' H' S' a E' k' => g.bk F' σ' H' S' a (EvD.past Ev.fin E') k', fun F' σ' H' S' a E' k' => g.ct F' σ' H' S' a (EvD.past Ev.fin E') k'⟩
  refine of_ps (ps_try_only (tb := fun W D σ H => ∀ (pn : List (Addr × Obj)) (xe : Value → Shared → Prop), Takes (X.tr pn xe) W → PassesOwn (model X.prog X.w) X.A X.env xe → tSs (X.tr pn xe) body D σ H)
    (ts := fun a cls d D σ H => ∀ pn : List (Addr × Obj), tSs (X.suite a pn) (b₀ :: suite) D σ H) (Wout := fun _ _ _ _ => False) hs hf hc takes0
    (fun W pn xe tk hp => ⟨fun pins s σ H D I h => h pn xe tk hp pins s I⟩) (fun a oe cls d pn _ _ => ⟨fun pins s σ H D I h => h _ pins s I⟩)) ?_
  intro pn xe tk hp
  refine hb _ pn xe (srL (c.now F)) tk hp (fun cls dd c' S' F' σ' H' ke hq Ev' => ⟨true, hm cls S' ke, fun _ a na pn' => ?_, fun z => by cases z⟩) (c.now F) F σ H (srL_refl _) E1 G g1
  have E2 := EvD.to hq Ev'
  exact hsu cls S' a pn' (srL (c.now F)) ke (c.now F) F' σ' H' (srL_refl _) E2 G (g1.ex E2.fin.f0)
theorem jtry {body suite rest : List Stmt} {b₀ : Stmt} {x : Str} {np pos' pos : Pos} {C : Addr} {E : DE} (KH : Value → List Sl → Prop) (hc : Names X x (.ref C)) (hm : ∀ cls S', KH cls S' → PySem.W.exmOne X.K cls (.ref C) = some true)
    (hb : ∀ (W : WX) (pn : List (Addr × Obj)) (xe : Value → Shared → Prop) (r' : SR), Takes (X.tr pn xe) W → PassesOwn (model X.prog X.w) X.A X.env xe → LetOut (X.tr pn xe) r' W KH → JSs (X.tr pn xe) r' body S { E with nx := fun S2 => JSs X r rest S2 E })
    (hsu : ∀ cls S' (a : Addr) (pn : List (Addr × Obj)) (r' : SR), KH cls S' → JSs (X.suite a pn) r' (b₀ :: suite) S' { E with nx := fun S2 => JSs X r rest S2 E }) (hs : X.stack = X.env :: X.outer := by rfl) (hf : X.env.frame = some X.env.locals := by rfl) :
    JSs X r (.Try body [.ExceptHandler (some (.Name x np)) none (b₀ :: suite) pos'] [] [] pos :: rest) S E := jss_cons (js_try KH hc hm hb hsu hs hf)
end
end DL

/-! DL: a, b, c = x, y, {}; k not in a dict of one's own. -/
namespace DL
open PySem L2
section
variable {X : Cx} {r : SR} {S : List Sl}
theorem jpar3O {x y z : Str} {a b e : Expr} {px py pz pt pos : Pos} {kt k2 pt2} {E : DE} {rest : List Stmt} (i j l : Nat) (h : JE X r a S fun d1 S1 => JE X r b S1 fun d2 S2 => JO X r e S2 fun o S3 => i < S3.length ∧ j < S3.length ∧ JSs X r rest (((S3.set i (.val d1)).set j (.val d2)).set l (.ob o)) E)
    (hc : X.calm = true := by rfl) (hN : X.N.Nodup := by assumption) (hi : X.N[i]? = some x := by rfl) (hj : X.N[j]? = some y := by rfl) (hl : X.N[l]? = some z := by rfl) (hij : i ≠ j := by decide) (hil : i ≠ l := by decide) (hjl : j ≠ l := by decide) (hx : X.env.scope.names.lookup x = some .local := by rfl) (hy : X.env.scope.names.lookup y = some .local := by rfl) (hz : X.env.scope.names.lookup z = some .local := by rfl)
    (hw : swappedStores [.Tuple [.Name x px, .Name y py, .Name z pz] kt pt] (.Tuple [a, b, e] k2 pt2) X.env = pure (some [x, y, z]) := by rfl) (hs : swapsWithSole [.Tuple [.Name x px, .Name y py, .Name z pz] kt pt] (.Tuple [a, b, e] k2 pt2) pos.line X.env = pure false := by rfl)
    (s1 : starEach [a, b, e] X.env = (false, eval a X.env) :: starEach [b, e] X.env := by rfl) (s2 : starEach [b, e] X.env = (false, eval b X.env) :: starEach [e] X.env := by rfl) (s3 : starEach [e] X.env = (false, eval e X.env) :: starEach [] X.env := by rfl) :
    JSs X r (.Assign [.Tuple [.Name x px, .Name y py, .Name z pz] kt pt] (.Tuple [a, b, e] k2 pt2) pos :: rest) S E := jss_cons fun c F σ H hr Ev G g =>
  of_ps (ps_par3 hc hN hi hj hl hij hil hjl hx hy hz (pa_cons pe_tE (pa_cons pe_tE (pa_cons pe_tE pa_nil s3) s2) s1) hw hs) (h c F σ H hr Ev _ fun v d F1 H1 S1 h1 E1 k1 r1 => h1 c F1 σ H1 hr E1 _ fun v2 d2 F2 H2 S2 h2 E2 k2 r2 => h2 c F2 σ H2 hr E2 _ fun p o F3 H3 S3 h3 n k3 => by
    obtain ⟨hh, E3, hp, hv, nF, b, q, no⟩ := n
    obtain ⟨hli, hlj, kk⟩ := h3
    have E4 := (E3.set (i := i) (r1.ex (k2.trans k3))).set (i := j) (r2.ex k3)
    refine ⟨v, v2, .ref p, rfl, g.nx F3 _ H3 _ kk (E4.setOwn hp hv nF b q fun m xs em => ?_) ((k1.trans k2).trans k3)⟩
    by_cases hm : j = m
    · subst hm
      rw [List.getElem?_set_self (by rw [List.length_set]; exact hlj)] at em; cases em
    · rw [List.getElem?_set_ne hm] at em ⊢
      by_cases hm : i = m
      · subst hm
        rw [List.getElem?_set_self hli] at em; cases em
      · rw [List.getElem?_set_ne hm] at em ⊢
        exact no m xs em)
/-- a list of one's own, from here on as data -/
theorem jss_frz {rest : List Stmt} {E : DE} (i : Nat) {xs : OB} (e : S[i]? = some (.ob xs)) (h : JSs X r rest (S.set i (.val (obD xs))) E) : JSs X r rest S E := fun c F σ H hr Ev G g => by
  obtain ⟨F', v, kF, _, _, E'⟩ := Ev.freezeAt e
  exact h c F' σ H hr E' G (g.ex kF)
/-- a not in x, x a dict of one's own -/
theorem jtdninO {K : Bool → List Sl → Prop} {a : Expr} {x : Str} {px pos : Pos} {k : Nat} (hr : Room k X.A) (i : Nat) (h : JE X r a S fun d1 S1 => ∃ ky kvs, d1 = tupI ky ∧ S1[i]? = some (.ob (.d kvs)) ∧ K (!(valD kvs ky).isSome) S1)
    (hN : X.N[i]? = some x := by rfl) (hv : Vis X.env.scope x := by first | exact Or.inl rfl | exact Or.inr (Or.inl rfl) | exact Or.inr (Or.inr rfl)) (hd : (x == ("__debug__" : Str)) = false := by decide) (hcd : (x == ("__classdict__" : Str)) = false := by decide) (hm : behindInMarks .NotIn (.Name x px) = false := by rfl) : JT X r (.Compare a [.NotIn] [.Name x px] pos) S K :=
  fun c F σ H hr' E Q q => of_pt (pt_cmp (pc_dnotin (by have := hr.un; omega) pe_tE (pe_var hN hv hd hcd)) hm) (h c F σ H hr' E _ fun v1 d1 F1 H1 S1 h1 E1 k1 r1 => by
    obtain ⟨ky, kvs, rfl, es, kk⟩ := h1
    obtain ⟨y, e1, l, hh, e2, ha, rv, nF, nb, q0⟩ := E1.sl i _ es
    subst e2
    obtain ⟨ws, rfl, rk⟩ := obr_d rv
    refine ⟨_, e1, l, _, rfl, dget_of E1.fin.fh r1 ha, ?_⟩
    rw [(rk.val ky).isSome]
    exact ⟨_, rfl, q _ F1 H1 S1 kk E1 k1⟩)
end
end DL

/-! DL: t[::-1]; t * 0, t * 1; xs * n; xs[i] = v; sorted(t); int(b); is not True. -/
namespace DL
open PySem L2
section
open PySem.Spec PyProof.Rows
open AutoSeq1 (wpAny_loadPart')
theorem tuple_mul1 (l : Addr) (items : Array Value) (n : Nat) (dd : Option Addr) (sl : Array (Option Value)) (u : Tok) :
    Meets (Builtin.«tuple.__mul__» ⟨[.ref l, .int 1 u], []⟩) (fun _ R s => s.heap.get? l = some { cls := .type "tuple", dict := dd, data := .seq items n, slots := sl } ∧ R (.ok (.ret (Value.ref l))) s) :=
  .of_wp fun prog w A R s h => by
    obtain ⟨hp, g, d, tk, os⟩ := s
    obtain ⟨hl, h⟩ := h
    have f1 := AutoSeq1.idx_int
    wp_walk using wpAny_loadPart' hl
    repeat (first
      | (refine wpAny_ite_false (decide_eq_false (by decide)) ?_; wp_walk using wpAny_loadPart' hl)
      | (refine wpAny_ite_true (decide_eq_true (by rw [Bool.or_eq_true]; exact .inr rfl)) ?_; wp_walk using wpAny_loadPart' hl))
    all_goals first | exact ⟨_, rfl, h⟩ | skip
theorem tuple_mul0 (l : Addr) (items : Array Value) (n : Nat) (dd : Option Addr) (sl : Array (Option Value)) (u : Tok) (hne : items.isEmpty = false) :
    Meets (Builtin.«tuple.__mul__» ⟨[.ref l, .int 0 u], []⟩) (fun _ R s => s.heap.get? l = some { cls := .type "tuple", dict := dd, data := .seq items n, slots := sl } ∧
      R (.ok (.ret (Value.ref s.heap.objs.size))) { s with heap := s.heap.push { cls := Value.type "tuple", data := Data.seq #[] }, toks := s.toks }) :=
  .of_wp fun prog w A R s h => by
    obtain ⟨hp, g, d, tk, os⟩ := s
    obtain ⟨hl, h⟩ := h
    have f1 := AutoSeq1.idx_int
    wp_walk using wpAny_loadPart' hl
    repeat (first
      | (refine wpAny_ite_false (decide_eq_false (by decide)) ?_; wp_walk using wpAny_loadPart' hl)
      | (refine wpAny_ite_false (decide_eq_false (by rw [hne]; decide)) ?_; wp_walk using wpAny_loadPart' hl)
      | (refine wpAny_ite_true (decide_eq_true (by rw [Bool.or_eq_true]; exact .inl rfl)) ?_; wp_walk using wpAny_loadPart' hl))
    all_goals first | exact ⟨_, rfl, h⟩ | skip
end
section
open PySem.Spec PyProof.Rows
variable {prog : Program} {w : World} {A : Around} {E : Value → Shared → Prop} {s : Shared}
theorem adjust_rev (n : Nat) : Builtin.Slice.sliceAdjust none none (-1) (n : Int) = ((n : Int) - 1, -1) := by
  have h1 : ((-1 : Int) < 0) := by omega
  unfold Builtin.Slice.sliceAdjust
  simp only [h1, if_true]
theorem places_rev (n : Nat) : Builtin.Slice.slicePlaces ((n : Int) - 1) (-1) (-1) = n := by
  unfold Builtin.Slice.slicePlaces
  have h1 : ¬ ((-1 : Int) > 0) := by omega
  simp only [h1, if_false]
  rw [show (- -1 : Int) = 1 by decide, Int.ediv_one]
  split <;> omega
theorem sliceApplied_rev {sl : Addr} {vl vu vs : Value} {n : Nat} {Q : Int × Int × Nat → Shared → Prop} (hs : s.heap.IsSliceOf sl vl vu vs) (pl : IsPart vl none) (pu : IsPart vu none) (pt : IsPart vs (some (-1)))
    (h : Q ((n : Int) - 1, -1, n) s) : wpAny (model prog w) A (Builtin.Slice.sliceApplied (.ref sl) (pure (n : Int))) Q E s := by
  obtain ⟨os, hos, hcs, hds⟩ := id hs
  unfold Builtin.Slice.sliceApplied Builtin.Slice.sliceFields
  refine wpAny_bind (wpAny_bind (wpAny_field hos hds (x := vl) rfl (wpAny_bind (wpAny_field hos hds (x := vu) rfl (wpAny_bind (wpAny_field hos hds (x := vs) rfl (wpAny_pure ?_)))))))
  refine wpAny_bind (HT.slicePart_ pt ?_)
  show wpAny _ _ (if ((-1 : Int) == 0) = true then _ else _) _ _ s
  rw [if_neg (by decide)]
  refine wpAny_bind (HT.slicePart_ pl (wpAny_bind (HT.slicePart_ pu (wpAny_bind (wpAny_pure ?_)))))
  show wpAny _ _ (match Builtin.Slice.sliceAdjust none none (-1) (n : Int) with | (lo, hi) => pure (lo, (-1 : Int), Builtin.Slice.slicePlaces lo hi (-1))) _ _ s
  rw [adjust_rev n]
  show wpAny _ _ (pure ((n : Int) - 1, (-1 : Int), Builtin.Slice.slicePlaces ((n : Int) - 1) (-1) (-1))) _ _ s
  rw [places_rev]
  exact wpAny_pure h
theorem fm_congr {α β : Type} {f g : α → Option β} : ∀ {l : List α}, (∀ x ∈ l, f x = g x) → l.filterMap f = l.filterMap g
  | [], _ => rfl
  | x :: l, h => by
    rw [List.filterMap_cons, List.filterMap_cons, h x List.mem_cons_self, fm_congr fun y hy => h y (List.mem_cons_of_mem _ hy)]
theorem pick_rev (xs : Array Value) : ((List.range xs.size).filterMap fun (m : Nat) => xs[(((xs.size : Nat) : Int) - 1 + (m : Int) * -1).toNat]?).toArray = xs.toList.reverse.toArray := by
  have h := PySem.W.krv_all xs
  have e : (List.range xs.size).filterMap (fun (m : Nat) => xs[(((xs.size : Nat) : Int) - 1 + (m : Int) * -1).toNat]?) = ((List.range xs.size).map fun k => xs.size - 1 - k).filterMap (xs[·]?) := by
    rw [List.filterMap_map]
    refine fm_congr fun m hm => ?_
    have hm := List.mem_range.mp hm
    have : (((xs.size : Nat) : Int) - 1 + (m : Int) * -1).toNat = xs.size - 1 - m := by omega
    rw [this]; rfl
  rw [e, PySem.W.krv_range, List.filterMap_reverse, h]
theorem getItem_tuple_rev {t sl : Addr} {items : Array Value} {vl vu vs : Value} {Q : Value → Shared → Prop} (ht : IsTup s.heap t items) (hs : s.heap.IsSliceOf sl vl vu vs) (pl : IsPart vl none) (pu : IsPart vu none) (pt : IsPart vs (some (-1)))
    (h : Q (.ref s.heap.objs.size) { s with heap := s.heap.push { cls := .type "tuple", data := .seq items.toList.reverse.toArray } })
    (hsz : items.size ≤ sizeLine) : wpAny (model prog w) A (getItem (.ref t) (.ref sl)) Q E s := by
  have htake : sizeOk (.seq items.toList.reverse.toArray) := by
    show items.toList.reverse.toArray.size ≤ sizeLine
    rw [List.size_toArray, List.length_reverse, Array.length_toList]
    exact hsz
  obtain ⟨os, hos, hcs, hds⟩ := id hs
  have hTs : s.TypeIs (.ref sl) "slice" := ⟨os, hos, hcs⟩
  unfold getItem
  try with_reducible refine wpAny_holding ?_
  first | refine wpAny_bind (wpAny_pure ?_) | skip
  refine wpAny_bind (wpAny_sequenceKey ht.typeIs (by decide) ?_)
  refine wpAny_bind (wpAny_callSpecial?_slot (name := Str.ofString "__getitem__") ht.typeIs PyProof.Rows.slot_tuple_getitem
    (wpAny_call_entry PyProof.Rows.slot_tuple_getitem ht.typeIs entry_tuple_getitem ?_ (args_tuple_getitem _ _)))
  show wpAny _ _ (Builtin.Tuple.tupleItemsOf (.ref t) >>= _) _ _ s
  refine wpAny_bind (tupleItemsOf_ ht ?_)
  refine wpAny_bind (wpAny_typeOf hTs ?_)
  rw [if_pos (by decide)]
  refine wpAny_bind (sliceApplied_rev hs pl pu pt ?_)
  have hno : ¬ (((((items.size : Nat) : Int) - 1) == 0 && (-1 : Int) == 1 && items.size == items.size) = true) := by
    intro q
    rw [Bool.and_eq_true, Bool.and_eq_true] at q
    have q1 : (-1 : Int) = 1 := eq_of_beq q.1.2
    omega
  show wpAny _ _ (if ((((items.size : Nat) : Int) - 1) == 0 && (-1 : Int) == 1 && items.size == items.size) = true then _ else _) _ _ s
  rw [if_neg hno, pick_rev]
  first
    | exact wpAny_bind (m := Builtin.Tuple.tupleExact _) (wpAny_newObj_type (wpAny_pure ⟨_, rfl, wpAny_pure h⟩) htake)
    | exact wpAny_bind (m := Builtin.Tuple.tupleExact _) (wpAny_newObj_type (wpAny_bind (wpAny_pure (wpAny_pure ⟨_, rfl, wpAny_pure h⟩))) htake)
end
section
variable {X : Cx} {r : SR} {S : List Sl}
open PySem.Spec PyProof.Rows
/-- t[::-1], t a tuple -/
def tRevT (te : TE) : TE := fun σ H Q => te σ H fun x H1 => ∃ a xs, x = .ref a ∧ H1 a = some (.tup xs) ∧ ∀ p, H1 p = none → Q (.ref p) (upd H1 p (.tup xs.reverse))
theorem pe_revT {e : Expr} {te : TE} {k : Nat} {p1 p2 p3 pos : Pos} (he : PE X e te) : PE X (.Subscript e (.Slice none none (some (.UnaryOp .USub (.Constant (.int 1) k p1) p2)) p3) pos) (tRevT te) := by
  refine ⟨fun pins s σ H Q I h => ?_⟩
  refine Subscript_ (thn (he.run pins s σ H _ I h) fun v s1 ⟨x, H1, I1, r1, q1⟩ => ?_)
  obtain ⟨a, xs, ex, hx, q⟩ := q1
  subst ex
  cases r1
  have hst : PO X (some (.UnaryOp .USub (.Constant (.int 1) k p1) p2)) (tPart (tUn (rU fun i => .int (-i)) (tC (.int 1)))) := po_some (pe_un un_neg pe_int)
  refine wpAny_Slice (thn (po_none.run pins s1 σ H1 (fun o H2 => o = none ∧ H2 = H1) I1 ⟨rfl, rfl⟩) fun vl s2 ⟨l, H2, I2, pl, el, e2⟩ => ?_)
  subst el e2
  refine thn (po_none.run pins s2 σ H2 (fun o H3 => o = none ∧ H3 = H2) I2 ⟨rfl, rfl⟩) fun vu s3 ⟨u, H3, I3, pu, eu, e3⟩ => ?_
  subst eu e3
  refine thn (hst.run pins s3 σ H3 (fun o H4 => o = some (-1) ∧ H4 = H3) I3 ⟨1, rfl, -1, rfl, rfl, rfl⟩) fun vs s4 ⟨o, H4, I4, ps, eo, e4⟩ => ?_
  subst eo e4
  have I5 : Inv X pins σ H4 { s4 with heap := s4.heap.push { cls := .type "slice", data := .fields #[vl, vu, vs] } } := I4.kept (t' := s4.toks) fun b ob q => Heap.get?_push_of_some _ q
  obtain ⟨its, r, ht, hz⟩ := I5.tuple (.inl (.inl hx))
  have hlen := r.length
  show wpAny (model X.prog X.w) X.A (subscriptTail e (.Slice none none (some (.UnaryOp .USub (.Constant (.int 1) k p1) p2)) p3) (.ref a) (.ref s4.heap.objs.size)) (EP X pins σ Q) X.xe { s4 with heap := s4.heap.push { cls := .type "slice", data := .fields #[vl, vu, vs] } }
  refine tail_any (ops := [.ref a, .ref s4.heap.objs.size]) ht.typeIs (PyProof.Rows.slot_tuple_getitem.lookup) ?_ (by with_unfolding_all rfl)
  refine getItem_tuple_rev ht (Heap.IsSliceOf.new _ vl vu vs) pl pu ps ?_ (by rw [List.size_toArray]; omega)
  refine ⟨.ref _, _, I5.laid (t' := s4.toks) (o := .tup xs.reverse) (fun b ob q => Heap.get?_push_of_some _ q) (Nat.le_refl _) ?_, rfl, q _ (I5.hok.fresh (Nat.le_refl _))⟩
  exact ⟨by rw [List.length_reverse]; exact hz, _, r.reverse, IsTup.new _ _⟩
theorem RpA.reverse {F : Hp} : ∀ {vs : List V} {ds : List D}, RpA F vs ds → RpA F vs.reverse ds.reverse
  | _, _, .nil => .nil
  | _, _, .cons r t => by rw [List.reverse_cons, List.reverse_cons]; exact (RpA.reverse t).append (.one r)
theorem je_revT {K : D → List Sl → Prop} {e : Expr} {k : Nat} {p1 p2 p3 pos : Pos} (h : JE X r e S fun d S1 => ∃ xs, d = .tuple xs ∧ K (.tuple xs.reverse) S1) : JE X r (.Subscript e (.Slice none none (some (.UnaryOp .USub (.Constant (.int 1) k p1) p2)) p3) pos) S K :=
  fun c F σ H hr E Q q => of_pe (pe_revT pe_tE) (h c F σ H hr E _ fun v d F1 H1 S1 h1 E1 k1 r1 => by
    obtain ⟨xs, rfl, kd⟩ := h1
    cases r1 with
    | @tup a ws _ ha rv =>
      refine ⟨a, ws, rfl, E1.fin.fh _ _ ha, fun p n => ?_⟩
      have g : Grow F1 H1 (upd F1 p (.tup ws.reverse)) (upd H1 p (.tup ws.reverse)) := Grow.new E1.fin.fh n
      exact q _ _ _ _ S1 kd (E1.grow g) (k1.trans g.kF) (.tup upd_same (rv.reverse.ex g.kF)))
end
section
open PySem.Spec PyProof.Rows
variable {X : Cx} {r : SR} {S : List Sl}
/-! ### t * 0, t * 1, xs * n -/
def rRep01 : R2 := fun x y H Q => ∃ l xs, x = .ref l ∧ H l = some (.tup xs) ∧ xs ≠ [] ∧ ((y = .int 1 ∧ Q (.ref l) H) ∨ (y = .int 0 ∧ ∀ p, H p = none → Q (.ref p) (upd H p (.tup []))))
theorem op_rep01 : OpR X (binaryOp .Mult) rRep01 := by
  intro pins s σ H x y v u Q I rx ry h
  obtain ⟨l, xs, rfl, hT, hne, h⟩ := h
  cases rx
  obtain ⟨its, rr, ⟨⟨cls, dd, data, sl⟩, ho, hc, n, hd⟩, hs⟩ := I.tuple (.inl (.inl hT))
  simp only at hc hd
  subst hc hd
  have hle : its.length = xs.length := rr.length.symm
  have hn : its ≠ [] := fun e => hne (by
    rw [e] at hle
    exact List.eq_nil_of_length_eq_zero hle.symm)
  have hi : its.toArray.isEmpty = false := by
    cases its with
    | nil => exact absurd rfl hn
    | cons a b => rfl
  rcases h with ⟨rfl, q⟩ | ⟨rfl, q⟩
  · obtain ⟨t, rfl⟩ := ry
    exact wpAny_binaryOp_repeat_ref (T := "tuple") (U := "int") (by decide) ⟨_, ho, rfl⟩ (fun s' => typeIs_int s' 1 t) noFill_tuple_mul PySem.F.fills_int_mul PySem.F.slot_int_rmul repeat_tuple PySem.F.slot_int_index.lookup
      (call_meets PySem.F.slot_int_rmul (typeIs_int s 1 t) PySem.F.entry_int_rmul (PySem.F.args_int_rmul_2 _ _) (int_rmul_tuple 1 t l its.toArray n dd sl)
        ⟨ho, rfl, ⟨_, ho, rfl⟩, call_meets PySem.F.slot_tuple_mul ⟨_, ho, rfl⟩ PySem.F.entry_tuple_mul (PySem.F.args_tuple_mul_2 _ _) (tuple_mul1 l its.toArray n dd sl t) ⟨ho, ⟨.ref l, H, I, rfl, q⟩⟩⟩)
  · obtain ⟨t, rfl⟩ := ry
    refine wpAny_binaryOp_repeat_ref (T := "tuple") (U := "int") (by decide) ⟨_, ho, rfl⟩ (fun s' => typeIs_int s' 0 t) noFill_tuple_mul PySem.F.fills_int_mul PySem.F.slot_int_rmul repeat_tuple PySem.F.slot_int_index.lookup
      (call_meets PySem.F.slot_int_rmul (typeIs_int s 0 t) PySem.F.entry_int_rmul (PySem.F.args_int_rmul_2 _ _) (int_rmul_tuple 0 t l its.toArray n dd sl)
        ⟨ho, rfl, ⟨_, ho, rfl⟩, call_meets PySem.F.slot_tuple_mul ⟨_, ho, rfl⟩ PySem.F.entry_tuple_mul (PySem.F.args_tuple_mul_2 _ _) (tuple_mul0 l its.toArray n dd sl t hi) ⟨ho, ?_⟩⟩)
    exact ⟨.ref s.heap.objs.size, _, I.laid (t' := s.toks) (o := .tup []) (fun b ob q => Heap.get?_push_of_some _ q) (Nat.le_refl _) ⟨Nat.zero_le _, [], .nil, IsTup.new _ _⟩, rfl, q _ (I.hok.fresh (Nat.le_refl _))⟩
theorem od_rep01 {ds : List D} {b : Bool} {K : D → Prop} (hne : ds ≠ []) (k : K (.tuple (if b = true then ds else []))) : OpD rRep01 (.tuple ds) (.int (if b = true then 1 else 0)) K := fun F H v1 v2 kF r1 r2 Q q => by
  cases r1 with
  | @tup a vs _ ha rv =>
    refine ⟨a, vs, rfl, kF _ _ ha, fun e => hne ?_, ?_⟩
    · subst e; cases rv; rfl
    · cases b with
      | true =>
        cases r2
        exact .inl ⟨rfl, q _ _ F H k (Grow.refl kF) (.tup ha rv)⟩
      | false =>
        cases r2
        exact .inr ⟨rfl, fun p n => q _ _ _ _ k (Grow.new kF n) (.tup upd_same .nil)⟩
theorem RpA.rep {F : Hp} {vs : List V} {ds : List D} (h : RpA F vs ds) : ∀ n : Nat, RpA F (List.replicate n vs).flatten (List.replicate n ds).flatten
  | 0 => .nil
  | n + 1 => by
    rw [List.replicate_succ, List.replicate_succ, List.flatten_cons, List.flatten_cons]
    exact h.append (RpA.rep h n)
/-- xs * n, a list -/
theorem jn_rep {K : List D → List Sl → Prop} {a b : Expr} {pos : Pos} (h : JE X r a S fun d1 S1 => JE X r b S1 fun d2 S2 => ∃ xs, ∃ n : Nat, d1 = .list xs ∧ d2 = .int n ∧ xs.length * n ≤ 1000000 ∧ n ≤ 1000000 ∧ K (List.replicate n xs).flatten S2) : JN X r (.BinOp a .Mult b pos) S K :=
  fun c F σ H hr E Q q => of_pe (pe_op op_rep pe_tE pe_tE) (h c F σ H hr E _ fun v1 d1 F1 H1 S1 h1 E1 k1 r1 => h1 c F1 σ H1 hr E1 _ fun v2 d2 F2 H2 S2 h2 E2 k2 r2 => by
    obtain ⟨xs, n, rfl, rfl, hl, hn, kd⟩ := h2
    cases r1.ex k2 with
    | @lst a vs _ ha rv =>
      cases r2
      refine ⟨a, n, vs, rfl, rfl, E2.fin.fh _ _ ha, by omega, by omega, ?_, fun p np => ?_⟩
      · rw [rv.length, Int.toNat_natCast, sizeLine_eq]; omega
      · rw [Int.toNat_natCast]
        exact q p _ F2 _ S2 kd (newL_of E2 np (rv.rep n)) (k1.trans k2))
/-! ### xs[i] = v, xs a list of one's own -/
theorem jlput {x : Str} {px pos pos' : Pos} {a b : Expr} {E : DE} {rest : List Stmt} (i : Nat) (o0 : List D) (h : JE X r b S fun d2 S1 => JE X r a S1 fun d1 S2 => ∃ (k : Nat) (xs : List D), d1 = .int k ∧ S2[i]? = some (.own xs) ∧ k < xs.length ∧ JSs X r rest (S2.set i (.own (xs.set k d2))) E)
    (h0 : S[i]? = some (.own o0) := by rfl) (hN : X.N[i]? = some x := by rfl) (hv : Vis X.env.scope x := by first | exact Or.inl rfl | exact Or.inr (Or.inl rfl) | exact Or.inr (Or.inr rfl)) (hd : (x == ("__debug__" : Str)) = false := by decide) (hcd : (x == ("__classdict__" : Str)) = false := by decide)
    (hs : swapsWithSole [.Subscript (.Name x px) a pos'] b pos.line X.env = pure false := by rfl) (hw : swappedStores [.Subscript (.Name x px) a pos'] b X.env = pure none := by rfl) (h1 : (assignEach [.Subscript (.Name x px) a pos'] X.env).map (·.2) = [assign (.Subscript (.Name x px) a pos') X.env] := by rfl)
    (hsb : ∀ v, assign (.Subscript (.Name x px) a pos') X.env v = (do
      let ov ← holding [v] (eval (.Name x px) X.env)
      let iv ← holding [v, ov] (eval a X.env)
      standAt pos'
      holding [v, ov, iv] (setItem ov iv v)
      release [v, ov, iv] []) := by intro _; rfl) : JSs X r (.Assign [.Subscript (.Name x px) a pos'] b pos :: rest) S E := jss_cons fun c F σ H hr' Ev G g =>
  of_ps (ps_asg pe_tE (pg_sub (pe_var hN hv hd hcd) pe_tE set_list hsb) hs hw h1) (by
    obtain ⟨y, e1, l, hh, e2, ha, rv, nF, nb, q0⟩ := Ev.sl i _ h0
    subst e2
    refine h c F σ H hr' Ev _ fun v2 d2 F1 H1 S1 h1 E1 k1 r1 => ⟨.ref l, e1, h1 c F1 σ H1 hr' E1 _ fun v1 d1 F2 H2 S2 h2 E2 k2 r2 => ?_⟩
    obtain ⟨k, xs, rfl, es, hl, kk⟩ := h2
    obtain ⟨y, e1', l', hh', e2', ha', rv', _⟩ := E2.sl i _ es
    rw [e1] at e1'; cases e1'; cases e2'
    obtain ⟨ws, rfl, rk⟩ := obr_l rv'
    cases r2
    refine ⟨l, ws, k, k, rfl, rfl, ha', ?_, g.nx F2 σ _ _ kk (E2.write (vs := .lst (ws.set k v2)) (ds := .l (xs.set k d2)) es e1 (rk.set (r1.ex k2) k)) (k1.trans k2)⟩
    have hk : k < ws.length := by rw [rk.length]; exact hl
    unfold ixN
    first
      | rw [if_pos (by omega), if_pos (by omega), Int.toNat_natCast]
      | (simp only [Int.toNat_natCast]; split <;> first | rfl | omega))
/-! ### sorted(t), t a tuple -/
def rSortU (X : Cx) : List V → Hp → VK → Prop := fun vs H Q => ∃ F x ds, vs = [x] ∧ Ex F H ∧ Rp F x (.tuple ds) ∧ PyData.plainAll ds = true ∧ PySem.W.AllAlike ds ∧ PySem.W.Sortable ds ∧ (∀ d ∈ ds, X.A.units + 2 + d.depth < cLine) ∧
  ∀ p ws, RpA F ws (ds.mergeSort (PySem.W.dataLe false id)) → H p = none → Q (.ref p) (upd H p (.lst ws))
theorem call_sortU : CallR X (.builtin "sorted") (rSortU X) := by
  intro pins s σ H xs us Q I rr h
  obtain ⟨F, x, ds, rfl, k, rp, hpl, hal, hso, hu, q⟩ := h
  obtain ⟨u, rfl, rx⟩ := vals1 rr
  cases rp with
  | @tup a ws _ ha rv =>
    cases rx
    obtain ⟨its, rw', ht, hz⟩ := I.tuple (.inl (.inl (k _ _ ha)))
    obtain ⟨o, ho, hc, n, hd⟩ := id ht
    have hl2 : its.length = ds.length := by rw [← rw'.length]; exact rv.length
    have hz2 : its.length ≤ sizeLine := by rw [← rw'.length]; exact hz
    refine Calls.call_function_entry PyProof.Rows.kind_sorted PyProof.Rows.plain_sorted PyProof.Rows.entry_sorted (PyProof.Rows.args_sorted1 _) ?_
    unfold Builtin.«sorted»
    refine wpAny_bind (m := checkCount "sorted" 1 1 _) (wpAny_pure ?_)
    refine wpAny_bind (wpAny_collect_seq a (T := "tuple") (.inr rfl) ho hc hd (fun h' hk => ?_) (by rw [List.size_toArray]; exact hz2))
    show wpAny _ _ _ _ _ { s with heap := h' }
    have I1 : Inv X pins σ H { s with heap := h' } := I.kept (t' := s.toks) hk
    obtain ⟨e1, er1⟩ := each_of k I1.hok rv rw' hpl
    refine wpAny_bind (wpAny_newList ?_ hz2)
    have hoL : (h'.push (seqObj "list" its.toArray 0)).get? h'.objs.size = some (seqObj "list" its.toArray 0) := Heap.get?_push_size _ rfl
    show wpAny _ _ _ _ _ { s with heap := h'.push (seqObj "list" its.toArray 0) }
    have keepS : ∀ b u, h'.get? b = some u → (PySem.W.sortingHeap (h'.push (seqObj "list" its.toArray 0)) h'.objs.size its).get? b = some u := fun b u e =>
      PySem.W.sortingHeap_old (Nat.ne_of_lt (Heap.lt_size e)) (Heap.get?_push_of_some _ e)
    have er2 : PySem.W.EachIs (fun v d => ∃ as, Reads (PySem.W.sortingHeap (h'.push (seqObj "list" its.toArray 0)) h'.objs.size its) v d as) its ds := er1.mono fun _ _ ⟨as, r⟩ => ⟨as, PyProof.Rows.Reads.keeps keepS r⟩
    refine wpAny_bind (wpAny_holding (wpAny_call_entry PyProof.Rows.slot_list_sort ⟨_, hoL, rfl⟩ PyProof.Rows.entry_list_sort
      (PySem.W.list_sort_vals (s := { s with heap := h'.push (seqObj "list" its.toArray 0) }) hoL (PySem.W.SortsAt.data (s := { s with heap := PySem.W.sortingHeap (h'.push (seqObj "list" its.toArray 0)) h'.objs.size its }) er2 hal hso fun d hd => by have := hu d hd; show X.A.units + 1 + 1 + d.depth < cLine; omega) hz2 ⟨_, rfl, ?_⟩) (PyProof.Rows.args_list_sort _)))
    have out := PySem.W.sortVals_data (enc := id) (R := fun u (d : D) => ∃ v, RelV v u ∧ Rp F v d) false e1 er2 (by rw [List.map_id]; exact hal)
    rw [List.map_id] at out
    obtain ⟨vs, v1, v2⟩ := of_each out
    obtain ⟨e', he'⟩ := PyProof.Rows.sortedHeap_at (vs := its) (out := (PySem.W.sortVals (PySem.W.dataKind (PySem.W.sortingHeap (h'.push (seqObj "list" its.toArray 0)) h'.objs.size its) ds) false its its).toArray) hoL
    have hlen2 : vs.length ≤ sizeLine := by rw [v2.length, List.length_mergeSort, ← hl2]; exact hz2
    refine wpAny_pure ⟨_, rfl, .ref h'.objs.size, upd H h'.objs.size (.lst vs), I1.laid (t' := s.toks) (fun b u e => ?_) (Nat.le_refl _) (show ObjOk X.prog X.w _ _ _ (.lst vs) from ⟨hlen2, _, e', v1, he'⟩), rfl, q _ vs v2 (I1.hok.fresh (Nat.le_refl _))⟩
    have hb : b < h'.objs.size := Heap.lt_size e
    rw [PyProof.Rows.sortedHeap_old (Nat.ne_of_lt hb) (by rw [size_push']; exact Nat.lt_succ_of_lt hb)]
    exact Heap.get?_push_of_some _ e
theorem cn_sortU {ds : List D} {K : List D → Prop} {k : Nat} (hr : Room k X.A) (h1 : ∀ d ∈ ds, Nice 50 d) (h2 : PySem.W.AllAlike ds) (h3 : PySem.W.Sortable ds) (kd : K (ds.mergeSort (PySem.W.dataLe false id))) : CallN (rSortU X) [.tuple ds] K := fun F H vs kF rv Q q => by
  cases rv with
  | cons r1 t =>
    cases t
    refine ⟨F, _, ds, rfl, kF, r1, plainAll_of fun d hd => (h1 d hd).pl, h2, h3, fun d hd => ?_, fun p ws rw n => q p ws _ kd n rw⟩
    have := (h1 d hd).dp
    have := hr.un
    omega
/-- of ints -/
theorem jsortTI {K : List D → List Sl → Prop} {a : Expr} {p pos : Pos} {k : Nat} (hr : Room k X.A) (hm : X.mg "sorted" = none) (h : JE X r a S fun d S1 => ∃ ns : List Int, d = .tuple (ns.map .int) ∧ ∀ ns' : List Int, ns'.Perm ns → ns'.Pairwise (· ≤ ·) → K (ns'.map .int) S1) (hg : Gl X "sorted" := by rfl) (hs : starEach [a] X.env = (false, eval a X.env) :: starEach [] X.env := by rfl) : JN X r (.Call (.Name "sorted" p) [a] [] pos) S K :=
  jnB call_sortU hm (ja1 (h.mono fun d S1 ⟨ns, e, k⟩ => ⟨[d], rfl, by
    rw [e]
    refine cn_sortU hr (nice_map fun a => nice_int a) (alike_map fun a b => by simp [PySem.W.alike]) (PySem.W.Sortable.others fun b => ⟨(by intro z; cases z), (by intro _ z; cases z)⟩) ?_
    rw [sort_map (PySem.W.dataLe_int fun b => b)]
    refine k _ (List.mergeSort_perm _ _) ?_
    have := List.pairwise_mergeSort (le := fun a b : Int => decide (a ≤ b)) (by intro a b c; simp; omega) (by intro a b; simp; omega) ns
    simpa using this⟩) hs) hg (by decide +kernel) (by decide) (by decide) hs rfl
/-! ### int(b), is not True -/
theorem jintB {K : D → List Sl → Prop} {a : Expr} {p pos : Pos} (hm : X.mg "int" = none) (h : JE X r a S fun d S1 => ∃ b : Bool, d = .bool b ∧ K (.int (if b = true then 1 else 0)) S1) (hg : Gl X "int" := by rfl) (hs : starEach [a] X.env = (false, eval a X.env) :: starEach [] X.env := by rfl) : JE X r (.Call (.Name "int" p) [a] [] pos) S K :=
  jTy call_int1 hm (ja1 (h.mono fun d S1 ⟨b, e, k⟩ => ⟨[d], rfl, by
    rw [e]
    intro F H vs kF rv Q q
    cases rv with
    | cons r1 t =>
      cases t
      cases r1
      exact .inr ⟨b, rfl, q _ _ F H k (Grow.refl kF) (.int _)⟩⟩) hs) hg (by decide +kernel) (by decide) (by decide) hs rfl
theorem od_notB {a b : Bool} {K : D → Prop} (h : K (.bool (!decide (a = b)))) : OpD (fun x y H Q => ∃ a b, x = .bl a ∧ y = .bl b ∧ Q (.bl (!decide (a = b))) H) (.bool a) (.bool b) K := fun F H v1 v2 kF r1 r2 Q q => by
  cases r1
  cases r2
  exact ⟨a, b, rfl, rfl, q _ _ F H h (Grow.refl kF) (.bl _)⟩
end
end DL

/-! DL: odd values: data within which {} may stand; told by repr; compared with (), []; {"a": 1, ..}.get(x, 0); t * n. -/
namespace DL
open PySem L2
mutual
/-- data with numbers up to B, short texts, tuples and lists of up to L items, {} -/
def okD (B L : Nat) : D → Bool
  | .none => true
  | .bool _ => true
  | .int i => decide (i.natAbs ≤ B)
  | .str x => decide (x.cps.size ≤ 20) && x.cps.toList.all fun c => decide (c < 16 ^ 8)
  | .list xs => decide (xs.length ≤ L) && okDAll B L xs
  | .tuple xs => decide (xs.length ≤ L) && okDAll B L xs
  | .dict kvs => kvs.isEmpty
def okDAll (B L : Nat) : List D → Bool
  | [] => true
  | x :: xs => okD B L x && okDAll B L xs
end
theorem okDAll_iff {B L : Nat} : ∀ {xs : List D}, okDAll B L xs = true ↔ ∀ x ∈ xs, okD B L x = true
  | [] => by simp [okDAll]
  | x :: xs => by simp [okDAll, okDAll_iff (xs := xs)]
theorem rp_dctE {F : Hp} {v : V} {kvs : List (D × D)} (h : kvs.isEmpty = true) (r : Rp F v (.dict kvs)) : ∃ a, v = .ref a ∧ F a = some (.dT []) ∧ kvs = [] := by
  cases kvs with
  | cons _ _ => cases h
  | nil =>
    obtain ⟨a, ws, rfl, hw, rk⟩ := rp_dct (kvs := []) (show Rp F v (dctD []) from r)
    cases rk
    exact ⟨a, rfl, hw, rfl⟩
theorem dE_obj {P : Program} {w : World} {H : Hp} {h : Heap} {a : Addr} (ok : HOk P w H h) (e : H a = some (.dT [])) : (a == sysModules) = false ∧ ∃ o es ep, h.get? a = some o ∧ o.cls = .type "dict" ∧ o.data = .dict es ep ∧ es.toList = [] := by
  obtain ⟨_, y, xs, r, o, es, ep, h1, h2, h3, h4, _⟩ := (show ObjOk P w H h a (.dT []) from ok _ _ e)
  cases r
  exact ⟨y, o, es, ep, h1, h2.1, h3, by simpa using h4⟩
mutual
theorem Rp.readsE {P : Program} {w : World} {F H : Hp} {h : Heap} {B L : Nat} (k : Ex F H) (ok : HOk P w H h) : ∀ {v : V} {d : D} {u : Value}, Rp F v d → RelV v u → okD B L d = true → ∃ as, Reads h u d as
  | _, _, _, .non, e, _ => by cases e; exact ⟨_, .none⟩
  | _, _, _, .bl b, e, _ => by cases e; exact ⟨_, .bool b⟩
  | _, _, _, .int i, e, _ => by obtain ⟨t, rfl⟩ := e; exact ⟨_, .int i t⟩
  | _, _, _, .str x, e, _ => by obtain ⟨t, rfl⟩ := e; exact ⟨_, .str x t⟩
  | _, _, _, .tup q r, e, hp => by
    cases e
    obtain ⟨_, its, rv, o, ho, hc, n, hd⟩ := ok _ _ (k _ _ q)
    rw [okD, Bool.and_eq_true] at hp
    obtain ⟨as, hr⟩ := RpA.readsE k ok r rv hp.2
    exact ⟨_, .tuple ho hc hd (by simpa using hr)⟩
  | _, _, _, .lst q r, e, hp => by
    cases e
    obtain ⟨_, its, n, rv, ho⟩ := ok _ _ (k _ _ q)
    rw [okD, Bool.and_eq_true] at hp
    obtain ⟨as, hr⟩ := RpA.readsE k ok r rv hp.2
    exact ⟨_, .list ho rfl rfl (by simpa using hr)⟩
  | _, _, _, .dct (a := a) (kvs := kvs) q r, e, hp => by
    cases e
    unfold dctD at hp ⊢
    rw [okD] at hp
    cases kvs with
    | cons _ _ => simp at hp
    | nil =>
      cases r
      obtain ⟨_, o, es, ep, h1, h2, h3, h4⟩ := dE_obj ok (k _ _ q)
      exact ⟨_, .dict (kvs := []) h1 h2 h3 (by rw [h4]; exact .nil) (by rw [h4]; exact .nil)⟩
  | _, _, _, .ftup q n r, e, hp => by
    unfold ft at hp
    rw [okD] at hp
    simp at hp
theorem RpA.readsE {P : Program} {w : World} {F H : Hp} {h : Heap} {B L : Nat} (k : Ex F H) (ok : HOk P w H h) : ∀ {vs : List V} {ds : List D} {us : List Value}, RpA F vs ds → Vals vs us → okDAll B L ds = true → ∃ as, ReadsAll h us ds as
  | _, _, _, .nil, e, _ => by cases e; exact ⟨_, .nil⟩
  | _, _, _, .cons r t, e, hp => by
    cases e with
    | cons e1 e2 =>
      rw [okDAll, Bool.and_eq_true] at hp
      obtain ⟨as, h1⟩ := Rp.readsE k ok r e1 hp.1
      obtain ⟨bs, h2⟩ := RpA.readsE k ok t e2 hp.2
      exact ⟨_, .cons h1 h2⟩
end
theorem shownKv_nil : PyData.shownKv [] = [] := by simp only [PyData.shownKv]
mutual
theorem Rp.reprK {P : Program} {w : World} {F H : Hp} {h : Heap} {B L : Nat} (k : Ex F H) (ok : HOk P w H h) : ∀ {v : V} {d : D} {u : Value}, Rp F v d → RelV v u → okD B L d = true → d.showable = true → d.shown.length ≤ sizeLine → ∃ bs, ReadAtMost h d.depth bs ∧ ReprK P w bs h d.depth u d.shown
  | _, _, _, .non, e, _, _, _ => by cases e; exact ⟨[], (fun _ h => nomatch h), by simp only [PyData.shown]; exact .of_is ReprIs.none _ _ _⟩
  | _, _, _, .bl b, e, _, _, _ => by cases e; exact ⟨[], (fun _ h => nomatch h), by simp only [PyData.shown]; exact .of_is (ReprIs.bool b) _ _ _⟩
  | _, _, _, .int i, e, _, hs, _ => by obtain ⟨t, rfl⟩ := e; exact ⟨[], (fun _ h => nomatch h), by simp only [PyData.shown]; exact .of_is (ReprIs.int t (by simpa [PyData.showable] using hs)) _ _ _⟩
  | _, _, _, .str x, e, _, _, hz => by obtain ⟨t, rfl⟩ := e; exact ⟨[], (fun _ h => nomatch h), by simp only [PyData.shown]; exact .of_is (ReprIs.str x t (by simpa only [PyData.shown] using hz)) _ _ _⟩
  | _, _, _, .tup (a := a) (ds := ds) q r, e, hp, hs, hz => by
    cases e
    obtain ⟨_, its, rv, o, ho, hc, n, hd⟩ := ok _ _ (k _ _ q)
    rw [okD, Bool.and_eq_true] at hp
    have hz' : (tupleText (PyData.shownAll ds)).length ≤ sizeLine := by simpa only [PyData.shown] using hz
    obtain ⟨bs, hb, hk⟩ := RpA.reprK k ok r rv hp.2 (by simpa [PyData.showable] using hs) (fun t ht => Nat.le_trans (tupleText_mem_le ht) hz')
    obtain ⟨as, hr⟩ := RpA.readsE k ok r rv hp.2
    have rr : Reads h (.ref a) (.tuple ds) as := .tuple ho hc hd (by simpa using hr)
    have hna : a ∉ bs := not_mem_of_deeper rr (by simp only [PyData.depth]; omega) hb
    refine ⟨a :: bs, ReadAtMost.cons rr (by simp only [PyData.depth]; omega) hb, ?_⟩
    simp only [PyData.depth, PyData.shown]
    exact ReprK.tuple ho hc hd hna (by simpa using hk)
  | _, _, _, .lst (a := a) (ds := ds) q r, e, hp, hs, hz => by
    cases e
    obtain ⟨_, its, n, rv, ho⟩ := ok _ _ (k _ _ q)
    rw [okD, Bool.and_eq_true] at hp
    have hz' : (listText (PyData.shownAll ds)).length ≤ sizeLine := by simpa only [PyData.shown] using hz
    obtain ⟨bs, hb, hk⟩ := RpA.reprK k ok r rv hp.2 (by simpa [PyData.showable] using hs) (fun t ht => Nat.le_trans (listText_mem_le ht) hz')
    obtain ⟨as, hr⟩ := RpA.readsE k ok r rv hp.2
    have rr : Reads h (.ref a) (.list ds) (a :: as) := .list ho rfl rfl (by simpa using hr)
    have hna : a ∉ bs := not_mem_of_deeper rr (by simp only [PyData.depth]; omega) hb
    refine ⟨a :: bs, ReadAtMost.cons rr (by simp only [PyData.depth]; omega) hb, ?_⟩
    simp only [PyData.depth, PyData.shown]
    cases its with
    | nil =>
      cases hr
      simp only [PyData.shownAll, listText_nil]
      exact ReprK.listEmpty ho rfl rfl
    | cons x l => exact ReprK.list ho rfl rfl hna (by simpa using hk.length_eq) (fun i y e => hk.item i y (by simpa using e))
  | _, _, _, .dct (a := a) (kvs := kvs) q r, e, hp, hs, hz => by
    cases e
    unfold dctD at hp hz ⊢
    rw [okD] at hp
    cases kvs with
    | cons _ _ => simp at hp
    | nil =>
      cases r
      obtain ⟨hsys, o, es, ep, h1, h2, h3, h4⟩ := dE_obj ok (k _ _ q)
      have rr : Reads h (.ref a) (.dict []) (a :: [] ++ []) := .dict (kvs := []) h1 h2 h3 (by rw [h4]; exact .nil) (by rw [h4]; exact .nil)
      refine ⟨[a], ?_, ?_⟩
      · intro b hb
        rw [List.mem_singleton.mp hb]
        exact ⟨_, _, rr, Nat.le_refl _⟩
      · simp only [List.map_nil, PyData.depth, PyData.shown, shownKv_nil]
        exact ReprK.dict (as := []) h1 h2 h3 hsys (by simp) (by rw [h4]; exact .nil)
  | _, _, _, .ftup q n r, e, hp, _, _ => by
    unfold ft at hp
    rw [okD] at hp
    simp at hp
theorem RpA.reprK {P : Program} {w : World} {F H : Hp} {h : Heap} {B L : Nat} (k : Ex F H) (ok : HOk P w H h) : ∀ {vs : List V} {ds : List D} {us : List Value}, RpA F vs ds → Vals vs us → okDAll B L ds = true → PyData.showableAll ds = true → (∀ t ∈ PyData.shownAll ds, t.length ≤ sizeLine) → ∃ bs, ReadAtMost h (PyData.depthAll ds) bs ∧ ReprAllK P w bs h (PyData.depthAll ds) us (PyData.shownAll ds)
  | _, _, _, .nil, e, _, _, _ => by cases e; exact ⟨[], (fun _ h => nomatch h), by simp only [PyData.shownAll]; exact .nil⟩
  | _, _, _, .cons (d := d) (ds := ds) r t, e, hp, hs, hz => by
    cases e with
    | cons e1 e2 =>
      rw [okDAll, Bool.and_eq_true] at hp
      have hs' : d.showable = true ∧ PyData.showableAll ds = true := by simpa [PyData.showableAll] using hs
      obtain ⟨b1, hb1, k1⟩ := Rp.reprK k ok r e1 hp.1 hs'.1 (hz _ (by simp only [PyData.shownAll]; exact List.mem_cons_self ..))
      obtain ⟨b2, hb2, k2⟩ := RpA.reprK k ok t e2 hp.2 hs'.2 (fun t ht => hz t (by simp only [PyData.shownAll]; exact List.mem_cons_of_mem _ ht))
      refine ⟨b1 ++ b2, ?_, ?_⟩
      · intro b hm
        simp only [PyData.depthAll]
        rcases List.mem_append.mp hm with hm | hm
        · obtain ⟨d', as', r', hd'⟩ := hb1 b hm
          exact ⟨d', as', r', Nat.le_trans hd' (Nat.le_max_left _ _)⟩
        · obtain ⟨d', as', r', hd'⟩ := hb2 b hm
          exact ⟨d', as', r', Nat.le_trans hd' (Nat.le_max_right _ _)⟩
      · simp only [PyData.depthAll, PyData.shownAll]
        exact .cons ((k1.more fun b hb => List.mem_append_left _ hb).level_le (Nat.le_max_left _ _)) (k2.more_le (fun b hb => List.mem_append_right _ hb) (Nat.le_max_right _ _))
end
theorem Rp.shows {P : Program} {w : World} {F H : Hp} {h : Heap} {B L : Nat} (k : Ex F H) (ok : HOk P w H h) {a : Addr} {d : D} (r : Rp F (.ref a) d) (hp : okD B L d = true) (hs : d.showable = true) (hsz : d.shown.length ≤ sizeLine) : ∃ T idr, ShowsBy P w h a d T idr := by
  generalize ev : V.ref a = v at r
  cases r with
  | non => cases ev
  | bl => cases ev
  | int => cases ev
  | str => cases ev
  | ftup q n r =>
    unfold ft at hp
    rw [okD] at hp
    simp at hp
  | @tup a' xs ds q r =>
    cases ev
    obtain ⟨_, its, rv, o, ho, hc, n, hd⟩ := ok _ _ (k _ _ q)
    rw [okD, Bool.and_eq_true] at hp
    have hz' : (tupleText (PyData.shownAll ds)).length ≤ sizeLine := by simpa only [PyData.shown] using hsz
    obtain ⟨bs, hb, hk⟩ := RpA.reprK k ok r rv hp.2 (by simpa [PyData.showable] using hs) (fun t ht => Nat.le_trans (tupleText_mem_le ht) hz')
    obtain ⟨as, hr⟩ := RpA.readsE k ok r rv hp.2
    have rr : Reads h (.ref a) (.tuple ds) as := .tuple ho hc hd (by simpa using hr)
    have hna : a ∉ bs := not_mem_of_deeper rr (by simp only [PyData.depth]; omega) hb
    refine ⟨"tuple", "tuple.__repr__", PySem.F.slot_tuple_repr, PySem.F.slot_tuple_str, PySem.F.slot_tuple_format, fun s hk0 => ⟨o, hk0 _ _ ho, hc⟩, fun A E s Q hg hu hk0 hQ => ?_⟩
    simp only [PyData.depth] at hu
    simp only [PyData.shown] at hQ
    exact call_tuple_reprK ho hc hd hna (by simpa using hk) hg (fun b _ => Clear.nil b) hu hk0 hQ hz'
  | @lst a' xs ds q r =>
    cases ev
    obtain ⟨_, its, n, rv, ho⟩ := ok _ _ (k _ _ q)
    rw [okD, Bool.and_eq_true] at hp
    have hz' : (listText (PyData.shownAll ds)).length ≤ sizeLine := by simpa only [PyData.shown] using hsz
    obtain ⟨bs, hb, hk⟩ := RpA.reprK k ok r rv hp.2 (by simpa [PyData.showable] using hs) (fun t ht => Nat.le_trans (listText_mem_le ht) hz')
    obtain ⟨as, hr⟩ := RpA.readsE k ok r rv hp.2
    have rr : Reads h (.ref a) (.list ds) (a :: as) := .list ho rfl rfl (by simpa using hr)
    have hna : a ∉ bs := not_mem_of_deeper rr (by simp only [PyData.depth]; omega) hb
    refine ⟨"list", "list.__repr__", PySem.F.slot_list_repr.toG, PySem.F.slot_list_str, PySem.F.slot_list_format, fun s hk0 => ⟨_, hk0 _ _ ho, rfl⟩, fun A E s Q hg hu hk0 hQ => ?_⟩
    simp only [PyData.depth] at hu
    simp only [PyData.shown] at hQ
    cases its with
    | nil =>
      cases hr
      simp only [PyData.shownAll, listText_nil] at hQ
      exact call_list_repr_empty ⟨_, hk0 _ _ ho, rfl⟩ (hk0 _ _ ho) rfl (hQ s.heap _ _ fun _ _ e => e)
    | cons x l =>
      exact call_list_reprK ho rfl rfl hna (by simpa using hk.length_eq) (fun i y e => hk.item i y (by simpa using e)) hg (fun b _ => Clear.nil b) hu hk0 hQ hz'
  | @dct a' ws kvs q r =>
    cases ev
    unfold dctD at hp hsz ⊢
    rw [okD] at hp
    cases kvs with
    | cons _ _ => simp at hp
    | nil =>
      cases r
      obtain ⟨hsys, o, es, ep, h1, h2, h3, h4⟩ := dE_obj ok (k _ _ q)
      refine ⟨"dict", "dict.__repr__", PySem.F.slot_dict_repr, PySem.F.slot_dict_str, PySem.F.slot_dict_format, fun s hk0 => ⟨o, hk0 _ _ h1, h2⟩, fun A E s Q hg hu hk0 hQ => ?_⟩
      simp only [List.map_nil, PyData.depth] at hu
      simp only [List.map_nil, PyData.shown, shownKv_nil] at hQ
      exact call_dict_reprK (as := []) h1 h2 h3 hsys (by simp) (by rw [h4]; exact .nil) hg (fun b _ => Clear.nil b) hu hk0 hQ (by simpa only [List.map_nil, PyData.shown, shownKv_nil] using hsz)
/-! ### bounds -/
structure Odd (B L k : Nat) (d : D) : Prop where
  ok : okD B L d = true
  dp : d.depth ≤ k
def wtO (L : Nat) : Nat → Nat
  | 0 => 40
  | k + 1 => L * (wtO L k + 1) + 40
theorem wtO_ge (L : Nat) : ∀ k, 40 ≤ wtO L k
  | 0 => Nat.le_refl _
  | k + 1 => by rw [wtO]; omega
theorem wtO_step (L : Nat) : ∀ k, wtO L k ≤ wtO L (k + 1)
  | 0 => wtO_ge L 1
  | k + 1 => by
    have h := Nat.mul_le_mul_left L (Nat.succ_le_succ (wtO_step L k))
    rw [Nat.succ_eq_add_one, Nat.succ_eq_add_one] at h
    show L * (wtO L k + 1) + 40 ≤ L * (wtO L (k + 1) + 1) + 40
    omega
theorem wtO_mono {L k m : Nat} (h : k ≤ m) : wtO L k ≤ wtO L m := by
  induction h with
  | refl => exact Nat.le_refl _
  | step _ ih => exact Nat.le_trans ih (wtO_step L _)
theorem log2_lt40 {a : Nat} (h : a ≤ 2 ^ 38) : a.log2 < 39 := by
  by_cases e : a = 0
  · subst e; decide
  · exact (Nat.log2_lt e).mpr (by omega)
mutual
theorem okD_weight {B L : Nat} (hB : B ≤ 2 ^ 38) : ∀ {d : D} (k : Nat), okD B L d = true → d.depth ≤ k → d.weight ≤ wtO L k
  | .none, k, _, _ => by rw [PyData.weight]; omega
  | .bool _, k, _, _ => by rw [PyData.weight]; omega
  | .int i, k, h, _ => by
    rw [okD, decide_eq_true_eq] at h
    have h1 := log2_lt40 (Nat.le_trans h hB)
    have := wtO_ge L k
    rw [PyData.weight]
    split <;> omega
  | .str x, k, h, _ => by
    rw [okD, Bool.and_eq_true, decide_eq_true_eq] at h
    have := wtO_ge L k
    rw [PyData.weight]
    omega
  | .list xs, 0, h, hd => by rw [PyData.depth] at hd; omega
  | .tuple xs, 0, h, hd => by rw [PyData.depth] at hd; omega
  | .list xs, k + 1, h, hd => by
    rw [okD, Bool.and_eq_true, decide_eq_true_eq] at h
    rw [PyData.depth] at hd
    have h1 := okDAll_weight hB k h.2 (by omega)
    have h2 := Nat.mul_le_mul_right (wtO L k + 1) h.1
    rw [PyData.weight, wtO]
    omega
  | .tuple xs, k + 1, h, hd => by
    rw [okD, Bool.and_eq_true, decide_eq_true_eq] at h
    rw [PyData.depth] at hd
    have h1 := okDAll_weight hB k h.2 (by omega)
    have h2 := Nat.mul_le_mul_right (wtO L k + 1) h.1
    rw [PyData.weight, wtO]
    omega
  | .dict kvs, k, h, _ => by
    rw [okD] at h
    cases kvs with
    | cons _ _ => cases h
    | nil => rw [PyData.weight, PyData.weightKv]; omega
theorem okDAll_weight {B L : Nat} (hB : B ≤ 2 ^ 38) : ∀ {xs : List D} (k : Nat), okDAll B L xs = true → PyData.depthAll xs ≤ k → PyData.weightAll xs ≤ xs.length * (wtO L k + 1)
  | [], k, _, _ => Nat.zero_le _
  | x :: xs, k, h, hd => by
    rw [okDAll, Bool.and_eq_true] at h
    rw [PyData.depthAll] at hd
    have h1 := okD_weight hB k h.1 (by omega)
    have h2 := okDAll_weight hB k h.2 (by omega)
    rw [PyData.weightAll, List.length_cons, Nat.succ_mul]
    omega
end
mutual
theorem okD_show {B L : Nat} (hB : B < 2 ^ 38) : ∀ {d : D}, okD B L d = true → d.showable = true
  | .none, _ => rfl
  | .bool _, _ => rfl
  | .str _, _ => rfl
  | .int i, h => by
    rw [okD, decide_eq_true_eq] at h
    have h1 := log2_lt40 (a := i.natAbs) (by omega)
    rw [PyData.showable, decide_eq_true_eq]
    omega
  | .list xs, h => by
    rw [okD, Bool.and_eq_true] at h
    rw [PyData.showable]
    exact okDAll_show hB h.2
  | .tuple xs, h => by
    rw [okD, Bool.and_eq_true] at h
    rw [PyData.showable]
    exact okDAll_show hB h.2
  | .dict kvs, h => by
    rw [okD] at h
    cases kvs with
    | cons _ _ => cases h
    | nil => rw [PyData.showable, PyData.showableKv]
theorem okDAll_show {B L : Nat} (hB : B < 2 ^ 38) : ∀ {xs : List D}, okDAll B L xs = true → PyData.showableAll xs = true
  | [], _ => rfl
  | x :: xs, h => by
    rw [okDAll, Bool.and_eq_true] at h
    rw [PyData.showableAll, okD_show hB h.1, okDAll_show hB h.2]; rfl
end
theorem pow12 : (10 : Nat) ^ 12 = 1000000000000 := by decide
theorem pow38 : (2 : Nat) ^ 38 = 274877906944 := by decide
mutual
theorem okD_short {B L : Nat} (hB : B < 2 ^ 38) : ∀ {d : D}, okD B L d = true → d.leavesShort 13 = true
  | .none, _ => rfl
  | .bool _, _ => rfl
  | .str x, h => by
    rw [okD, Bool.and_eq_true] at h
    rw [PyData.leavesShort]
    exact h.2
  | .int i, h => by
    rw [okD, decide_eq_true_eq] at h
    rw [PyData.leavesShort, decide_eq_true_eq]
    refine PyData.shown_int_le ?_
    rw [pow12]
    rw [pow38] at hB
    omega
  | .list xs, h => by
    rw [okD, Bool.and_eq_true] at h
    rw [PyData.leavesShort]
    exact okDAll_short hB h.2
  | .tuple xs, h => by
    rw [okD, Bool.and_eq_true] at h
    rw [PyData.leavesShort]
    exact okDAll_short hB h.2
  | .dict kvs, h => by
    rw [okD] at h
    cases kvs with
    | cons _ _ => cases h
    | nil => rw [PyData.leavesShort, PyData.leavesShortKv]
theorem okDAll_short {B L : Nat} (hB : B < 2 ^ 38) : ∀ {xs : List D}, okDAll B L xs = true → PyData.leavesShortAll 13 xs = true
  | [], _ => rfl
  | x :: xs, h => by
    rw [okDAll, Bool.and_eq_true] at h
    rw [PyData.leavesShortAll, okD_short hB h.1, okDAll_short hB h.2]; rfl
end
mutual
theorem okD_mono {B B' L L' : Nat} (hB : B ≤ B') (hL : L ≤ L') : ∀ {d : D}, okD B L d = true → okD B' L' d = true
  | .none, _ => rfl
  | .bool _, _ => rfl
  | .str x, h => by rw [okD] at h ⊢; exact h
  | .int i, h => by rw [okD, decide_eq_true_eq] at h ⊢; omega
  | .list xs, h => by
    rw [okD, Bool.and_eq_true, decide_eq_true_eq] at h ⊢
    exact ⟨by omega, okDAll_mono hB hL h.2⟩
  | .tuple xs, h => by
    rw [okD, Bool.and_eq_true, decide_eq_true_eq] at h ⊢
    exact ⟨by omega, okDAll_mono hB hL h.2⟩
  | .dict kvs, h => by rw [okD] at h ⊢; exact h
theorem okDAll_mono {B B' L L' : Nat} (hB : B ≤ B') (hL : L ≤ L') : ∀ {xs : List D}, okDAll B L xs = true → okDAll B' L' xs = true
  | [], _ => rfl
  | x :: xs, h => by
    rw [okDAll, Bool.and_eq_true] at h ⊢
    exact ⟨okD_mono hB hL h.1, okDAll_mono hB hL h.2⟩
end
theorem Odd.mono {B B' L L' k k' : Nat} {d : D} (h : Odd B L k d) (hB : B ≤ B') (hL : L ≤ L') (hk : k ≤ k') : Odd B' L' k' d := ⟨okD_mono hB hL h.ok, Nat.le_trans h.dp hk⟩
theorem odd_int {B L k : Nat} {i : Int} (h : i.natAbs ≤ B) : Odd B L k (.int i) := ⟨by rw [okD]; exact decide_eq_true h, Nat.zero_le _⟩
theorem odd_bool {B L k : Nat} (b : Bool) : Odd B L k (.bool b) := ⟨rfl, Nat.zero_le _⟩
theorem odd_none {B L k : Nat} : Odd B L k .none := ⟨rfl, Nat.zero_le _⟩
theorem odd_dct0 {B L k : Nat} : Odd B L (k + 1) (dctD []) := ⟨rfl, by show PyData.depth (.dict []) ≤ _; rw [PyData.depth, PyData.depthKv]; omega⟩
theorem odd_list {B L k : Nat} {ds : List D} (hl : ds.length ≤ L) (h : ∀ d ∈ ds, Odd B L k d) : Odd B L (k + 1) (.list ds) := by
  refine ⟨?_, ?_⟩
  · rw [okD, decide_eq_true hl, okDAll_iff.mpr fun d hd => (h d hd).ok]; rfl
  · rw [PyData.depth]
    exact Nat.succ_le_succ (depthAll_of fun d hd => (h d hd).dp)
theorem odd_tup {B L k : Nat} {ds : List D} (hl : ds.length ≤ L) (h : ∀ d ∈ ds, Odd B L k d) : Odd B L (k + 1) (.tuple ds) := by
  refine ⟨?_, ?_⟩
  · rw [okD, decide_eq_true hl, okDAll_iff.mpr fun d hd => (h d hd).ok]; rfl
  · rw [PyData.depth]
    exact Nat.succ_le_succ (depthAll_of fun d hd => (h d hd).dp)
theorem Odd.tup {B L k : Nat} {ds : List D} (h : Odd B L (k + 1) (.tuple ds)) : ds.length ≤ L ∧ ∀ d ∈ ds, Odd B L k d := by
  obtain ⟨h1, h2⟩ := h
  rw [okD, Bool.and_eq_true, decide_eq_true_eq] at h1
  rw [PyData.depth] at h2
  refine ⟨h1.1, fun d hd => ⟨okDAll_iff.mp h1.2 d hd, ?_⟩⟩
  have : ∀ {xs : List D}, d ∈ xs → d.depth ≤ PyData.depthAll xs := by
    intro xs
    induction xs with
    | nil => intro z; cases z
    | cons x xs ih =>
      intro z
      rw [PyData.depthAll]
      rcases List.mem_cons.mp z with rfl | z
      · exact Nat.le_max_left _ _
      · exact Nat.le_trans (ih z) (Nat.le_max_right _ _)
  have := this hd
  omega
theorem Odd.tup0 {B L : Nat} {ds : List D} (h : Odd B L 0 (.tuple ds)) : False := by
  have := h.dp
  rw [PyData.depth] at this
  omega
/-! ### repr -/
variable {X : Cx} {r : SR} {S : List Sl}
def rReprE (X : Cx) : List V → Hp → VK → Prop := fun vs H Q => ∃ F x d B L, vs = [x] ∧ Ex F H ∧ Rp F x d ∧ okD B L d = true ∧ d.showable = true ∧ X.A.units + (d.depth + 1) < cLine ∧ d.shown.length ≤ sizeLine ∧ Q (.str d.shown) H
theorem call_reprE (hg : X.A.guards = some []) : CallR X (.builtin "repr") (rReprE X) := by
  intro pins s σ H xs us Q I rr h
  obtain ⟨F, x, d, B, L, rfl, k, rp, hpl, hs, hu, hz, q⟩ := h
  obtain ⟨u, rfl, rx⟩ := vals1 rr
  have main : ∀ a : Addr, x = V.ref a → u = Value.ref a → wpAny (model X.prog X.w) X.A (call (.builtin "repr") [u]) (EP X pins σ Q) X.xe s := by
    rintro a rfl rfl
    obtain ⟨T, idr, S⟩ := Rp.shows k I.hok rp hpl hs hz
    exact call_repr_slot (by omega) (S.typeIs s fun _ _ e => e) S.slotRepr (S.call X.A.in1 X.xe s _ hg (by show X.A.units + 1 + d.depth < cLine; omega) (fun _ _ e => e) fun h' u tk hk => ⟨_, _, rfl, ⟨.str _, H, I.kept hk, ⟨_, rfl⟩, q⟩⟩)
  cases rp with
  | non =>
    cases rx
    exact PySem.P.repr_of_none ⟨.str _, H, I.tok _, ⟨_, rfl⟩, by simpa only [PyData.shown] using q⟩
  | bl b =>
    cases rx
    exact PySem.P.repr_of_bool ⟨.str _, H, I.tok _, ⟨_, rfl⟩, by simpa only [PyData.shown] using q⟩
  | int i =>
    obtain ⟨t, rfl⟩ := rx
    exact PySem.P.repr_of_int (by simpa only [PyData.showable, decide_eq_true_eq] using hs) ⟨.str _, H, I.tok _, ⟨_, rfl⟩, by simpa only [PyData.shown] using q⟩
  | str x =>
    obtain ⟨t, rfl⟩ := rx
    exact PySem.P.repr_of_str ⟨.str _, H, I.tok _, ⟨_, rfl⟩, by simpa only [PyData.shown] using q⟩ (by simpa only [PyData.shown] using hz)
  | @tup a ws ds ha rv =>
    cases rx
    exact main a rfl rfl
  | @lst a ws ds ha rv =>
    cases rx
    exact main a rfl rfl
  | @dct a ws kvs ha rv =>
    cases rx
    exact main a rfl rfl
  | @ftup a o ws ds ha n rv =>
    cases rx
    exact main a rfl rfl
/-- what may be told by repr -/
structure ShO (d : D) : Prop where
  ex : ∃ B L k, Odd B L k d ∧ B < 2 ^ 38 ∧ wtO L k ≤ 2 ^ 20 ∧ k ≤ 40
theorem Odd.sho {B L k : Nat} {d : D} (h : Odd B L k d) (hB : B < 2 ^ 38) (hw : wtO L k ≤ 2 ^ 20) (hk : k ≤ 40) : ShO d := ⟨B, L, k, h, hB, hw, hk⟩
theorem cd_reprE {k : Nat} (hr : Room k X.A) {d : D} {K : D → Prop} (h : ShO d) (kd : K (.str d.shown)) : CallD (rReprE X) [d] K := fun F H vs kF rv Q q => by
  obtain ⟨B, L, m, h, hB, hw, hk⟩ := h.ex
  cases rv with
  | cons r1 t =>
    cases t
    exact ⟨F, _, d, B, L, rfl, kF, r1, h.ok, okD_show hB h.ok, by have := h.dp; have := hr.un; omega, PyData.shown_fits (B := 13) (by decide) (by decide) (okD_short hB h.ok) (Nat.le_trans (okD_weight (Nat.le_of_lt hB) m h.ok h.dp) hw), q _ _ F H kd (Grow.refl kF) (.str _)⟩
theorem jreprE {K : D → List Sl → Prop} {a : Expr} {p pos : Pos} {k : Nat} (hg0 : X.A.guards = some []) (hr : Room k X.A) (hm : X.mg "repr" = none) (h : JE X r a S fun d S1 => ShO d ∧ K (.str d.shown) S1)
    (hg : Gl X "repr" := by rfl) (hs : starEach [a] X.env = (false, eval a X.env) :: starEach [] X.env := by rfl) : JE X r (.Call (.Name "repr" p) [a] [] pos) S K :=
  jB (call_reprE hg0) hm (ja1 (h.mono fun d S' ⟨sh, k⟩ => ⟨[d], rfl, cd_reprE hr sh k⟩) hs) hg (he := hs)
/-! ### == of tuples, of lists with [] -/
theorem isTuple_of {P : Program} {w : World} {F H : Hp} {h : Heap} (k : Ex F H) (ok : HOk P w H h) {v : V} {ds : List D} {u : Value} (r : Rp F v (.tuple ds)) (e : RelV v u) : ∃ a us vs, v = .ref a ∧ u = .ref a ∧ h.IsTuple a us ∧ Vals vs us.toList ∧ RpA F vs ds := by
  cases r with
  | @tup a vs _ q r =>
    cases e
    obtain ⟨_, its, rv, o, ho, hc, n, hd⟩ := ok _ _ (k _ _ q)
    exact ⟨a, its.toArray, vs, rfl, rfl, ⟨_, ho, hc, _, hd⟩, by simpa using rv, r⟩
theorem isList_of {P : Program} {w : World} {F H : Hp} {h : Heap} (k : Ex F H) (ok : HOk P w H h) {v : V} {ds : List D} {u : Value} (r : Rp F v (.list ds)) (e : RelV v u) : ∃ a us vs, v = .ref a ∧ u = .ref a ∧ h.IsList a us ∧ Vals vs us.toList ∧ RpA F vs ds := by
  cases r with
  | @lst a vs _ q r =>
    cases e
    obtain ⟨_, its, n, rv, ho⟩ := ok _ _ (k _ _ q)
    exact ⟨a, its.toArray, vs, rfl, rfl, ⟨_, ho, rfl, _, rfl⟩, by simpa using rv, r⟩
theorem vals_length {vs : List V} {us : List Value} (h : Vals vs us) : vs.length = us.length := h.length
/-- a tuple, whatever its items, == () -/
def rEqT0 (X : Cx) : R2 := fun x y H Q => ∃ F ds, Ex F H ∧ Rp F x (.tuple ds) ∧ Rp F y (.tuple []) ∧ X.A.units < cLine ∧ Q (.bl ds.isEmpty) H
theorem op_eqT0 : OpR X (compareOp .Eq) (rEqT0 X) := by
  intro pins s σ H x y v u Q I rx ry h
  obtain ⟨F, ds, k, r1, r2, hu, q⟩ := h
  obtain ⟨a, us, vs, rfl, rfl, t1, v1, p1⟩ := isTuple_of k I.hok r1 rx
  obtain ⟨b, us2, vs2, rfl, rfl, t2, v2, p2⟩ := isTuple_of k I.hok r2 ry
  cases p2
  have h2 : us2.size = 0 := by have := vals_length v2; simpa using this.symm
  have h1 : us.size = ds.length := by
    have e1 : vs.length = us.size := by have := vals_length v1; simpa using this
    have e2 := p1.length
    omega
  refine PySem.SeqAt.eq_tupleAt (e := fun _ => true) t1 t2 hu (fun j _ j2 => absurd j2 (by omega)) ⟨.bl _, H, I, rfl, ?_⟩
  rw [h1, h2, Nat.min_zero]
  cases ds with
  | nil => exact q
  | cons _ _ => exact q
theorem od_eqT0 {k : Nat} (hr : Room k X.A) {ds : List D} {K : D → Prop} (h : K (.bool ds.isEmpty)) : OpD (rEqT0 X) (.tuple ds) (.tuple []) K := fun F H v1 v2 k r1 r2 Q q =>
  ⟨F, ds, k, r1, r2, by have := hr.un; omega, q _ _ F H h (Grow.refl k) (.bl _)⟩
/-- a tuple that begins with a text == (another text,) -/
def rEqT1 (X : Cx) : R2 := fun x y H Q => ∃ F s t ds, Ex F H ∧ Rp F x (.tuple (.str s :: ds)) ∧ Rp F y (.tuple [.str t]) ∧ X.A.units < cLine ∧ Q (.bl (decide (s = t) && ds.isEmpty)) H
theorem op_eqT1 : OpR X (compareOp .Eq) (rEqT1 X) := by
  intro pins s σ H x y v u Q I rx ry h
  obtain ⟨F, sx, tx, ds, k, r1, r2, hu, q⟩ := h
  obtain ⟨a, us, vs, rfl, rfl, t1, v1, p1⟩ := isTuple_of k I.hok r1 rx
  obtain ⟨b, us2, vs2, rfl, rfl, t2, v2, p2⟩ := isTuple_of k I.hok r2 ry
  obtain ⟨us⟩ := us
  obtain ⟨us2⟩ := us2
  cases p2 with
  | cons pa pb =>
    cases pb
    cases pa
    cases v2 with
    | cons va vb =>
      cases vb
      obtain ⟨tk2, rfl⟩ := va
      cases p1 with
      | cons qa qb =>
        cases qa
        cases v1 with
        | @cons _ u0 _ us' wa wb =>
          obtain ⟨tk1, rfl⟩ := wa
          have hl : us'.length = ds.length := by
            have e1 := vals_length wb
            have e2 := qb.length
            omega
          refine PySem.SeqAt.eq_tupleAt (e := fun _ => sx == tx) t1 t2 hu (fun j _ j2 => ?_) ⟨.bl _, H, I, rfl, ?_⟩
          · have j0 : j = 0 := by
              have : j < 1 := j2
              omega
            subst j0
            exact PySem.SeqAt.EqAt.str_str sx tk1 tx tk2
          · have e : ((List.range (min (Value.str sx tk1 :: us').toArray.size [Value.str tx tk2].toArray.size)).all (fun _ => sx == tx) && (Value.str sx tk1 :: us').toArray.size == [Value.str tx tk2].toArray.size) = (decide (sx = tx) && ds.isEmpty) := by
              rw [List.size_toArray, List.size_toArray, List.length_cons, List.length_singleton, show min (us'.length + 1) 1 = 1 by omega, hl]
              have e1 : (sx == tx) = decide (sx = tx) := PySem.W.beq_decide sx tx
              rw [e1]
              cases ds with
              | nil => simp
              | cons _ _ => simp
            rw [e]
            exact q
theorem od_eqT1 {k : Nat} (hr : Room k X.A) {s t : Str} {ds : List D} {K : D → Prop} (h : K (.bool (decide (s = t) && ds.isEmpty))) : OpD (rEqT1 X) (.tuple (.str s :: ds)) (.tuple [.str t]) K := fun F H v1 v2 k r1 r2 Q q =>
  ⟨F, s, t, ds, k, r1, r2, by have := hr.un; omega, q _ _ F H h (Grow.refl k) (.bl _)⟩
/-- a list, whatever its items, == [], != [] -/
def rEqL0 (X : Cx) (neg : Bool) : R2 := fun x y H Q => ∃ F ds, Ex F H ∧ Rp F x (.list ds) ∧ Rp F y (.list []) ∧ X.A.units < cLine ∧ Q (.bl (if neg = true then !ds.isEmpty else ds.isEmpty)) H
theorem op_eqL0 : OpR X (compareOp .Eq) (rEqL0 X false) := by
  intro pins s σ H x y v u Q I rx ry h
  obtain ⟨F, ds, k, r1, r2, hu, q⟩ := h
  obtain ⟨a, us, vs, rfl, rfl, t1, v1, p1⟩ := isList_of k I.hok r1 rx
  obtain ⟨b, us2, vs2, rfl, rfl, t2, v2, p2⟩ := isList_of k I.hok r2 ry
  cases p2
  have h2 : us2.size = 0 := by have := vals_length v2; simpa using this.symm
  have h1 : us.size = ds.length := by
    have e1 : vs.length = us.size := by have := vals_length v1; simpa using this
    have e2 := p1.length
    omega
  cases ds with
  | nil =>
    refine PySem.SeqAt.eq_listAt (e := fun _ => true) t1 t2 (by rw [h1, h2]; rfl) hu (fun j _ j2 => absurd j2 (by omega)) ⟨.bl _, H, I, rfl, ?_⟩
    rw [h1]; exact q
  | cons z zs =>
    refine PySem.SeqAt.eq_list_lengthsAt t1 t2 (by rw [h1, h2]; rfl) hu ⟨.bl _, H, I, rfl, q⟩
theorem op_neL0 : OpR X (compareOp .NotEq) (rEqL0 X true) := by
  intro pins s σ H x y v u Q I rx ry h
  obtain ⟨F, ds, k, r1, r2, hu, q⟩ := h
  obtain ⟨a, us, vs, rfl, rfl, t1, v1, p1⟩ := isList_of k I.hok r1 rx
  obtain ⟨b, us2, vs2, rfl, rfl, t2, v2, p2⟩ := isList_of k I.hok r2 ry
  cases p2
  have h2 : us2.size = 0 := by have := vals_length v2; simpa using this.symm
  have h1 : us.size = ds.length := by
    have e1 : vs.length = us.size := by have := vals_length v1; simpa using this
    have e2 := p1.length
    omega
  cases ds with
  | nil =>
    refine PySem.SeqAt.RcNeAt.lists (e := fun _ => true) t1 t2 (by rw [h1, h2]; rfl) hu (fun j _ j2 => absurd j2 (by omega)) _ _ _ _ ⟨.bl _, H, I, rfl, ?_⟩
    rw [h1]; exact q
  | cons z zs =>
    exact PySem.SeqAt.RcNeAt.lists_lengths t1 t2 (by rw [h1, h2]; rfl) hu _ _ _ _ ⟨.bl _, H, I, rfl, q⟩
theorem od_eqL0 {k : Nat} (hr : Room k X.A) {neg : Bool} {ds : List D} {K : D → Prop} (h : K (.bool (if neg = true then !ds.isEmpty else ds.isEmpty))) : OpD (rEqL0 X neg) (.list ds) (.list []) K := fun F H v1 v2 k r1 r2 Q q =>
  ⟨F, ds, k, r1, r2, by have := hr.un; omega, q _ _ F H h (Grow.refl k) (.bl _)⟩
/-! ### {"a": 1, ..}.get(x, 0) -/
def trsC (cs : List (Str × Int)) : List (TE × TE) := cs.map fun c => (tC (.str c.1), tC (.int c.2))
def getC (cs : List (Str × Int)) (s : Str) : Option Int := ((cs.foldl (fun acc c => putK acc (.inr c.1) (V.int c.2)) ([] : List (Key × V))) |> fun kvs => valV kvs (.inr s)).bind fun v => match v with
  | .int i => some i
  | _ => none
theorem tPairs_C (σ : St) (H : Hp) (Q : List (V × V) → Hp → Prop) : ∀ cs : List (Str × Int), Q (cs.map fun c => (V.str c.1, V.int c.2)) H → tPairs (trsC cs) σ H Q
  | [], q => q
  | c :: cs, q => tPairs_C σ H (fun ps H' => Q ((V.str c.1, V.int c.2) :: ps) H') cs q
def allInt (kvs : List (Key × V)) : Prop := ∀ p ∈ kvs, ∃ i, p.2 = V.int i
theorem allInt_put {kvs : List (Key × V)} (h : allInt kvs) (k : Key) (i : Int) : allInt (putK kvs k (.int i)) := by
  intro p hp
  unfold putK at hp
  split at hp
  · obtain ⟨q, hq, rfl⟩ := List.mem_map.mp hp
    split
    · exact ⟨i, rfl⟩
    · exact h q hq
  · rcases List.mem_append.mp hp with hp | hp
    · exact h p hp
    · rw [List.mem_singleton.mp hp]; exact ⟨i, rfl⟩
theorem allInt_fold : ∀ (cs : List (Str × Int)) {kvs : List (Key × V)}, allInt kvs → allInt (cs.foldl (fun acc c => putK acc (.inr c.1) (V.int c.2)) kvs)
  | [], _, h => h
  | c :: cs, _, h => allInt_fold cs (allInt_put h _ _)
theorem je_dispGet {K : D → List Sl → Prop} {keys : List (Option Expr)} {vals : List Expr} {a b : Expr} {dpos apos cpos : Pos} {k : Nat} (hr : Room k X.A) (cs : List (Str × Int)) (hp : PPs X dpos keys vals (trsC cs)) (h : JE X r a S fun d1 S1 => JE X r b S1 fun d2 S2 => ∃ s i0, d1 = .str s ∧ d2 = .int i0 ∧ K (.int ((getC cs s).getD i0)) S2)
    (hall : keys.all (·.isSome) = true := by rfl) (hl : keys.length = vals.length := by rfl) (h0 : keys ≠ [] := by decide) (h15 : keys.length ≤ 15 := by decide) (hc15 : cs.length ≤ 15 := by decide)
    (m : M2 X (.Dict keys vals dpos) "get" apos a b cpos := by exact ⟨rfl, rfl, rfl, rfl⟩) : JE X r (.Call (.Attribute (.Dict keys vals dpos) "get" apos) [a, b] [] cpos) S K := fun c F σ H hr' E Q q =>
  of_pe (pe_dget2 (by have := hr.un; omega) (pe_disp hp hall hl h0 h15) pe_tE pe_tE m) (fun p hn => tPairs_C σ _ _ cs ⟨upd_same, cs.map (fun c => (Sum.inr c.1, V.int c.2)), by rw [List.map_map]; rfl, by rw [List.length_map]; exact hc15, by
    rw [upd_upd]
    have e : mergeK [] (cs.map (fun c => ((Sum.inr c.1 : Key), V.int c.2))) = cs.foldl (fun acc c => putK acc (.inr c.1) (V.int c.2)) [] := by
      unfold mergeK
      rw [List.foldl_map]
    rw [e]
    have hi := allInt_fold cs (kvs := []) (fun p hp => nomatch hp)
    have eg : ∀ s, getC cs s = (valV (cs.foldl (fun acc c => putK acc (.inr c.1) (V.int c.2)) ([] : List (Key × V))) (.inr s)).bind fun v => match v with | .int i => some i | _ => none := fun s => rfl
    generalize cs.foldl (fun acc c => putK acc (.inr c.1) (V.int c.2)) ([] : List (Key × V)) = kvs at *
    have E0 : EvD c S F σ (upd H p (.dK kvs)) := E.laid hn
    refine ⟨p, rfl, .inl ⟨kvs, .inl upd_same⟩, h (c.hold p (.dK kvs)) F σ _ (r.st c p _ (E.fin.bh.back hn) hr') (E0.hold upd_same (E.fin.fh.back hn) ?_ ?_) _ fun v1 d1 F1 H1 S1 h1 E1 k1 r1 => h1 (c.hold p (.dK kvs)) F1 σ H1 (r.st c p _ (E.fin.bh.back hn) hr') E1 _ fun v2 d2 F2 H2 S2 h2 E2 k2 r2 => ?_⟩
    · intro qq eq
      obtain ⟨⟨_, _, _, _, s1, s2⟩, _⟩ := E.fin.src qq eq
      exact ⟨fun z => (by rw [z, s1] at hn; cases hn), fun z => (by rw [z, s2] at hn; cases hn)⟩
    · intro j xs ej es
      obtain ⟨x, e1, a', vs', e2, hh, _⟩ := E.sl j _ ej
      rw [es] at e1
      cases e1
      cases e2
      rw [hn] at hh
      cases hh
    · obtain ⟨s, i0, rfl, rfl, kk⟩ := h2
      obtain ⟨E3, hp2, _⟩ := EvD.unhold (vs := .dK kvs) (fun xs z => nomatch z) E2 (E.fin.bh.back hn) (by
        cases z : c.F0 p with
        | none => rfl
        | some u =>
          have := E.fin.fh _ _ (E.fin.f0 _ _ z)
          rw [hn] at this; cases this)
      cases r1
      refine ⟨valV kvs (.inr s), .inl ⟨kvs, .inr s, .inl hp2, rfl, rfl⟩, ?_⟩
      rw [eg] at kk
      cases r2
      cases z : valV kvs (.inr s) with
      | none =>
        rw [z] at kk
        exact q _ _ F2 H2 S2 kk E3 (k1.trans k2) (.int _)
      | some v =>
        rw [z] at kk
        obtain ⟨i, ei⟩ : ∃ i, v = V.int i := by
          unfold valV at z
          cases z2 : kvs.find? (fun kv => decide (kv.1 = Sum.inr s)) with
          | none => rw [z2] at z; cases z
          | some pr =>
            rw [z2] at z
            obtain ⟨i, e⟩ := hi pr (List.mem_of_find?_eq_some z2)
            exact ⟨i, by rw [← e]; exact (Option.some.inj z).symm⟩
        subst ei
        exact q _ _ F2 H2 S2 kk E3 (k1.trans k2) (.int _)⟩)
end DL

/-! DL: kinds of odd values; tests that keep the slots; a test a < b < c; {..}.get of a display named aside. -/
namespace DL
open PySem L2
structure Txo (mg : Str → Option Value) : Prop where
  isi : mg "isinstance" = none
  int : mg "int" = none
  bol : mg "bool" = none
  tup : mg "tuple" = none
  str : mg "str" = none
def isInt : D → Bool
  | .int _ => true
  | _ => false
def isBool : D → Bool
  | .bool _ => true
  | _ => false
def isTup : D → Bool
  | .tuple _ => true
  | _ => false
def isStr : D → Bool
  | .str _ => true
  | _ => false
def noF : D → Bool
  | .dict ((.none, _) :: _) => false
  | _ => true
theorem noF_ok {B L : Nat} {d : D} (h : okD B L d = true) : noF d = true := by
  cases d with
  | dict kvs =>
    rw [okD] at h
    cases kvs with
    | nil => rfl
    | cons _ _ => cases h
  | _ => rfl
theorem tyD_dict : ∀ {kvs : List (D × D)}, noF (.dict kvs) = true → tyD (.dict kvs) = "dict"
  | [], _ => rfl
  | (a, b) :: t, h => by
    cases a <;> first | rfl | cases h
theorem kt_int : ∀ {d : D}, noF d = true → kitB (tyD d) "int" = some (isInt d || isBool d)
  | .none, _ => rfl
  | .bool _, _ => rfl
  | .int _, _ => rfl
  | .str _, _ => rfl
  | .list _, _ => rfl
  | .tuple _, _ => rfl
  | .dict kvs, h => by rw [tyD_dict h]; rfl
theorem kt_bool : ∀ {d : D}, noF d = true → kitB (tyD d) "bool" = some (isBool d)
  | .none, _ => rfl
  | .bool _, _ => rfl
  | .int _, _ => rfl
  | .str _, _ => rfl
  | .list _, _ => rfl
  | .tuple _, _ => rfl
  | .dict kvs, h => by rw [tyD_dict h]; rfl
theorem kt_tup : ∀ {d : D}, noF d = true → kitB (tyD d) "tuple" = some (isTup d)
  | .none, _ => rfl
  | .bool _, _ => rfl
  | .int _, _ => rfl
  | .str _, _ => rfl
  | .list _, _ => rfl
  | .tuple _, _ => rfl
  | .dict kvs, h => by rw [tyD_dict h]; rfl
theorem kt_str : ∀ {d : D}, noF d = true → kitB (tyD d) "str" = some (isStr d)
  | .none, _ => rfl
  | .bool _, _ => rfl
  | .int _, _ => rfl
  | .str _, _ => rfl
  | .list _, _ => rfl
  | .tuple _, _ => rfl
  | .dict kvs, h => by rw [tyD_dict h]; rfl
theorem isTup_of {d : D} (h : isTup d = true) : ∃ ds, d = .tuple ds := by
  cases d <;> first | exact ⟨_, rfl⟩ | cases h
theorem isInt_of {d : D} (h : isInt d = true) : ∃ i, d = .int i := by
  cases d <;> first | exact ⟨_, rfl⟩ | cases h
theorem isStr_of {d : D} (h : isStr d = true) : ∃ i, d = .str i := by
  cases d <;> first | exact ⟨_, rfl⟩ | cases h
def nbD (d : D) (m : Int) : Bool := match d with
  | .int i => decide (0 ≤ i) && decide (i < m)
  | _ => false
theorem odd_tupG {B L k : Nat} {ds es : List D} (h : Odd B L (k + 1) (.tuple ds)) (hl : es.length ≤ L + 1) (hm : ∀ e ∈ es, e ∈ ds ∨ Odd (B + 2) (L + 1) (k + 1) e) : Odd (B + 2) (L + 1) (k + 2) (.tuple es) := by
  obtain ⟨_, h2⟩ := h.tup
  refine odd_tup hl fun d hd => ?_
  rcases hm d hd with h | h
  · exact (h2 d h).mono (by omega) (by omega) (by omega)
  · exact h
theorem odd_listG {B L k : Nat} {ds es : List D} (h : Odd B L (k + 1) (.tuple ds)) (hl : es.length ≤ L + 1) (hm : ∀ e ∈ es, e ∈ ds) : Odd (B + 2) (L + 1) (k + 2) (.list es) := by
  obtain ⟨_, h2⟩ := h.tup
  exact odd_list hl fun d hd => (h2 d (hm d hd)).mono (by omega) (by omega) (by omega)
theorem je_cutLast {X : Cx} {r : SR} {S : List Sl} {K : D → List Sl → Prop} {e : Expr} {k : Nat} {p1 p2 p3 pos : Pos} (h : JE X r e S fun d S1 => ∃ ds : List D, d = .tuple ds ∧ K (.tuple ds.dropLast) S1) : JE X r (.Subscript e (.Slice none (some (.UnaryOp .USub (.Constant (.int 1) k p1) p2)) none p3) pos) S K :=
  je_cutT (h.mono fun d S1 ⟨ds, e, kk⟩ => je_un un_neg <| je_int <| ud_neg ⟨-1, rfl, ds, e, by rw [cutD_last]; exact kk⟩)
theorem bent_put {B L k : Nat} {ds : List D} {x : D} {j : Nat} (h : Odd B L (k + 1) (.tuple ds)) (hj : j < ds.length) (hx : Odd (B + 2) (L + 1) (k + 1) x) : Odd (B + 2) (L + 1) (k + 2) (.tuple (ds.take j ++ [x] ++ ds.drop (j + 1))) := by
  have hl := h.tup.1
  refine odd_tupG h ?_ fun e he => ?_
  · rw [List.length_append, List.length_append, List.length_take, List.length_drop, List.length_singleton]
    omega
  · rcases List.mem_append.mp he with he | he
    · rcases List.mem_append.mp he with he | he
      · exact .inl (List.mem_of_mem_take he)
      · rw [List.mem_singleton.mp he]; exact .inr hx
    · exact .inl (List.mem_of_mem_drop he)
theorem JT.keep {X : Cx} {r : SR} {S : List Sl} {t : Expr} {K : Bool → List Sl → Prop} (p : Bool) (h : JT X r t S fun b S' => S' = S ∧ b = p) (k : K p S) : JT X r t S K := h.mono fun b S' ⟨e1, e2⟩ => by rw [e1, e2]; exact k
theorem JE.keep {X : Cx} {r : SR} {S : List Sl} {t : Expr} {K : D → List Sl → Prop} (p : D) (h : JE X r t S fun b S' => S' = S ∧ b = p) (k : K p S) : JE X r t S K := h.mono fun b S' ⟨e1, e2⟩ => by rw [e1, e2]; exact k
theorem filter_first {α : Type} {q : α → Bool} : ∀ {l : List α} {i : Nat} {p : α}, l[i]? = some p → q p = true → (∀ j z, j < i → l[j]? = some z → q z = false) → ∃ t, l.filter q = p :: t
  | [], _, _, h, _, _ => by simp at h
  | x :: l, 0, p, h, hq, _ => by
    cases h
    rw [List.filter_cons_of_pos hq]
    exact ⟨_, rfl⟩
  | x :: l, i + 1, p, h, hq, hb => by
    have hx := hb 0 x (by omega) rfl
    rw [List.filter_cons_of_neg (by rw [hx]; decide)]
    exact filter_first (l := l) h hq fun j z hj hz => hb (j + 1) z (by omega) hz
theorem v_cases (v : D) : isTup v = false ∨ v = .tuple [] ∨ (∃ x q, v = .tuple (x :: q) ∧ isStr x = false) ∨ ∃ s q, v = .tuple (.str s :: q) := by
  cases v with
  | tuple ds =>
    cases ds with
    | nil => exact .inr (.inl rfl)
    | cons x q =>
      cases x with
      | str s => exact .inr (.inr (.inr ⟨s, q, rfl⟩))
      | _ => exact .inr (.inr (.inl ⟨_, q, rfl, rfl⟩))
  | _ => exact .inl rfl
theorem any_filter {α : Type} (l : List α) (p : α → Bool) : (!(l.filter p).isEmpty) = l.any p := by
  induction l with
  | nil => rfl
  | cons x l ih =>
    rw [List.filter_cons, List.any_cons]
    cases e : p x with
    | true => rfl
    | false => rw [if_neg Bool.false_ne_true, ih]; rfl
theorem atI0 {x : D} {q : List D} : atI (x :: q) 0 = some x := atI_nat (j := 0) rfl
theorem okD_tail {B L : Nat} {x : D} {q : List D} (h : okD B L (.tuple (x :: q)) = true) : ∀ d ∈ q, okD B L d = true := fun d hd => by
  rw [okD, Bool.and_eq_true] at h
  exact okDAll_iff.mp h.2 d (List.mem_cons_of_mem _ hd)
theorem okD_len {B L : Nat} {q : List D} (h : okD B L (.tuple q) = true) : q.length ≤ L := by
  rw [okD, Bool.and_eq_true, decide_eq_true_eq] at h
  exact h.1
section
variable {X : Cx} {r : SR} {S : List Sl}
/-- a < b < c, a test -/
theorem jt_chain {K : Bool → List Sl → Prop} {a b c' : Expr} {op op' : CmpOp} {pos : Pos} {rr rr' : R2} (hp : PT X (.Compare a [op, op'] [b, c'] pos) (tTest (tChain rr rr' (tE X a) (tE X b) (tE X c')))) (h : JE X r a S fun d1 S1 => JE X r b S1 fun d2 S2 => OpD rr d1 d2 fun d => ∃ k, d = .bool k ∧ if k = true then JE X r c' S2 fun d3 S3 => OpD rr' d2 d3 fun d => ∃ b, d = .bool b ∧ K b S3 else K false S2) : JT X r (.Compare a [op, op'] [b, c'] pos) S K :=
  fun c F σ H hr E Q q => of_pt hp (h c F σ H hr E _ fun v1 d1 F1 H1 S1 h1 E1 k1 r1 => h1 c F1 σ H1 hr E1 _ fun v2 d2 F2 H2 S2 h2 E2 k2 r2 =>
    h2 F2 H2 v1 v2 E2.fin.fh (r1.ex k2) r2 _ fun v d F3 H3 kd g rp => by
      obtain ⟨b, rfl, kb⟩ := kd
      cases rp
      refine ⟨b, rfl, ?_⟩
      cases b with
      | true =>
        rw [if_pos rfl] at kb ⊢
        exact kb c F3 σ H3 hr (E2.grow g) _ fun v4 d4 F4 H4 S4 h4 E4 k4 r4 => h4 F4 H4 v2 v4 E4.fin.fh ((r2.ex g.kF).ex k4) r4 _ fun v5 d5 F5 H5 kd5 g5 rp5 => by
          obtain ⟨b5, rfl, kb5⟩ := kd5
          cases rp5
          exact ⟨b5, rfl, q b5 F5 H5 S4 kb5 (E4.grow g5) ((((k1.trans k2).trans g.kF).trans k4).trans g5.kF)⟩
      | false =>
        rw [if_neg Bool.false_ne_true] at kb ⊢
        exact ⟨false, rfl, q false F3 H3 S2 kb (E2.grow g) ((k1.trans k2).trans g.kF)⟩)
theorem je_dispGetP {K : D → List Sl → Prop} {dd a b : Expr} {apos cpos : Pos} {k : Nat} (hr : Room k X.A) (cs : List (Str × Int)) (hp : PE X dd (tDisp (trsC cs))) (hm : attributeBase dd "get" X.env (eval dd X.env) = eval dd X.env) (hc15 : cs.length ≤ 15) (h : JE X r a S fun d1 S1 => JE X r b S1 fun d2 S2 => ∃ s i0, d1 = .str s ∧ d2 = .int i0 ∧ K (.int ((getC cs s).getD i0)) S2)
    (h1 : ((backTo cpos (starEach [a, b] X.env)).all (fun x => !x.1) && (backToKw cpos (keywordEach [] X.env)).all (fun x => x.1.isSome) && decide (([a, b] : List Expr).length + ([] : List Keyword).length + (if ([] : List Keyword).isEmpty then 0 else 1) < 30)) = true := by rfl) (h2 : (apos.endLine == cpos.line) = true := by rfl) (h3 : backTo cpos (starEach [a, b] X.env) = [(false, eval a X.env), (false, eval b X.env)] := by rfl) : JE X r (.Call (.Attribute dd "get" apos) [a, b] [] cpos) S K := fun c F σ H hr' E Q q =>
  of_pe (pe_dget2 (by have := hr.un; omega) hp pe_tE pe_tE ⟨hm, h1, h2, h3⟩) (fun p hn => tPairs_C σ _ _ cs ⟨upd_same, cs.map (fun c => (Sum.inr c.1, V.int c.2)), by rw [List.map_map]; rfl, by rw [List.length_map]; exact hc15, by
    rw [upd_upd]
    have e : mergeK [] (cs.map (fun c => ((Sum.inr c.1 : Key), V.int c.2))) = cs.foldl (fun acc c => putK acc (.inr c.1) (V.int c.2)) [] := by
      unfold mergeK
      rw [List.foldl_map]
    rw [e]
    have hi := allInt_fold cs (kvs := []) (fun p hp => nomatch hp)
    have eg : ∀ s, getC cs s = (valV (cs.foldl (fun acc c => putK acc (.inr c.1) (V.int c.2)) ([] : List (Key × V))) (.inr s)).bind fun v => match v with | .int i => some i | _ => none := fun s => rfl
    generalize cs.foldl (fun acc c => putK acc (.inr c.1) (V.int c.2)) ([] : List (Key × V)) = kvs at *
    have E0 : EvD c S F σ (upd H p (.dK kvs)) := E.laid hn
    refine ⟨p, rfl, .inl ⟨kvs, .inl upd_same⟩, h (c.hold p (.dK kvs)) F σ _ (r.st c p _ (E.fin.bh.back hn) hr') (E0.hold upd_same (E.fin.fh.back hn) ?_ ?_) _ fun v1 d1 F1 H1 S1 h1 E1 k1 r1 => h1 (c.hold p (.dK kvs)) F1 σ H1 (r.st c p _ (E.fin.bh.back hn) hr') E1 _ fun v2 d2 F2 H2 S2 h2 E2 k2 r2 => ?_⟩
    · intro qq eq
      obtain ⟨⟨_, _, _, _, s1, s2⟩, _⟩ := E.fin.src qq eq
      exact ⟨fun z => (by rw [z, s1] at hn; cases hn), fun z => (by rw [z, s2] at hn; cases hn)⟩
    · intro j xs ej es
      obtain ⟨x, e1, a', vs', e2, hh, _⟩ := E.sl j _ ej
      rw [es] at e1
      cases e1
      cases e2
      rw [hn] at hh
      cases hh
    · obtain ⟨s, i0, rfl, rfl, kk⟩ := h2
      obtain ⟨E3, hp2, _⟩ := EvD.unhold (vs := .dK kvs) (fun xs z => nomatch z) E2 (E.fin.bh.back hn) (by
        cases z : c.F0 p with
        | none => rfl
        | some u =>
          have := E.fin.fh _ _ (E.fin.f0 _ _ z)
          rw [hn] at this; cases this)
      cases r1
      refine ⟨valV kvs (.inr s), .inl ⟨kvs, .inr s, .inl hp2, rfl, rfl⟩, ?_⟩
      rw [eg] at kk
      cases r2
      cases z : valV kvs (.inr s) with
      | none =>
        rw [z] at kk
        exact q _ _ F2 H2 S2 kk E3 (k1.trans k2) (.int _)
      | some v =>
        rw [z] at kk
        obtain ⟨i, ei⟩ : ∃ i, v = V.int i := by
          unfold valV at z
          cases z2 : kvs.find? (fun kv => decide (kv.1 = Sum.inr s)) with
          | none => rw [z2] at z; cases z
          | some pr =>
            rw [z2] at z
            obtain ⟨i, e⟩ := hi pr (List.mem_of_find?_eq_some z2)
            exact ⟨i, by rw [← e]; exact (Option.some.inj z).symm⟩
        subst ei
        exact q _ _ F2 H2 S2 kk E3 (k1.trans k2) (.int _)⟩)
/-- [e for x in ..], draws and all: the slots as before, each item of a kind -/
theorem jn_lcA {elt tg iter : Expr} {scope : Scope} {pos : Pos} (own : List (Str × Nat)) (ts : List Nat) (P : D → Prop) {K : List D → List Sl → Prop} (h : JI X r tg iter S fun ds S1 => noOwn (own.map (·.2)) S1 = true ∧ ds.length ≤ 1000000 ∧ (∀ d ∈ ds, Blk X scope fun Y => JG Y r tg ts d (wipeS S1 (own.map (·.2))) fun S2 => Blk X scope fun Y => JE Y r elt S2 fun y S4 => P y ∧ mrg (own.map (·.2)) S1 S4 = S1) ∧ ∀ zs : List D, zs.length = ds.length → (∀ z ∈ zs, P z) → K zs S1)
    (hc : X.calm = true := by rfl) (hN : X.N.Nodup := by assumption) (ok : BlkOk X.N X.env.scope scope own := by exact blkOk_by rfl) (hs : ∀ x, foldedSetIterable iter X.env x = pure x := by intro _; rfl) (hts : ∀ j ∈ ts, j ∈ own.map (·.2) := by decide) : JN X r (.ListComp elt [⟨tg, iter, [], 0⟩] scope pos) S K :=
  jn_lc own ts hc hN ok hs hts (h.mono fun ds S1 ⟨ho, hl, ht, hk⟩ => ⟨fun i acc S' => S' = S1 ∧ acc.length = i ∧ ∀ z ∈ acc, P z, ⟨rfl, rfl, fun z hz => nomatch hz⟩, fun i acc S' ⟨e, ha, _⟩ hi => by
    subst e
    refine ⟨?_, noOwn_of ho⟩
    have hz : sizeLine = 16777216 := sizeLine_eq
    omega, fun i d acc S' hd ⟨e, ha, hp⟩ => by
    subst e
    intro s1 H1 C1 cl1 fp1
    refine (ht d (List.mem_of_getElem? hd) s1 H1 C1 cl1 fp1).mono fun S2 h2 => ?_
    intro s2 H2 C2 cl2 fp2
    refine jts_nil ?_
    rw [if_pos rfl]
    intro s3 H3 C3 cl3 fp3
    refine (h2 s3 H3 C3 cl3 fp3).mono fun y S4 ⟨hy, hm⟩ => ⟨hm, by rw [List.length_append, ha]; rfl, fun z hz => ?_⟩
    rcases List.mem_append.mp hz with hz | hz
    · exact hp z hz
    · rw [List.mem_singleton.mp hz]; exact hy, fun acc S' ⟨e, ha, hp⟩ => by subst e; exact hk acc ha hp⟩)
/-- t * k, k at least 2 -/
theorem od_repT {ds : List D} {k : Int} {K : D → Prop} (hne : ds ≠ []) (h2 : 2 ≤ k) (hk : k ≤ 1000) (hl : ds.length ≤ 1000) (h : K (.tuple (List.replicate k.toNat ds).flatten)) : OpD (rRepT X.K) (.tuple ds) (.int k) K := fun F H v1 v2 kF r1 r2 Q q => by
  cases r2
  cases r1 with
  | @tup a vs _ ha rv =>
    have hlen := rv.length
    refine ⟨a, k, vs, rfl, rfl, .inl (.inl (kF _ _ ha)), (fun e => hne (by rw [e] at hlen; exact List.eq_nil_of_length_eq_zero hlen.symm)), h2, hk, by omega, fun p hp => ?_⟩
    exact q _ _ (upd F p _) _ h (Grow.new kF hp) (.tup upd_same ((rv.rep k.toNat).ex (Ex.new (by
      cases z : F p with
      | none => rfl
      | some u => have := kF _ _ z; rw [hp] at this; cases this))))
end
end DL

/-! DL: sorted(dict([(n, ..), ..])) with keys ints; max of a list; x.count(k); x.split(y); over a text; int(text); f(). -/
namespace DL
open PySem L2
variable {X : Cx} {r : SR} {S : List Sl}
/-! ### sorted(dict([(n, ..), ..])) -/
theorem ents_I {F : Hp} {cs : Int → D} : ∀ {vs : List V} {ns : List Int}, RpA F vs (ns.map fun n => PyData.tuple [.int n, cs n]) → ∃ (ps : List Addr) (kvs : List (Key × V)), vs = ps.map V.ref ∧ Paired (fun p kv => F p = some (.tup [kV kv.1, kv.2])) ps kvs ∧ kvs.map (·.1) = ns.map Sum.inl
  | _, [], h => by cases h; exact ⟨[], [], rfl, .nil, rfl⟩
  | _, n :: ns, h => by
    rw [List.map_cons] at h
    cases h with
    | cons r1 t =>
      obtain ⟨ps, kvs, rfl, h1, h2⟩ := ents_I t
      cases r1 with
      | @tup a xs _ hb hy =>
        cases hy with
        | @cons v1 _ _ _ ra rb =>
          cases ra
          cases rb with
          | @cons v2 _ _ _ rc rd =>
            cases rd
            exact ⟨a :: ps, (Sum.inl n, v2) :: kvs, rfl, .cons hb h1, by rw [List.map_cons, h2]; rfl⟩
theorem keys_put (kvs : List (Key × V)) (as : List Int) (h : kvs.map (·.1) = as.map Sum.inl) (n : Int) (v : V) : (putK kvs (Sum.inl n) v).map (·.1) = (if n ∈ as then as else as ++ [n]).map Sum.inl := by
  unfold putK
  have e : (kvs.any fun kv => decide (kv.1 = Sum.inl n)) = decide (n ∈ as) := by
    have e1 : (kvs.any fun kv => decide (kv.1 = Sum.inl n)) = (kvs.map (·.1)).any fun k => decide (k = Sum.inl n) := by rw [List.any_map]; rfl
    rw [e1, h, List.any_map]
    rw [Bool.eq_iff_iff, List.any_eq_true, decide_eq_true_eq]
    constructor
    · rintro ⟨x, hx, e⟩
      have : x = n := by simpa using e
      rw [← this]; exact hx
    · intro hx
      exact ⟨n, hx, by simp⟩
  rw [e]
  by_cases hn : n ∈ as
  · rw [if_pos (decide_eq_true hn), if_pos hn, ← h, List.map_map]
    refine List.map_congr_left fun kv _ => ?_
    show (if kv.1 = Sum.inl n then (kv.1, v) else kv).1 = kv.1
    split <;> rfl
  · rw [if_neg (by rw [decide_eq_false hn]; decide), if_neg hn, List.map_append, List.map_append, h]; rfl
theorem keys_merge : ∀ (more kvs : List (Key × V)) (as ns : List Int), kvs.map (·.1) = as.map Sum.inl → more.map (·.1) = ns.map Sum.inl → (mergeK kvs more).map (·.1) = (uni as ns).map Sum.inl
  | [], kvs, as, ns, h, h2 => by
    cases ns with
    | nil => exact h
    | cons _ _ => cases h2
  | (k, v) :: more, kvs, as, ns, h, h2 => by
    cases ns with
    | nil => cases h2
    | cons n ns =>
      rw [List.map_cons, List.map_cons] at h2
      injection h2 with e1 e2
      have e1 : k = Sum.inl n := e1
      subst e1
      exact keys_merge more _ _ ns (keys_put kvs as h n v) e2
theorem jsortDI {K : List D → List Sl → Prop} {a : Expr} {p p2 pos pos2 : Pos} (hm : X.mg "sorted" = none) (hm2 : X.mg "dict" = none) (h : JE X r a S fun d S1 => ∃ (ns : List Int) (cs : Int → D), d = .list (ns.map fun n => .tuple [.int n, cs n]) ∧ (uni [] ns).length < 64 ∧ ∀ ys : List Int, ys.Perm (uni [] ns) → ys.Pairwise (· ≤ ·) → K (ys.map .int) S1)
    (hc : X.calm = true := by rfl) (hg : Gl X "sorted" := by rfl) (hg2 : Gl X "dict" := by rfl) (hs : starEach [a] X.env = (false, eval a X.env) :: starEach [] X.env := by rfl) : JN X r (.Call (.Name "sorted" p) [.Call (.Name "dict" p2) [a] [] pos2] [] pos) S K := fun c F σ H hr E Q q =>
  of_pe (pe_callB (call_sortedDI hc) hg hm (by decide +kernel) (pa_cons (pe_callTy (call_dictP hc) hg2 hm2 (by decide +kernel) (pa_cons pe_tE pa_nil (hs := hs)) (he := hs)) pa_nil)) (h c F σ H hr E _ fun v d F1 H1 S1 h1 E1 k1 r1 => by
    obtain ⟨ns, cs, rfl, hl, kk⟩ := h1
    cases r1 with
    | @lst a1 vs _ ha rv =>
      obtain ⟨ps, kvs, rfl, hp, hk⟩ := ents_I rv
      have hp' : Paired (fun p kv => SqT X.K H1 p [kV kv.1, kv.2]) ps kvs := by
        clear hk rv ha
        induction hp with
        | nil => exact .nil
        | cons h0 _ ih => exact .cons (.inl (.inl (E1.fin.fh _ _ h0))) ih
      refine ⟨a1, ps, kvs, rfl, .inl (.inl (E1.fin.fh _ _ ha)), hp', fun p1 n1 => ?_⟩
      refine ⟨p1, mergeK [] kvs, uni [] ns, rfl, .inl upd_same, keys_merge kvs [] [] ns rfl hk, hl, fun ys l hpm hso nl => ?_⟩
      exact q l (ys.map .int) F1 _ S1 (kk ys hpm hso) (newL_of (E1.laid n1) nl (RpA.ints ys)) k1)
/-! ### max(xs) -/
theorem jmaxL {K : D → List Sl → Prop} {a : Expr} {p pos : Pos} (hm : X.mg "max" = none) (h : JE X r a S fun d S1 => ∃ ns : List Int, d = .list (ns.map .int) ∧ 0 < ns.length ∧ ∀ m : Int, m ∈ ns → (∀ y ∈ ns, y ≤ m) → K (.int m) S1)
    (hc : X.calm = true := by rfl) (hg : Gl X "max" := by rfl) (hs : starEach [a] X.env = (false, eval a X.env) :: starEach [] X.env := by rfl) : JE X r (.Call (.Name "max" p) [a] [] pos) S K := fun c F σ H hr E Q q =>
  of_pe (pe_callB (cr_max hc) hg hm (by decide +kernel) (pa_cons pe_tE pa_nil (hs := hs)) (he := hs)) (h c F σ H hr E _ fun v d F1 H1 S1 h1 E1 k1 r1 => by
    obtain ⟨ns, rfl, h0, kk⟩ := h1
    cases r1 with
    | @lst a1 vs _ ha rv =>
      rw [RpA.ints_of rv] at ha
      exact ⟨a1, ns, rfl, .inl (.inl (E1.fin.fh _ _ ha)), h0, fun m hm' hy => q _ _ F1 H1 S1 (kk m hm' hy) E1 k1 (.int m)⟩)
/-! ### x.count(k) -/
theorem je_count {K : D → List Sl → Prop} {o e : Expr} {apos cpos : Pos} (h : JE X r o S fun d0 S0 => ∃ ns : List Int, d0 = .list (ns.map .int) ∧ JE X r e S0 fun d1 S1 => ∃ k : Int, d1 = .int k ∧ K (.int (ns.count k : Nat)) S1)
    (hp : ∀ {rr : V → List V → Hp → VK → Prop}, MtR X "list.count" rr → PE X (.Call (.Attribute o "count" apos) [e] [] cpos) (tBM X.K "list" rr (tE X o) (tCons (tE X e) tNil)) := by exact fun hm => pe_bm PySem.F.plainAttrs_list PySem.F.slot_list_count PySem.F.type_list_count hm pe_tE (pa_cons pe_tE pa_nil)) :
    JE X r (.Call (.Attribute o "count" apos) [e] [] cpos) S K := fun c F σ H hr' E Q q =>
  of_pe (hp mt_lcount) (h c F σ H hr' E _ fun v0 d0 F0 H0 S0 h0 E0 k0 r0 => by
    obtain ⟨ns, rfl, h0⟩ := h0
    cases r0 with
    | @lst a vs _ ha rv =>
      rw [RpA.ints_of rv] at ha
      refine ⟨.inl ⟨rfl, _, .inl (.inl (E0.fin.fh _ _ ha))⟩, h0 c F0 σ H0 hr' E0 _ fun v1 d1 F1 H1 S1 h1 E1 k1 r1 => ?_⟩
      obtain ⟨k, rfl, kk⟩ := h1
      cases r1
      exact ⟨a, ns, k, rfl, rfl, .inl (.inl (E1.fin.fh _ _ (k1 _ _ ha))), q _ _ F1 H1 S1 kk E1 (k0.trans k1) (.int _)⟩)
/-! ### texts -/
theorem RpA.strs {F : Hp} : ∀ xs : List Str, RpA F (xs.map V.str) (xs.map PyData.str)
  | [] => .nil
  | x :: xs => .cons (.str x) (RpA.strs xs)
theorem jn_split {K : List D → List Sl → Prop} {o e : Expr} {apos pos : Pos} (h : JE X r o S fun d0 S0 => ∃ a : Str, d0 = .str a ∧ JE X r e S0 fun d1 S1 => ∃ b : Str, d1 = .str b ∧ (b.length == 0) = false ∧ a.length + 2 ≤ sizeLine ∧ K ((Txt.split a b).map .str) S1)
    (hs : starEach [e] X.env = [(false, eval e X.env)] := by rfl) (hbase : attributeBase o "split" X.env (eval o X.env) = eval o X.env := by rfl) (hline : (apos.endLine == pos.line) = true := by rfl) : JN X r (.Call (.Attribute o "split" apos) [e] [] pos) S K := fun c F σ H hr E Q q =>
  of_pe (pe_m1 PySem.F.slot_str_split PySem.F.type_str_split mt_split pe_tE pe_tE hs hbase hline) (h c F σ H hr E _ fun v0 d0 F0 H0 S0 h0 E0 k0 r0 => by
    obtain ⟨a, rfl, h0⟩ := h0
    cases r0
    refine ⟨⟨a, rfl⟩, h0 c F0 σ H0 hr E0 _ fun v1 d1 F1 H1 S1 h1 E1 k1 r1 => ?_⟩
    obtain ⟨b, rfl, hb, hl, kk⟩ := h1
    cases r1
    exact ⟨a, b, rfl, rfl, hb, hl, fun p hp => q p _ F1 _ S1 kk (newL_of E1 hp (RpA.strs _)) (k0.trans k1)⟩)
def charsD (x : Str) : List D := x.cps.toList.map fun c => .str ⟨#[c]⟩
theorem its_d {B F : Hp} {x : Str} : ItD (Its x) B F (charsD x) := by
  have hl : (charsD x).length = x.cps.size := by unfold charsD; rw [List.length_map, Array.length_toList]
  refine ⟨fun i H _ _ h => by rw [hl] at h; exact h, fun i H _ _ h => by rw [hl] at h; exact h, fun i H v H' _ _ ⟨e, c, hc, ev⟩ h => .inl ⟨e, .str ⟨#[c]⟩, ?_, ?_⟩⟩
  · unfold charsD
    rw [List.getElem?_map, Array.getElem?_toList, hc]; rfl
  · rw [ev]; exact .str _
theorem jiS {tg e : Expr} {K : List D → List Sl → Prop} (h : JE X r e S fun d S1 => ∃ x : Str, d = .str x ∧ K (charsD x) S1) : JI X r tg e S K := fun c F σ H hr E R q =>
  of_pi (pi_str pe_tE) (h c F σ H hr E _ fun v d F1 H1 S1 h1 E1 k1 r1 => by
    obtain ⟨x, rfl, kk⟩ := h1
    cases r1
    exact ⟨x, rfl, q _ _ F1 H1 S1 kk E1 k1 its_d⟩)
theorem jintS {K : D → List Sl → Prop} {a : Expr} {p pos : Pos} (hm : X.mg "int" = none) (h : JE X r a S fun d S1 => ∃ (x : Str) (n : Int), d = .str x ∧ PySem.intText? x = some n ∧ x.length ≤ 640 ∧ K (.int n) S1)
    (hg : Gl X "int" := by rfl) (hs : starEach [a] X.env = (false, eval a X.env) :: starEach [] X.env := by rfl) : JE X r (.Call (.Name "int" p) [a] [] pos) S K := fun c F σ H hr E Q q =>
  of_pe (pe_callTy call_int_str hg hm (by decide +kernel) (pa_cons pe_tE pa_nil (hs := hs)) (he := hs)) (h c F σ H hr E _ fun v d F1 H1 S1 h1 E1 k1 r1 => by
    obtain ⟨x, n, rfl, e, hl, kk⟩ := h1
    cases r1
    exact ⟨x, n, rfl, e, hl, q _ _ F1 H1 S1 kk E1 k1 (.int n)⟩)
/-- f() -/
theorem jcall0 {K0 : D → List Sl → Prop} {k k' : Nat} {f : Addr} {fd : FuncData} {x : Str} {st : Stmt} {p pos : Pos} {φ : List Ar → (D → Prop) → Prop} (hr : Room k' X.A) (N : Dn X.K X.mg x st [] f fd) (F : FnOk X.prog X.w X.K X.mg X.base CX0 k f fd [] (SpD φ)) (h : φ [] fun d => K0 d S)
    (hk : k ≤ k' := by decide) (hg : Gl X x := by rfl) (hdb : (x == ("__debug__" : Str)) = false := by decide) : JE X r (.Call (.Name x p) [] [] pos) S K0 := fun c F1 σ H hr1 E Q q =>
  of_pe (pe_call0 F (hr.mono hk) hg N.g N.F.kp N.b .nil pass0 hdb) (by
    show SpD φ ([] ++ []) H Q E0
    rw [List.append_nil]
    exact sp_call E .nil h fun v d F2 H2 kd E2 k2 rp => q v d F2 H2 S kd E2 k2 rp)
/-! ### weights -/
theorem weightAll_sum : ∀ ds : List D, PyData.weightAll ds = (ds.map fun d => d.weight + 1).sum
  | [] => by rw [PyData.weightAll]; rfl
  | d :: ds => by rw [PyData.weightAll, weightAll_sum ds, List.map_cons, List.sum_cons]
theorem weightAll_app (a b : List D) : PyData.weightAll (a ++ b) = PyData.weightAll a + PyData.weightAll b := by
  rw [weightAll_sum, weightAll_sum, weightAll_sum, List.map_append, List.sum_append]
theorem weightAll_sub : ∀ {a b : List D}, a.Sublist b → PyData.weightAll a ≤ PyData.weightAll b
  | _, _, .slnil => Nat.le_refl _
  | _, _, .cons x h => by
    have := weightAll_sub h
    conv => rhs; rw [PyData.weightAll]
    omega
  | _, _, .cons₂ x h => by
    have := weightAll_sub h
    rw [PyData.weightAll, PyData.weightAll]
    omega
theorem weightAll_perm {a b : List D} (h : a.Perm b) : PyData.weightAll a = PyData.weightAll b := by
  rw [weightAll_sum, weightAll_sum]
  exact (h.map _).sum_nat
theorem weightAll_split {ds : List D} {j : Nat} (h : j < ds.length) : PyData.weightAll ds = PyData.weightAll (ds.take j) + (ds[j].weight + 1) + PyData.weightAll (ds.drop (j + 1)) := by
  conv => lhs; rw [← List.take_append_drop j ds, List.drop_eq_getElem_cons h, weightAll_app, PyData.weightAll]
  omega
/-- what may be told by repr, by its weight -/
structure ShW (d : D) : Prop where
  ex : ∃ B L, okD B L d = true ∧ B < 2 ^ 38 ∧ d.depth ≤ 40 ∧ d.weight ≤ 2 ^ 20
theorem cd_reprW {k : Nat} (hr : Room k X.A) {d : D} {K : D → Prop} (h : ShW d) (kd : K (.str d.shown)) : CallD (rReprE X) [d] K := fun F H vs kF rv Q q => by
  obtain ⟨B, L, h, hB, hk, hw⟩ := h.ex
  cases rv with
  | cons r1 t =>
    cases t
    exact ⟨F, _, d, B, L, rfl, kF, r1, h, okD_show hB h, by have := hr.un; omega, PyData.shown_fits (B := 13) (by decide) (by decide) (okD_short hB h) hw, q _ _ F H kd (Grow.refl kF) (.str _)⟩
theorem jreprW {K : D → List Sl → Prop} {a : Expr} {p pos : Pos} {k : Nat} (hg0 : X.A.guards = some []) (hr : Room k X.A) (hm : X.mg "repr" = none) (h : JE X r a S fun d S1 => ShW d ∧ K (.str d.shown) S1)
    (hg : Gl X "repr" := by rfl) (hs : starEach [a] X.env = (false, eval a X.env) :: starEach [] X.env := by rfl) : JE X r (.Call (.Name "repr" p) [a] [] pos) S K :=
  jB (call_reprE hg0) hm (ja1 (h.mono fun d S' ⟨sh, k⟩ => ⟨[d], rfl, cd_reprW hr sh k⟩) hs) hg (he := hs)
end DL

/-! DL: odd values bounded level by level: how many items, how deep. -/
namespace DL
open PySem L2
def atomOk (B : Nat) (d : D) : Bool := match d with
  | .none => true
  | .bool _ => true
  | .int i => decide (i.natAbs ≤ B)
  | .str x => decide (x.cps.size ≤ 20) && x.cps.toList.all fun c => decide (c < 16 ^ 8)
  | .dict kvs => kvs.isEmpty
  | .list _ => false
  | .tuple _ => false
def itemsOk (p : D → Bool) (w B : Nat) (d : D) : Bool := match d with
  | .list xs => decide (xs.length ≤ w) && xs.all p
  | .tuple xs => decide (xs.length ≤ w) && xs.all p
  | .none => true
  | .bool _ => true
  | .int i => decide (i.natAbs ≤ B)
  | .str x => decide (x.cps.size ≤ 20) && x.cps.toList.all fun c => decide (c < 16 ^ 8)
  | .dict kvs => kvs.isEmpty
/-- widths, level by level -/
def okW (B : Nat) : List Nat → D → Bool
  | [], d => atomOk B d
  | w :: ws, d => itemsOk (okW B ws) w B d
theorem okW_tupE {B w : Nat} {ws : List Nat} {xs : List D} (h : okW B (w :: ws) (.tuple xs) = true) : xs.length ≤ w ∧ ∀ x ∈ xs, okW B ws x = true := by
  have h : (decide (xs.length ≤ w) && xs.all (okW B ws)) = true := h
  rw [Bool.and_eq_true, decide_eq_true_eq, List.all_eq_true] at h
  exact h
theorem okW_tup {B w : Nat} {ws : List Nat} {xs : List D} (hl : xs.length ≤ w) (h : ∀ x ∈ xs, okW B ws x = true) : okW B (w :: ws) (.tuple xs) = true := by
  show (decide (xs.length ≤ w) && xs.all (okW B ws)) = true
  rw [Bool.and_eq_true, decide_eq_true_eq, List.all_eq_true]
  exact ⟨hl, h⟩
theorem okW_list {B w : Nat} {ws : List Nat} {xs : List D} (hl : xs.length ≤ w) (h : ∀ x ∈ xs, okW B ws x = true) : okW B (w :: ws) (.list xs) = true := okW_tup hl h
theorem okW_tup0 {B : Nat} {xs : List D} (h : okW B [] (.tuple xs) = true) : False := by cases h
theorem okW_int {B : Nat} {i : Int} (h : i.natAbs ≤ B) : ∀ {ws : List Nat}, okW B ws (.int i) = true
  | [] => decide_eq_true h
  | _ :: _ => decide_eq_true h
theorem okW_intE {B : Nat} {i : Int} : ∀ {ws : List Nat}, okW B ws (.int i) = true → i.natAbs ≤ B
  | [], h => of_decide_eq_true h
  | _ :: _, h => of_decide_eq_true h
theorem okW_bool {B : Nat} (b : Bool) : ∀ {ws : List Nat}, okW B ws (.bool b) = true
  | [] => rfl
  | _ :: _ => rfl
theorem okW_none {B : Nat} : ∀ {ws : List Nat}, okW B ws .none = true
  | [] => rfl
  | _ :: _ => rfl
theorem okW_okD {B L : Nat} : ∀ {ws : List Nat} {d : D}, (∀ w ∈ ws, w ≤ L) → okW B ws d = true → okD B L d = true
  | [], d, _, h => by
    cases d <;> first | rfl | (rw [okD]; exact h) | cases h
  | w :: ws, d, hw, h => by
    have hh : ∀ xs : List D, (decide (xs.length ≤ w) && xs.all (okW B ws)) = true → (decide (xs.length ≤ L) && okDAll B L xs) = true := fun xs h => by
      rw [Bool.and_eq_true, decide_eq_true_eq, List.all_eq_true] at h
      rw [Bool.and_eq_true, decide_eq_true_eq, okDAll_iff]
      exact ⟨Nat.le_trans h.1 (hw w List.mem_cons_self), fun x hx => okW_okD (fun v hv => hw v (List.mem_cons_of_mem _ hv)) (h.2 x hx)⟩
    cases d with
    | list xs => rw [okD]; exact hh xs h
    | tuple xs => rw [okD]; exact hh xs h
    | none => rfl
    | bool b => rfl
    | int i => rw [okD]; exact h
    | str x => rw [okD]; exact h
    | dict kvs => rw [okD]; exact h
theorem le_sumL : ∀ {ws : List Nat}, ∀ w ∈ ws, w ≤ ws.sum
  | v :: ws, w, h => by
    rw [List.sum_cons]
    rcases List.mem_cons.mp h with rfl | h
    · omega
    · have := le_sumL w h
      omega
theorem okW_noF {B : Nat} {ws : List Nat} {d : D} (h : okW B ws d = true) : noF d = true := noF_ok (okW_okD le_sumL h)
theorem depthAll_leK {k : Nat} : ∀ {xs : List D}, (∀ x ∈ xs, x.depth ≤ k) → PyData.depthAll xs ≤ k
  | [], _ => Nat.zero_le _
  | x :: xs, h => by
    rw [PyData.depthAll]
    exact Nat.max_le.mpr ⟨h x List.mem_cons_self, depthAll_leK fun y hy => h y (List.mem_cons_of_mem _ hy)⟩
theorem okW_depth {B : Nat} : ∀ {ws : List Nat} {d : D}, okW B ws d = true → d.depth ≤ ws.length + 1
  | [], d, h => by
    cases d <;> first | (rw [PyData.depth]; exact Nat.zero_le _) | cases h | skip
    rename_i kvs
    have h : kvs.isEmpty = true := h
    cases kvs with
    | cons _ _ => cases h
    | nil => rw [PyData.depth, PyData.depthKv]; exact Nat.le_refl _
  | w :: ws, d, h => by
    have hh : ∀ xs : List D, (decide (xs.length ≤ w) && xs.all (okW B ws)) = true → PyData.depthAll xs + 1 ≤ (w :: ws).length + 1 := fun xs h => by
      rw [Bool.and_eq_true, List.all_eq_true] at h
      rw [List.length_cons]
      exact Nat.succ_le_succ (depthAll_leK fun x hx => okW_depth (h.2 x hx))
    cases d with
    | list xs => rw [PyData.depth]; exact hh xs h
    | tuple xs => rw [PyData.depth]; exact hh xs h
    | none => rw [PyData.depth]; exact Nat.zero_le _
    | bool b => rw [PyData.depth]; exact Nat.zero_le _
    | int i => rw [PyData.depth]; exact Nat.zero_le _
    | str x => rw [PyData.depth]; exact Nat.zero_le _
    | dict kvs =>
      have h : kvs.isEmpty = true := h
      cases kvs with
      | cons _ _ => cases h
      | nil => rw [PyData.depth, PyData.depthKv, List.length_cons]; omega
def wtW : List Nat → Nat
  | [] => 40
  | w :: ws => w * (wtW ws + 1) + 40
theorem wtW_ge : ∀ ws : List Nat, 40 ≤ wtW ws
  | [] => Nat.le_refl _
  | w :: ws => by rw [wtW]; omega
theorem weightAll_leW {k : Nat} : ∀ {xs : List D}, (∀ x ∈ xs, x.weight ≤ k) → PyData.weightAll xs ≤ xs.length * (k + 1)
  | [], _ => Nat.zero_le _
  | x :: xs, h => by
    have h1 := h x List.mem_cons_self
    have h2 := weightAll_leW (xs := xs) fun y hy => h y (List.mem_cons_of_mem _ hy)
    rw [PyData.weightAll, List.length_cons, Nat.succ_mul]
    omega
theorem atom_wt {B : Nat} (hB : B ≤ 2 ^ 38) {d : D} (h : atomOk B d = true) : d.weight ≤ 40 := by
  have h1 : okD B 0 d = true := okW_okD (ws := []) (fun w hw => nomatch hw) h
  have h2 := okD_weight hB d.depth h1 (Nat.le_refl _)
  cases d <;> first | (rw [PyData.depth] at h2; exact h2) | cases h | skip
  rename_i kvs
  have h : kvs.isEmpty = true := h
  cases kvs with
  | cons _ _ => cases h
  | nil => rw [PyData.weight, PyData.weightKv]; exact Nat.zero_le _
theorem okW_weight {B : Nat} (hB : B ≤ 2 ^ 38) : ∀ {ws : List Nat} {d : D}, okW B ws d = true → d.weight ≤ wtW ws
  | [], d, h => atom_wt hB h
  | w :: ws, d, h => by
    have hh : ∀ xs : List D, (decide (xs.length ≤ w) && xs.all (okW B ws)) = true → PyData.weightAll xs ≤ wtW (w :: ws) := fun xs h => by
      rw [Bool.and_eq_true, decide_eq_true_eq, List.all_eq_true] at h
      have h1 := weightAll_leW fun x hx => okW_weight hB (h.2 x hx)
      have h2 := Nat.mul_le_mul_right (wtW ws + 1) h.1
      rw [wtW]; omega
    have hg := wtW_ge (w :: ws)
    cases d with
    | list xs => rw [PyData.weight]; exact hh xs h
    | tuple xs => rw [PyData.weight]; exact hh xs h
    | none => rw [PyData.weight]; exact Nat.zero_le _
    | bool b => rw [PyData.weight]; exact Nat.zero_le _
    | int i => exact Nat.le_trans (atom_wt (B := B) hB (d := .int i) h) hg
    | str x => exact Nat.le_trans (atom_wt (B := B) hB (d := .str x) h) hg
    | dict kvs => exact Nat.le_trans (atom_wt (B := B) hB (d := .dict kvs) h) hg
theorem okW_sh {B : Nat} {ws : List Nat} {d : D} (h : okW B ws d = true) (hB : B < 2 ^ 38) (hw : wtW ws ≤ 2 ^ 20) (hl : ws.length ≤ 39) : ShW d :=
  ⟨B, ws.sum, okW_okD le_sumL h, hB, Nat.le_trans (okW_depth h) (by omega), Nat.le_trans (okW_weight (by omega) h) hw⟩
/-! ### one bent value -/
def grW (ws : List Nat) : List Nat := ws.map (· + 1) ++ [2]
theorem grW_cons (w : Nat) (ws : List Nat) : grW (w :: ws) = (w + 1) :: grW ws := rfl
theorem okW_atom {B : Nat} : ∀ {ws : List Nat} {d : D}, atomOk B d = true → okW B ws d = true
  | [], _, h => h
  | _ :: _, d, h => by cases d <;> first | exact h | cases h
theorem atom_mono {B B' : Nat} (hB : B ≤ B') {d : D} (h : atomOk B d = true) : atomOk B' d = true := by
  cases d <;> first | exact h | skip
  exact decide_eq_true (Nat.le_trans (of_decide_eq_true h) hB)
theorem okW_gr {B : Nat} : ∀ {ws : List Nat} {d : D}, okW B ws d = true → okW (B + 2) (grW ws) d = true
  | [], d, h => okW_atom (atom_mono (by omega) h)
  | w :: ws, d, h => by
    rw [grW_cons]
    have hh : ∀ xs : List D, (decide (xs.length ≤ w) && xs.all (okW B ws)) = true → (decide (xs.length ≤ w + 1) && xs.all (okW (B + 2) (grW ws))) = true := fun xs h => by
      rw [Bool.and_eq_true, decide_eq_true_eq, List.all_eq_true] at h ⊢
      exact ⟨by omega, fun x hx => okW_gr (h.2 x hx)⟩
    cases d with
    | list xs => exact hh xs h
    | tuple xs => exact hh xs h
    | none => rfl
    | bool b => rfl
    | int i => exact okW_int (Nat.le_trans (okW_intE h) (by omega))
    | str x => exact h
    | dict kvs => exact h
theorem okW_tupG {B w : Nat} {ws : List Nat} {ds es : List D} (h : okW B (w :: ws) (.tuple ds) = true) (hl : es.length ≤ w + 1) (hm : ∀ e ∈ es, e ∈ ds ∨ okW (B + 2) (grW ws) e = true) : okW (B + 2) (grW (w :: ws)) (.tuple es) = true := by
  rw [grW_cons]
  refine okW_tup hl fun e he => ?_
  rcases hm e he with h1 | h1
  · exact okW_gr ((okW_tupE h).2 e h1)
  · exact h1
theorem okW_listG {B w : Nat} {ws : List Nat} {ds es : List D} (h : okW B (w :: ws) (.tuple ds) = true) (hl : es.length ≤ w + 1) (hm : ∀ e ∈ es, e ∈ ds) : okW (B + 2) (grW (w :: ws)) (.list es) = true := okW_tupG h hl fun e he => .inl (hm e he)
theorem okW_put {B w : Nat} {ws : List Nat} {ds : List D} {x : D} {j : Nat} (h : okW B (w :: ws) (.tuple ds) = true) (hj : j < ds.length) (hx : okW (B + 2) (grW ws) x = true) : okW (B + 2) (grW (w :: ws)) (.tuple (ds.take j ++ [x] ++ ds.drop (j + 1))) = true := by
  refine okW_tupG h ?_ fun e he => ?_
  · have := (okW_tupE h).1
    rw [List.length_append, List.length_append, List.length_take, List.length_drop, List.length_singleton]; omega
  · rcases List.mem_append.mp he with he | he
    · rcases List.mem_append.mp he with he | he
      · exact .inl (List.mem_of_mem_take he)
      · rw [List.mem_singleton.mp he]; exact .inr hx
    · exact .inl (List.mem_of_mem_drop he)
end DL

/-! DL: a walk over a dict's keys that asks the dict itself. -/
namespace DL
open PySem L2
/-- an object held in a known shape -/
def srK (r : SR) (d : Addr) (o : HO) : SR := ⟨fun c => r.q c ∧ c.B d = some o, fun c Dl o' n ⟨a, b⟩ => ⟨r.st c Dl o' n a, (Ex.new n : Ex c.B (upd c.B Dl o')) _ _ b⟩⟩
theorem EvD.setRf {c : C} {S : List Sl} {F : Hp} {σ : L2.St} {H : Hp} {i : Nat} {d : Addr} (E : EvD c S F σ H) (hl : i < S.length) (hs : σ[i]? = some (some (.ref d))) : EvD c (S.set i (.rf d)) F σ H := by
  refine ⟨E.fin, by rw [List.length_set]; exact E.len, fun j s ej => ?_, fun j k xs' ys' a' f1 f2 f3 f4 => ?_⟩
  · by_cases hj : i = j
    · subst hj
      rw [List.getElem?_set_self hl] at ej; cases ej
      exact ⟨_, hs, rfl⟩
    · rw [List.getElem?_set_ne hj] at ej; exact E.sl j s ej
  · have own : ∀ {j : Nat} {ys : OB}, (S.set i (.rf d))[j]? = some (.ob ys) → S[j]? = some (.ob ys) := fun {j ys} z => by
      by_cases hj : i = j
      · subst hj; rw [List.getElem?_set_self hl] at z; cases z
      · rw [List.getElem?_set_ne hj] at z; exact z
    exact E.ds j k _ _ _ (own f1) (own f2) f3 f4
theorem valV_mem {ky : List Int} : ∀ {ws : List (List Key × V)} {ks : List (List Int)}, ws.map (·.1) = ks.map kI → (valV ws (kI ky)).isSome = decide (ky ∈ ks)
  | [], [], _ => by simp [valV]
  | [], _ :: _, h => by cases h
  | _ :: _, [], h => by cases h
  | (k, v) :: ws, k0 :: ks, h => by
    rw [List.map_cons, List.map_cons] at h
    injection h with h1 h2
    have ih := valV_mem (ky := ky) h2
    by_cases e : k0 = ky
    · subst e
      have : valV ((k, v) :: ws) (kI k0) = some v := by
        unfold valV
        rw [List.find?_cons_of_pos (by simpa using h1)]
        rfl
      rw [this]; simp
    · have h3 : valV ((k, v) :: ws) (kI ky) = valV ws (kI ky) := by
        unfold valV
        rw [List.find?_cons_of_neg (by simpa using (show ¬ k = kI ky from fun z => e (kI_inj (h1.symm.trans z))))]
      rw [h3, ih]
      congr 1
      rw [List.mem_cons, eq_iff_iff]
      exact ⟨.inr, fun z => z.resolve_left fun z => e z.symm⟩
variable {X : Cx} {r : SR} {S : List Sl}
/-- a not in x, x a dict that is walked over -/
theorem jtdninL {d : Addr} {od : Obj} {ws : List (List Key × V)} {K : Bool → List Sl → Prop} {a : Expr} {x : Str} {px pos : Pos} {k : Nat} (hr : Room k X.A) (i : Nat) (ks : List (List Int)) (hk : ws.map (·.1) = ks.map kI)
    (h : JE X (srK r d (.frz od (.dT ws))) a S fun d1 S1 => ∃ ky, d1 = tupI ky ∧ S1[i]? = some (.rf d) ∧ K (!decide (ky ∈ ks)) S1)
    (hN : X.N[i]? = some x := by rfl) (hv : Vis X.env.scope x := by first | exact Or.inl rfl | exact Or.inr (Or.inl rfl) | exact Or.inr (Or.inr rfl)) (hd : (x == ("__debug__" : Str)) = false := by decide) (hcd : (x == ("__classdict__" : Str)) = false := by decide) (hm : behindInMarks .NotIn (.Name x px) = false := by rfl) : JT X (srK r d (.frz od (.dT ws))) (.Compare a [.NotIn] [.Name x px] pos) S K :=
  fun c F σ H hr' E Q q => of_pt (pt_cmp (pc_dnotin (by have := hr.un; omega) pe_tE (pe_var hN hv hd hcd)) hm) (h c F σ H hr' E _ fun v1 d1 F1 H1 S1 h1 E1 k1 r1 => by
    obtain ⟨ky, rfl, es, kk⟩ := h1
    obtain ⟨y, e1, e2⟩ := E1.sl i _ es
    have e2 : y = some (.ref d) := e2
    subst e2
    obtain ⟨b, rfl, hb⟩ := rp_tupI r1
    have hd : H1 d = some (.frz od (.dT ws)) := E1.fin.bh _ _ hr'.2
    refine ⟨_, e1, d, _, rfl, .inr ⟨ws, kI ky, b, .inr ⟨od, hd⟩, rfl, E1.fin.fh _ _ hb, rfl⟩, ?_⟩
    rw [valV_mem hk]
    exact ⟨_, rfl, q _ F1 H1 S1 kk E1 k1⟩)
/-- [.. for y in x], x a dict of one's own that the turns ask -/
theorem jn_lcKr {elt tg : Expr} {ifs : List Expr} {scope : Scope} {x : Str} {px pos : Pos} (i : Nat) (own : List (Str × Nat)) (ts : List Nat) {K : List D → List Sl → Prop} {kvs : List (List Int × D)} (e : S[i]? = some (.ob (.d kvs)))
    (h : ∀ (d : Addr) (od : Obj) (ws : List (List Key × V)), ws.map (·.1) = (kvs.map (·.1)).map kI → ∃ I : Nat → List D → List Sl → Prop, I 0 [] (S.set i (.rf d)) ∧ (∀ j acc S', I j acc S' → j ≤ kvs.length → acc.length < sizeLine ∧ ∀ j ∈ own.map (·.2), ∀ xs, S'[j]? ≠ some (.ob xs)) ∧
      (∀ j dd acc S', (keysD kvs)[j]? = some dd → I j acc S' → LcTurn X (srK r d (.frz od (.dT ws))) scope tg elt ifs (own.map (·.2)) ts dd S' (fun y S4 => I (j + 1) (acc ++ [y]) S4) fun S4 => I (j + 1) acc S4) ∧ ∀ acc S', I kvs.length acc S' → K acc (S'.set i (.ob (.d kvs))))
    (hc : X.calm = true := by rfl) (hN : X.N.Nodup := by assumption) (ok : BlkOk X.N X.env.scope scope own := by exact blkOk_by rfl) (hs : ∀ y, foldedSetIterable (.Name x px) X.env y = pure y := by intro _; rfl) (hts : ∀ j ∈ ts, j ∈ own.map (·.2) := by decide)
    (hNi : X.N[i]? = some x := by rfl) (hv : Vis X.env.scope x := by first | exact Or.inl rfl | exact Or.inr (Or.inl rfl) | exact Or.inr (Or.inr rfl)) (hd : (x == ("__debug__" : Str)) = false := by decide) (hcd : (x == ("__classdict__" : Str)) = false := by decide) :
    JN X r (.ListComp elt [⟨tg, .Name x px, ifs, 0⟩] scope pos) S K := fun c F σ H hr E Q q => by
  obtain ⟨y, e1, d, hh, e2, ha, rv, nF, nB, ns⟩ := E.sl i _ e
  subst e2
  obtain ⟨ws, rfl, rk⟩ := obr_d rv
  have hl : i < S.length := (List.getElem?_eq_some_iff.mp e).1
  have nF0 : c.F0 d = none := E.fin.f0.back nF
  have E0 := E.hide (i := i) hl
  have no : ∀ (j : Nat) xs, (S.set i .emp)[j]? = some (.ob xs) → σ[j]? ≠ some (some (.ref d)) := fun j xs ej ea => by
    by_cases hj : i = j
    · subst hj; rw [List.getElem?_set_self hl] at ej; cases ej
    · rw [List.getElem?_set_ne hj] at ej
      exact hj (E.ds i j _ _ d e ej e1 ea)
  have kl : (keysD kvs).length = kvs.length := by unfold keysD; rw [List.length_map]
  refine of_pe (pe_lock (pe_lc hc hN (pi_keys (pe_var hNi hv hd hcd)) ok pg_tGb pts_tTsb pe_tEb hs)) ⟨d, .dT ws, ha, True.intro, fun od => ?_⟩
  obtain ⟨I, i0, side, step, fin⟩ := h d od ws rk.keys
  have E1 : EvD c (S.set i .emp) F σ (upd H d (.frz od (.dT ws))) := E0.put nF nB ns no
  have E2a := E1.hold upd_same nF ns no
  have E2 : EvD (c.hold d (.frz od (.dT ws))) (S.set i (.rf d)) F σ (upd H d (.frz od (.dT ws))) := by
    have := E2a.setRf (i := i) (d := d) (by rw [List.length_set]; exact hl) e1
    rwa [List.set_set] at this
  have run : JIw (iKeys (tVar i)) (c.hold d (.frz od (.dT ws))) F σ (upd H d (.frz od (.dT ws))) fun ds S' => (∃ I : Nat → List D → List Sl → Prop, I 0 [] S' ∧ (∀ i acc S', I i acc S' → i ≤ ds.length → acc.length < sizeLine ∧ ∀ j ∈ own.map (·.2), ∀ xs, S'[j]? ≠ some (.ob xs)) ∧
      (∀ i dd acc S', ds[i]? = some dd → I i acc S' → LcTurn X (srK r d (.frz od (.dT ws))) scope tg elt ifs (own.map (·.2)) ts dd S' (fun y S4 => I (i + 1) (acc ++ [y]) S4) fun S4 => I (i + 1) acc S4) ∧ ∀ acc S', I ds.length acc S' → K acc (S'.set i (.ob (.d kvs)))) := fun R k => by
    refine ⟨.ref d, e1, d, od, rfl, .inr ⟨ws, upd_same, k _ (keysD kvs) F _ _ ⟨I, i0, fun j acc S' hI hj => ?_, step, fun acc S' hI => ?_⟩ E2 (Ex.refl F) (itkt_d (show upd c.B d _ d = _ from upd_same) rk)⟩⟩
    · exact side j acc S' hI (by omega)
    · rw [kl] at hI
      exact fin acc S' hI
  refine lc_runc (r := srK r d (.frz od (.dT ws))) (K := fun acc S' => K acc (S'.set i (.ob (.d kvs)))) ts hts (c.hold d (.frz od (.dT ws))) F σ _ ⟨r.st _ _ _ nB hr, upd_same⟩ _ (fun p ds F' H' S' kk n kF => ?_) run
  obtain ⟨h9, E3, g1, g2, g3, g4, g5, g6⟩ := n
  have hpd : p ≠ d := fun z => by rw [z, show (c.hold d (.frz od (.dT ws))).B d = some _ from upd_same] at g4; cases g4
  obtain ⟨E4, f1, f2, f3, f4⟩ := E3.unhold (vs := .frz od (.dT ws)) (fun _ z => nomatch z) nB nF0
  have E5 : EvD c S' F' σ (upd H' d (.dT ws)) := E4.put f2 nB f3 f4
  have es : σ.set i (some (.ref d)) = σ := by
    apply List.ext_getElem?
    intro j
    by_cases hj : i = j
    · subst hj
      rw [List.getElem?_set_self (by rw [E.len]; exact hl), e1]
    · rw [List.getElem?_set_ne hj]
  have rk' : RpK F' ws kvs := rk.ex kF
  have E6 := E5.setOwn (i := i) (a := d) (vs := .dT ws) (ds := .d kvs) upd_same rk' f2 nB f3 f4
  rw [es] at E6
  refine ⟨f1, q p _ F' _ _ kk ⟨h9, E6, by rw [upd_ne hpd]; exact g1, g2, g3, ?_, g5, fun j xs ej ea => ?_⟩ kF⟩
  · have g4' : upd c.B d (.frz od (.dT ws)) p = none := g4
    rw [upd_ne hpd] at g4'; exact g4'
  · by_cases hj : i = j
    · subst hj
      rw [e1] at ea
      cases ea
      exact hpd rfl
    · rw [List.getElem?_set_ne hj] at ej
      exact g6 j xs ej ea
/-- sorted(x), x a dict of one's own, that stays it -/
theorem jsortKO {K : List D → List Sl → Prop} {x : Str} {px p pos : Pos} {k : Nat} (hr : Room k X.A) (i : Nat) {kvs : List (List Int × D)} (hm : X.mg "sorted" = none) (kk : K ((sortL (kvs.map (·.1))).map tupI) S) (e : S[i]? = some (.ob (.d kvs)) := by rfl) (hc : X.calm = true := by rfl) (hg : Gl X "sorted" := by rfl) (hN : X.N[i]? = some x := by rfl) (hv : Vis X.env.scope x := by first | exact Or.inl rfl | exact Or.inr (Or.inl rfl) | exact Or.inr (Or.inr rfl))
    (hd : (x == ("__debug__" : Str)) = false := by decide) (hcd : (x == ("__classdict__" : Str)) = false := by decide) (hs : starEach [.Name x px] X.env = (false, eval (.Name x px) X.env) :: starEach [] X.env := by rfl) : JN X r (.Call (.Name "sorted" p) [.Name x px] [] pos) S K := fun c F σ H hr' E Q q =>
  of_pe (pe_callB (call_sortK hc) hg hm (by decide +kernel) (pa_cons (pe_var hN hv hd hcd) pa_nil hs) (by decide) (by decide) hs rfl) (by
    obtain ⟨y, e1, l, hh, e2, ha, rv, nF, nb, q0⟩ := E.sl i _ e
    subst e2
    obtain ⟨ws, rfl, rk⟩ := obr_d rv
    refine ⟨_, e1, l, ws, kvs.map (·.1), rfl, .inl ha, rk.keys, by have := hr.un; omega, fun p bs hb1 hb2 n => ?_⟩
    obtain ⟨F', k2, E', ra⟩ := E.freezeAll hb2 hb1
    exact q p _ F' _ S kk (newL_of E' n ra) k2)
theorem set_at {α : Type} {S : List α} {i : Nat} {x : α} (e : S[i]? = some x) : S.set i x = S := by
  apply List.ext_getElem?
  intro j
  by_cases hj : i = j
  · subst hj
    rw [List.getElem?_set_self (List.getElem?_eq_some_iff.mp e).1, e]
  · rw [List.getElem?_set_ne hj]
/-- .. each turn for itself -/
theorem jn_lcKp {elt tg : Expr} {ifs : List Expr} {scope : Scope} {x : Str} {px pos : Pos} (i : Nat) (own : List (Str × Nat)) (ts : List Nat) {K : List D → List Sl → Prop} {kvs : List (List Int × D)} (e : S[i]? = some (.ob (.d kvs)))
    (h : ∀ (d : Addr) (od : Obj) (ws : List (List Key × V)), ws.map (·.1) = (kvs.map (·.1)).map kI → (∀ j ∈ own.map (·.2), ∀ xs, (S.set i (.rf d))[j]? ≠ some (.ob xs)) ∧ LcAll X (srK r d (.frz od (.dT ws))) scope tg elt ifs (own.map (·.2)) ts (keysD kvs) (S.set i (.rf d)) fun zs => K zs S)
    (hc : X.calm = true := by rfl) (hN : X.N.Nodup := by assumption) (ok : BlkOk X.N X.env.scope scope own := by exact blkOk_by rfl) (hs : ∀ y, foldedSetIterable (.Name x px) X.env y = pure y := by intro _; rfl) (hts : ∀ j ∈ ts, j ∈ own.map (·.2) := by decide)
    (hNi : X.N[i]? = some x := by rfl) (hv : Vis X.env.scope x := by first | exact Or.inl rfl | exact Or.inr (Or.inl rfl) | exact Or.inr (Or.inr rfl)) (hd : (x == ("__debug__" : Str)) = false := by decide) (hcd : (x == ("__classdict__" : Str)) = false := by decide) :
    JN X r (.ListComp elt [⟨tg, .Name x px, ifs, 0⟩] scope pos) S K :=
  jn_lcKr i own ts e (fun d od ws hk => by
    have kl : (keysD kvs).length = kvs.length := by unfold keysD; rw [List.length_map]
    obtain ⟨h1, h2⟩ := h d od ws hk
    have es : (S.set i (.rf d)).set i (.ob (.d kvs)) = S := by rw [List.set_set]; exact set_at e
    obtain ⟨I, i0, side, step, fin⟩ := lc_pure (K := fun zs S' => K zs (S'.set i (.ob (.d kvs)))) h1 (by rw [es]; exact h2)
    rw [kl] at side fin
    exact ⟨I, i0, side, step, fin⟩) hc hN ok hs hts hNi hv hd hcd
end DL

/-! DL: tuples that may be ft ones: rules for both kinds; values that are odd data, or an ft tuple. -/
namespace DL
open PySem L2
/-- d tells the tuple of ds: plain, or (p) as one known to have no dict -/
def WT (p : Bool) (d : D) (ds : List D) : Prop := d = .tuple ds ∨ (p = true ∧ d = ft ds)
/-- d tells v: v itself, or (p) v is a tuple and d its ft -/
def UW (p : Bool) (d v : D) : Prop := d = v ∨ (p = true ∧ ∃ ds, v = .tuple ds ∧ d = ft ds)
theorem UW.rfl' {p : Bool} {d : D} : UW p d d := .inl rfl
theorem WT.uw {p : Bool} {d : D} {ds : List D} (h : WT p d ds) : UW p d (.tuple ds) := h.elim .inl fun h => .inr ⟨h.1, ds, rfl, h.2⟩
theorem WT.pl {p : Bool} {ds : List D} : WT p (.tuple ds) ds := .inl rfl
theorem WT.ft {ds : List D} : WT true (ft ds) ds := .inr ⟨rfl, rfl⟩
theorem ft_ne_tup {a b : List D} : ft a ≠ .tuple b := by unfold ft; exact fun h => nomatch h
theorem UW.wt {p : Bool} {d : D} {ds : List D} (h : UW p d (.tuple ds)) : WT p d ds := h.elim .inl fun ⟨hp, xs, e, e2⟩ => .inr ⟨hp, by injection e with e; rw [e]; exact e2⟩
theorem UW.plain {d v : D} (h : UW false d v) : d = v := h.elim id fun h => nomatch h.1
theorem tyD_ft (ds : List D) : tyD (ft ds) = "tuple" := rfl
theorem UW.ty {p : Bool} {d v : D} (h : UW p d v) : tyD d = tyD v := by
  rcases h with rfl | ⟨_, ds, rfl, rfl⟩ <;> rfl
theorem UW.notup {p : Bool} {d v : D} (h : UW p d v) (ht : isTup v = false) : d = v := by
  rcases h with rfl | ⟨_, ds, rfl, rfl⟩
  · rfl
  · cases ht
theorem ku_tup {p : Bool} {d v : D} (h : UW p d v) (n : noF v = true) : kitB (tyD d) "tuple" = some (isTup v) := by rw [h.ty]; exact kt_tup n
theorem rp_wt {K : PySem.W.Frag} {p : Bool} {F H : Hp} {v : V} {d : D} {ds : List D} (k : Ex F H) (w : WT p d ds) (r : Rp F v d) : ∃ a xs, v = .ref a ∧ SqT K H a xs ∧ RpA F xs ds := by
  rcases w with rfl | ⟨_, rfl⟩
  · cases r with
    | tup ha rv => exact ⟨_, _, rfl, .inl (.inl (k _ _ ha)), rv⟩
  · obtain ⟨a, o, xs, rfl, ha, _, rv⟩ := rp_ft r
    exact ⟨_, _, rfl, .inl (.inr ⟨o, k _ _ ha⟩), rv⟩
section
variable {X : Cx} {r : SR} {S : List Sl} {p : Bool}
theorem od_ixG {K0 : PySem.W.Frag} {d0 : D} {ds : List D} {i : Int} {d : D} {K : D → Prop} (w : WT p d0 ds) (h : atI ds i = some d) (k : K d) : OpD (rIxT K0) d0 (.int i) K := fun F H v1 v2 kF r1 r2 Q q => by
  cases r2
  obtain ⟨a, xs, rfl, hs, rv⟩ := rp_wt (K := K0) kF w r1
  obtain ⟨v, e, rp⟩ := atI_rp rv h
  exact ⟨_, _, i, v, rfl, rfl, hs, e, q v d F H k (Grow.refl kF) rp⟩
/-- t[lo:hi] -/
theorem je_cutG {K : D → List Sl → Prop} {e : Expr} {lo hi : Option Expr} {p2 pos : Pos} (h : JE X r e S fun d S1 => PtD X r S1 lo fun l S2 => PtD X r S2 hi fun u S3 => ∃ ds, WT p d ds ∧ ∀ d', WT p d' (cutD ds l u) → K d' S3) : JE X r (.Subscript e (.Slice lo hi none p2) pos) S K :=
  fun c F σ H hr E Q q => of_pe (pe_slice sl_tupA pe_tE po_tO po_tO) (h c F σ H hr E _ fun v d F1 H1 S1 h1 E1 k1 r1 => ptd_run hr E1 h1 _ fun l F2 H2 S2 h2 E2 k2 => ptd_run hr E2 h2 _ fun u F3 H3 S3 h3 E3 k3 => by
    obtain ⟨ds, w, kd⟩ := h3
    have r3 := r1.ex (k2.trans k3)
    obtain ⟨a, vs, rfl, hs, rv⟩ := rp_wt (K := X.K) E3.fin.fh w r3
    refine ⟨_, vs, rfl, hs, fun ww => ?_, fun _ p n => ?_⟩
    · have e : cutD ds l u = ds := by
        unfold cutD
        rw [rv.length] at ww
        rw [ww.1, ww.2, List.drop_zero, Nat.sub_zero, List.take_length]
      rw [e] at kd
      exact q _ _ F3 H3 S3 (kd _ w) E3 ((k1.trans k2).trans k3) r3
    · have g := Grow.new E3.fin.fh (o := .tup (cutV vs l u)) n
      exact q _ _ _ _ S3 (kd _ .pl) (E3.grow g) (((k1.trans k2).trans k3).trans g.kF) (.tup upd_same ((cut_rp rv l u).ex g.kF)))
theorem je_cutToG {K : D → List Sl → Prop} {e hi : Expr} {p2 pos : Pos} (h : JE X r e S fun d S1 => JE X r hi S1 fun d2 S2 => ∃ (ds : List D) (k : Nat), WT p d ds ∧ d2 = .int k ∧ ∀ d', WT p d' (ds.take k) → K d' S2) : JE X r (.Subscript e (.Slice none (some hi) none p2) pos) S K :=
  je_cutG (p := p) (h.mono fun d S1 h1 => (show JE X r hi S1 _ from h1.mono fun d2 S2 ⟨ds, k, e, e2, kk⟩ => ⟨k, e2, ds, e, by rw [cutD_to]; exact kk⟩))
theorem je_cutFromG {K : D → List Sl → Prop} {e lo : Expr} {p2 pos : Pos} (h : JE X r e S fun d S1 => JE X r lo S1 fun d2 S2 => ∃ (ds : List D) (k : Nat), WT p d ds ∧ d2 = .int k ∧ ∀ d', WT p d' (ds.drop k) → K d' S2) : JE X r (.Subscript e (.Slice (some lo) none none p2) pos) S K :=
  je_cutG (p := p) (h.mono fun d S1 h1 => (show JE X r lo S1 _ from h1.mono fun d2 S2 ⟨ds, k, e, e2, kk⟩ => ⟨k, e2, ds, e, by rw [cutD_from]; exact kk⟩))
theorem je_cutLastG {K : D → List Sl → Prop} {e : Expr} {k : Nat} {p1 p2 p3 pos : Pos} (h : JE X r e S fun d S1 => ∃ ds : List D, WT p d ds ∧ ∀ d', WT p d' ds.dropLast → K d' S1) : JE X r (.Subscript e (.Slice none (some (.UnaryOp .USub (.Constant (.int 1) k p1) p2)) none p3) pos) S K :=
  je_cutG (p := p) (h.mono fun d S1 ⟨ds, e, kk⟩ => je_un un_neg <| je_int <| ud_neg ⟨-1, rfl, ds, e, by rw [cutD_last]; exact kk⟩)
/-- x + y -/
theorem od_catG {K0 : PySem.W.Frag} {d1 d2 : D} {xs ys : List D} {K : D → Prop} (w1 : WT p d1 xs) (w2 : WT p d2 ys) (hl : xs.length + ys.length ≤ sizeLine) (k : ∀ d', WT p d' (xs ++ ys) → K d') : OpD (rCatA K0) d1 d2 K := fun F H v1 v2 kF r1 r2 Q q => by
  obtain ⟨a, vs, rfl, hs, rv⟩ := rp_wt (K := K0) kF w1 r1
  obtain ⟨b, ws, rfl, hs2, rw'⟩ := rp_wt (K := K0) kF w2 r2
  refine ⟨a, b, vs, ws, rfl, rfl, hs, hs2, by rw [rv.length, rw'.length]; exact hl, fun e => ?_, fun _ e => ?_, fun _ _ p n => ?_⟩
  · subst e; cases rv
    exact q _ _ F H (k _ w2) (Grow.refl kF) r2
  · subst e; cases rw'
    rw [List.append_nil] at k
    exact q _ _ F H (k _ w1) (Grow.refl kF) r1
  · have g := Grow.new kF (o := .tup (vs ++ ws)) n
    exact q _ _ _ _ (k _ .pl) g (.tup upd_same ((rv.append rw').ex g.kF))
/-- len(t), t of either kind, or a list -/
theorem jlenG {K : D → List Sl → Prop} {a : Expr} {pp pos : Pos} (hm : X.mg "len" = none) (h : JE X r a S fun d S1 => ∃ xs, WT p d xs ∧ K (.int (xs.length : Nat)) S1) (hg : Gl X "len" := by rfl) (hs : starEach [a] X.env = (false, eval a X.env) :: starEach [] X.env := by rfl) : JE X r (.Call (.Name "len" pp) [a] [] pos) S K :=
  jB call_len_seq hm (ja1 (h.mono fun d S1 ⟨xs, w, k⟩ => ⟨[d], rfl, fun F H vs kF rv Q q => by
    cases rv with
    | cons r1 t =>
      cases t
      obtain ⟨a, ws, rfl, hs, rv⟩ := rp_wt (K := X.K) kF w r1
      exact ⟨a, ws, rfl, .inr hs, q _ _ F H (by rw [← rv.length] at k; exact k) (Grow.refl kF) (.int _)⟩⟩) hs) hg PySem.boot_len (by decide) (by decide) hs rfl
/-- for x in t -/
theorem itg_d {K : PySem.W.Frag} {B F : Hp} {a : Addr} {vs : List V} {ds : List D} (h : F a = some (.tup vs) ∨ ∃ o, F a = some (.frz o (.tup vs))) (rv : RpA F vs ds) : ItD (Itt K a) B F ds := by
  have hs : ∀ H, Ex F H → SqT K H a vs := fun H k => h.elim (fun h => .inl (.inl (k _ _ h))) fun ⟨o, h⟩ => .inl (.inr ⟨o, k _ _ h⟩)
  exact ⟨fun i H kb k hi => ⟨vs, hs H k, by rw [rv.length]; exact hi⟩,
   fun i H kb k hi => by
    obtain ⟨v, e, _⟩ := rv.get' (i := i) (List.getElem?_eq_getElem hi)
    exact ⟨vs, v, hs H k, e⟩,
   fun i H x H' kb k y hi => by
    obtain ⟨e, f⟩ := y
    obtain ⟨d, e1, e2⟩ := rv.get (f vs (hs H k))
    exact .inl ⟨e, d, e1, e2⟩⟩
theorem jiG {tg e : Expr} {K : List D → List Sl → Prop} (h : JE X r e S fun d S1 => ∃ ds, WT p d ds ∧ K ds S1) : JI X r tg e S K :=
  fun c F σ H hr E R q => of_pi (pi_tup pe_tE) (h c F σ H hr E _ fun v d F1 H1 S1 h1 E1 k1 r1 => by
    obtain ⟨ds, w, kd⟩ := h1
    rcases w with rfl | ⟨_, rfl⟩
    · cases r1 with
      | @tup a xs _ ha hv => exact ⟨_, rfl, ⟨_, .inl (.inl (E1.fin.fh _ _ ha))⟩, q _ ds F1 H1 S1 kd E1 k1 (itg_d (.inl ha) hv)⟩
    · obtain ⟨a, o, xs, rfl, ha, _, hv⟩ := rp_ft r1
      exact ⟨_, rfl, ⟨_, .inl (.inr ⟨o, E1.fin.fh _ _ ha⟩)⟩, q _ ds F1 H1 S1 kd E1 k1 (itg_d (.inr ⟨o, ha⟩) hv)⟩)
/-- list(t) -/
theorem jlistG {K : List D → List Sl → Prop} {a : Expr} {pp pos : Pos} (hm : X.mg "list" = none) (h : JE X r a S fun d S1 => ∃ xs, WT p d xs ∧ K xs S1) (hg : Gl X "list" := by rfl) (hs : starEach [a] X.env = (false, eval a X.env) :: starEach [] X.env := by rfl) : JN X r (.Call (.Name "list" pp) [a] [] pos) S K :=
  jnTy call_list_of hm (ja1 (h.mono fun d S1 ⟨xs, w, k⟩ => ⟨[d], rfl, fun F H vs kF rv Q q => by
    cases rv with
    | cons r1 t =>
      cases t
      obtain ⟨a, ws, rfl, hs, rv⟩ := rp_wt (K := X.K) kF w r1
      exact ⟨a, ws, rfl, .inr hs, fun l n => q l ws xs k n rv⟩⟩) hs) hg (by decide +kernel) (by decide) (by decide) hs rfl
/-! ### t[::-1] -/
open PySem.Spec PyProof.Rows in
def tRevG (X : Cx) (te : TE) : TE := fun σ H Q => te σ H fun x H1 => ∃ a xs, x = .ref a ∧ SqT X.K H1 a xs ∧ ∀ p, H1 p = none → Q (.ref p) (upd H1 p (.tup xs.reverse))
open PySem.Spec PyProof.Rows in
theorem pe_revG {e : Expr} {te : TE} {k : Nat} {p1 p2 p3 pos : Pos} (he : PE X e te) : PE X (.Subscript e (.Slice none none (some (.UnaryOp .USub (.Constant (.int 1) k p1) p2)) p3) pos) (tRevG X te) := by
  refine ⟨fun pins s σ H Q I h => ?_⟩
  refine Subscript_ (thn (he.run pins s σ H _ I h) fun v s1 ⟨x, H1, I1, r1, q1⟩ => ?_)
  obtain ⟨a, xs, ex, hx, q⟩ := q1
  subst ex
  cases r1
  have hst : PO X (some (.UnaryOp .USub (.Constant (.int 1) k p1) p2)) (tPart (tUn (rU fun i => .int (-i)) (tC (.int 1)))) := po_some (pe_un un_neg pe_int)
  refine wpAny_Slice (thn (po_none.run pins s1 σ H1 (fun o H2 => o = none ∧ H2 = H1) I1 ⟨rfl, rfl⟩) fun vl s2 ⟨l, H2, I2, pl, el, e2⟩ => ?_)
  subst el e2
  refine thn (po_none.run pins s2 σ H2 (fun o H3 => o = none ∧ H3 = H2) I2 ⟨rfl, rfl⟩) fun vu s3 ⟨u, H3, I3, pu, eu, e3⟩ => ?_
  subst eu e3
  refine thn (hst.run pins s3 σ H3 (fun o H4 => o = some (-1) ∧ H4 = H3) I3 ⟨1, rfl, -1, rfl, rfl, rfl⟩) fun vs s4 ⟨o, H4, I4, ps, eo, e4⟩ => ?_
  subst eo e4
  have I5 : Inv X pins σ H4 { s4 with heap := s4.heap.push { cls := .type "slice", data := .fields #[vl, vu, vs] } } := I4.kept (t' := s4.toks) fun b ob q => Heap.get?_push_of_some _ q
  obtain ⟨its, r, ht, hz⟩ := I5.tuple hx
  have hlen := r.length
  show wpAny (model X.prog X.w) X.A (subscriptTail e (.Slice none none (some (.UnaryOp .USub (.Constant (.int 1) k p1) p2)) p3) (.ref a) (.ref s4.heap.objs.size)) (EP X pins σ Q) X.xe { s4 with heap := s4.heap.push { cls := .type "slice", data := .fields #[vl, vu, vs] } }
  refine tail_any (ops := [.ref a, .ref s4.heap.objs.size]) ht.typeIs (PyProof.Rows.slot_tuple_getitem.lookup) ?_ (by with_unfolding_all rfl)
  refine getItem_tuple_rev ht (Heap.IsSliceOf.new _ vl vu vs) pl pu ps ?_ (by rw [List.size_toArray]; omega)
  refine ⟨.ref _, _, I5.laid (t' := s4.toks) (o := .tup xs.reverse) (fun b ob q => Heap.get?_push_of_some _ q) (Nat.le_refl _) ?_, rfl, q _ (I5.hok.fresh (Nat.le_refl _))⟩
  exact ⟨by rw [List.length_reverse]; exact hz, _, r.reverse, IsTup.new _ _⟩
theorem je_revG {K : D → List Sl → Prop} {e : Expr} {k : Nat} {p1 p2 p3 pos : Pos} (h : JE X r e S fun d S1 => ∃ xs, WT p d xs ∧ K (.tuple xs.reverse) S1) : JE X r (.Subscript e (.Slice none none (some (.UnaryOp .USub (.Constant (.int 1) k p1) p2)) p3) pos) S K :=
  fun c F σ H hr E Q q => of_pe (pe_revG pe_tE) (h c F σ H hr E _ fun v d F1 H1 S1 h1 E1 k1 r1 => by
    obtain ⟨xs, w, kd⟩ := h1
    obtain ⟨a, ws, rfl, hs, rv⟩ := rp_wt (K := X.K) E1.fin.fh w r1
    refine ⟨a, ws, rfl, hs, fun p n => ?_⟩
    have g : Grow F1 H1 (upd F1 p (.tup ws.reverse)) (upd H1 p (.tup ws.reverse)) := Grow.new E1.fin.fh n
    exact q _ _ _ _ S1 kd (E1.grow g) (k1.trans g.kF) (.tup upd_same (rv.reverse.ex g.kF)))
/-! ### t == () -/
theorem isTuple_wt {P : Program} {w : World} {F H : Hp} {h : Heap} (k : Ex F H) (ok : HOk P w H h) {v : V} {d : D} {ds : List D} {u : Value} (wt : WT p d ds) (r : Rp F v d) (e : RelV v u) : ∃ a us vs, v = .ref a ∧ u = .ref a ∧ h.IsTuple a us ∧ Vals vs us.toList ∧ RpA F vs ds := by
  rcases wt with rfl | ⟨_, rfl⟩
  · exact isTuple_of k ok r e
  · obtain ⟨a, o, xs, rfl, ha, _, rv⟩ := rp_ft r
    cases e
    obtain ⟨_, _, its, rw', o', ho, hc, n, hd⟩ := ok _ _ (k _ _ ha)
    exact ⟨a, its.toArray, xs, rfl, rfl, ⟨_, ho, hc, _, hd⟩, by simpa using rw', rv⟩
def rEqG0 (X : Cx) (p neg : Bool) : R2 := fun x y H Q => ∃ F d ds, Ex F H ∧ WT p d ds ∧ Rp F x d ∧ Rp F y (.tuple []) ∧ X.A.units < cLine ∧ Q (.bl (if neg = true then !ds.isEmpty else ds.isEmpty)) H
theorem op_eqG0 : OpR X (compareOp .Eq) (rEqG0 X p false) := by
  intro pins s σ H x y v u Q I rx ry h
  obtain ⟨F, d, ds, k, w, r1, r2, hu, q⟩ := h
  obtain ⟨a, us, vs, rfl, rfl, t1, v1, p1⟩ := isTuple_wt k I.hok w r1 rx
  obtain ⟨b, us2, vs2, rfl, rfl, t2, v2, p2⟩ := isTuple_of k I.hok r2 ry
  cases p2
  have h2 : us2.size = 0 := by have := vals_length v2; simpa using this.symm
  have h1 : us.size = ds.length := by
    have e1 : vs.length = us.size := by have := vals_length v1; simpa using this
    have e2 := p1.length
    omega
  refine PySem.SeqAt.eq_tupleAt (e := fun _ => true) t1 t2 hu (fun j _ j2 => absurd j2 (by omega)) ⟨.bl _, H, I, rfl, ?_⟩
  rw [h1, h2, Nat.min_zero]
  cases ds with
  | nil => exact q
  | cons _ _ => exact q
theorem od_eqG0 {k : Nat} (hr : Room k X.A) {d : D} {ds : List D} {K : D → Prop} (w : WT p d ds) (h : K (.bool ds.isEmpty)) : OpD (rEqG0 X p false) d (.tuple []) K := fun F H v1 v2 k r1 r2 Q q =>
  ⟨F, d, ds, k, w, r1, r2, by have := hr.un; omega, q _ _ F H h (Grow.refl k) (.bl _)⟩
end
/-! ### repr -/
inductive UWA (p : Bool) : List D → List D → Prop
  | nil : UWA p [] []
  | cons {d v : D} {ds vs : List D} : UW p d v → UWA p ds vs → UWA p (d :: ds) (v :: vs)
theorem UWA.len {p : Bool} {ds vs : List D} (h : UWA p ds vs) : ds.length = vs.length := by
  induction h with
  | nil => rfl
  | cons _ _ ih => rw [List.length_cons, List.length_cons, ih]
/-- d tells v: up to ft tuples at the top, or right in a list -/
def UL (p : Bool) (d v : D) : Prop := UW p d v ∨ ∃ ds vs, d = .list ds ∧ v = .list vs ∧ UWA p ds vs
theorem UW.reads {P : Program} {w : World} {F H : Hp} {h : Heap} {p : Bool} {B L : Nat} (k : Ex F H) (ok : HOk P w H h) {x : V} {d v : D} {u : Value} (hd : UW p d v) (r : Rp F x d) (e : RelV x u) (hp : okD B L v = true) : ∃ as, Reads h u v as := by
  rcases hd with rfl | ⟨_, ds, rfl, rfl⟩
  · exact Rp.readsE k ok r e hp
  · obtain ⟨a, o, xs, rfl, ha, _, rv⟩ := rp_ft r
    cases e
    obtain ⟨_, _, its, rw', o', ho, hc, n, hd⟩ := ok _ _ (k _ _ ha)
    rw [okD, Bool.and_eq_true] at hp
    obtain ⟨as, hr⟩ := RpA.readsE k ok rv rw' hp.2
    exact ⟨_, .tuple ho hc hd (by simpa using hr)⟩
theorem UWA.reads {P : Program} {w : World} {F H : Hp} {h : Heap} {p : Bool} {B L : Nat} (k : Ex F H) (ok : HOk P w H h) : ∀ {xs : List V} {ds vs : List D} {us : List Value}, UWA p ds vs → RpA F xs ds → Vals xs us → okDAll B L vs = true → ∃ as, ReadsAll h us vs as
  | _, _, _, _, .nil, .nil, e, _ => by cases e; exact ⟨_, .nil⟩
  | _, _, _, _, .cons h1 h2, .cons r1 r2, e, hp => by
    cases e with
    | cons e1 e2 =>
      rw [okDAll, Bool.and_eq_true] at hp
      obtain ⟨as, q1⟩ := h1.reads k ok r1 e1 hp.1
      obtain ⟨bs, q2⟩ := UWA.reads k ok h2 r2 e2 hp.2
      exact ⟨_, .cons q1 q2⟩
theorem UW.reprK {P : Program} {w : World} {F H : Hp} {h : Heap} {p : Bool} {B L : Nat} (k : Ex F H) (ok : HOk P w H h) {x : V} {d v : D} {u : Value} (hd : UW p d v) (r : Rp F x d) (e : RelV x u) (hp : okD B L v = true) (hs : v.showable = true) (hz : v.shown.length ≤ sizeLine) : ∃ bs, ReadAtMost h v.depth bs ∧ ReprK P w bs h v.depth u v.shown := by
  rcases hd with rfl | ⟨_, ds, rfl, rfl⟩
  · exact Rp.reprK k ok r e hp hs hz
  · obtain ⟨a, o, xs, rfl, ha, _, rv⟩ := rp_ft r
    cases e
    obtain ⟨_, _, its, rw', o', ho, hc, n, hd⟩ := ok _ _ (k _ _ ha)
    rw [okD, Bool.and_eq_true] at hp
    have hz' : (tupleText (PyData.shownAll ds)).length ≤ sizeLine := by simpa only [PyData.shown] using hz
    obtain ⟨bs, hb, hk⟩ := RpA.reprK k ok rv rw' hp.2 (by simpa [PyData.showable] using hs) (fun t ht => Nat.le_trans (tupleText_mem_le ht) hz')
    obtain ⟨as, hr⟩ := RpA.readsE k ok rv rw' hp.2
    have rr : Reads h (.ref a) (.tuple ds) as := .tuple ho hc hd (by simpa using hr)
    have hna : a ∉ bs := not_mem_of_deeper rr (by simp only [PyData.depth]; omega) hb
    refine ⟨a :: bs, ReadAtMost.cons rr (by simp only [PyData.depth]; omega) hb, ?_⟩
    simp only [PyData.depth, PyData.shown]
    exact ReprK.tuple ho hc hd hna (by simpa using hk)
theorem UWA.reprK {P : Program} {w : World} {F H : Hp} {h : Heap} {p : Bool} {B L : Nat} (k : Ex F H) (ok : HOk P w H h) : ∀ {xs : List V} {ds vs : List D} {us : List Value}, UWA p ds vs → RpA F xs ds → Vals xs us → okDAll B L vs = true → PyData.showableAll vs = true → (∀ t ∈ PyData.shownAll vs, t.length ≤ sizeLine) → ∃ bs, ReadAtMost h (PyData.depthAll vs) bs ∧ ReprAllK P w bs h (PyData.depthAll vs) us (PyData.shownAll vs)
  | _, _, _, _, .nil, .nil, e, _, _, _ => by cases e; exact ⟨[], (fun _ h => nomatch h), by simp only [PyData.shownAll]; exact .nil⟩
  | _, _, _, _, .cons (v := d) (vs := ds) h1 h2, .cons r t, e, hp, hs, hz => by
    cases e with
    | cons e1 e2 =>
      rw [okDAll, Bool.and_eq_true] at hp
      have hs' : d.showable = true ∧ PyData.showableAll ds = true := by simpa [PyData.showableAll] using hs
      obtain ⟨b1, hb1, k1⟩ := h1.reprK k ok r e1 hp.1 hs'.1 (hz _ (by simp only [PyData.shownAll]; exact List.mem_cons_self ..))
      obtain ⟨b2, hb2, k2⟩ := UWA.reprK k ok h2 t e2 hp.2 hs'.2 (fun t ht => hz t (by simp only [PyData.shownAll]; exact List.mem_cons_of_mem _ ht))
      refine ⟨b1 ++ b2, ?_, ?_⟩
      · intro b hm
        simp only [PyData.depthAll]
        rcases List.mem_append.mp hm with hm | hm
        · obtain ⟨d', as', r', hd'⟩ := hb1 b hm
          exact ⟨d', as', r', Nat.le_trans hd' (Nat.le_max_left _ _)⟩
        · obtain ⟨d', as', r', hd'⟩ := hb2 b hm
          exact ⟨d', as', r', Nat.le_trans hd' (Nat.le_max_right _ _)⟩
      · simp only [PyData.depthAll, PyData.shownAll]
        exact .cons ((k1.more fun b hb => List.mem_append_left _ hb).level_le (Nat.le_max_left _ _)) (k2.more_le (fun b hb => List.mem_append_right _ hb) (Nat.le_max_right _ _))
theorem UL.shows {P : Program} {w : World} {F H : Hp} {h : Heap} {p : Bool} {B L : Nat} (k : Ex F H) (ok : HOk P w H h) {a : Addr} {d v : D} (hd : UL p d v) (r : Rp F (.ref a) d) (hp : okD B L v = true) (hs : v.showable = true) (hsz : v.shown.length ≤ sizeLine) : ∃ T idr, ShowsBy P w h a v T idr := by
  rcases hd with (rfl | ⟨_, ds, rfl, rfl⟩) | ⟨ds, vs, rfl, rfl, hu⟩
  · exact Rp.shows k ok r hp hs hsz
  · obtain ⟨a', o, xs, ea, ha, _, rv⟩ := rp_ft r
    cases ea
    obtain ⟨_, _, its, rw', o', ho, hc, n, hd⟩ := ok _ _ (k _ _ ha)
    rw [okD, Bool.and_eq_true] at hp
    have hz' : (tupleText (PyData.shownAll ds)).length ≤ sizeLine := by simpa only [PyData.shown] using hsz
    obtain ⟨bs, hb, hk⟩ := RpA.reprK k ok rv rw' hp.2 (by simpa [PyData.showable] using hs) (fun t ht => Nat.le_trans (tupleText_mem_le ht) hz')
    obtain ⟨as, hr⟩ := RpA.readsE k ok rv rw' hp.2
    have rr : Reads h (.ref a) (.tuple ds) as := .tuple ho hc hd (by simpa using hr)
    have hna : a ∉ bs := not_mem_of_deeper rr (by simp only [PyData.depth]; omega) hb
    refine ⟨"tuple", "tuple.__repr__", PySem.F.slot_tuple_repr, PySem.F.slot_tuple_str, PySem.F.slot_tuple_format, fun s hk0 => ⟨_, hk0 _ _ ho, hc⟩, fun A E s Q hg hu hk0 hQ => ?_⟩
    simp only [PyData.depth] at hu
    simp only [PyData.shown] at hQ
    exact call_tuple_reprK ho hc hd hna (by simpa using hk) hg (fun b _ => Clear.nil b) hu hk0 hQ hz'
  · cases r with
    | @lst a' xs ds q r =>
      obtain ⟨_, its, n, rv, ho⟩ := ok _ _ (k _ _ q)
      rw [okD, Bool.and_eq_true] at hp
      have hz' : (listText (PyData.shownAll vs)).length ≤ sizeLine := by simpa only [PyData.shown] using hsz
      obtain ⟨bs, hb, hk⟩ := UWA.reprK k ok hu r rv hp.2 (by simpa [PyData.showable] using hs) (fun t ht => Nat.le_trans (listText_mem_le ht) hz')
      obtain ⟨as, hr⟩ := UWA.reads k ok hu r rv hp.2
      have rr : Reads h (.ref a) (.list vs) (a :: as) := .list ho rfl rfl (by simpa using hr)
      have hna : a ∉ bs := not_mem_of_deeper rr (by simp only [PyData.depth]; omega) hb
      refine ⟨"list", "list.__repr__", PySem.F.slot_list_repr.toG, PySem.F.slot_list_str, PySem.F.slot_list_format, fun s hk0 => ⟨_, hk0 _ _ ho, rfl⟩, fun A E s Q hg hu hk0 hQ => ?_⟩
      simp only [PyData.depth] at hu
      simp only [PyData.shown] at hQ
      cases its with
      | nil =>
        cases hr
        simp only [PyData.shownAll, listText_nil] at hQ
        exact call_list_repr_empty ⟨_, hk0 _ _ ho, rfl⟩ (hk0 _ _ ho) rfl (hQ s.heap _ _ fun _ _ e => e)
      | cons x l =>
        exact call_list_reprK ho rfl rfl hna (by simpa using hk.length_eq) (fun i y e => hk.item i y (by simpa using e)) hg (fun b _ => Clear.nil b) hu hk0 hQ hz'
section
variable {X : Cx} {r : SR} {S : List Sl} {p : Bool}
def rReprU (X : Cx) (p : Bool) : List V → Hp → VK → Prop := fun vs H Q => ∃ F x d v B L, vs = [x] ∧ Ex F H ∧ Rp F x d ∧ UL p d v ∧ okD B L v = true ∧ v.showable = true ∧ X.A.units + (v.depth + 1) < cLine ∧ v.shown.length ≤ sizeLine ∧ Q (.str v.shown) H
theorem call_reprU (hg : X.A.guards = some []) : CallR X (.builtin "repr") (rReprU X p) := by
  intro pins s σ H xs us Q I rr h
  obtain ⟨F, x, d, v, B, L, rfl, k, rp, hul, hpl, hs, hu, hz, q⟩ := h
  by_cases hdv : d = v
  · subst hdv
    exact call_reprE hg pins s σ H _ us Q I rr ⟨F, x, d, B, L, rfl, k, rp, hpl, hs, hu, hz, q⟩
  · obtain ⟨u, rfl, rx⟩ := vals1 rr
    obtain ⟨a, rfl⟩ : ∃ a, x = V.ref a := by
      rcases hul with (e | ⟨_, ds, rfl, rfl⟩) | ⟨ds, vs, rfl, rfl, hu⟩
      · exact absurd e hdv
      · obtain ⟨a, _, _, e, _⟩ := rp_ft rp
        exact ⟨a, e⟩
      · cases rp with
        | lst _ _ => exact ⟨_, rfl⟩
    cases rx
    obtain ⟨T, idr, S⟩ := UL.shows k I.hok hul rp hpl hs hz
    exact call_repr_slot (by omega) (S.typeIs s fun _ _ e => e) S.slotRepr (S.call X.A.in1 X.xe s _ hg (by show X.A.units + 1 + v.depth < cLine; omega) (fun _ _ e => e) fun h' u tk hk => ⟨_, _, rfl, ⟨.str _, H, I.kept hk, ⟨_, rfl⟩, q⟩⟩)
theorem jreprU {K : D → List Sl → Prop} {a : Expr} {pp pos : Pos} {k : Nat} (hg0 : X.A.guards = some []) (hr : Room k X.A) (hm : X.mg "repr" = none) (h : JE X r a S fun d S1 => ∃ v, UL p d v ∧ ShW v ∧ K (.str v.shown) S1)
    (hg : Gl X "repr" := by rfl) (hs : starEach [a] X.env = (false, eval a X.env) :: starEach [] X.env := by rfl) : JE X r (.Call (.Name "repr" pp) [a] [] pos) S K :=
  jB (call_reprU (p := p) hg0) hm (ja1 (h.mono fun d S' ⟨v, hu, sh, k⟩ => ⟨[d], rfl, fun F H vs kF rv Q q => by
    obtain ⟨B, L, h, hB, hk, hw⟩ := sh.ex
    cases rv with
    | cons r1 t =>
      cases t
      exact ⟨F, _, d, v, B, L, rfl, kF, r1, hu, h, okD_show hB h, by have := hr.un; omega, PyData.shown_fits (B := 13) (by decide) (by decide) (okD_short hB h) hw, q _ _ F H k (Grow.refl kF) (.str _)⟩⟩) hs) hg (he := hs)
end
section
variable {X : Cx} {r : SR} {S : List Sl}
theorem JN.keepP {t : Expr} {K : List D → List Sl → Prop} (P : List D → Prop) (h : JN X r t S fun ds S' => S' = S ∧ P ds) (k : ∀ ds, P ds → K ds S) : JN X r t S K := h.mono fun ds S' ⟨e, p⟩ => by subst e; exact k ds p
/-- max(a, b) -/
theorem jmax2 {K : D → List Sl → Prop} {a b : Expr} {p pos : Pos} (hm : X.mg "max" = none) (h : JE X r a S fun d1 S1 => JE X r b S1 fun d2 S2 => ∃ i j : Int, d1 = .int i ∧ d2 = .int j ∧ K (.int (if j > i then j else i)) S2) (hc : X.calm = true := by rfl) (hg : Gl X "max" := by rfl)
    (hs : starEach [a, b] X.env = (false, eval a X.env) :: starEach [b] X.env := by rfl) (hs2 : starEach [b] X.env = (false, eval b X.env) :: starEach [] X.env := by rfl) (hpl : (backTo pos (starEach [b] X.env)).any (·.1) = false := by rfl) : JE X r (.Call (.Name "max" p) [a, b] [] pos) S K :=
  jB (call_max2 hc) hm (jA (h.mono fun d1 S1 h1 => ja1 (h1.mono fun d2 S2 ⟨i, j, e1, e2, kk⟩ => ⟨[d1, d2], rfl, by
    subst e1 e2
    intro F H vs kF rv Q q
    cases rv with
    | cons r1 t =>
      cases t with
      | cons r2 t =>
        cases t
        cases r1
        cases r2
        exact ⟨i, j, rfl, q _ _ F H kk (Grow.refl kF) (.int _)⟩⟩) hs2) hs) hg (by decide +kernel) (by decide) (by decide) hs hpl
end
end DL

/-! DL: couples of tuples of ints: their order, sorted(..), <=, ==. -/
namespace DL
open PySem L2
abbrev Cp := List Int × List Int
def coupD (p : Cp) : D := .tuple [tupI p.1, tupI p.2]
abbrev TT2 := PySem.W.Tup Int × PySem.W.Tup Int
def toC (p : Cp) : TT2 := (⟨p.1⟩, ⟨p.2⟩)
theorem coupD_toD (p : Cp) : coupD p = PySem.W.Datum.toD (toC p) := rfl
theorem toC_inj {p q : Cp} (h : toC p = toC q) : p = q := by
  cases p; cases q
  unfold toC at h
  simp only [Prod.mk.injEq, PySem.W.Tup.mk.injEq] at h
  rw [h.1, h.2]
theorem coupD_inj {a b : Cp} (h : coupD a = coupD b) : a = b := by
  unfold coupD at h
  injection h with h
  injection h with h1 h2
  injection h2 with h2
  exact Prod.ext (tupI_inj h1) (tupI_inj h2)
theorem nice_coupD {n : Nat} (p : Cp) : Nice (n + 2) (coupD p) := nice_tup (n := n + 1) (nice_cons (nice_tupI p.1) (nice_cons (nice_tupI p.2) nice_nil))
def ltC (p q : Cp) : Bool := if p.1 = q.1 then ltL p.2 q.2 else ltL p.1 q.1
def leC (a b : Cp) : Bool := !ltC b a
theorem lt_toC (a b : Cp) : PySem.W.DatumOrd.lt (toC a) (toC b) = ltC a b := by
  show (if (toC a).1 = (toC b).1 then PySem.W.DatumOrd.lt (toC a).2 (toC b).2 else PySem.W.DatumOrd.lt (toC a).1 (toC b).1) = _
  unfold ltC toC
  by_cases h : a.1 = b.1
  · rw [if_pos h, if_pos (by rw [h])]; rfl
  · rw [if_neg h, if_neg (fun e => h (by injection e))]; rfl
theorem lt_coupD (a b : Cp) : PySem.W.dataLt (coupD a) (coupD b) = ltC a b := (PySem.W.DatumOrd.lt_eq (toC a) (toC b)).trans (lt_toC a b)
theorem dataLe_coupD : PySem.W.dataLe false coupD = leC := by
  funext a b
  show (!PySem.W.dataLt (coupD b) (coupD a)) = _
  rw [lt_coupD]; rfl
theorem ltC_irrefl (a : Cp) : ltC a a = false := by unfold ltC; rw [if_pos rfl]; exact ltL_irrefl _
theorem ltC_tri {a b : Cp} (h1 : ltC a b = false) (h2 : ltC b a = false) : a = b := by
  unfold ltC at h1 h2
  by_cases e : a.1 = b.1
  · rw [if_pos e] at h1
    rw [if_pos e.symm] at h2
    exact Prod.ext e (ltL_tri h1 h2)
  · rw [if_neg e] at h1
    rw [if_neg (fun z => e z.symm)] at h2
    exact absurd (ltL_tri h1 h2) e
theorem ltC_trans {a b c : Cp} (h1 : ltC a b = true) (h2 : ltC b c = true) : ltC a c = true := by
  unfold ltC at *
  by_cases e1 : a.1 = b.1
  · rw [if_pos e1] at h1
    by_cases e2 : b.1 = c.1
    · rw [if_pos e2] at h2
      rw [if_pos (e1.trans e2)]
      exact ltL_trans h1 h2
    · rw [if_neg e2] at h2
      rw [if_neg (fun z => e2 (e1.symm.trans z)), e1]
      exact h2
  · rw [if_neg e1] at h1
    by_cases e2 : b.1 = c.1
    · rw [if_neg (fun z => e1 (z.trans e2.symm)), ← e2]
      exact h1
    · rw [if_neg e2] at h2
      have h3 := ltL_trans h1 h2
      rw [if_neg (fun z => by rw [z, ltL_irrefl] at h3; cases h3)]
      exact h3
theorem ltC_asymm {a b : Cp} (h : ltC a b = true) : ltC b a = false := by
  cases e : ltC b a with
  | false => rfl
  | true =>
    have := ltC_trans h e
    rw [ltC_irrefl] at this; cases this
theorem leC_trans (a b c : Cp) (h1 : leC a b = true) (h2 : leC b c = true) : leC a c = true := by
  unfold leC at *
  rw [Bool.not_eq_true'] at *
  cases e : ltC c a with
  | false => rfl
  | true =>
    cases e2 : ltC a b with
    | true =>
      have := ltC_trans e e2
      rw [h2] at this; cases this
    | false =>
      have := ltC_tri e2 h1
      subst this
      rw [e] at h2; cases h2
theorem leC_total (a b : Cp) : (leC a b || leC b a) = true := by
  unfold leC
  cases e : ltC b a with
  | false => rfl
  | true => rw [ltC_asymm e]; rfl
def sortC (ls : List Cp) : List Cp := ls.mergeSort leC
theorem sortC_perm (ls : List Cp) : (sortC ls).Perm ls := List.mergeSort_perm _ _
theorem sortC_le (ls : List Cp) : (sortC ls).Pairwise fun a b => leC a b = true := List.pairwise_mergeSort leC_trans leC_total ls
theorem sortC_lt {ls : List Cp} (nd : ls.Nodup) : (sortC ls).Pairwise fun a b => ltC a b = true := by
  have h1 := sortC_le ls
  have h2 : (sortC ls).Pairwise (· ≠ ·) := List.nodup_iff_pairwise_ne.mp ((sortC_perm ls).nodup_iff.mpr nd)
  refine (h1.and h2).imp fun {a b} ⟨x, y⟩ => ?_
  unfold leC at x
  rw [Bool.not_eq_true'] at x
  cases e : ltC a b with
  | true => rfl
  | false => exact absurd (ltC_tri e x) y
theorem sorted_oneC : ∀ {a b : List Cp}, (a.Pairwise fun x y => ltC x y = true) → (b.Pairwise fun x y => ltC x y = true) → (∀ x, x ∈ a ↔ x ∈ b) → a = b
  | [], [], _, _, _ => rfl
  | [], y :: b, _, _, h => by have := (h y).mpr List.mem_cons_self; cases this
  | x :: a, [], _, _, h => by have := (h x).mp List.mem_cons_self; cases this
  | x :: a, y :: b, h1, h2, h => by
    rw [List.pairwise_cons] at h1 h2
    have e : x = y := by
      rcases List.mem_cons.mp ((h x).mp List.mem_cons_self) with e | hx
      · exact e
      · rcases List.mem_cons.mp ((h y).mpr List.mem_cons_self) with e | hy
        · exact e.symm
        · have l1 := h2.1 x hx
          have l2 := h1.1 y hy
          rw [ltC_asymm l1] at l2; cases l2
    subst e
    refine congrArg _ (sorted_oneC h1.2 h2.2 fun z => ?_)
    have no : ∀ {l : List Cp}, (∀ a ∈ l, ltC x a = true) → x ∉ l := fun hl hx => by
      have := hl x hx
      rw [ltC_irrefl] at this; cases this
    constructor
    · intro hz
      rcases List.mem_cons.mp ((h z).mp (List.mem_cons_of_mem _ hz)) with e | hz2
      · subst e; exact absurd hz (no h1.1)
      · exact hz2
    · intro hz
      rcases List.mem_cons.mp ((h z).mpr (List.mem_cons_of_mem _ hz)) with e | hz2
      · subst e; exact absurd hz (no h2.1)
      · exact hz2
/-- with no member twice: in order exactly if it is what it is sorted to -/
theorem sort_ascC {ls : List Cp} (nd : ls.Nodup) : decide (ls = sortC ls) = decide (ls.Pairwise fun a b => ltC a b = true) := by
  refine decide_eq_decide.mpr ⟨fun e => ?_, fun h => ?_⟩
  · rw [e]; exact sortC_lt nd
  · exact sorted_oneC h (sortC_lt nd) fun x => (sortC_perm ls).mem_iff.symm
theorem eqv_coups (a b : List Cp) : PyData.eqv (.list (a.map coupD)) (.list (b.map coupD)) = decide (a = b) := by
  have h := PySem.W.Datum.eqv (α := List TT2) (a.map toC) (b.map toC)
  have e : ∀ l : List Cp, (PySem.W.Datum.toD (l.map toC) : D) = .list (l.map coupD) := fun l => by
    show PyData.list ((l.map toC).map PySem.W.Datum.toD) = _
    rw [List.map_map]; rfl
  rw [e, e] at h
  rw [h]
  refine decide_eq_decide.mpr ⟨fun h => ?_, fun h => by rw [h]⟩
  have inj : ∀ {a b : List Cp}, a.map toC = b.map toC → a = b := by
    intro a
    induction a with
    | nil => intro b h; cases b with | nil => rfl | cons _ _ => cases h
    | cons x a ih =>
      intro b h
      cases b with
      | nil => cases h
      | cons y b =>
        rw [List.map_cons, List.map_cons] at h
        injection h with h1 h2
        rw [toC_inj h1, ih h2]
  exact inj h
theorem alike_coupD (a b : Cp) : PySem.W.alike (coupD a) (coupD b) = true := PySem.W.DatumOrd.alike (toC a) (toC b)
theorem depth_coupD (p : Cp) : (coupD p).depth ≤ 2 := (nice_coupD (n := 0) p).dp
section
variable {X : Cx} {r : SR} {S : List Sl}
/-! ### <= -/
def rLeC (X : Cx) : R2 := fun x y H Q => ∃ F a b, Ex F H ∧ Rp F x (coupD a) ∧ Rp F y (coupD b) ∧ X.A.units + 2 < cLine ∧ Q (.bl (!ltC b a)) H
theorem op_leC : OpR X (compareOp .LtE) (rLeC X) := by
  intro pins s σ H x y v u Q I rx ry h
  obtain ⟨F, a, b, k, r1, r2, hu, q⟩ := h
  obtain ⟨as, h1⟩ := Rp.reads k I.hok r1 rx (nice_coupD (n := 1) a).pl
  obtain ⟨bs, h2⟩ := Rp.reads k I.hok r2 ry (nice_coupD (n := 1) b).pl
  exact PySem.W.le_datum (x := toC a) (y := toC b) ⟨as, h1⟩ ⟨bs, h2⟩ hu (by rw [lt_toC]; exact ⟨.bl _, H, I, rfl, q⟩)
theorem od_leC {k : Nat} (hr : Room k X.A) {a b : Cp} {K : D → Prop} (h : K (.bool (!ltC b a))) : OpD (rLeC X) (coupD a) (coupD b) K := fun F H v1 v2 kF r1 r2 Q q => ⟨F, a, b, kF, r1, r2, by have := hr.un; omega, q _ _ F H h (Grow.refl kF) (.bl _)⟩
/-! ### sorted(..) of a list of tuples alike -/
def rSortA (X : Cx) : List V → Hp → VK → Prop := fun vs H Q => ∃ F x ds, vs = [x] ∧ Ex F H ∧ Rp F x (.list ds) ∧ PySem.W.AllAlike ds ∧ (∀ d ∈ ds, ∃ xs, d = PyData.tuple xs) ∧ (∀ d ∈ ds, d.plain = true ∧ d.depth ≤ 4) ∧ X.A.units + 8 < cLine ∧ ∀ p ws, RpA F ws (ds.mergeSort (PySem.W.dataLe false id)) → H p = none → Q (.ref p) (upd H p (.lst ws))
theorem call_sortA : CallR X (.builtin "sorted") (rSortA X) := by
  intro pins s σ H xs us Q I rr h
  obtain ⟨F, x, ds, rfl, k, rp, hal, ht, hd, hu, q⟩ := h
  obtain ⟨u, rfl, rx⟩ := vals1 rr
  cases rp with
  | @lst a ws _ ha rv =>
    cases rx
    obtain ⟨z, its, n, rw', ho⟩ := (show ObjOk X.prog X.w H s.heap a (.lst ws) from I.hok _ _ (k _ _ ha))
    obtain ⟨e, er⟩ := each_of k I.hok rv rw' (plainAll_of fun d h => (hd d h).1)
    have hz : ds.length ≤ sizeLine := by rw [← rv.length]; exact z
    have er' : PySem.W.EachIs (fun v d => ∃ as, Reads (PySem.W.sortingHeap (PySem.W.copyHeap s.heap its) (s.heap.objs.size + 1) its) v d as) its ds := er.mono fun _ _ ⟨as, r⟩ => ⟨as, PyProof.Rows.Reads.keeps (fun _ _ => PySem.W.sorting_copy_old) r⟩
    refine PySem.W.sorted_vals (vs := its) ⟨_, ho, rfl, _, rfl⟩ (sortsAt_tups (s := { s with heap := PySem.W.sortingHeap (PySem.W.copyHeap s.heap its) (s.heap.objs.size + 1) its }) er' hal ht fun d h => by have := (hd d h).2; show X.A.units + 1 + 1 + d.depth < cLine; omega) (by rw [e.length]; exact hz) ?_
    have out := PySem.W.sortVals_data (enc := id) false e er' (by rw [List.map_id]; exact hal)
    rw [List.map_id] at out
    obtain ⟨vs, v1, v2⟩ := of_each out
    obtain ⟨ep, he'⟩ := PyProof.Rows.sortedAll_at s.heap its (PySem.W.sortVals (PySem.W.dataKind (PySem.W.sortingHeap (PySem.W.copyHeap s.heap its) (s.heap.objs.size + 1) its) ds) false its its).toArray
    have hlen : vs.length ≤ sizeLine := by
      rw [v2.length, List.length_mergeSort]; exact hz
    exact ⟨.ref _, upd H (s.heap.objs.size + 1) (.lst vs), I.laid (t' := s.toks) (fun _ _ => PyProof.Rows.sortedAll_old) (Nat.le_succ _) ⟨hlen, _, ep, v1, he'⟩, rfl, q _ vs v2 (I.hok.fresh (Nat.le_succ _))⟩
/-- sorted(xs), xs a list of couples -/
theorem jsortC {K : List D → List Sl → Prop} {a : Expr} {p pos : Pos} {k : Nat} (hr : Room k X.A) (hm : X.mg "sorted" = none) (h : JE X r a S fun d S1 => ∃ ls : List Cp, d = .list (ls.map coupD) ∧ K ((sortC ls).map coupD) S1) (hg : Gl X "sorted" := by rfl) (hs : starEach [a] X.env = (false, eval a X.env) :: starEach [] X.env := by rfl) : JN X r (.Call (.Name "sorted" p) [a] [] pos) S K :=
  jnB call_sortA hm (ja1 (h.mono fun d S1 ⟨ls, e, kk⟩ => ⟨[d], rfl, by
    rw [e]
    intro F H vs kF rv Q q
    cases rv with
    | cons r1 t =>
      cases t
      refine ⟨F, _, _, rfl, kF, r1, PySem.W.AllAlike.of alike_coupD, fun d hd => ?_, fun d hd => ?_, by have := hr.un; omega, fun p ws rw' n => q p ws _ kk n ?_⟩
      · obtain ⟨c, _, rfl⟩ := List.mem_map.mp hd
        exact ⟨_, rfl⟩
      · obtain ⟨c, _, rfl⟩ := List.mem_map.mp hd
        exact ⟨(nice_coupD (n := 1) c).pl, Nat.le_trans (depth_coupD c) (by decide)⟩
      · rw [sort_map dataLe_coupD] at rw'
        exact rw'⟩) hs) hg (by decide +kernel) (by decide) (by decide) hs rfl
/-! ### sorted(t) of a tuple of tuples alike -/
def rSortG (X : Cx) (pp : Bool) : List V → Hp → VK → Prop := fun vs H Q => ∃ F x d ds, vs = [x] ∧ Ex F H ∧ WT pp d ds ∧ Rp F x d ∧ PySem.W.AllAlike ds ∧ (∀ d ∈ ds, ∃ xs, d = PyData.tuple xs) ∧ (∀ d ∈ ds, d.plain = true ∧ d.depth ≤ 4) ∧ X.A.units + 8 < cLine ∧ ∀ p ws, RpA F ws (ds.mergeSort (PySem.W.dataLe false id)) → H p = none → Q (.ref p) (upd H p (.lst ws))
open PySem.Spec PyProof.Rows in
theorem call_sortG {pp : Bool} : CallR X (.builtin "sorted") (rSortG X pp) := by
  intro pins s σ H xs us Q I rr h
  obtain ⟨F, x, d, ds, rfl, k, wt, rp, hal, htt, hdd, hu, q⟩ := h
  obtain ⟨u, rfl, rx⟩ := vals1 rr
  obtain ⟨a, ws, rfl, hs, rv⟩ := rp_wt (K := X.K) k wt rp
  cases rx
  obtain ⟨its, rw', ht, hz⟩ := I.tuple hs
  obtain ⟨o, ho, hc, n, hd⟩ := id ht
  have hl2 : its.length = ds.length := by rw [← rw'.length]; exact rv.length
  have hz2 : its.length ≤ sizeLine := by rw [← rw'.length]; exact hz
  refine Calls.call_function_entry PyProof.Rows.kind_sorted PyProof.Rows.plain_sorted PyProof.Rows.entry_sorted (PyProof.Rows.args_sorted1 _) ?_
  unfold Builtin.«sorted»
  refine wpAny_bind (m := checkCount "sorted" 1 1 _) (wpAny_pure ?_)
  refine wpAny_bind (wpAny_collect_seq a (T := "tuple") (.inr rfl) ho hc hd (fun h' hk => ?_) (by rw [List.size_toArray]; exact hz2))
  show wpAny _ _ _ _ _ { s with heap := h' }
  have I1 : Inv X pins σ H { s with heap := h' } := I.kept (t' := s.toks) hk
  obtain ⟨e1, er1⟩ := each_of k I1.hok rv rw' (plainAll_of fun d h => (hdd d h).1)
  refine wpAny_bind (wpAny_newList ?_ hz2)
  have hoL : (h'.push (seqObj "list" its.toArray 0)).get? h'.objs.size = some (seqObj "list" its.toArray 0) := Heap.get?_push_size _ rfl
  show wpAny _ _ _ _ _ { s with heap := h'.push (seqObj "list" its.toArray 0) }
  have keepS : ∀ b u, h'.get? b = some u → (PySem.W.sortingHeap (h'.push (seqObj "list" its.toArray 0)) h'.objs.size its).get? b = some u := fun b u e =>
    PySem.W.sortingHeap_old (Nat.ne_of_lt (Heap.lt_size e)) (Heap.get?_push_of_some _ e)
  have er2 : PySem.W.EachIs (fun v d => ∃ as, Reads (PySem.W.sortingHeap (h'.push (seqObj "list" its.toArray 0)) h'.objs.size its) v d as) its ds := er1.mono fun _ _ ⟨as, r⟩ => ⟨as, PyProof.Rows.Reads.keeps keepS r⟩
  refine wpAny_bind (wpAny_holding (wpAny_call_entry PyProof.Rows.slot_list_sort ⟨_, hoL, rfl⟩ PyProof.Rows.entry_list_sort
    (PySem.W.list_sort_vals (s := { s with heap := h'.push (seqObj "list" its.toArray 0) }) hoL (sortsAt_tups (s := { s with heap := PySem.W.sortingHeap (h'.push (seqObj "list" its.toArray 0)) h'.objs.size its }) er2 hal htt fun d hd => by have := (hdd d hd).2; show X.A.units + 1 + 1 + d.depth < cLine; omega) hz2 ⟨_, rfl, ?_⟩) (PyProof.Rows.args_list_sort _)))
  have out := PySem.W.sortVals_data (enc := id) (R := fun u (d : D) => ∃ v, RelV v u ∧ Rp F v d) false e1 er2 (by rw [List.map_id]; exact hal)
  rw [List.map_id] at out
  obtain ⟨vs, v1, v2⟩ := of_each out
  obtain ⟨e', he'⟩ := PyProof.Rows.sortedHeap_at (vs := its) (out := (PySem.W.sortVals (PySem.W.dataKind (PySem.W.sortingHeap (h'.push (seqObj "list" its.toArray 0)) h'.objs.size its) ds) false its its).toArray) hoL
  have hlen2 : vs.length ≤ sizeLine := by rw [v2.length, List.length_mergeSort, ← hl2]; exact hz2
  refine wpAny_pure ⟨_, rfl, .ref h'.objs.size, upd H h'.objs.size (.lst vs), I1.laid (t' := s.toks) (fun b u e => ?_) (Nat.le_refl _) (show ObjOk X.prog X.w _ _ _ (.lst vs) from ⟨hlen2, _, e', v1, he'⟩), rfl, q _ vs v2 (I1.hok.fresh (Nat.le_refl _))⟩
  have hb : b < h'.objs.size := Heap.lt_size e
  rw [PyProof.Rows.sortedHeap_old (Nat.ne_of_lt hb) (by rw [size_push']; exact Nat.lt_succ_of_lt hb)]
  exact Heap.get?_push_of_some _ e
/-- sorted(t), t a tuple of couples -/
theorem jsortCG {pp : Bool} {K : List D → List Sl → Prop} {a : Expr} {p pos : Pos} {k : Nat} (hr : Room k X.A) (hm : X.mg "sorted" = none) (h : JE X r a S fun d S1 => ∃ ls : List Cp, WT pp d (ls.map coupD) ∧ K ((sortC ls).map coupD) S1) (hg : Gl X "sorted" := by rfl) (hs : starEach [a] X.env = (false, eval a X.env) :: starEach [] X.env := by rfl) : JN X r (.Call (.Name "sorted" p) [a] [] pos) S K :=
  jnB (call_sortG (pp := pp)) hm (ja1 (h.mono fun d S1 ⟨ls, w, kk⟩ => ⟨[d], rfl, by
    intro F H vs kF rv Q q
    cases rv with
    | cons r1 t =>
      cases t
      refine ⟨F, _, d, _, rfl, kF, w, r1, PySem.W.AllAlike.of alike_coupD, fun d hd => ?_, fun d hd => ?_, by have := hr.un; omega, fun p ws rw' n => q p ws _ kk n ?_⟩
      · obtain ⟨c, _, rfl⟩ := List.mem_map.mp hd
        exact ⟨_, rfl⟩
      · obtain ⟨c, _, rfl⟩ := List.mem_map.mp hd
        exact ⟨(nice_coupD (n := 1) c).pl, Nat.le_trans (depth_coupD c) (by decide)⟩
      · rw [sort_map dataLe_coupD] at rw'
        exact rw'⟩) hs) hg (by decide +kernel) (by decide) (by decide) hs rfl
/-- a, b, c = [], {}, e -/
theorem jpar3LDV {x y z : Str} {e : Expr} {px py pz pt pos pa pb : Pos} {kt k2 pt2} {E : DE} {rest : List Stmt} (i j l : Nat) (h : JE X r e S fun d S3 => i < S3.length ∧ j < S3.length ∧ JSs X r rest (((S3.set i (.own [])).set j (.ob (.d []))).set l (.val d)) E)
    (hc : X.calm = true := by rfl) (hN : X.N.Nodup := by assumption) (hi : X.N[i]? = some x := by rfl) (hj : X.N[j]? = some y := by rfl) (hl : X.N[l]? = some z := by rfl) (hij : i ≠ j := by decide) (hil : i ≠ l := by decide) (hjl : j ≠ l := by decide) (hx : X.env.scope.names.lookup x = some .local := by rfl) (hy : X.env.scope.names.lookup y = some .local := by rfl) (hz : X.env.scope.names.lookup z = some .local := by rfl)
    (hw : swappedStores [.Tuple [.Name x px, .Name y py, .Name z pz] kt pt] (.Tuple [.List [] pa, .Dict [] [] pb, e] k2 pt2) X.env = pure (some [x, y, z]) := by rfl) (hs : swapsWithSole [.Tuple [.Name x px, .Name y py, .Name z pz] kt pt] (.Tuple [.List [] pa, .Dict [] [] pb, e] k2 pt2) pos.line X.env = pure false := by rfl)
    (s1 : starEach [.List [] pa, .Dict [] [] pb, e] X.env = (false, eval (.List [] pa) X.env) :: starEach [.Dict [] [] pb, e] X.env := by rfl) (s2 : starEach [.Dict [] [] pb, e] X.env = (false, eval (.Dict [] [] pb) X.env) :: starEach [e] X.env := by rfl) (s3 : starEach [e] X.env = (false, eval e X.env) :: starEach [] X.env := by rfl) :
    JSs X r (.Assign [.Tuple [.Name x px, .Name y py, .Name z pz] kt pt] (.Tuple [.List [] pa, .Dict [] [] pb, e] k2 pt2) pos :: rest) S E := jss_cons fun c F σ H hr Ev G g =>
  of_ps (ps_par3 hc hN hi hj hl hij hil hjl hx hy hz (pa_cons pe_tE (pa_cons pe_tE (pa_cons pe_tE pa_nil s3) s2) s1) hw hs) ((jn_lst (K := fun ds S1 => ds = [] ∧ S1 = S) (jA0 ⟨[], rfl, Nat.zero_le _, rfl, rfl⟩)) c F σ H hr Ev _ fun p1 ds F1 H1 S1 h1 n1 k1 => by
    obtain ⟨rfl, rfl⟩ := h1
    obtain ⟨hh1, E1, hp1, hv1, nF1, b1, q1, no1⟩ := n1
    have f01 : c.F0 p1 = none := by
      cases z : c.F0 p1 with
      | none => rfl
      | some u => have := E1.fin.f0 _ _ z; rw [nF1] at this; cases this
    refine (jemptyD (K := fun o S2 => o = .d [] ∧ S2 = S1) ⟨rfl, rfl⟩) (c.hold p1 hh1) F1 σ H1 (r.st c p1 hh1 b1 hr) (E1.hold hp1 nF1 q1 no1) _ fun p2 o F2 H2 S2 h2 n2 k2 => ?_
    obtain ⟨rfl, rfl⟩ := h2
    obtain ⟨hh2, E2, hp2, hv2, nF2, b2, q2, no2⟩ := n2
    have f02 : c.F0 p2 = none := by
      cases z : c.F0 p2 with
      | none => rfl
      | some u => have := E2.fin.f0 _ _ z; rw [nF2] at this; cases this
    refine h ((c.hold p1 hh1).hold p2 hh2) F2 σ H2 (r.st _ p2 hh2 b2 (r.st c p1 hh1 b1 hr)) (E2.hold hp2 nF2 q2 no2) _ fun v d F3 H3 S3 h3 E3 k3 r3 => ?_
    obtain ⟨hli, hlj, kk⟩ := h3
    obtain ⟨ws1, rfl, _⟩ := obr_l hv1
    obtain ⟨ws2, rfl, _⟩ := obr_d hv2
    obtain ⟨E4, hp2', nF2', q2', no2'⟩ := E3.unhold (vs := .dT ws2) (fun xs z => nomatch z) b2 f02
    obtain ⟨E5, hp1', nF1', q1', no1'⟩ := E4.unhold (vs := .lst ws1) (fun xs z => nomatch z) b1 f01
    have hne : p1 ≠ p2 := fun z => by
      rw [z, hp2'] at hp1'; cases hp1'
    have b2' : c.B p2 = none := by
      have : upd c.B p1 (.lst ws1) p2 = none := b2
      rw [upd_ne (fun z => hne z.symm)] at this; exact this
    have E6 := E5.setOwn (i := i) hp1' ((hv1.ex k2).ex k3) nF1' b1 q1' no1'
    have E7 := E6.setOwn (i := j) hp2' (hv2.ex k3) nF2' b2' q2' (fun m xs em => by
      by_cases hm : i = m
      · subst hm
        by_cases hlen : i < σ.length
        · rw [List.getElem?_set_self hlen]
          intro z
          injection z with z
          injection z with z
          injection z with z
          exact hne z
        · rw [List.getElem?_eq_none (by rw [List.length_set]; omega)]
          intro z; cases z
      · rw [List.getElem?_set_ne hm] at em ⊢
        exact no2' m xs em)
    exact ⟨.ref p1, .ref p2, v, rfl, g.nx F3 _ H3 _ kk (E7.set r3) ((k1.trans k2).trans k3)⟩)
theorem jtdin {K : Bool → List Sl → Prop} {a b : Expr} {pos : Pos} {k : Nat} (hr : Room k X.A) (h : JE X r a S fun d1 S1 => JE X r b S1 fun d2 S2 => ∃ ky kvs, d1 = tupI ky ∧ d2 = dctD kvs ∧ K (valD kvs ky).isSome S2) (hm : behindInMarks .In b = false := by rfl) : JT X r (.Compare a [.In] [b] pos) S K :=
  fun c F σ H hr' E Q q => of_pt (pt_cmp (pc_din (by have := hr.un; omega) pe_tE pe_tE) hm) (h c F σ H hr' E _ fun v1 d1 F1 H1 S1 h1 E1 k1 r1 => h1 c F1 σ H1 hr' E1 _ fun v2 d2 F2 H2 S2 h2 E2 k2 r2 => by
    obtain ⟨ky, kvs, rfl, rfl, kk⟩ := h2
    obtain ⟨l, ws, rfl, hl, rk⟩ := rp_dct r2
    refine ⟨l, _, rfl, dget_of E2.fin.fh (r1.ex k2) (E2.fin.fh _ _ hl), ?_⟩
    rw [(rk.val ky).isSome]
    exact ⟨_, rfl, q _ F2 H2 S2 kk E2 (k1.trans k2)⟩)
/-- tuple(x), x a list read: known to have no dict -/
theorem jtupFE {K : D → List Sl → Prop} {a : Expr} {p pos : Pos} (hm : X.mg "tuple" = none) (h : JE X r a S fun d S1 => ∃ ys, d = .list ys ∧ K (ft ys) S1) (hg : Gl X "tuple" := by rfl) (hs : starEach [a] X.env = (false, eval a X.env) :: starEach [] X.env := by rfl) : JE X r (.Call (.Name "tuple" p) [a] [] pos) S K :=
  jTy call_tupF hm (ja1 (h.mono fun d S1 ⟨xs, e, k⟩ => ⟨[d], rfl, by
    rw [e]
    intro F H vs kF rv Q q
    cases rv with
    | cons r1 t =>
      cases t
      cases r1 with
      | @lst a ws _ ha rv =>
        refine ⟨a, ws, rfl, .inl (.inl (kF _ _ ha)), fun l o ho n => ?_⟩
        have g := Grow.new kF (o := .frz o (.tup ws)) n
        exact q _ _ _ _ k g (.ftup upd_same ho (rv.ex g.kF))⟩) hs) hg (by decide +kernel) (by decide) (by decide) hs rfl
/-- len(d), d a dict -/
theorem jlenD {K : D → List Sl → Prop} {a : Expr} {pp pos : Pos} (hm : X.mg "len" = none) (h : JE X r a S fun d S1 => ∃ kvs, d = dctD kvs ∧ K (.int (kvs.length : Nat)) S1) (hg : Gl X "len" := by rfl) (hs : starEach [a] X.env = (false, eval a X.env) :: starEach [] X.env := by rfl) : JE X r (.Call (.Name "len" pp) [a] [] pos) S K :=
  jB call_len_dT hm (ja1 (h.mono fun d S1 ⟨kvs, e, k⟩ => ⟨[d], rfl, fun F H vs kF rv Q q => by
    subst e
    cases rv with
    | cons r1 t =>
      cases t
      obtain ⟨a, ws, rfl, hl, rk⟩ := rp_dct r1
      exact ⟨a, ws, rfl, kF _ _ hl, q _ _ F H (by rw [← rk.length] at k; exact k) (Grow.refl kF) (.int _)⟩⟩) hs) hg PySem.boot_len (by decide) (by decide) hs rfl
/-- tuple(x), x a list read -/
theorem jtupE {K : D → List Sl → Prop} {a : Expr} {p pos : Pos} (hm : X.mg "tuple" = none) (h : JE X r a S fun d S1 => ∃ ys, d = .list ys ∧ K (.tuple ys) S1) (hg : Gl X "tuple" := by rfl) (na : starEach [a] X.env = (false, eval a X.env) :: starEach [] X.env := by rfl) : JE X r (.Call (.Name "tuple" p) [a] [] pos) S K := je_tupL hg hm na h
end
end DL

/-! DL: zip(x, y, strict=True) of two sequences of one length, a list or a tuple each. -/
namespace ZS
open PySem PySem.Sem
open Sem (wp)
/-- a zip that was told strict -/
abbrev IsZipS (h : Heap) (z TI TO : Addr) (f0 : Value) : Prop :=
  h.get? z = some { cls := .type "zip", dict := none, data := .fields #[f0, .bool false, .bool true, .ref TI, .ref TO], slots := #[] }
section
variable {prog : Program} {w : World} {A : Around} {E : Value → Shared → Prop} {s : Shared} {z TI TO i1 i2 it : Addr} {fp fp1 fp2 : List Addr} {n n1 n2 i : Nat} {P P1 P2 : Nat → Value → Prop} {St St1 St2 : Nat → Heap → Prop} {a1 a2 : Value}
theorem nextOrEnd_item {Q : Option Value → Shared → Prop} (D : Draws prog w A it fp n P St) (hlt : i < n) (st : St i s.heap)
    (hQ : ∀ v h' tk, P i v → St (i + 1) h' → Heap.SameBut it s.heap h' → Q (some v) { s with heap := h', toks := tk }) : wpAny (model prog w) A (Builtin.SmallTypes.nextOrEnd (.ref it)) Q E s := by
  unfold Builtin.SmallTypes.nextOrEnd
  exact wpAny_bind (wpAny_attempt (D.item i _ _ _ hlt st fun v h' tk a b c => wpAny_pure (hQ v h' tk a b c)))
/-- the iterator has no more at i -/
def Ended (prog : Program) (w : World) (A : Around) (it : Addr) (St : Nat → Heap → Prop) (i : Nat) : Prop :=
  ∀ (s : Shared) (Q : Value → Shared → Prop) (E : Value → Shared → Prop), St i s.heap → (∀ h' e, Heap.ExtBut it s.heap h' → (∃ o, h'.get? e = some o ∧ o.cls = .type "StopIteration") → E (.ref e) { s with heap := h' }) → wpAny (model prog w) A (Builtin.SmallTypes.nextOf (.ref it)) Q E s
theorem nextOrEnd_end {Q : Option Value → Shared → Prop} (D : Ended prog w A it St i) (st : St i s.heap)
    (hQ : ∀ h', Heap.ExtBut it s.heap h' → Q none { s with heap := h' }) : wpAny (model prog w) A (Builtin.SmallTypes.nextOrEnd (.ref it)) Q E s := by
  unfold Builtin.SmallTypes.nextOrEnd
  refine wpAny_bind (wpAny_attempt (D s _ _ st fun h' e hk he => ?_))
  obtain ⟨o, ho, hc⟩ := he
  refine wpAny_bind (wpAny_isInstance (T := "StopIteration") (b := true) ⟨o, ho, hc⟩ isSubtype_stop ?_)
  exact wpAny_pure (hQ _ hk)
theorem zipS2_next_item {Q : Value → Shared → Prop} (S : ZipSep2 z TI TO i1 i2 fp1 fp2) (D1 : Draws prog w A i1 fp1 n1 P1 St1) (D2 : Draws prog w A i2 fp2 n2 P2 St2)
    (hz : IsZipS s.heap z TI TO .none) (hTI : IsTupOf2 s.heap TI (.ref i1) (.ref i2)) (hTO : IsTupOf2 s.heap TO a1 a2) (st1 : St1 i s.heap) (st2 : St2 i s.heap) (hlt1 : i < n1) (hlt2 : i < n2)
    (hQ : ∀ x1 x2 h' tk, P1 i x1 → P2 i x2 → IsZipS h' z TI TO (rawInt s.heap.objs.size) → IsTupOf2 h' TO x1 x2 → St1 (i + 1) h' → St2 (i + 1) h' → IsTupOf2 h' s.heap.objs.size x1 x2 → h'.objs.size = s.heap.objs.size + 1 →
      (∀ c o, c ≠ z → c ≠ TO → c ≠ i1 → c ≠ i2 → s.heap.get? c = some o → h'.get? c = some o) → Q (.ref s.heap.objs.size) { s with heap := h', toks := tk }) :
    wpAny (model prog w) A (Builtin.«zip.__next__» ⟨[.ref z], []⟩) (fun fin s' => ∃ v, fin = .done (.ret v) ∧ Q v s') E s := by
  obtain ⟨hp, g, d, tk0, os⟩ := s
  show wpAny _ _ (field (.ref z) 2 >>= _) _ _ _
  refine wpAny_bind (wpAny_field hz rfl (x := .bool true) rfl ?_)
  show wpAny _ _ (field (.ref z) 3 >>= _) _ _ _
  refine wpAny_bind (wpAny_field hz rfl (x := .ref TI) rfl ?_)
  refine wpAny_bind (wpAny_seqItems hTI rfl ?_)
  show wpAny _ _ (Builtin.SmallTypes.ownedTupleIsFree (.ref z) >>= _) _ _ _
  refine wpAny_bind ?_
  unfold Builtin.SmallTypes.ownedTupleIsFree
  refine wpAny_bind (wpAny_field hz rfl (x := .none) rfl (wpAny_pure ?_))
  simp only [if_true]
  refine wpAny_bind (wpAny_rule ?_)
  refine wpAny_bind (wpAny_field hz rfl (x := .ref TO) rfl ?_)
  refine wpAny_bind (wpAny_setField_rec hz (by simp) fun g0 hz0 hs0 => ?_)
  replace hz0 : IsZipS g0 z TI TO .ellipsis := hz0
  replace hs0 : Heap.SameBut z hp g0 := hs0
  refine wpAny_bind ?_
  simp only [List.zipIdx_cons, List.zipIdx_nil, List.forIn_cons, List.forIn_nil]
  refine wpAny_bind (wpAny_bind (wpAny_onRaise ?_))
  show wpAny _ _ (Builtin.SmallTypes.nextOrEnd (.ref i1)) _ _ ⟨g0, g, d, tk0, os⟩
  refine nextOrEnd_item D1 hlt1 (D1.over st1 hs0 S.zf1) fun x1 p1 tk1 hx1 sn1 hp1 => ?_
  replace hp1 : Heap.SameBut i1 g0 p1 := hp1
  have hU1 : IsTupOf2 p1 TO a1 a2 := hp1.extBut _ _ S.Ti1 (hs0.extBut _ _ S.TOz hTO)
  refine wpAny_bind (wpAny_seqItems (s := ⟨p1, g, d, tk1, os⟩) hU1 rfl ?_)
  refine wpAny_bind (updateSeq_IsTupOf2 (s := ⟨p1, g, d, tk1, os⟩) hU1 fun g1 hT1 hs1 => ?_)
  replace hT1 : IsTupOf2 g1 TO x1 a2 := hT1
  replace hs1 : Heap.SameBut TO p1 g1 := hs1
  refine wpAny_bind (wpAny_letGo (wpAny_pure ?_))
  refine wpAny_bind (wpAny_bind (wpAny_onRaise ?_))
  show wpAny _ _ (Builtin.SmallTypes.nextOrEnd (.ref i2)) _ _ ⟨g1, g, d, tk1, os⟩
  refine nextOrEnd_item D2 hlt2 (D2.over (D2.over (D2.over st2 hs0 S.zf2) hp1 S.sep1_2) hs1 S.Tf2) fun x2 p2 tk2 hx2 sn2 hp2 => ?_
  replace hp2 : Heap.SameBut i2 g1 p2 := hp2
  have hU2 : IsTupOf2 p2 TO x1 a2 := hp2.extBut _ _ S.Ti2 hT1
  refine wpAny_bind (wpAny_seqItems (s := ⟨p2, g, d, tk2, os⟩) hU2 rfl ?_)
  refine wpAny_bind (updateSeq_IsTupOf2 (s := ⟨p2, g, d, tk2, os⟩) hU2 fun g2 hT2 hs2 => ?_)
  replace hT2 : IsTupOf2 g2 TO x1 x2 := hT2
  replace hs2 : Heap.SameBut TO p2 g2 := hs2
  refine wpAny_bind (wpAny_letGo (wpAny_pure (wpAny_pure ?_)))
  refine wpAny_bind (wpAny_seqItems (s := ⟨g2, g, d, tk2, os⟩) hT2 rfl ?_)
  refine wpAny_bind (wpAny_newTuple ?_)
  have hsz : g2.objs.size = hp.objs.size := by rw [hs2.1, hp2.1, hs1.1, hp1.1, hs0.1]
  have hzz : IsZipS g2 z TI TO .ellipsis := (hs2.extBut _ _ S.TOz.symm (hp2.extBut _ _ S.zi2 (hs1.extBut _ _ S.TOz.symm (hp1.extBut _ _ S.zi1 hz0))))
  have hkk : ∀ c o, c ≠ z → c ≠ TO → c ≠ i1 → c ≠ i2 → hp.get? c = some o → g2.get? c = some o := fun c o cz cT c1 c2 e =>
    (hs2.extBut _ _ cT (hp2.extBut _ _ c2 (hs1.extBut _ _ cT (hp1.extBut _ _ c1 (hs0.extBut _ _ cz e)))))
  have hj1 : St1 (i + 1) g2 := (D1.over (D1.over (D1.over sn1 hs1 S.Tf1) hp2 S.sep2_1) hs2 S.Tf1)
  have hj2 : St2 (i + 1) g2 := (D2.over sn2 hs2 S.Tf2)
  have hzlt : z < g2.objs.size := Heap.lt_size hzz
  show wpAny _ _ (Builtin.SmallTypes.ownedTupleHandOut (.ref z) (.ref g2.objs.size) >>= _) _ _ ⟨g2.push { cls := .type "tuple", data := .seq #[x1, x2] }, g, d, tk2, os⟩
  refine wpAny_bind ?_
  unfold Builtin.SmallTypes.ownedTupleHandOut
  have hz₆ : IsZipS (g2.push { cls := .type "tuple", data := .seq #[x1, x2] }) z TI TO .ellipsis := Heap.get?_push_of_some _ hzz
  refine wpAny_bind (wpAny_setField_rec hz₆ (by simp) fun h₇ hz₇ hs₇ => ?_)
  replace hz₇ : IsZipS h₇ z TI TO (rawInt g2.objs.size) := hz₇
  refine wpAny_setField_rec hz₇ (by simp) fun h₈ hz₈ hs₈ => ?_
  replace hz₈ : IsZipS h₈ z TI TO (rawInt g2.objs.size) := hz₈
  replace hs₇ : Heap.SameBut z (g2.push { cls := .type "tuple", data := .seq #[x1, x2] }) h₇ := hs₇
  replace hs₈ : Heap.SameBut z h₇ h₈ := hs₈
  have up : ∀ c o, c ≠ z → g2.get? c = some o → h₈.get? c = some o := fun c o c1 e => hs₈.extBut _ _ c1 (hs₇.extBut _ _ c1 (Heap.get?_push_of_some _ e))
  have hT₈ : IsTupOf2 h₈ g2.objs.size x1 x2 := hs₈.extBut _ _ (Nat.ne_of_gt hzlt) (hs₇.extBut _ _ (Nat.ne_of_gt hzlt) (Heap.get?_push_size _ rfl))
  have hz8 : h₈.objs.size = g2.objs.size + 1 := by rw [hs₈.1, hs₇.1, Heap.size_push]
  rw [hsz] at hz₈ hT₈ hz8
  refine wpAny_pure ⟨_, rfl, ?_⟩
  show Q (.ref g2.objs.size) ⟨h₈, g, d, tk2, os⟩
  rw [hsz]
  exact hQ x1 x2 h₈ tk2 hx1 hx2 hz₈ (up _ _ S.TOz hT2) (D1.frame _ _ _ hj1 fun b hb o e => up b o (fun q => S.zf1 (q ▸ hb)) e) (D2.frame _ _ _ hj2 fun b hb o e => up b o (fun q => S.zf2 (q ▸ hb)) e) hT₈ hz8 fun c o cz cT c1 c2 e => up c o cz (hkk c o cz cT c1 c2 e)

theorem zipS2_next_end {Q : Fin → Shared → Prop} (hh : A.handled = none) (S : ZipSep2 z TI TO i1 i2 fp1 fp2) (D1 : Draws prog w A i1 fp1 n1 P1 St1) (D2 : Draws prog w A i2 fp2 n2 P2 St2) (N1 : Ended prog w A i1 St1 i) (N2 : Ended prog w A i2 St2 i)
    (hz : IsZipS s.heap z TI TO .none) (hTI : IsTupOf2 s.heap TI (.ref i1) (.ref i2)) (hTO : IsTupOf2 s.heap TO a1 a2) (st1 : St1 i s.heap) (st2 : St2 i s.heap)
    (hE : ∀ h' tk e, (∀ c o, c ≠ z → c ≠ TO → c ≠ i1 → c ≠ i2 → s.heap.get? c = some o → h'.get? c = some o) → (∃ o, h'.get? e = some o ∧ o.cls = .type "StopIteration") → E (.ref e) { s with heap := h', toks := tk }) :
    wpAny (model prog w) A (Builtin.«zip.__next__» ⟨[.ref z], []⟩) Q E s := by
  obtain ⟨hp, g, d, tk0, os⟩ := s
  show wpAny _ _ (field (.ref z) 2 >>= _) _ _ _
  refine wpAny_bind (wpAny_field hz rfl (x := .bool true) rfl ?_)
  show wpAny _ _ (field (.ref z) 3 >>= _) _ _ _
  refine wpAny_bind (wpAny_field hz rfl (x := .ref TI) rfl ?_)
  refine wpAny_bind (wpAny_seqItems hTI rfl ?_)
  show wpAny _ _ (Builtin.SmallTypes.ownedTupleIsFree (.ref z) >>= _) _ _ _
  refine wpAny_bind ?_
  unfold Builtin.SmallTypes.ownedTupleIsFree
  refine wpAny_bind (wpAny_field hz rfl (x := .none) rfl (wpAny_pure ?_))
  simp only [if_true]
  refine wpAny_bind (wpAny_rule ?_)
  refine wpAny_bind (wpAny_field hz rfl (x := .ref TO) rfl ?_)
  refine wpAny_bind (wpAny_setField_rec hz (by simp) fun g0 hz0 hs0 => ?_)
  replace hz0 : IsZipS g0 z TI TO .ellipsis := hz0
  replace hs0 : Heap.SameBut z hp g0 := hs0
  refine wpAny_bind ?_
  simp only [List.zipIdx_cons, List.zipIdx_nil, List.forIn_cons, List.forIn_nil]
  refine wpAny_bind (wpAny_bind (wpAny_onRaise ?_))
  show wpAny _ _ (Builtin.SmallTypes.nextOrEnd (.ref i1)) _ _ ⟨g0, g, d, tk0, os⟩
  refine nextOrEnd_end N1 (D1.over st1 hs0 S.zf1) fun q hq => ?_
  replace hq : Heap.ExtBut i1 g0 q := hq
  have hzq : IsZipS q z TI TO .ellipsis := hq _ _ S.zi1 hz0
  refine wpAny_bind (wpAny_setField_rec (s := ⟨q, g, d, tk0, os⟩) hzq (by simp) fun q' _ hq' => ?_)
  replace hq' : Heap.SameBut z q q' := hq'
  refine wpAny_bind ?_
  show wpAny _ _ (forIn ((List.drop 1 [Value.ref i1, Value.ref i2]).zipIdx 1) _ _ >>= _) _ _ _
  simp only [List.drop_succ_cons, List.drop_zero, List.zipIdx_cons, List.zipIdx_nil, List.forIn_cons, List.forIn_nil]
  refine wpAny_bind (wpAny_bind ?_)
  have st2' : St2 i q' := D2.over (D2.frame _ _ _ (D2.over st2 hs0 S.zf2) fun b hb o e => hq _ _ (fun x => S.sep1_2 (x ▸ hb)) e) hq' S.zf2
  refine wpAny_bind (nextOrEnd_end (s := ⟨q', g, d, tk0, os⟩) N2 st2' fun r hr => ?_)
  replace hr : Heap.ExtBut i2 q' r := hr
  show wpAny _ _ (Pure.pure (ForInStep.yield PUnit.unit)) _ _ _
  refine wpAny_pure (wpAny_pure ?_)
  refine wpAny_bind (wpAny_rule ?_)
  unfold Builtin.SmallTypes.stopIteration
  refine wpAny_bind ?_
  simp only [newExc, newTuple]
  refine wpAny_bind (wpAny_newObj_type ?_ (by size_fits))
  refine wpAny_bind (m := firstArgMember _ _) (wpAny_of_eq (a := Value.none) (by first | rfl | (simp only [firstArgMember]; rfl)) ?_)
  refine wpAny_newObj_type ?_ (by size_fits)
  simp only [raiseNew]
  refine wpAny_bind (wpAny_handled ?_)
  first | rw [show A.in1.handled = none from hh] | rw [hh]
  refine wpAny_bind (wpAny_pure (wpAny_throw ?_))
  exact hE _ _ _ (fun c o cz cT c1 c2 x => Heap.get?_push_of_some _ (Heap.get?_push_of_some _ (hr _ _ c2 (hq'.extBut _ _ cz (hq _ _ c1 (hs0.extBut _ _ cz x)))))) ⟨_, Heap.get?_push_size _ rfl, rfl⟩
theorem pyNext_zipS2_item {Q : Option Value → Shared → Prop} (S : ZipSep2 z TI TO i1 i2 fp1 fp2) (D1 : Draws prog w A.in1 i1 fp1 n1 P1 St1) (D2 : Draws prog w A.in1 i2 fp2 n2 P2 St2)
    (hz : IsZipS s.heap z TI TO .none) (hTI : IsTupOf2 s.heap TI (.ref i1) (.ref i2)) (hTO : IsTupOf2 s.heap TO a1 a2) (st1 : St1 i s.heap) (st2 : St2 i s.heap) (hlt1 : i < n1) (hlt2 : i < n2)
    (hQ : ∀ x1 x2 h' tk, P1 i x1 → P2 i x2 → IsZipS h' z TI TO (rawInt s.heap.objs.size) → IsTupOf2 h' TO x1 x2 → St1 (i + 1) h' → St2 (i + 1) h' → IsTupOf2 h' s.heap.objs.size x1 x2 → h'.objs.size = s.heap.objs.size + 1 →
      (∀ c o, c ≠ z → c ≠ TO → c ≠ i1 → c ≠ i2 → s.heap.get? c = some o → h'.get? c = some o) → Q (some (.ref s.heap.objs.size)) { s with heap := h', toks := tk }) :
    wpAny (model prog w) A (pyNext (.ref z)) Q E s := by
  have hT : s.TypeIs (.ref z) "zip" := ⟨_, hz, rfl⟩
  unfold pyNext
  exact wpAny_bind (wpAny_attempt (wpAny_callSpecial?_slot (name := Str.ofString "__next__") hT F.slot_zip_next
    (wpAny_call_entry F.slot_zip_next hT F.entry_zip_next
      (zipS2_next_item S D1 D2 hz hTI hTO st1 st2 hlt1 hlt2 fun x1 x2 h' tk y1 y2 b1 b2 d1 d2 b5 b6 b7 => wpAny_pure (hQ x1 x2 h' tk y1 y2 b1 b2 d1 d2 b5 b6 b7)) (F.args_zip_next_1 _))))
theorem pyNext_zipS2_end {Q : Option Value → Shared → Prop} (hh : A.handled = none) (S : ZipSep2 z TI TO i1 i2 fp1 fp2) (D1 : Draws prog w A.in1 i1 fp1 n1 P1 St1) (D2 : Draws prog w A.in1 i2 fp2 n2 P2 St2) (N1 : Ended prog w A.in1 i1 St1 i) (N2 : Ended prog w A.in1 i2 St2 i)
    (hz : IsZipS s.heap z TI TO .none) (hTI : IsTupOf2 s.heap TI (.ref i1) (.ref i2)) (hTO : IsTupOf2 s.heap TO a1 a2) (st1 : St1 i s.heap) (st2 : St2 i s.heap)
    (hQ : ∀ h' tk, (∀ c o, c ≠ z → c ≠ TO → c ≠ i1 → c ≠ i2 → s.heap.get? c = some o → h'.get? c = some o) → Q none { s with heap := h', toks := tk }) : wpAny (model prog w) A (pyNext (.ref z)) Q E s := by
  have hT : s.TypeIs (.ref z) "zip" := ⟨_, hz, rfl⟩
  unfold pyNext
  refine wpAny_bind (wpAny_attempt (wpAny_callSpecial?_slot (name := Str.ofString "__next__") hT F.slot_zip_next
    (wpAny_call_entry F.slot_zip_next hT F.entry_zip_next (zipS2_next_end (show A.in1.handled = none from hh) S D1 D2 N1 N2 hz hTI hTO st1 st2 fun h' tk e hk he => ?_) (F.args_zip_next_1 _))))
  obtain ⟨o, ho, hc⟩ := he
  refine wpAny_bind (wpAny_isInstance (T := "StopIteration") (b := true) ⟨o, ho, hc⟩ isSubtype_stop ?_)
  exact wpAny_pure (hQ _ _ hk)
theorem letGo_zipS {elts : List Expr} {x1} {pos : Pos} {T : Addr} {Q : Unit → Shared → Prop} (hz : IsZipS s.heap z TI TO (rawInt T))
    (hQ : ∀ h', IsZipS h' z TI TO .none → Heap.SameBut z s.heap h' → Q () { s with heap := h' }) :
    wpAny (model prog w) A (letOwnedTupleGo (.Tuple elts x1 pos) (.ref z) (.ref T)) Q E s := by
  unfold letOwnedTupleGo
  refine wpAny_bind (wpAny_load hz ?_)
  show wpAny _ _ (if (["enumerate", "zip", "dict_itemiterator", "dict_reverseitemiterator", "odict_iterator", "itertools.zip_longest", "itertools.pairwise"].contains "zip" &&
      (#[rawInt T, .bool false, .bool true, .ref TI, .ref TO] : Array Value)[0]? == some (rawInt T)) = true then _ else _) Q E s
  rw [if_pos (by simp)]
  refine wpAny_bind (wpAny_rule ?_)
  show wpAny _ _ (setField (.ref z) 0 .none) Q E s
  exact wpAny_setField_rec hz (by simp) fun h' hz' hs' => hQ h' hz' hs'
theorem pyIter_zipS {f0 : Value} {Q : Value → Shared → Prop} (hz : IsZipS s.heap z TI TO f0) (h : Q (.ref z) s) : wpAny (model prog w) A (pyIter (.ref z)) Q E s := by
  have hT : s.TypeIs (.ref z) "zip" := ⟨_, hz, rfl⟩
  refine wpAny_pyIter_slot hT F.slot_zip_iter (wpAny_call_entry F.slot_zip_iter hT F.entry_zip_iter ?_ (F.args_zip_iter_1 _))
  show wpAny _ _ (ret (.ref z)) _ _ s
  exact wpAny_pure ⟨_, rfl, "zip", _, hT, F.slot_zip_next.lookup, h⟩
end
/-! ### zip(v1, v2, strict=True) begins -/
theorem typeCall_zipS (a b : Value) : checkTypeCall "zip" ⟨[a, b], [(Str.ofString "strict", .bool true)]⟩ = pure () := by kernel_rfl
theorem newCall_zipS (a b : Value) : checkBuiltinCall "zip.__new__" ⟨[.type "zip", a, b], [(Str.ofString "strict", .bool true)]⟩ = pure () := by kernel_rfl
theorem args_object_init_zipS (obj a b : Value) : argsOk "object.__init__" ⟨[obj, a, b], [(Str.ofString "strict", .bool true)]⟩ := by unfold argsOk; kernel_rfl
abbrev gsZ2 (h : Heap) (o1 o2 : Obj) : Heap := (gzO2 h o1 o2).push { cls := .type "zip", data := .fields #[.none, .bool false, .bool true, .ref ((h.push o1).push o2).objs.size, .ref (gzT2 h o1 o2).objs.size] }
theorem meets_zip_newS {v1 v2 : Value} {o1 o2 : Obj} {H1 H2 : Heap → Prop} (B1 : Begins v1 o1 H1) (B2 : Begins v2 o2 H2) :
    Meets (Builtin.«zip.__new__» ⟨[.type "zip", v1, v2], [(Str.ofString "strict", .bool true)]⟩) (fun _ R s => (H1 s.heap ∧ H2 s.heap) ∧
      R (.ok (.ret (.ref (gzO2 s.heap o1 o2).objs.size))) { s with heap := gsZ2 s.heap o1 o2 }) :=
  .of_wp fun prog w A R s h => by
    obtain ⟨hp, g, d, tk, os⟩ := s; obtain ⟨⟨h1, h2⟩, h⟩ := h
    have hsub := sub_zip
    have e1 : (Str.ofString "strict" == ("strict" : Str)) = true := by decide +kernel
    have e2 : (Str.ofString "strict" != ("strict" : Str)) = false := by decide +kernel
    have q1 : ∀ {A' : Around} {E : Value → Shared → Prop} {Q : Value → Shared → Prop}, Q (.ref hp.objs.size) ⟨(hp.push o1), g, d, tk, os⟩ → wpAny (model prog w) A' (pyIter v1) Q E ⟨hp, g, d, tk, os⟩ :=
      fun q => B1.iter prog w _ _ ⟨hp, g, d, tk, os⟩ _ (B1.keeps _ _ h1 fun b o' e => e) q
    have q2 : ∀ {A' : Around} {E : Value → Shared → Prop} {Q : Value → Shared → Prop}, Q (.ref (hp.push o1).objs.size) ⟨((hp.push o1).push o2), g, d, tk, os⟩ → wpAny (model prog w) A' (pyIter v2) Q E ⟨(hp.push o1), g, d, tk, os⟩ :=
      fun q => B2.iter prog w _ _ ⟨(hp.push o1), g, d, tk, os⟩ _ (B2.keeps _ _ h2 fun b o' e => (Heap.get?_push_of_some _ e)) q
    wp_walk using q1, q2
    exact ⟨_, rfl, h⟩
section
variable {prog : Program} {w : World} {A : Around} {E : Value → Shared → Prop} {s : Shared}
theorem zipS_begins {v1 v2 : Value} {o1 o2 : Obj} {H1 H2 : Heap → Prop} {Q : Value → Shared → Prop} (B1 : Begins v1 o1 H1) (B2 : Begins v2 o2 H2) (h1 : H1 s.heap) (h2 : H2 s.heap)
    (h : ∀ h', IsZipS h' (s.heap.objs.size + 4) (s.heap.objs.size + 2) (s.heap.objs.size + 3) .none → IsTupOf2 h' (s.heap.objs.size + 2) (.ref s.heap.objs.size) (.ref (s.heap.objs.size + 1)) →
      IsTupOf2 h' (s.heap.objs.size + 3) .none .none → h'.get? s.heap.objs.size = some o1 → h'.get? (s.heap.objs.size + 1) = some o2 → h'.objs.size = s.heap.objs.size + 5 →
      (∀ c o, s.heap.get? c = some o → h'.get? c = some o) → Q (.ref (s.heap.objs.size + 4)) { s with heap := h' }) :
    wpAny (model prog w) A (call (.type "zip") [v1, v2] [(Str.ofString "strict", .bool true)]) Q E s := by
  refine callType_newKw F.called_zip (by decide) (typeCall_zipS _ _) (newCall_zipS _ _) (fun obj => args_object_init_zipS obj _ _) F.entry_zip_new
    (meets_zip_newS B1 B2) ⟨⟨h1, h2⟩, ?_⟩
  have z1 : (s.heap.push o1).objs.size = s.heap.objs.size + 1 := by rw [Heap.size_push]
  have z2 : ((s.heap.push o1).push o2).objs.size = s.heap.objs.size + 2 := by rw [Heap.size_push, z1]
  have zT : (gzT2 s.heap o1 o2).objs.size = s.heap.objs.size + 3 := by rw [Heap.size_push, z2]
  have zO : (gzO2 s.heap o1 o2).objs.size = s.heap.objs.size + 4 := by rw [Heap.size_push, zT]
  have zZ : (gsZ2 s.heap o1 o2).objs.size = s.heap.objs.size + 5 := by rw [Heap.size_push, zO]
  have gZ : (gsZ2 s.heap o1 o2).get? (gzO2 s.heap o1 o2).objs.size = some { cls := .type "zip", data := .fields #[.none, .bool false, .bool true, .ref ((s.heap.push o1).push o2).objs.size, .ref (gzT2 s.heap o1 o2).objs.size] } := Heap.get?_push_size _ rfl
  have gO : (gsZ2 s.heap o1 o2).get? (gzT2 s.heap o1 o2).objs.size = some { cls := .type "tuple", data := .seq #[.none, .none] } := Heap.get?_push_of_some _ (Heap.get?_push_size _ rfl)
  have gT : (gsZ2 s.heap o1 o2).get? ((s.heap.push o1).push o2).objs.size = some { cls := .type "tuple", data := .seq #[.ref s.heap.objs.size, .ref (s.heap.push o1).objs.size] } := Heap.get?_push_of_some _ (Heap.get?_push_of_some _ (Heap.get?_push_size _ rfl))
  have g1 : (gsZ2 s.heap o1 o2).get? s.heap.objs.size = some o1 := Heap.get?_push_of_some _ (Heap.get?_push_of_some _ (Heap.get?_push_of_some _ (Heap.get?_push_of_some _ (Heap.get?_push_size _ B1.free))))
  have g2 : (gsZ2 s.heap o1 o2).get? (s.heap.push o1).objs.size = some o2 := Heap.get?_push_of_some _ (Heap.get?_push_of_some _ (Heap.get?_push_of_some _ (Heap.get?_push_size _ B2.free)))
  rw [zO, zT, z2] at gZ
  rw [zT] at gO
  rw [z2, z1] at gT
  rw [z1] at g2
  show _ ∧ _
  rw [zO]
  exact ⟨⟨_, gZ, rfl⟩, h _ gZ gT gO g1 g2 zZ fun c o e => Heap.get?_push_of_some _ (Heap.get?_push_of_some _ (Heap.get?_push_of_some _ (Heap.get?_push_of_some _ (Heap.get?_push_of_some _ e))))⟩
/-! ### a sequence: a tuple (true) or a list -/
def PlaceB (b : Bool) (h : Heap) (a : Addr) (its : Array Value) : Prop := match b with
  | true => h.IsTuple a its
  | false => h.IsList a its
def IterB (b : Bool) (h : Heap) (it a : Addr) (i : Nat) : Prop := match b with
  | true => h.IsTupleIter it a i
  | false => h.IsListIter it a i
def objB (b : Bool) (a : Addr) : Obj := match b with
  | true => { cls := .type "tuple_iterator", data := .fields #[.ref a, .int 0 0] }
  | false => { cls := .type "list_iterator", data := .fields #[.ref a, .int 0 0] }
theorem begB (b : Bool) (a : Addr) (its : Array Value) : Begins (.ref a) (objB b a) fun h => PlaceB b h a its := match b with
  | true => begins_tuple a its
  | false => begins_list a its
theorem iterB_new {b : Bool} {h : Heap} {it a : Addr} (e : h.get? it = some (objB b a)) : IterB b h it a 0 := match b, e with
  | true, e => ⟨_, e, rfl, rfl⟩
  | false, e => ⟨_, e, rfl, rfl⟩
theorem IterB.at' {b : Bool} {h h' : Heap} {it a : Addr} {i : Nat} (x : IterB b h it a i) (k : ∀ o, h.get? it = some o → h'.get? it = some o) : IterB b h' it a i := match b, x with
  | true, x => Heap.IsTupleIter.at x k
  | false, x => Heap.IsListIter.at x k
theorem IterB.obj {b : Bool} {h : Heap} {it a : Addr} {i : Nat} (x : IterB b h it a i) : ∃ o, h.get? it = some o ∧ ∀ v, o.data ≠ .cell v := match b, x with
  | true, ⟨o, e, _, d⟩ => ⟨o, e, fun v q => by rw [d] at q; cases q⟩
  | false, ⟨o, e, _, d⟩ => ⟨o, e, fun v q => by rw [d] at q; cases q⟩
theorem PlaceB.lt {b : Bool} {h : Heap} {a : Addr} {its : Array Value} (x : PlaceB b h a its) : a < h.objs.size := match b, x with
  | true, ⟨_, e, _⟩ => Heap.lt_size e
  | false, ⟨_, e, _⟩ => Heap.lt_size e
theorem drawsB (hh : A.handled = none) (b : Bool) (it a : Addr) (hne : a ≠ it) (its : Array Value) : Draws prog w A it [it, a] its.size (fun i v => its[i]? = some v) (fun i h => IterB b h it a i ∧ PlaceB b h a its) := match b with
  | true => Draws.tuple hh it a hne its
  | false => Draws.list hh it a hne its
theorem endedB (hh : A.handled = none) (b : Bool) (it a : Addr) (its : Array Value) {i : Nat} (hi : its.size ≤ i) : Ended prog w A it (fun i h => IterB b h it a i ∧ PlaceB b h a its) i := fun s Q E st hE => by
  have hx : its[i]? = none := Array.getElem?_eq_none hi
  cases b with
  | true => exact wpAny_nextOf_tuple_end hh st.1 st.2 hx hE
  | false => exact wpAny_nextOf_list_end hh st.1 st.2 hx hE
end
section
variable {M : Model} {A : Around} {E : Value → Shared → Prop} {s : Shared} {env : Env}
theorem callWith_type_kw {pos : Pos} {T : String} {e : Expr} {rest : List Expr} {kws : List Keyword} {Q : Value → Shared → Prop}
    (h : wpAny M A (spliced (backTo pos (starEach (e :: rest) env))) (fun vs s₁ => wpAny M A (evalAll ((backToKw pos (keywordEach kws env)).map (·.2)))
      (fun kvs s₂ => wpAny M A (call (.type T) vs (((backToKw pos (keywordEach kws env)).filterMap (·.1)).zip kvs)) Q E s₂) E s₁) E s)
    (he : backTo pos (starEach (e :: rest) env) = (false, eval e env) :: backTo pos (starEach rest env) := by rfl)
    (hplain : (backTo pos (starEach (e :: rest) env)).any (·.1) = false := by rfl)
    (hall : (backToKw pos (keywordEach kws env)).all (·.1.isSome) = true := by rfl)
    (hkw : (backToKw pos (keywordEach kws env)).any (·.1.isNone) = false := by rfl) :
    wpAny M A (callWith pos (.type T) [] (backTo pos (starEach (e :: rest) env)) (backToKw pos (keywordEach kws env))) Q E s := by
  unfold callWith
  have h2 : wpAny M A (evalArgs (.type T) true (backTo pos (starEach (e :: rest) env)) (backToKw pos (keywordEach kws env))) (fun a s₁ => wpAny M A (call (.type T) ([] ++ a.pos) a.kw) Q E s₁) E s := by
    rw [he] at h ⊢
    exact PyProof.Rows.evalArgs_kwB hall h
  refine wpAny_bind (wpAny_holding (wpAny_mono h2 (fun a s₁ h₁ => wpAny_bind (wpAny_standAt ?_)) fun _ _ x => x))
  simp only [hplain, hkw, Bool.or_false]
  refine wpAny_bind (wpAny_pure ?_)
  exact wpAny_bind (wpAny_mono h₁ (fun r s₂ hr => wpAny_bind (wpAny_holding (wpAny_point (wpAny_pure hr)))) fun _ _ x => x)
end
end ZS
namespace DL
open PySem PySem.Spec PyProof.Rows L2 ZS
def SqB (K : PySem.W.Frag) (b : Bool) (H : Hp) (a : Addr) (xs : List V) : Prop := match b with
  | true => SqT K H a xs
  | false => SqL K H a xs
theorem placeB {X : Cx} {pins : List (Addr × Obj)} {σ : L2.St} {H : Hp} {s : Shared} (I : L2.Inv X pins σ H s) {b : Bool} {a : Addr} {xs : List V} (h : SqB X.K b H a xs) : ∃ its, Vals xs its ∧ PlaceB b s.heap a its.toArray := match b, h with
  | true, h => by
    obtain ⟨its, rv, p, _⟩ := I.tuple h
    exact ⟨its, rv, p⟩
  | false, h => by
    obtain ⟨its, rv, p, _⟩ := I.list h
    exact ⟨its, rv, p.isList⟩
theorem sqB_inj {X : Cx} {pins : List (Addr × Obj)} {σ : L2.St} {H : Hp} {s : Shared} (I : L2.Inv X pins σ H s) {b : Bool} {a : Addr} {xs ys : List V} (h : SqB X.K b H a xs) (h2 : SqB X.K b H a ys) : xs = ys := match b, h, h2 with
  | true, h, h2 => I.tuple_inj h h2
  | false, h, h2 => I.list_inj h h2
/-- two sequences as they stand at each turn, of one length -/
def Its2 (K : PySem.W.Frag) (b1 b2 : Bool) (a b : Addr) : It :=
  ⟨fun i H => ∃ (xs ys : List V) (x y : V), SqB K b1 H a xs ∧ SqB K b2 H b ys ∧ xs[i]? = some x ∧ ys[i]? = some y,
    fun i H v H' => ∃ T x y, v = .ref T ∧ H T = none ∧ H' = upd H T (.tup [x, y]) ∧ (∀ xs, SqB K b1 H a xs → xs[i]? = some x) ∧ ∀ ys, SqB K b2 H b ys → ys[i]? = some y,
    fun i H => ∃ xs ys : List V, SqB K b1 H a xs ∧ SqB K b2 H b ys ∧ xs.length ≤ i ∧ ys.length ≤ i⟩
theorem turn_zipS {P : Program} {w : World} {K : PySem.W.Frag} {elts : List Expr} {kk : Nat} {tpos : Pos} {b1 b2 : Bool} {a b z TI TO i1 i2 : Addr} (D : ZipSep2 z TI TO i1 i2 [i1, a] [i2, b]) (ha : a ≠ i1) (hb : b ≠ i2) :
    Turn P w K (.Tuple elts kk tpos) (Its2 K b1 b2 a b) [z, TI, TO, i1, i2] z (fun i h => IsZipS h z TI TO .none ∧ IsTupOf2 h TI (.ref i1) (.ref i2) ∧ (∃ x y, IsTupOf2 h TO x y) ∧ IterB b1 h i1 a i ∧ IterB b2 h i2 b i) where
  mem := by simp
  obj := fun i h st c hc => by
    obtain ⟨hz, hTI, ⟨x, y, hTO⟩, h1, h2⟩ := st
    have e' : c = z ∨ c = TI ∨ c = TO ∨ c = i1 ∨ c = i2 := by simpa using hc
    rcases e' with q | q | q | q | q
    · rw [q]; exact ⟨_, hz, fun v q => nomatch q⟩
    · rw [q]; exact ⟨_, hTI, fun v q => nomatch q⟩
    · rw [q]; exact ⟨_, hTO, fun v q => nomatch q⟩
    · rw [q]; exact h1.obj
    · rw [q]; exact h2.obj
  keep := fun i h h' st k => by
    obtain ⟨hz, hTI, ⟨x, y, hTO⟩, h1, h2⟩ := st
    exact ⟨k z (by simp) _ hz, k TI (by simp) _ hTI, ⟨x, y, k TO (by simp) _ hTO⟩, h1.at' fun o q => k i1 (by simp) o q, h2.at' fun o q => k i2 (by simp) o q⟩
  item := by
    intro X hP hw hK hc i pins s σ H E I hf st hg
    subst hP hw hK
    obtain ⟨hz, hTI, ⟨x0, y0, hTO⟩, h1, h2⟩ := st
    obtain ⟨xs, ys, x, y, hqx, hqy, hx, hy⟩ := hg
    obtain ⟨its, rv, p⟩ := placeB I hqx
    obtain ⟨its2, rv2, p2⟩ := placeB I hqy
    obtain ⟨u, hu, ru⟩ := rv.get hx
    obtain ⟨u2, hu2, ru2⟩ := rv2.get hy
    have hzl : z < s.heap.objs.size := Heap.lt_size hz
    have hl1 : i < its.toArray.size := by
      have := (List.getElem?_eq_some_iff.mp hu).1
      simpa using this
    have hl2 : i < its2.toArray.size := by
      have := (List.getElem?_eq_some_iff.mp hu2).1
      simpa using this
    have hd := I.ok.hd hc
    refine pyNext_zipS2_item D (drawsB (prog := X.prog) (w := X.w) (A := X.A.in1) hd b1 i1 a ha its.toArray) (drawsB (prog := X.prog) (w := X.w) (A := X.A.in1) hd b2 i2 b hb its2.toArray) hz hTI hTO ⟨h1, p⟩ ⟨h2, p2⟩ hl1 hl2 fun v1 v2 h' tk hv1 hv2 z' TO' h1' h2' hT hsz hk => ?_
    obtain rfl : v1 = u := by
      have : its[i]? = some v1 := by simpa using hv1
      rw [hu] at this; exact (Option.some.inj this).symm
    obtain rfl : v2 = u2 := by
      have : its2[i]? = some v2 := by simpa using hv2
      rw [hu2] at this; exact (Option.some.inj this).symm
    refine ⟨_, rfl, letGo_zipS (s := { s with heap := h', toks := tk }) z' fun h'' z'' sb => ?_⟩
    have hT2 : h''.get? s.heap.objs.size = some { cls := .type "tuple", data := .seq #[v1, v2] } := (sb.2 _ (Nat.ne_of_gt hzl)).trans hT
    have new : ObjOk X.prog X.w (upd H s.heap.objs.size (.tup [x, y])) h'' s.heap.objs.size (.tup [x, y]) :=
      ⟨by show 2 ≤ sizeLine; decide, [v1, v2], .cons ru (.cons ru2 .nil), ⟨_, hT2, rfl, _, rfl⟩⟩
    have I1 : Inv X pins σ (upd H s.heap.objs.size (.tup [x, y])) { s with heap := h'', toks := tk } :=
      I.turnedNew (t' := tk) (ch := [z, TI, TO, i1, i2]) (fun c o hb q => (sb.2 c (fun q' => hb (by simp [q']))).trans (hk c o (fun q' => hb (by simp [q'])) (fun q' => hb (by simp [q'])) (fun q' => hb (by simp [q'])) (fun q' => hb (by simp [q'])) q)) hf (Nat.le_refl _) new
    refine ⟨.ref s.heap.objs.size, _, I1, rfl, ⟨_, x, y, rfl, I.hok.fresh (Nat.le_refl _), rfl, fun l hl => by rw [sqB_inj I hl hqx]; exact hx, fun l hl => by rw [sqB_inj I hl hqy]; exact hy⟩, ⟨z'', ?_, ⟨v1, v2, ?_⟩, ?_, ?_⟩, fun c hcm => ?_⟩
    · exact (sb.2 _ D.TIz).trans (hk _ _ D.TIz D.TITO D.TIi1 D.TIi2 hTI)
    · exact (sb.2 _ D.TOz).trans TO'
    · exact h1'.1.at' fun o q => (sb.2 _ D.zi1.symm).trans q
    · exact h2'.1.at' fun o q => (sb.2 _ D.zi2.symm).trans q
    · have hlt : c < s.heap.objs.size := by
        have e' : c = z ∨ c = TI ∨ c = TO ∨ c = i1 ∨ c = i2 := by simpa using hcm
        rcases e' with q | q | q | q | q
        · rw [q]; exact hzl
        · rw [q]; exact Heap.lt_size hTI
        · rw [q]; exact Heap.lt_size hTO
        · rw [q]; obtain ⟨_, e1, _⟩ := h1.obj; exact Heap.lt_size e1
        · rw [q]; obtain ⟨_, e2, _⟩ := h2.obj; exact Heap.lt_size e2
      rw [upd_ne (Nat.ne_of_lt hlt)]
      exact (hf c hcm).1
  done := by
    intro X hP hw hK hc i pins s σ H E I hf st hg
    subst hP hw hK
    obtain ⟨hz, hTI, ⟨x0, y0, hTO⟩, h1, h2⟩ := st
    obtain ⟨xs, ys, hqx, hqy, he1, he2⟩ := hg
    obtain ⟨its, rv, p⟩ := placeB I hqx
    obtain ⟨its2, rv2, p2⟩ := placeB I hqy
    have l1 := rv.length
    have l2 := rv2.length
    have hd := I.ok.hd hc
    exact pyNext_zipS2_end hd D (drawsB (prog := X.prog) (w := X.w) (A := X.A.in1) hd b1 i1 a ha its.toArray) (drawsB (prog := X.prog) (w := X.w) (A := X.A.in1) hd b2 i2 b hb its2.toArray) (endedB (prog := X.prog) (w := X.w) (A := X.A.in1) hd b1 i1 a its.toArray (by simp; omega)) (endedB (prog := X.prog) (w := X.w) (A := X.A.in1) hd b2 i2 b its2.toArray (by simp; omega)) hz hTI hTO ⟨h1, p⟩ ⟨h2, p2⟩ fun h' tk hk => ⟨rfl, I.turnedL (t' := tk) (ch := [z, TI, TO, i1, i2]) (fun c o hb q =>
      hk c o (fun q' => hb (by simp [q'])) (fun q' => hb (by simp [q'])) (fun q' => hb (by simp [q'])) (fun q' => hb (by simp [q'])) q) hf⟩
  self := fun A i s Q E st h => pyIter_zipS st.1 h
def iZipS (K : PySem.W.Frag) (ta : TA) : TI := fun σ H R => ta σ H fun vs H1 => ∃ (b1 b2 : Bool) (a b : Addr) (xs ys : List V), vs = [.ref a, .ref b] ∧ SqB K b1 H1 a xs ∧ SqB K b2 H1 b ys ∧ R (Its2 K b1 b2 a b) H1
theorem sepS (n : Nat) {a b : Nat} (ha : a < n) (hb : b < n) : ZipSep2 (n + 4) (n + 2) (n + 3) n (n + 1) [n, a] [n + 1, b] := by
  have h1 : ∀ {x y : Nat}, x < y → (x : Addr) ≠ y := fun h => Nat.ne_of_lt h
  have h2 : ∀ {x y : Nat}, y < x → (x : Addr) ≠ y := fun h => Nat.ne_of_gt h
  constructor
  · exact h1 (by omega)
  · exact h1 (by omega)
  · exact h1 (by omega)
  · exact h2 (by omega)
  · exact List.mem_cons_self
  · intro h
    rcases List.mem_cons.mp h with h | h
    · exact h2 (by omega) h
    · exact h2 (x := n + 4) (y := a) (by omega) (List.mem_singleton.mp h)
  · intro h
    rcases List.mem_cons.mp h with h | h
    · exact h2 (by omega) h
    · exact h2 (x := n + 3) (y := a) (by omega) (List.mem_singleton.mp h)
  · exact h2 (by omega)
  · exact List.mem_cons_self
  · intro h
    rcases List.mem_cons.mp h with h | h
    · exact h2 (x := n + 4) (y := n + 1) (by omega) h
    · exact h2 (x := n + 4) (y := b) (by omega) (List.mem_singleton.mp h)
  · intro h
    rcases List.mem_cons.mp h with h | h
    · exact h2 (x := n + 3) (y := n + 1) (by omega) h
    · exact h2 (x := n + 3) (y := b) (by omega) (List.mem_singleton.mp h)
  · intro h
    rcases List.mem_cons.mp h with h | h
    · exact h1 (x := n) (y := n + 1) (by omega) h
    · exact h2 (x := n) (y := b) (by omega) (List.mem_singleton.mp h)
  · intro h
    rcases List.mem_cons.mp h with h | h
    · exact h2 (x := n + 1) (y := n) (by omega) h
    · exact h2 (x := n + 1) (y := a) (by omega) (List.mem_singleton.mp h)
theorem pi_zipS {X : Cx} {e e2 : Expr} {ta : TA} {p pos tpos kp pc : Pos} {elts : List Expr} {kk kc : Nat} (hg : Gl X "zip") (hm : X.mg "zip" = none) (ha : PA X [e, e2] ta)
    (hs : starEach [e, e2] X.env = (false, eval e X.env) :: starEach [e2] X.env := by rfl) (he : backTo pos (starEach [e, e2] X.env) = (false, eval e X.env) :: backTo pos (starEach [e2] X.env) := by rfl) (hpl : (backTo pos (starEach [e, e2] X.env)).any (·.1) = false := by rfl)
    (hall : (backToKw pos (keywordEach [⟨some (Str.ofString "strict"), .Constant (.bool true) kc pc, kp⟩] X.env)).all (·.1.isSome) = true := by rfl) (hnone : (backToKw pos (keywordEach [⟨some (Str.ofString "strict"), .Constant (.bool true) kc pc, kp⟩] X.env)).any (·.1.isNone) = false := by rfl) (hks : (backToKw pos (keywordEach [⟨some (Str.ofString "strict"), .Constant (.bool true) kc pc, kp⟩] X.env)).filterMap (·.1) = [Str.ofString "strict"] := by rfl) :
    PI X (.Tuple elts kk tpos) (.Call (.Name "zip" p) [e, e2] [⟨some (Str.ofString "strict"), .Constant (.bool true) kc pc, kp⟩] pos) (iZipS X.K ta) := by
  refine ⟨fun pins s σ H R I h => ?_⟩
  refine wpAny_Call_Name_kw (ld_blt I hg hm PyProof.Rows.boot_zip (callWith_type_kw (thn (ha.run pos pins s σ H _ I h) fun us s1 ⟨vs, H1, I1, r1, q1⟩ => ?_) he hpl hall hnone))
  refine thn ((pk_cons (nm := some (Str.ofString "strict")) pe_bl pk_nil).run pos pins s1 σ H1 (fun zs H2 => zs = [.bl true] ∧ H2 = H1) I1 ⟨rfl, rfl⟩) fun ws s2 ⟨zs, H2, I2, r2, ez, eh⟩ => ?_
  subst ez eh
  obtain ⟨b1, b2, a, b, xs, ys, ex, hqx, hqy, q⟩ := q1
  subst ex
  rw [hks]
  cases r2 with
  | cons ru rr =>
    cases rr
    cases ru
    cases r1 with
    | cons r rr =>
      cases rr with
      | cons r' rr =>
        cases rr
        cases r
        cases r'
        obtain ⟨its, rv, p1⟩ := placeB I2 hqx
        obtain ⟨its2, rv2, p2⟩ := placeB I2 hqy
        refine zipS_begins (begB b1 a its.toArray) (begB b2 b its2.toArray) p1 p2 fun h' hz hTI hTO g1 g2 hsz hk => pyIter_zipS hz ?_
        have I3 : L2.Inv X pins σ H2 { s2 with heap := h' } := I2.kept (t' := s2.toks) hk
        have la := p1.lt
        have lb := p2.lt
        refine ⟨s2.heap.objs.size + 4, [s2.heap.objs.size + 4, s2.heap.objs.size + 2, s2.heap.objs.size + 3, s2.heap.objs.size, s2.heap.objs.size + 1], _, _, H2, rfl, I3, turn_zipS (b1 := b1) (b2 := b2) (sepS s2.heap.objs.size la lb) (Nat.ne_of_lt la) (Nat.ne_of_lt (Nat.lt_succ_of_lt lb)), ⟨hz, hTI, ⟨_, _, hTO⟩, iterB_new g1, iterB_new g2⟩, fun c hcm => ?_, q⟩
        have e' : c = s2.heap.objs.size + 4 ∨ c = s2.heap.objs.size + 2 ∨ c = s2.heap.objs.size + 3 ∨ c = s2.heap.objs.size ∨ c = s2.heap.objs.size + 1 := by simpa using hcm
        have hle : s2.heap.objs.size ≤ c := by
          rcases e' with z | z | z | z | z
          · rw [z]; exact Nat.le_add_right _ _
          · rw [z]; exact Nat.le_add_right _ _
          · rw [z]; exact Nat.le_add_right _ _
          · rw [z]; exact Nat.le_refl _
          · rw [z]; exact Nat.le_add_right _ _
        exact I2.fpOk hle (I2.hok.fresh hle)
/-! ### the layer's rule -/
def seqD (b : Bool) (xs : List D) : D := match b with
  | true => .tuple xs
  | false => .list xs
theorem rp_seq {K : PySem.W.Frag} {F : Hp} {b : Bool} {v : V} {ds : List D} (r : Rp F v (seqD b ds)) : ∃ a xs, v = .ref a ∧ (∀ H, Ex F H → SqB K b H a xs) ∧ RpA F xs ds := by
  cases b with
  | true =>
    cases r with
    | tup ha rv => exact ⟨_, _, rfl, fun H k => .inl (.inl (k _ _ ha)), rv⟩
  | false =>
    cases r with
    | lst ha rv => exact ⟨_, _, rfl, fun H k => .inl (.inl (k _ _ ha)), rv⟩
def zipD (xs ys : List D) : List D := List.zipWith (fun x y => .tuple [x, y]) xs ys
theorem its2_d {K : PySem.W.Frag} {B F : Hp} {b1 b2 : Bool} {a b : Addr} {vs ws : List V} {xs ys : List D} (h1 : ∀ H, Ex F H → SqB K b1 H a vs) (h2 : ∀ H, Ex F H → SqB K b2 H b ws) (rv : RpA F vs xs) (rw' : RpA F ws ys) (hl : xs.length = ys.length) : ItD (Its2 K b1 b2 a b) B F (zipD xs ys) := by
  have hz : (zipD xs ys).length = xs.length := by unfold zipD; rw [List.length_zipWith]; omega
  refine ⟨fun i H kb k hi => ⟨vs, ws, h1 H k, h2 H k, by rw [rv.length]; omega, by rw [rw'.length]; omega⟩, fun i H kb k hi => ?_, fun i H x H' kb k y hi => ?_⟩
  · obtain ⟨v, e, _⟩ := rv.get' (i := i) (List.getElem?_eq_getElem (show i < xs.length by omega))
    obtain ⟨w, e2, _⟩ := rw'.get' (i := i) (List.getElem?_eq_getElem (show i < ys.length by omega))
    exact ⟨vs, ws, v, w, h1 H k, h2 H k, e, e2⟩
  · obtain ⟨T, x, y, rfl, n, rfl, f1, f2⟩ := y
    obtain ⟨d, e1, g1⟩ := rv.get (f1 vs (h1 H k))
    obtain ⟨d2, e2, g2⟩ := rw'.get (f2 ws (h2 H k))
    refine .inr (.inl ⟨T, [x, y], [d, d2], rfl, n, rfl, .cons g1 (.cons g2 .nil), ?_⟩)
    unfold zipD
    rw [List.getElem?_zipWith, e1, e2]
section
variable {X : Cx} {r : SR} {S : List Sl}
/-- for x, y in zip(a, b, strict=True), of one length -/
theorem jiZipS {e e2 : Expr} {p pos tpos kp pc : Pos} {elts : List Expr} {kk kc : Nat} {K : List D → List Sl → Prop} (b1 b2 : Bool) (hm : X.mg "zip" = none)
    (h : JE X r e S fun d1 S1 => JE X r e2 S1 fun d2 S2 => ∃ xs ys, d1 = seqD b1 xs ∧ d2 = seqD b2 ys ∧ xs.length = ys.length ∧ K (zipD xs ys) S2) (hg : Gl X "zip" := by rfl)
    (hs : starEach [e, e2] X.env = (false, eval e X.env) :: starEach [e2] X.env := by rfl) (hs2 : starEach [e2] X.env = (false, eval e2 X.env) :: starEach [] X.env := by rfl) (he : backTo pos (starEach [e, e2] X.env) = (false, eval e X.env) :: backTo pos (starEach [e2] X.env) := by rfl) (hpl : (backTo pos (starEach [e, e2] X.env)).any (·.1) = false := by rfl)
    (hall : (backToKw pos (keywordEach [⟨some (Str.ofString "strict"), .Constant (.bool true) kc pc, kp⟩] X.env)).all (·.1.isSome) = true := by rfl) (hnone : (backToKw pos (keywordEach [⟨some (Str.ofString "strict"), .Constant (.bool true) kc pc, kp⟩] X.env)).any (·.1.isNone) = false := by rfl) (hks : (backToKw pos (keywordEach [⟨some (Str.ofString "strict"), .Constant (.bool true) kc pc, kp⟩] X.env)).filterMap (·.1) = [Str.ofString "strict"] := by rfl) :
    JI X r (.Tuple elts kk tpos) (.Call (.Name "zip" p) [e, e2] [⟨some (Str.ofString "strict"), .Constant (.bool true) kc pc, kp⟩] pos) S K :=
  fun c F σ H hr E R q => of_pi (pi_zipS hg hm (pa_cons pe_tE (pa_cons pe_tE pa_nil hs2) hs) hs he hpl hall hnone hks) (h c F σ H hr E _ fun v1 d1 F1 H1 S1 h1 E1 k1 r1 => h1 c F1 σ H1 hr E1 _ fun v2 d2 F2 H2 S2 h2 E2 k2 r2 => by
    obtain ⟨xs, ys, rfl, rfl, hl, kd⟩ := h2
    obtain ⟨a, vs, rfl, s1, rv⟩ := rp_seq (K := X.K) (r1.ex k2)
    obtain ⟨b, ws, rfl, s2, rw'⟩ := rp_seq (K := X.K) r2
    exact ⟨b1, b2, a, b, vs, ws, rfl, s1 _ E2.fin.fh, s2 _ E2.fin.fh, q _ _ F2 H2 S2 kd E2 (k1.trans k2) (its2_d s1 s2 rv rw' hl)⟩)
/-- enumerate(x), x a tuple -/
theorem jenumT {e : Expr} {p pos tpos : Pos} {elts : List Expr} {kk : Nat} {K : List D → List Sl → Prop} (hm : X.mg "enumerate" = none) (h : JE X r e S fun d S1 => ∃ ds, d = .tuple ds ∧ K (enumD ds) S1) (hg : Gl X "enumerate" := by rfl) (hs : starEach [e] X.env = [(false, eval e X.env)] := by rfl) : JI X r (.Tuple elts kk tpos) (.Call (.Name "enumerate" p) [e] [] pos) S K :=
  fun c F σ H hr E R q => of_pi (pi_enumT hg hm (pa_cons pe_tE pa_nil hs) hs) (h c F σ H hr E _ fun v d F1 H1 S1 h1 E1 k1 r1 => by
    obtain ⟨ds, rfl, kd⟩ := h1
    cases r1 with
    | @tup a xs _ ha hv => exact ⟨_, xs, rfl, .inl (E1.fin.fh _ _ ha), q _ _ F1 H1 S1 kd E1 k1 (itet_d (.inl ha) hv)⟩)
/-- a in x, x a dict of one's own -/
theorem jtdinO {K : Bool → List Sl → Prop} {a : Expr} {x : Str} {px pos : Pos} {k : Nat} (hr : Room k X.A) (i : Nat) (h : JE X r a S fun d1 S1 => ∃ ky kvs, d1 = tupI ky ∧ S1[i]? = some (.ob (.d kvs)) ∧ K (valD kvs ky).isSome S1)
    (hN : X.N[i]? = some x := by rfl) (hv : Vis X.env.scope x := by first | exact Or.inl rfl | exact Or.inr (Or.inl rfl) | exact Or.inr (Or.inr rfl)) (hd : (x == ("__debug__" : Str)) = false := by decide) (hcd : (x == ("__classdict__" : Str)) = false := by decide) (hm : behindInMarks .In (.Name x px) = false := by rfl) : JT X r (.Compare a [.In] [.Name x px] pos) S K :=
  fun c F σ H hr' E Q q => of_pt (pt_cmp (pc_din (by have := hr.un; omega) pe_tE (pe_var hN hv hd hcd)) hm) (h c F σ H hr' E _ fun v1 d1 F1 H1 S1 h1 E1 k1 r1 => by
    obtain ⟨ky, kvs, rfl, es, kk⟩ := h1
    obtain ⟨y, e1, l, hh, e2, ha, rv, nF, nb, q0⟩ := E1.sl i _ es
    subst e2
    obtain ⟨ws, rfl, rk⟩ := obr_d rv
    refine ⟨_, e1, l, _, rfl, dget_of E1.fin.fh r1 ha, ?_⟩
    rw [(rk.val ky).isSome]
    exact ⟨_, rfl, q _ F1 H1 S1 kk E1 k1⟩)
/-- a, b = {}, [] with a name that a comprehension reads -/
theorem jasgDL {x y : Str} {px py pt pos pa pb : Pos} {kt k2 pt2} {E : DE} {rest : List Stmt} (i j : Nat) (h : JSs X r rest ((S.set i (.ob (.d []))).set j (.own [])) E)
    (hc : X.calm = true := by rfl) (hN : X.N.Nodup := by assumption) (hi : X.N[i]? = some x := by rfl) (hj : X.N[j]? = some y := by rfl) (hij : i ≠ j := by decide) (hxl : Loc X.env.scope x := by first | exact Or.inl rfl | exact Or.inr rfl) (hxf : X.fn x = true ∨ X.env.scope.names.lookup x = some .local := by first | exact .inl rfl | exact .inr rfl) (hyl : Loc X.env.scope y := by first | exact Or.inl rfl | exact Or.inr rfl) (hyf : X.fn y = true ∨ X.env.scope.names.lookup y = some .local := by first | exact .inl rfl | exact .inr rfl)
    (hw : swappedStores [.Tuple [.Name x px, .Name y py] kt pt] (.Tuple [.Dict [] [] pa, .List [] pb] k2 pt2) X.env = pure none := by rfl) (hs : swapsWithSole [.Tuple [.Name x px, .Name y py] kt pt] (.Tuple [.Dict [] [] pa, .List [] pb] k2 pt2) pos.line X.env = pure false := by rfl) (h1 : (assignEach [.Tuple [.Name x px, .Name y py] kt pt] X.env).map (·.2) = [assign (.Tuple [.Name x px, .Name y py] kt pt) X.env] := by rfl)
    (hn : (assignEach [.Name x px, .Name y py] X.env).length = 2 := by rfl) (hst : (assignEach [.Name x px, .Name y py] X.env).findIdx? (·.1) = none := by rfl) (ha1 : (assignEach [.Name x px, .Name y py] X.env).map (·.2) = assign (.Name x px) X.env :: (assignEach [.Name y py] X.env).map (·.2) := by rfl) (ha2 : (assignEach [.Name y py] X.env).map (·.2) = assign (.Name y py) X.env :: (assignEach [] X.env).map (·.2) := by rfl)
    (s1 : starEach [.Dict [] [] pa, .List [] pb] X.env = (false, eval (.Dict [] [] pa) X.env) :: starEach [.List [] pb] X.env := by rfl) (s2 : starEach [.List [] pb] X.env = (false, eval (.List [] pb) X.env) :: starEach [] X.env := by rfl) :
    JSs X r (.Assign [.Tuple [.Name x px, .Name y py] kt pt] (.Tuple [.Dict [] [] pa, .List [] pb] k2 pt2) pos :: rest) S E := jss_cons fun c F σ H hr Ev G g =>
  of_ps (ps_asg (pe_tup (pa_cons pe_tE (pa_cons pe_tE pa_nil s2) s1)) (pg_tup (n := 2) hc (pgs_cons (pg_name hN hi hxl hxf) (pgs_cons (pg_name hN hj hyl hyf) pgs_nil ha2) ha1) hn hst) hs hw h1) ((jemptyD (K := fun o S1 => o = .d [] ∧ S1 = S) ⟨rfl, rfl⟩) c F σ H hr Ev _ fun p1 o F1 H1 S1 h1 n1 k1 => by
    obtain ⟨rfl, rfl⟩ := h1
    obtain ⟨hh1, E1, hp1, hv1, nF1, b1, q1, no1⟩ := n1
    have f01 : c.F0 p1 = none := by
      cases z : c.F0 p1 with
      | none => rfl
      | some u => have := E1.fin.f0 _ _ z; rw [nF1] at this; cases this
    refine (jn_lst (K := fun ds S2 => ds = [] ∧ S2 = S1) (jA0 ⟨[], rfl, Nat.zero_le _, rfl, rfl⟩)) (c.hold p1 hh1) F1 σ H1 (r.st c p1 hh1 b1 hr) (E1.hold hp1 nF1 q1 no1) _ fun p2 ds F2 H2 S2 h2 n2 k2 => ?_
    obtain ⟨rfl, rfl⟩ := h2
    obtain ⟨hh2, E2, hp2, hv2, nF2, b2, q2, no2⟩ := n2
    obtain ⟨ws1, rfl, _⟩ := obr_d hv1
    obtain ⟨ws2, rfl, _⟩ := obr_l hv2
    obtain ⟨E3, hp1', nF1', q1', no1'⟩ := E2.unhold (vs := .dT ws1) (fun xs z => nomatch z) b1 f01
    have hne : p1 ≠ p2 := fun z => by
      rw [z, hp2] at hp1'; cases hp1'
    have b2' : c.B p2 = none := by
      have : upd c.B p1 (.dT ws1) p2 = none := b2
      rw [upd_ne (fun z => hne z.symm)] at this; exact this
    refine ⟨by show 2 ≤ sizeLine; decide, fun t ht => ?_⟩
    have e1 : upd H2 t (.tup [.ref p1, .ref p2]) p1 = some (.dT ws1) := by rw [upd_ne (ne_of_none hp1' ht)]; exact hp1'
    have e2 : upd H2 t (.tup [.ref p1, .ref p2]) p2 = some (.lst ws2) := by rw [upd_ne (ne_of_none hp2 ht)]; exact hp2
    refine ⟨t, [.ref p1, .ref p2], rfl, .inl (.inl upd_same), rfl, .ref p1, [.ref p2], rfl, .ref p2, [], rfl, rfl, ?_⟩
    have E4 := E3.laid (o := .tup [.ref p1, .ref p2]) ht
    have E6 := E4.setOwn (i := i) e1 (hv1.ex k2) nF1' b1 q1' no1'
    have E7 := E6.setOwn (i := j) e2 hv2 nF2 b2' q2 (fun m xs em => by
      by_cases hm : i = m
      · subst hm
        by_cases hlen : i < σ.length
        · rw [List.getElem?_set_self hlen]
          intro z
          injection z with z
          injection z with z
          injection z with z
          exact hne z
        · rw [List.getElem?_eq_none (by rw [List.length_set]; omega)]
          intro z; cases z
      · rw [List.getElem?_set_ne hm] at em ⊢
        exact no2 m xs em)
    exact g.nx F2 _ _ _ h E7 (k1.trans k2))
/-- a, b = e, [] with a name that a comprehension reads -/
theorem jasgVL {x y : Str} {e : Expr} {px py pt pos pb : Pos} {kt k2 pt2} {E : DE} {rest : List Stmt} (i j : Nat) (h : JE X r e S fun d S1 => i < S1.length ∧ JSs X r rest ((S1.set i (.val d)).set j (.own [])) E)
    (hc : X.calm = true := by rfl) (hN : X.N.Nodup := by assumption) (hi : X.N[i]? = some x := by rfl) (hj : X.N[j]? = some y := by rfl) (hij : i ≠ j := by decide) (hxl : Loc X.env.scope x := by first | exact Or.inl rfl | exact Or.inr rfl) (hxf : X.fn x = true ∨ X.env.scope.names.lookup x = some .local := by first | exact .inl rfl | exact .inr rfl) (hyl : Loc X.env.scope y := by first | exact Or.inl rfl | exact Or.inr rfl) (hyf : X.fn y = true ∨ X.env.scope.names.lookup y = some .local := by first | exact .inl rfl | exact .inr rfl)
    (hw : swappedStores [.Tuple [.Name x px, .Name y py] kt pt] (.Tuple [e, .List [] pb] k2 pt2) X.env = pure none := by rfl) (hs : swapsWithSole [.Tuple [.Name x px, .Name y py] kt pt] (.Tuple [e, .List [] pb] k2 pt2) pos.line X.env = pure false := by rfl) (h1 : (assignEach [.Tuple [.Name x px, .Name y py] kt pt] X.env).map (·.2) = [assign (.Tuple [.Name x px, .Name y py] kt pt) X.env] := by rfl)
    (hn : (assignEach [.Name x px, .Name y py] X.env).length = 2 := by rfl) (hst : (assignEach [.Name x px, .Name y py] X.env).findIdx? (·.1) = none := by rfl) (ha1 : (assignEach [.Name x px, .Name y py] X.env).map (·.2) = assign (.Name x px) X.env :: (assignEach [.Name y py] X.env).map (·.2) := by rfl) (ha2 : (assignEach [.Name y py] X.env).map (·.2) = assign (.Name y py) X.env :: (assignEach [] X.env).map (·.2) := by rfl)
    (s1 : starEach [e, .List [] pb] X.env = (false, eval e X.env) :: starEach [.List [] pb] X.env := by rfl) (s2 : starEach [.List [] pb] X.env = (false, eval (.List [] pb) X.env) :: starEach [] X.env := by rfl) :
    JSs X r (.Assign [.Tuple [.Name x px, .Name y py] kt pt] (.Tuple [e, .List [] pb] k2 pt2) pos :: rest) S E := jss_cons fun c F σ H hr Ev G g =>
  of_ps (ps_asg (pe_tup (pa_cons pe_tE (pa_cons pe_tE pa_nil s2) s1)) (pg_tup (n := 2) hc (pgs_cons (pg_name hN hi hxl hxf) (pgs_cons (pg_name hN hj hyl hyf) pgs_nil ha2) ha1) hn hst) hs hw h1) (h c F σ H hr Ev _ fun v d F1 H1 S1 h1 E1 k1 r1 => by
    refine (jn_lst (K := fun ds S2 => ds = [] ∧ S2 = S1) (jA0 ⟨[], rfl, Nat.zero_le _, rfl, rfl⟩)) c F1 σ H1 hr E1 _ fun p2 ds F2 H2 S2 h2 n2 k2 => ?_
    obtain ⟨rfl, rfl⟩ := h2
    obtain ⟨hh2, E2, hp2, hv2, nF2, b2, q2, no2⟩ := n2
    obtain ⟨ws2, rfl, _⟩ := obr_l hv2
    refine ⟨by show 2 ≤ sizeLine; decide, fun t ht => ?_⟩
    have e2 : upd H2 t (.tup [v, .ref p2]) p2 = some (.lst ws2) := by rw [upd_ne (ne_of_none hp2 ht)]; exact hp2
    refine ⟨t, [v, .ref p2], rfl, .inl (.inl upd_same), rfl, v, [.ref p2], rfl, .ref p2, [], rfl, rfl, ?_⟩
    have E4 := E2.laid (o := .tup [v, .ref p2]) ht
    have E6 := E4.set (i := i) (r1.ex k2)
    have E7 := E6.setOwn (i := j) e2 hv2 nF2 b2 q2 (fun m xs em => by
      by_cases hm : i = m
      · subst hm
        rw [List.getElem?_set_self h1.1] at em; cases em
      · rw [List.getElem?_set_ne hm] at em ⊢
        exact no2 m xs em)
    exact g.nx F2 _ _ _ h1.2 E7 (k1.trans k2))
/-- a, b = [], e -/
theorem jpar2LV {x y : Str} {e : Expr} {px py pt pos pa : Pos} {kt k2 pt2} {E : DE} {rest : List Stmt} (i j : Nat) (h : JE X r e S fun d S3 => JSs X r rest ((S3.set i (.own [])).set j (.val d)) E)
    (hc : X.calm = true := by rfl) (hN : X.N.Nodup := by assumption) (hi : X.N[i]? = some x := by rfl) (hj : X.N[j]? = some y := by rfl) (hij : i ≠ j := by decide) (hx : X.env.scope.names.lookup x = some .local := by rfl) (hy : X.env.scope.names.lookup y = some .local := by rfl)
    (hw : swappedStores [.Tuple [.Name x px, .Name y py] kt pt] (.Tuple [.List [] pa, e] k2 pt2) X.env = pure (some [x, y]) := by rfl) (hs : swapsWithSole [.Tuple [.Name x px, .Name y py] kt pt] (.Tuple [.List [] pa, e] k2 pt2) pos.line X.env = pure false := by rfl)
    (s1 : starEach [.List [] pa, e] X.env = (false, eval (.List [] pa) X.env) :: starEach [e] X.env := by rfl) (s2 : starEach [e] X.env = (false, eval e X.env) :: starEach [] X.env := by rfl) :
    JSs X r (.Assign [.Tuple [.Name x px, .Name y py] kt pt] (.Tuple [.List [] pa, e] k2 pt2) pos :: rest) S E := jss_cons fun c F σ H hr Ev G g =>
  of_ps (ps_par hc hN hi hj hij hx hy (pa_cons pe_tE (pa_cons pe_tE pa_nil s2) s1) hw hs) ((jn_lst (K := fun ds S1 => ds = [] ∧ S1 = S) (jA0 ⟨[], rfl, Nat.zero_le _, rfl, rfl⟩)) c F σ H hr Ev _ fun p1 ds F1 H1 S1 h1 n1 k1 => by
    obtain ⟨rfl, rfl⟩ := h1
    obtain ⟨hh1, E1, hp1, hv1, nF1, b1, q1, no1⟩ := n1
    have f01 : c.F0 p1 = none := by
      cases z : c.F0 p1 with
      | none => rfl
      | some u => have := E1.fin.f0 _ _ z; rw [nF1] at this; cases this
    refine h (c.hold p1 hh1) F1 σ H1 (r.st c p1 hh1 b1 hr) (E1.hold hp1 nF1 q1 no1) _ fun v d F3 H3 S3 h3 E3 k3 r3 => ?_
    obtain ⟨ws1, rfl, _⟩ := obr_l hv1
    obtain ⟨E5, hp1', nF1', q1', no1'⟩ := E3.unhold (vs := .lst ws1) (fun xs z => nomatch z) b1 f01
    exact ⟨.ref p1, v, rfl, g.nx F3 _ H3 _ h3 ((E5.setOwn (i := i) hp1' (hv1.ex k3) nF1' b1 q1' no1').set r3) (k1.trans k3)⟩)
end
end DL

/-! DL: comprehensions over a list of one's own that stays so: `for x in xs`, `for i, x in enumerate(xs)`. -/
namespace DL
open PySem L2
theorem perm_map {α : Type} {f : α → D} {l : List α} {es : List D} (h : es.Perm (l.map f)) : ∃ ms : List α, es = ms.map f ∧ ms.Perm l := by
  generalize e : l.map f = ds at h
  induction h generalizing l with
  | nil => cases l with
    | nil => exact ⟨[], rfl, .nil⟩
    | cons _ _ => cases e
  | @cons x l1 l2 h ih => cases l with
    | nil => cases e
    | cons a l =>
      rw [List.map_cons] at e
      injection e with e1 e2
      obtain ⟨ms, rfl, hp⟩ := ih e2
      exact ⟨a :: ms, by rw [List.map_cons, e1], hp.cons a⟩
  | @swap x y l1 => cases l with
    | nil => cases e
    | cons a l => cases l with
      | nil => rw [List.map_cons] at e; injection e with e1 e2; cases e2
      | cons b l =>
        rw [List.map_cons, List.map_cons] at e
        injection e with e1 e2
        injection e2 with e2 e3
        exact ⟨b :: a :: l, by rw [List.map_cons, List.map_cons, e1, e2, e3], .swap _ _ _⟩
  | @trans l1 l2 l3 h1 h2 ih1 ih2 =>
    obtain ⟨ms, e2, hp⟩ := ih2 e
    obtain ⟨ms', e3, hp'⟩ := ih1 e2.symm
    exact ⟨ms', e3, hp'.trans hp⟩
section
variable {X : Cx} {r : SR} {S : List Sl}
theorem itl_dB {K : PySem.W.Frag} {B F : Hp} {a : Addr} {vs : List V} {ds : List D} (h : B a = some (.lst vs)) (rv : RpA F vs ds) : ItD (Itl K a) B F ds :=
  ⟨fun i H kb k hi => ⟨vs, .inl (.inl (kb _ _ h)), by rw [rv.length]; exact hi⟩,
   fun i H kb k hi => by
    obtain ⟨v, e, _⟩ := rv.get' (i := i) (List.getElem?_eq_getElem hi)
    exact ⟨vs, v, .inl (.inl (kb _ _ h)), e⟩,
   fun i H x H' kb k y hi => by
    obtain ⟨e, f⟩ := y
    obtain ⟨d, e1, e2⟩ := rv.get (f vs (.inl (.inl (kb _ _ h))))
    exact .inl ⟨e, d, e1, e2⟩⟩
theorem ite_dB {K : PySem.W.Frag} {B F : Hp} {a : Addr} {vs : List V} {ds : List D} (h : B a = some (.lst vs)) (rv : RpA F vs ds) : ItD (Ite K a) B F (enumD ds) := by
  have hl : (enumD ds).length = ds.length := by unfold enumD; rw [List.length_map, List.length_range]
  refine ⟨fun i H kb k hi => ⟨vs, .inl (.inl (kb _ _ h)), by rw [rv.length, ← hl]; exact hi⟩, fun i H kb k hi => ?_, fun i H x H' kb k y hi => ?_⟩
  · obtain ⟨v, e, _⟩ := rv.get' (i := i) (List.getElem?_eq_getElem (by rw [← hl]; exact hi))
    exact ⟨vs, v, .inl (.inl (kb _ _ h)), e⟩
  · obtain ⟨T, z, e1, e2, e3, f⟩ := y
    obtain ⟨d, g1, g2⟩ := rv.get (f vs (.inl (.inl (kb _ _ h))))
    refine .inr (.inl ⟨T, _, [.int (i : Nat), d], e1, e2, e3, .cons (.int _) (.one g2), ?_⟩)
    unfold enumD
    rw [List.getElem?_map, List.getElem?_range (by rw [← hl]; exact hi)]
    show some (PyData.tuple [.int (i : Nat), ds.getD i .none]) = _
    rw [List.getD_eq_getElem?_getD, g1]
    rfl
/-- a comprehension whose walk goes over a list of one's own (slot i), which stays so -/
theorem jn_lcOw {elt tg iter : Expr} {ifs : List Expr} {scope : Scope} {wi : TI} {pos : Pos} (hp : PI X tg iter wi) (i : Nat) (own : List (Str × Nat)) (ts : List Nat) {K : List D → List Sl → Prop} {xs : List D} (es : List D) (e : S[i]? = some (.own xs))
    (hw : ∀ (σ : St) (H : Hp) (a : Addr) (vs : List V) (R : It → Hp → Prop), σ[i]? = some (some (.ref a)) → H a = some (.lst vs) → (∀ J, (∀ B F : Hp, B a = some (.lst vs) → RpA F vs xs → ItD J B F es) → R J H) → wi σ H R)
    (h : ∃ I : Nat → List D → List Sl → Prop, I 0 [] (S.set i .emp) ∧ (∀ j acc S', I j acc S' → j ≤ es.length → acc.length < sizeLine ∧ S'[i]? = some .emp ∧ ∀ j ∈ own.map (·.2), ∀ xs, S'[j]? ≠ some (.ob xs)) ∧
      (∀ j d acc S', es[j]? = some d → I j acc S' → LcTurn X r scope tg elt ifs (own.map (·.2)) ts d S' (fun y S4 => I (j + 1) (acc ++ [y]) S4) fun S4 => I (j + 1) acc S4) ∧ ∀ acc S', I es.length acc S' → K acc (S'.set i (.own xs)))
    (hc : X.calm = true) (hN : X.N.Nodup) (ok : BlkOk X.N X.env.scope scope own) (hs : ∀ y, foldedSetIterable iter X.env y = pure y) (hts : ∀ j ∈ ts, j ∈ own.map (·.2)) :
    JN X r (.ListComp elt [⟨tg, iter, ifs, 0⟩] scope pos) S K := fun c F σ H hr E Q q => by
  obtain ⟨y, e1, d, hh, e2, ha, rv, nF, nB, ns⟩ := E.sl i _ e
  subst e2
  obtain ⟨vs, rfl, rv⟩ : ∃ vs, hh = .lst vs ∧ RpA F vs xs := obr_l rv
  have hl : i < S.length := (List.getElem?_eq_some_iff.mp e).1
  have nF0 : c.F0 d = none := E.fin.f0.back nF
  have E0 := E.hide (i := i) hl
  have no : ∀ (j : Nat) xs, (S.set i .emp)[j]? = some (.ob xs) → σ[j]? ≠ some (some (.ref d)) := fun j xs ej ea => by
    by_cases hj : i = j
    · subst hj; rw [List.getElem?_set_self hl] at ej; cases ej
    · rw [List.getElem?_set_ne hj] at ej
      exact hj (E.ds i j _ _ d e ej e1 ea)
  obtain ⟨I, i0, side, step, fin⟩ := h
  refine of_pe (pe_lc hc hN hp ok pg_tGb pts_tTsb pe_tEb hs) ?_
  have E2 := E0.hold ha nF ns no
  have run : JIw wi (c.hold d (.lst vs)) F σ H fun ds S' => (∃ I : Nat → List D → List Sl → Prop, I 0 [] S' ∧ (∀ i acc S', I i acc S' → i ≤ ds.length → acc.length < sizeLine ∧ ∀ j ∈ own.map (·.2), ∀ xs, S'[j]? ≠ some (.ob xs)) ∧
      (∀ i d acc S', ds[i]? = some d → I i acc S' → LcTurn X r scope tg elt ifs (own.map (·.2)) ts d S' (fun y S4 => I (i + 1) (acc ++ [y]) S4) fun S4 => I (i + 1) acc S4) ∧ ∀ acc S', I ds.length acc S' → (S'[i]? = some .emp ∧ K acc (S'.set i (.own xs)))) := fun R k => by
    refine hw σ H d vs R e1 ha fun J hJ => ?_
    refine k J es F H _ ⟨I, i0, fun j acc S' hI hj => ?_, step, fun acc S' hI => ?_⟩ E2 (Ex.refl F) (hJ _ _ upd_same rv)
    · obtain ⟨s1, _, s2⟩ := side j acc S' hI hj
      exact ⟨s1, s2⟩
    · exact ⟨(side _ acc S' hI (Nat.le_refl _)).2.1, fin acc S' hI⟩
  refine lc_runc (r := r) (K := fun acc S' => S'[i]? = some .emp ∧ K acc (S'.set i (.own xs))) ts hts (c.hold d (.lst vs)) F σ _ (r.st _ _ _ nB hr) _ (fun p ds F' H' S' kk n kF => ?_) run
  obtain ⟨e3, kk⟩ := kk
  obtain ⟨h9, E3, g1, g2, g3, g4, g5, g6⟩ := n
  have hpd : p ≠ d := fun z => by rw [z, show (c.hold d (.lst vs)).B d = some _ from upd_same] at g4; cases g4
  obtain ⟨E4, f1, f2, f3, f4⟩ := E3.unhold (vs := .lst vs) (fun _ z => nomatch z) nB nF0
  have es' : σ.set i (some (.ref d)) = σ := by
    apply List.ext_getElem?
    intro j
    by_cases hj : i = j
    · subst hj
      rw [List.getElem?_set_self (by rw [E.len]; exact hl), e1]
    · rw [List.getElem?_set_ne hj]
  have rv' : RpA F' vs xs := rv.ex kF
  have E6 := E4.setOwn (i := i) (a := d) (vs := .lst vs) (ds := .l xs) f1 rv' f2 nB f3 f4
  rw [es'] at E6
  refine q p _ F' _ _ kk ⟨h9, E6, g1, g2, g3, ?_, g5, fun j xs ej ea => ?_⟩ kF
  · have g4' : upd c.B d (.lst vs) p = none := g4
    rw [upd_ne hpd] at g4'; exact g4'
  · by_cases hj : i = j
    · subst hj
      rw [e1] at ea
      cases ea
      exact hpd rfl
    · rw [List.getElem?_set_ne hj] at ej
      exact g6 j xs ej ea
/-- [.. for i, y in enumerate(x)], x a list of one's own that stays so -/
theorem jn_lcEO {elt : Expr} {elts : List Expr} {kk : Nat} {tpos : Pos} {ifs : List Expr} {scope : Scope} {x : Str} {px p ipos pos : Pos} (i : Nat) (own : List (Str × Nat)) (ts : List Nat) {K : List D → List Sl → Prop} {xs : List D} (hm : X.mg "enumerate" = none) (e : S[i]? = some (.own xs))
    (h : ∃ I : Nat → List D → List Sl → Prop, I 0 [] (S.set i .emp) ∧ (∀ j acc S', I j acc S' → j ≤ (enumD xs).length → acc.length < sizeLine ∧ S'[i]? = some .emp ∧ ∀ j ∈ own.map (·.2), ∀ xs, S'[j]? ≠ some (.ob xs)) ∧
      (∀ j d acc S', (enumD xs)[j]? = some d → I j acc S' → LcTurn X r scope (.Tuple elts kk tpos) elt ifs (own.map (·.2)) ts d S' (fun y S4 => I (j + 1) (acc ++ [y]) S4) fun S4 => I (j + 1) acc S4) ∧ ∀ acc S', I (enumD xs).length acc S' → K acc (S'.set i (.own xs)))
    (hc : X.calm = true := by rfl) (hN : X.N.Nodup := by assumption) (ok : BlkOk X.N X.env.scope scope own := by exact blkOk_by rfl) (hs : ∀ y, foldedSetIterable (.Call (.Name "enumerate" p) [.Name x px] [] ipos) X.env y = pure y := by intro _; rfl) (hts : ∀ j ∈ ts, j ∈ own.map (·.2) := by decide)
    (hNi : X.N[i]? = some x := by rfl) (hg : Gl X "enumerate" := by rfl) (hst : starEach [.Name x px] X.env = [(false, eval (.Name x px) X.env)] := by rfl) (hv : Vis X.env.scope x := by first | exact Or.inl rfl | exact Or.inr (Or.inl rfl) | exact Or.inr (Or.inr rfl)) (hd : (x == ("__debug__" : Str)) = false := by decide) (hcd : (x == ("__classdict__" : Str)) = false := by decide) :
    JN X r (.ListComp elt [⟨.Tuple elts kk tpos, .Call (.Name "enumerate" p) [.Name x px] [] ipos, ifs, 0⟩] scope pos) S K :=
  jn_lcOw (pi_enum hg hm (pa_cons (pe_var hNi hv hd hcd) pa_nil hst) hst) i own ts (enumD xs) e (fun σ H a vs R e1 ha k => by
    refine ⟨.ref a, e1, ?_⟩
    exact ⟨a, vs, rfl, .inl (.inl ha), k _ fun B F hB rv => ite_dB hB rv⟩) h hc hN ok hs hts
/-- [.. for y in x], x a list of one's own that stays so -/
theorem jn_lcO {elt tg : Expr} {ifs : List Expr} {scope : Scope} {x : Str} {px pos : Pos} (i : Nat) (own : List (Str × Nat)) (ts : List Nat) {K : List D → List Sl → Prop} {xs : List D} (e : S[i]? = some (.own xs))
    (h : ∃ I : Nat → List D → List Sl → Prop, I 0 [] (S.set i .emp) ∧ (∀ j acc S', I j acc S' → j ≤ xs.length → acc.length < sizeLine ∧ S'[i]? = some .emp ∧ ∀ j ∈ own.map (·.2), ∀ xs, S'[j]? ≠ some (.ob xs)) ∧
      (∀ j d acc S', xs[j]? = some d → I j acc S' → LcTurn X r scope tg elt ifs (own.map (·.2)) ts d S' (fun y S4 => I (j + 1) (acc ++ [y]) S4) fun S4 => I (j + 1) acc S4) ∧ ∀ acc S', I xs.length acc S' → K acc (S'.set i (.own xs)))
    (hc : X.calm = true := by rfl) (hN : X.N.Nodup := by assumption) (ok : BlkOk X.N X.env.scope scope own := by exact blkOk_by rfl) (hs : ∀ y, foldedSetIterable (.Name x px) X.env y = pure y := by intro _; rfl) (hts : ∀ j ∈ ts, j ∈ own.map (·.2) := by decide)
    (hNi : X.N[i]? = some x := by rfl) (hv : Vis X.env.scope x := by first | exact Or.inl rfl | exact Or.inr (Or.inl rfl) | exact Or.inr (Or.inr rfl)) (hd : (x == ("__debug__" : Str)) = false := by decide) (hcd : (x == ("__classdict__" : Str)) = false := by decide) :
    JN X r (.ListComp elt [⟨tg, .Name x px, ifs, 0⟩] scope pos) S K :=
  jn_lcOw (pi_list (pe_var hNi hv hd hcd)) i own ts xs e (fun σ H a vs R e1 ha k => by
    refine ⟨.ref a, e1, ?_⟩
    exact ⟨a, rfl, ⟨vs, .inl (.inl ha)⟩, k _ fun B F hB rv => itl_dB hB rv⟩) h hc hN ok hs hts
theorem lc_pureE {scope : Scope} {tg elt : Expr} {ifs : List Expr} {vs ts : List Nat} {ds : List D} {K : List D → List Sl → Prop} {i : Nat} (hi : S[i]? = some .emp) (hv : ∀ j ∈ vs, ∀ xs, S[j]? ≠ some (.ob xs)) (h : LcAll X r scope tg elt ifs vs ts ds S fun zs => K zs S) :
    ∃ I : Nat → List D → List Sl → Prop, I 0 [] S ∧ (∀ j acc S', I j acc S' → j ≤ ds.length → acc.length < sizeLine ∧ S'[i]? = some .emp ∧ ∀ j ∈ vs, ∀ xs, S'[j]? ≠ some (.ob xs)) ∧
      (∀ i d acc S', ds[i]? = some d → I i acc S' → LcTurn X r scope tg elt ifs vs ts d S' (fun y S4 => I (i + 1) (acc ++ [y]) S4) fun S4 => I (i + 1) acc S4) ∧ ∀ acc S', I ds.length acc S' → K acc S' := by
  obtain ⟨α, as, enc, p, g, rfl, hl, turn, fin⟩ := h
  refine ⟨fun i acc S' => S' = S ∧ acc = ((as.take i).filter p).map g, ⟨rfl, rfl⟩, fun i acc S' hI hi => ?_, fun i d acc S' hd hI => ?_, fun acc S' hI => ?_⟩
  · obtain ⟨rfl, rfl⟩ := hI
    refine ⟨?_, by assumption, hv⟩
    rw [List.length_map]
    refine Nat.lt_of_le_of_lt (List.length_filter_le _ _) ?_
    rw [List.length_take]
    have : sizeLine = 16777216 := sizeLine_eq
    have := Nat.min_le_right i as.length
    omega
  · obtain ⟨rfl, rfl⟩ := hI
    rw [List.getElem?_map] at hd
    cases ha : as[i]? with
    | none => rw [ha] at hd; cases hd
    | some a =>
      rw [ha] at hd
      cases hd
      have t := turn a (List.mem_of_getElem? ha)
      have tk : as.take (i + 1) = as.take i ++ [a] := by rw [List.take_add_one, ha]; rfl
      intro s H C cl fp
      refine (t s H C cl fp).mono fun S2 t2 s1 H1 C1 cl1 fp1 => (t2 s1 H1 C1 cl1 fp1).mono fun b S3 t3 => ?_
      obtain ⟨rfl, t3, t4⟩ := t3
      cases hp : p a with
      | false =>
        rw [if_neg Bool.false_ne_true]
        refine ⟨t3 hp, ?_⟩
        rw [tk, List.filter_append, List.map_append]
        simp [hp]
      | true =>
        rw [if_pos rfl]
        intro s2 H2 C2 cl2 fp2
        refine (t4 hp s2 H2 C2 cl2 fp2).mono fun z S4 t5 => ?_
        obtain ⟨rfl, t5⟩ := t5
        refine ⟨t5, ?_⟩
        rw [tk, List.filter_append, List.map_append]
        simp [hp]
  · obtain ⟨rfl, rfl⟩ := hI
    rw [List.length_map, List.take_length]
    exact fin
/-- .. each turn changes nothing -/
theorem jlcEO {elt : Expr} {elts : List Expr} {kk : Nat} {tpos : Pos} {ifs : List Expr} {scope : Scope} {x : Str} {px p ipos pos : Pos} (i : Nat) (own : List (Str × Nat)) (ts : List Nat) {K : List D → List Sl → Prop} {xs : List D} (hm : X.mg "enumerate" = none)
    (h : (∀ j ∈ own.map (·.2), ∀ xs, (S.set i .emp)[j]? ≠ some (.ob xs)) ∧ LcAll X r scope (.Tuple elts kk tpos) elt ifs (own.map (·.2)) ts (enumD xs) (S.set i .emp) fun zs => K zs S) (e : S[i]? = some (.own xs) := by rfl)
    (hc : X.calm = true := by rfl) (hN : X.N.Nodup := by assumption) (ok : BlkOk X.N X.env.scope scope own := by exact blkOk_by rfl) (hs : ∀ y, foldedSetIterable (.Call (.Name "enumerate" p) [.Name x px] [] ipos) X.env y = pure y := by intro _; rfl) (hts : ∀ j ∈ ts, j ∈ own.map (·.2) := by decide)
    (hNi : X.N[i]? = some x := by rfl) (hg : Gl X "enumerate" := by rfl) (hst : starEach [.Name x px] X.env = [(false, eval (.Name x px) X.env)] := by rfl) (hv : Vis X.env.scope x := by first | exact Or.inl rfl | exact Or.inr (Or.inl rfl) | exact Or.inr (Or.inr rfl)) (hd : (x == ("__debug__" : Str)) = false := by decide) (hcd : (x == ("__classdict__" : Str)) = false := by decide) :
    JN X r (.ListComp elt [⟨.Tuple elts kk tpos, .Call (.Name "enumerate" p) [.Name x px] [] ipos, ifs, 0⟩] scope pos) S K := by
  refine jn_lcEO i own ts hm e ?_ hc hN ok hs hts hNi hg hst hv hd hcd
  have hl : i < S.length := (List.getElem?_eq_some_iff.mp e).1
  have es : (S.set i .emp).set i (.own xs) = S := by rw [List.set_set]; exact set_at e
  refine lc_pureE (K := fun zs S' => K zs (S'.set i (.own xs))) (List.getElem?_set_self hl) h.1 ?_
  rw [es]
  exact h.2
/-- .. over the list itself -/
theorem jlcO {elt tg : Expr} {ifs : List Expr} {scope : Scope} {x : Str} {px pos : Pos} (i : Nat) (own : List (Str × Nat)) (ts : List Nat) {K : List D → List Sl → Prop} {xs : List D}
    (h : (∀ j ∈ own.map (·.2), ∀ xs, (S.set i .emp)[j]? ≠ some (.ob xs)) ∧ LcAll X r scope tg elt ifs (own.map (·.2)) ts xs (S.set i .emp) fun zs => K zs S) (e : S[i]? = some (.own xs) := by rfl)
    (hc : X.calm = true := by rfl) (hN : X.N.Nodup := by assumption) (ok : BlkOk X.N X.env.scope scope own := by exact blkOk_by rfl) (hs : ∀ y, foldedSetIterable (.Name x px) X.env y = pure y := by intro _; rfl) (hts : ∀ j ∈ ts, j ∈ own.map (·.2) := by decide)
    (hNi : X.N[i]? = some x := by rfl) (hv : Vis X.env.scope x := by first | exact Or.inl rfl | exact Or.inr (Or.inl rfl) | exact Or.inr (Or.inr rfl)) (hd : (x == ("__debug__" : Str)) = false := by decide) (hcd : (x == ("__classdict__" : Str)) = false := by decide) :
    JN X r (.ListComp elt [⟨tg, .Name x px, ifs, 0⟩] scope pos) S K := by
  refine jn_lcO i own ts e ?_ hc hN ok hs hts hNi hv hd hcd
  have hl : i < S.length := (List.getElem?_eq_some_iff.mp e).1
  have es : (S.set i .emp).set i (.own xs) = S := by rw [List.set_set]; exact set_at e
  refine lc_pureE (K := fun zs S' => K zs (S'.set i (.own xs))) (List.getElem?_set_self hl) h.1 ?_
  rw [es]
  exact h.2
/-- xs[:k] of a list -/
theorem jn_cutTo {K : List D → List Sl → Prop} {e hi : Expr} {p2 pos : Pos} (h : JE X r e S fun d S1 => JE X r hi S1 fun d2 S2 => ∃ (ds : List D) (k : Nat), d = .list ds ∧ d2 = .int k ∧ K (ds.take k) S2) : JN X r (.Subscript e (.Slice none (some hi) none p2) pos) S K :=
  jn_cutL (h.mono fun d S1 h1 => (show JE X r hi S1 _ from h1.mono fun d2 S2 ⟨ds, k, e1, e2, kk⟩ => ⟨k, e2, ds, e1, by rw [cutD_to]; exact kk⟩))
/-- a, b = [], e with a name that a comprehension reads -/
theorem jasgLV {x y : Str} {e : Expr} {px py pt pos pa : Pos} {kt k2 pt2} {E : DE} {rest : List Stmt} (i j : Nat) (h : JE X r e S fun d S1 => JSs X r rest ((S1.set i (.own [])).set j (.val d)) E)
    (hc : X.calm = true := by rfl) (hN : X.N.Nodup := by assumption) (hi : X.N[i]? = some x := by rfl) (hj : X.N[j]? = some y := by rfl) (hij : i ≠ j := by decide) (hxl : Loc X.env.scope x := by first | exact Or.inl rfl | exact Or.inr rfl) (hxf : X.fn x = true ∨ X.env.scope.names.lookup x = some .local := by first | exact .inl rfl | exact .inr rfl) (hyl : Loc X.env.scope y := by first | exact Or.inl rfl | exact Or.inr rfl) (hyf : X.fn y = true ∨ X.env.scope.names.lookup y = some .local := by first | exact .inl rfl | exact .inr rfl)
    (hw : swappedStores [.Tuple [.Name x px, .Name y py] kt pt] (.Tuple [.List [] pa, e] k2 pt2) X.env = pure none := by rfl) (hs : swapsWithSole [.Tuple [.Name x px, .Name y py] kt pt] (.Tuple [.List [] pa, e] k2 pt2) pos.line X.env = pure false := by rfl) (h1 : (assignEach [.Tuple [.Name x px, .Name y py] kt pt] X.env).map (·.2) = [assign (.Tuple [.Name x px, .Name y py] kt pt) X.env] := by rfl)
    (hn : (assignEach [.Name x px, .Name y py] X.env).length = 2 := by rfl) (hst : (assignEach [.Name x px, .Name y py] X.env).findIdx? (·.1) = none := by rfl) (ha1 : (assignEach [.Name x px, .Name y py] X.env).map (·.2) = assign (.Name x px) X.env :: (assignEach [.Name y py] X.env).map (·.2) := by rfl) (ha2 : (assignEach [.Name y py] X.env).map (·.2) = assign (.Name y py) X.env :: (assignEach [] X.env).map (·.2) := by rfl)
    (s1 : starEach [.List [] pa, e] X.env = (false, eval (.List [] pa) X.env) :: starEach [e] X.env := by rfl) (s2 : starEach [e] X.env = (false, eval e X.env) :: starEach [] X.env := by rfl) :
    JSs X r (.Assign [.Tuple [.Name x px, .Name y py] kt pt] (.Tuple [.List [] pa, e] k2 pt2) pos :: rest) S E := jss_cons fun c F σ H hr Ev G g =>
  of_ps (ps_asg (pe_tup (pa_cons pe_tE (pa_cons pe_tE pa_nil s2) s1)) (pg_tup (n := 2) hc (pgs_cons (pg_name hN hi hxl hxf) (pgs_cons (pg_name hN hj hyl hyf) pgs_nil ha2) ha1) hn hst) hs hw h1) ((jn_lst (K := fun ds S1 => ds = [] ∧ S1 = S) (jA0 ⟨[], rfl, Nat.zero_le _, rfl, rfl⟩)) c F σ H hr Ev _ fun p1 ds F1 H1 S1 h1 n1 k1 => by
    obtain ⟨rfl, rfl⟩ := h1
    obtain ⟨hh1, E1, hp1, hv1, nF1, b1, q1, no1⟩ := n1
    have f01 : c.F0 p1 = none := by
      cases z : c.F0 p1 with
      | none => rfl
      | some u => have := E1.fin.f0 _ _ z; rw [nF1] at this; cases this
    refine h (c.hold p1 hh1) F1 σ H1 (r.st c p1 hh1 b1 hr) (E1.hold hp1 nF1 q1 no1) _ fun v d F3 H3 S3 h3 E3 k3 r3 => ?_
    obtain ⟨ws1, rfl, _⟩ := obr_l hv1
    obtain ⟨E5, hp1', nF1', q1', no1'⟩ := E3.unhold (vs := .lst ws1) (fun xs z => nomatch z) b1 f01
    refine ⟨by show 2 ≤ sizeLine; decide, fun t ht => ?_⟩
    have e2 : upd H3 t (.tup [.ref p1, v]) p1 = some (.lst ws1) := by rw [upd_ne (ne_of_none hp1' ht)]; exact hp1'
    refine ⟨t, [.ref p1, v], rfl, .inl (.inl upd_same), rfl, .ref p1, [v], rfl, v, [], rfl, rfl, ?_⟩
    have E4 := E5.laid (o := .tup [.ref p1, v]) ht
    exact g.nx F3 _ _ _ h3 ((E4.setOwn (i := i) e2 (hv1.ex k3) nF1' b1 q1' no1').set r3) (k1.trans k3))
end
end DL

/-! DL: zip(x, y) of two tuples; x.count(y) of a tuple. -/
namespace DL
open PySem L2 RZ
theorem rp_wtA {K : PySem.W.Frag} {p : Bool} {F : Hp} {v : V} {d : D} {ds : List D} (w : WT p d ds) (r : Rp F v d) : ∃ a xs, v = .ref a ∧ (∀ H, Ex F H → SqT K H a xs) ∧ RpA F xs ds := by
  rcases w with rfl | ⟨_, rfl⟩
  · cases r with
    | tup ha rv => exact ⟨_, _, rfl, fun H k => .inl (.inl (k _ _ ha)), rv⟩
  · obtain ⟨a, o, xs, rfl, ha, _, rv⟩ := rp_ft r
    exact ⟨_, _, rfl, fun H k => .inl (.inr ⟨o, k _ _ ha⟩), rv⟩
theorem itzT_d {K : PySem.W.Frag} {B F : Hp} {a b : Addr} {vs ws : List V} {xs ys : List D} (h1 : ∀ H, Ex F H → SqT K H a vs) (h2 : ∀ H, Ex F H → SqT K H b ws) (rv : RpA F vs xs) (rw' : RpA F ws ys) (hl : xs.length = ys.length) : ItD (ItzT K a b) B F (zipD xs ys) := by
  have hz : (zipD xs ys).length = xs.length := by unfold zipD; rw [List.length_zipWith]; omega
  refine ⟨fun i H kb k hi => ⟨vs, ws, h1 H k, h2 H k, .inl (by rw [rv.length]; omega)⟩, fun i H kb k hi => ?_, fun i H x H' kb k y hi => ?_⟩
  · obtain ⟨v, e, _⟩ := rv.get' (i := i) (List.getElem?_eq_getElem (show i < xs.length by omega))
    obtain ⟨w, e2, _⟩ := rw'.get' (i := i) (List.getElem?_eq_getElem (show i < ys.length by omega))
    exact ⟨vs, ws, v, w, h1 H k, h2 H k, e, e2⟩
  · obtain ⟨T, x, y, rfl, n, rfl, f1, f2⟩ := y
    obtain ⟨d, e1, g1⟩ := rv.get (f1 vs (h1 H k))
    obtain ⟨d2, e2, g2⟩ := rw'.get (f2 ws (h2 H k))
    refine .inr (.inl ⟨T, [x, y], [d, d2], rfl, n, rfl, .cons g1 (.cons g2 .nil), ?_⟩)
    unfold zipD
    rw [List.getElem?_zipWith, e1, e2]
section
variable {X : Cx} {r : SR} {S : List Sl}
/-- for x, y in zip(a, b), tuples of one length -/
theorem jiZipT {p1 p2 : Bool} {e e2 : Expr} {p pos tpos : Pos} {elts : List Expr} {kk : Nat} {K : List D → List Sl → Prop} (hm : X.mg "zip" = none)
    (h : JE X r e S fun d1 S1 => JE X r e2 S1 fun d2 S2 => ∃ xs ys, WT p1 d1 xs ∧ WT p2 d2 ys ∧ xs.length = ys.length ∧ K (zipD xs ys) S2) (hg : Gl X "zip" := by rfl)
    (hs : starEach [e, e2] X.env = (false, eval e X.env) :: starEach [e2] X.env := by rfl) (hs2 : starEach [e2] X.env = (false, eval e2 X.env) :: starEach [] X.env := by rfl) (hpl : (backTo pos (starEach [e2] X.env)).any (·.1) = false := by rfl) :
    JI X r (.Tuple elts kk tpos) (.Call (.Name "zip" p) [e, e2] [] pos) S K :=
  fun c F σ H hr E R q => of_pi (pi_zipA hg hm (pa_cons pe_tE (pa_cons pe_tE pa_nil hs2) hs) hs hpl) (h c F σ H hr E _ fun v1 d1 F1 H1 S1 h1 E1 k1 r1 => h1 c F1 σ H1 hr E1 _ fun v2 d2 F2 H2 S2 h2 E2 k2 r2 => by
    obtain ⟨xs, ys, w1, w2, hl, kd⟩ := h2
    obtain ⟨a, vs, rfl, s1, rv⟩ := rp_wtA (K := X.K) w1 (r1.ex k2)
    obtain ⟨b, ws, rfl, s2, rw'⟩ := rp_wtA (K := X.K) w2 r2
    exact ⟨a, b, vs, ws, rfl, .inr ⟨s1 _ E2.fin.fh, s2 _ E2.fin.fh, q _ _ F2 H2 S2 kd E2 (k1.trans k2) (itzT_d s1 s2 rv rw' hl)⟩⟩)
/-! ### x.count(y) of a tuple known to have no dict -/
def rCntF (X : Cx) : V → List V → Hp → VK → Prop := fun x xs H Q => ∃ (F : Hp) (y : V) (d : D) (ds : List D), xs = [y] ∧ Ex F H ∧ Rp F x (ft ds) ∧ Rp F y d ∧ PyData.plainAll ds = true ∧ d.plain = true ∧
  X.A.units + 1 + min (PyData.depthAll ds) d.depth < cLine ∧ Q (.int ((ds.countP fun y => PyData.eqv y d : Nat) : Int)) H
theorem mt_cntF : MtR X "tuple.count" (rCntF X) := by
  intro pins s σ H x xs v us Q I rx rxs h
  obtain ⟨F, y, d, ds, rfl, k, rl, ry, hp, hd, hu, q⟩ := h
  obtain ⟨uy, rfl, ruy⟩ := vals1 rxs
  obtain ⟨bs, r1⟩ := Rp.reads k I.hok ry ruy hd
  obtain ⟨as, r2⟩ := ft_reads k I.hok rl rx hp
  cases r2 with
  | tuple h1 h2 h3 h4 =>
    exact PySem.SeqAt.count_tuple_data ⟨_, h1, h2, _, h3⟩ h4 r1 hp hd hu ⟨.int _, H, I.tok _, ⟨_, rfl⟩, q⟩
theorem je_cntF {K : D → List Sl → Prop} {o e : Expr} {apos cpos : Pos} {k : Nat} (hr : Room k X.A) (h : JE X r o S fun d0 S0 => ∃ ds : List D, d0 = ft ds ∧ JE X r e S0 fun d1 S1 => (∀ d ∈ ds, Nice 50 d) ∧ Nice 50 d1 ∧ K (.int ((ds.countP fun y => PyData.eqv y d1 : Nat) : Int)) S1)
    (hp : ∀ {rr : V → List V → Hp → VK → Prop}, MtR X "tuple.count" rr → PE X (.Call (.Attribute o "count" apos) [e] [] cpos) (tBMF rr (tE X o) (tCons (tE X e) tNil)) := by exact fun hm => pe_bmF PySem.F.plainAttrs_tuple PySem.F.slot_tuple_count PySem.F.type_tuple_count hm pe_tE (pa_cons pe_tE pa_nil)) :
    JE X r (.Call (.Attribute o "count" apos) [e] [] cpos) S K := fun c F σ H hr' E Q q =>
  of_pe (hp mt_cntF) (h c F σ H hr' E _ fun v0 d0 F0 H0 S0 h0 E0 k0 r0 => by
    obtain ⟨ds, rfl, h0⟩ := h0
    refine ⟨?_, h0 c F0 σ H0 hr' E0 _ fun v1 d1 F1 H1 S1 h1 E1 k1 r1 => ?_⟩
    · obtain ⟨a, ob, ws, rfl, ha, hod, rv⟩ := rp_ft r0
      exact ⟨a, ob, ws, rfl, E0.fin.fh _ _ ha, hod⟩
    · obtain ⟨n1, n2, kk⟩ := h1
      refine ⟨F1, v1, d1, ds, rfl, E1.fin.fh, r0.ex k1, r1, plainAll_of fun d hd => (n1 d hd).pl, n2.pl, ?_, q _ _ F1 H1 S1 kk E1 (k0.trans k1) (.int _)⟩
      have h50 : min (PyData.depthAll ds) d1.depth ≤ 50 := Nat.le_trans (Nat.min_le_right _ _) n2.dp
      have := units_le hr (n := 50) (by decide)
      omega)
end
/-! ### repr of a tuple, or a list, above such tuples -/
def UT (p : Bool) (d v : D) : Prop := ∃ ds vs, d = .tuple ds ∧ v = .tuple vs ∧ UWA p ds vs
theorem UT.shows {P : Program} {w : World} {F H : Hp} {h : Heap} {p : Bool} {B L : Nat} (k : Ex F H) (ok : HOk P w H h) {a : Addr} {d v : D} (hd : UT p d v) (r : Rp F (.ref a) d) (hp : okD B L v = true) (hs : v.showable = true) (hsz : v.shown.length ≤ sizeLine) : ∃ T idr, ShowsBy P w h a v T idr := by
  obtain ⟨ds, vs, rfl, rfl, hu⟩ := hd
  cases r with
  | @tup a' xs ds q r =>
    obtain ⟨_, its, rw', o', ho, hc, n, hd⟩ := ok _ _ (k _ _ q)
    rw [okD, Bool.and_eq_true] at hp
    have hz' : (tupleText (PyData.shownAll vs)).length ≤ sizeLine := by simpa only [PyData.shown] using hsz
    obtain ⟨bs, hb, hk⟩ := UWA.reprK k ok hu r rw' hp.2 (by simpa [PyData.showable] using hs) (fun t ht => Nat.le_trans (tupleText_mem_le ht) hz')
    obtain ⟨as, hr⟩ := UWA.reads k ok hu r rw' hp.2
    have rr : Reads h (.ref a) (.tuple vs) as := .tuple ho hc hd (by simpa using hr)
    have hna : a ∉ bs := not_mem_of_deeper rr (by simp only [PyData.depth]; omega) hb
    refine ⟨"tuple", "tuple.__repr__", PySem.F.slot_tuple_repr, PySem.F.slot_tuple_str, PySem.F.slot_tuple_format, fun s hk0 => ⟨_, hk0 _ _ ho, hc⟩, fun A E s Q hg hu hk0 hQ => ?_⟩
    simp only [PyData.depth] at hu
    simp only [PyData.shown] at hQ
    exact call_tuple_reprK ho hc hd hna (by simpa using hk) hg (fun b _ => Clear.nil b) hu hk0 hQ hz'
section
variable {X : Cx} {r : SR} {S : List Sl} {p : Bool}
def rReprT (X : Cx) (p : Bool) : List V → Hp → VK → Prop := fun vs H Q => ∃ F x d v B L, vs = [x] ∧ Ex F H ∧ Rp F x d ∧ UT p d v ∧ okD B L v = true ∧ v.showable = true ∧ X.A.units + (v.depth + 1) < cLine ∧ v.shown.length ≤ sizeLine ∧ Q (.str v.shown) H
theorem call_reprT (hg : X.A.guards = some []) : CallR X (.builtin "repr") (rReprT X p) := by
  intro pins s σ H xs us Q I rr h
  obtain ⟨F, x, d, v, B, L, rfl, k, rp, hul, hpl, hs, hu, hz, q⟩ := h
  obtain ⟨u, rfl, rx⟩ := vals1 rr
  obtain ⟨a, rfl⟩ : ∃ a, x = V.ref a := by
    obtain ⟨ds, vs, rfl, rfl, hu⟩ := hul
    cases rp with
    | tup _ _ => exact ⟨_, rfl⟩
  cases rx
  obtain ⟨T, idr, S⟩ := UT.shows k I.hok hul rp hpl hs hz
  exact call_repr_slot (by omega) (S.typeIs s fun _ _ e => e) S.slotRepr (S.call X.A.in1 X.xe s _ hg (by show X.A.units + 1 + v.depth < cLine; omega) (fun _ _ e => e) fun h' u tk hk => ⟨_, _, rfl, ⟨.str _, H, I.kept hk, ⟨_, rfl⟩, q⟩⟩)
theorem jreprT {K : D → List Sl → Prop} {a : Expr} {pp pos : Pos} {k : Nat} (hg0 : X.A.guards = some []) (hr : Room k X.A) (hm : X.mg "repr" = none) (h : JE X r a S fun d S1 => ∃ v, UT p d v ∧ ShW v ∧ K (.str v.shown) S1)
    (hg : Gl X "repr" := by rfl) (hs : starEach [a] X.env = (false, eval a X.env) :: starEach [] X.env := by rfl) : JE X r (.Call (.Name "repr" pp) [a] [] pos) S K :=
  jB (call_reprT (p := p) hg0) hm (ja1 (h.mono fun d S' ⟨v, hu, sh, k⟩ => ⟨[d], rfl, fun F H vs kF rv Q q => by
    obtain ⟨B, L, h, hB, hk, hw⟩ := sh.ex
    cases rv with
    | cons r1 t =>
      cases t
      exact ⟨F, _, d, v, B, L, rfl, kF, r1, hu, h, okD_show hB h, by have := hr.un; omega, PyData.shown_fits (B := 13) (by decide) (by decide) (okD_short hB h) hw, q _ _ F H k (Grow.refl kF) (.str _)⟩⟩) hs) hg (he := hs)
/-- sorted(t), t a tuple of tuples of ints -/
theorem jsortTG {pp : Bool} {K : List D → List Sl → Prop} {a : Expr} {p pos : Pos} {k : Nat} (hr : Room k X.A) (hm : X.mg "sorted" = none) (h : JE X r a S fun d S1 => ∃ ls : List (List Int), WT pp d (ls.map tupI) ∧ K ((sortL ls).map tupI) S1) (hg : Gl X "sorted" := by rfl) (hs : starEach [a] X.env = (false, eval a X.env) :: starEach [] X.env := by rfl) : JN X r (.Call (.Name "sorted" p) [a] [] pos) S K :=
  jnB (call_sortG (pp := pp)) hm (ja1 (h.mono fun d S1 ⟨ls, w, kk⟩ => ⟨[d], rfl, by
    intro F H vs kF rv Q q
    cases rv with
    | cons r1 t =>
      cases t
      refine ⟨F, _, d, _, rfl, kF, w, r1, PySem.W.AllAlike.of alike_tupI, fun d hd => ?_, fun d hd => ?_, by have := hr.un; omega, fun p ws rw' n => q p ws _ kk n ?_⟩
      · obtain ⟨c, _, rfl⟩ := List.mem_map.mp hd
        exact ⟨_, rfl⟩
      · obtain ⟨c, _, rfl⟩ := List.mem_map.mp hd
        exact ⟨(nice_tupI (n := 1) c).pl, by rw [depth_tupI c]; decide⟩
      · rw [sort_map dataLe_tupI] at rw'
        exact rw'⟩) hs) hg (by decide +kernel) (by decide) (by decide) hs rfl
theorem eqv_tupI (a b : List Int) : PyData.eqv (tupI a) (tupI b) = decide (a = b) := PySem.W.Datum.eqv (⟨a⟩ : PySem.W.Tup Int) ⟨b⟩ |>.trans (decide_eq_decide.mpr ⟨fun e => by injection e, fun e => by rw [e]⟩)
end
end DL

/-! DMH: a, b = a list; xs.extend(ys); len(dict([(n, ..), ..])); comprehensions with draws, place by place; tuple(range(n)), list(range(n)). -/
namespace DL
open PySem L2
variable {X : Cx} {r : SR} {S : List Sl}
/-- a, b = a list -/
theorem jgL {es : List Expr} {k : Nat} {pos : Pos} {ts : List Nat} {ds : List D} {K : List Sl → Prop} (h : JGs X r es ts ds S K) (hc : X.calm = true := by rfl) (hn : (assignEach es X.env).length = ds.length := by rfl) (hst : (assignEach es X.env).findIdx? (·.1) = none := by rfl) : JG X r (.Tuple es k pos) ts (.list ds) S K := fun c F σ H v hr E rv Q q => by
  cases rv with
  | lst ha hv => exact of_pg (pg_unl (n := ds.length) hc pgs_tGs hn hst) ⟨_, _, rfl, .inl (.inl (E.fin.fh _ _ ha)), hv.length, h c F σ H _ hr E hv Q q⟩
/-- x.extend(e), x a list of one's own -/
theorem jextend {e : Expr} {x : Str} {p apos cpos pos : Pos} {E : DE} {rest : List Stmt} (i : Nat) (xs0 : List D)
    (h : JE X r e S fun d S1 => ∃ ys xs, d = .list ys ∧ S1[i]? = some (.own xs) ∧ xs.length + ys.length ≤ sizeLine ∧ JSs X r rest (S1.set i (.own (xs ++ ys))) E) (h0 : S[i]? = some (.own xs0) := by rfl)
    (hp : PS X (.Expr (.Call (.Attribute (.Name x p) "extend" apos) [e] [] cpos) pos) (tDrop (tBM X.K "list" rExtend (tVar i) (tCons (tE X e) tNil))) := by exact ps_expr (pe_bm PySem.F.plainAttrs_list PySem.F.slot_list_extend PySem.F.type_list_extend mt_extend (pv _) (pa_cons pe_tE pa_nil))) :
    JSs X r (.Expr (.Call (.Attribute (.Name x p) "extend" apos) [e] [] cpos) pos :: rest) S E := jss_cons fun c F σ H hr Ev G g => of_ps hp (by
    obtain ⟨y, e1, a, hh, e2, ha, rv, nF, nb, q0⟩ := Ev.sl i _ h0
    subst e2
    obtain ⟨vs, rfl, rv⟩ := obr_l rv
    refine ⟨.ref a, e1, .inl ⟨rfl, _, .inl (.inl ha)⟩, h c F σ H hr Ev _ fun v d F1 H1 S1 h1 E1 k1 r1 => ?_⟩
    obtain ⟨ys, xs, rfl, e3, hl, kx⟩ := h1
    obtain ⟨y, e1', a', hh, e2', ha', rv', _⟩ := E1.sl i _ e3
    rw [e1] at e1'; cases e1'; cases e2'
    obtain ⟨vs', rfl, rv'⟩ := obr_l rv'
    cases r1 with
    | @lst b ws _ hb rw' =>
      exact ⟨a, b, vs', ws, rfl, rfl, ha', E1.fin.fh _ _ hb, by rw [rv'.length, rw'.length]; exact hl, g.nx F1 σ _ _ kx (E1.write (vs := .lst (vs' ++ ws)) (ds := .l (xs ++ ys)) e3 e1 (rv'.append rw')) k1⟩)
/-- len(dict([(n, ..), ..])) -/
theorem jlenDI {K : D → List Sl → Prop} {a : Expr} {p p2 pos pos2 : Pos} (hm : X.mg "len" = none) (hm2 : X.mg "dict" = none) (h : JE X r a S fun d S1 => ∃ (ns : List Int) (cs : Int → D), d = .list (ns.map fun n => .tuple [.int n, cs n]) ∧ K (.int ((uni [] ns).length : Nat)) S1)
    (hc : X.calm = true := by rfl) (hg : Gl X "len" := by rfl) (hg2 : Gl X "dict" := by rfl) (hs : starEach [a] X.env = (false, eval a X.env) :: starEach [] X.env := by rfl) : JE X r (.Call (.Name "len" p) [.Call (.Name "dict" p2) [a] [] pos2] [] pos) S K := fun c F σ H hr E Q q =>
  of_pe (pe_callB call_lenD hg hm (by decide +kernel) (pa_cons (pe_callTy (call_dictP hc) hg2 hm2 (by decide +kernel) (pa_cons pe_tE pa_nil (hs := hs)) (he := hs)) pa_nil)) (h c F σ H hr E _ fun v d F1 H1 S1 h1 E1 k1 r1 => by
    obtain ⟨ns, cs, rfl, kk⟩ := h1
    cases r1 with
    | @lst a1 vs _ ha rv =>
      obtain ⟨ps, kvs, rfl, hp, hk⟩ := ents_I rv
      have hp' : Paired (fun p kv => SqT X.K H1 p [kV kv.1, kv.2]) ps kvs := by
        clear hk rv ha
        induction hp with
        | nil => exact .nil
        | cons h0 _ ih => exact .cons (.inl (.inl (E1.fin.fh _ _ h0))) ih
      refine ⟨a1, ps, kvs, rfl, .inl (.inl (E1.fin.fh _ _ ha)), hp', fun p1 n1 => ?_⟩
      refine ⟨p1, mergeK [] kvs, rfl, upd_same, ?_⟩
      have hlen : (mergeK [] kvs).length = (uni [] ns).length := by
        have := congrArg List.length (keys_merge kvs [] [] ns rfl hk)
        rwa [List.length_map, List.length_map] at this
      rw [hlen]
      exact q _ _ F1 _ S1 kk (E1.laid n1) k1 (.int _))
/-- [e for x in ..], draws and all: the slots as before, each item as its place lets -/
theorem jn_lcI {elt tg iter : Expr} {scope : Scope} {pos : Pos} (own : List (Str × Nat)) (ts : List Nat) (P : Nat → D → Prop) {K : List D → List Sl → Prop} (h : JI X r tg iter S fun ds S1 => noOwn (own.map (·.2)) S1 = true ∧ ds.length ≤ 1000000 ∧ (∀ i d, ds[i]? = some d → Blk X scope fun Y => JG Y r tg ts d (wipeS S1 (own.map (·.2))) fun S2 => Blk X scope fun Y => JE Y r elt S2 fun y S4 => P i y ∧ mrg (own.map (·.2)) S1 S4 = S1) ∧ ∀ zs : List D, zs.length = ds.length → (∀ i z, zs[i]? = some z → P i z) → K zs S1)
    (hc : X.calm = true := by rfl) (hN : X.N.Nodup := by assumption) (ok : BlkOk X.N X.env.scope scope own := by exact blkOk_by rfl) (hs : ∀ x, foldedSetIterable iter X.env x = pure x := by intro _; rfl) (hts : ∀ j ∈ ts, j ∈ own.map (·.2) := by decide) : JN X r (.ListComp elt [⟨tg, iter, [], 0⟩] scope pos) S K :=
  jn_lc own ts hc hN ok hs hts (h.mono fun ds S1 ⟨ho, hl, ht, hk⟩ => ⟨fun i acc S' => S' = S1 ∧ acc.length = i ∧ ∀ j z, acc[j]? = some z → P j z, ⟨rfl, rfl, fun j z hz => nomatch hz⟩, fun i acc S' ⟨e, ha, _⟩ hi => by
    subst e
    refine ⟨?_, noOwn_of ho⟩
    have hz : sizeLine = 16777216 := sizeLine_eq
    omega, fun i d acc S' hd ⟨e, ha, hp⟩ => by
    subst e
    intro s1 H1 C1 cl1 fp1
    refine (ht i d hd s1 H1 C1 cl1 fp1).mono fun S2 h2 => ?_
    intro s2 H2 C2 cl2 fp2
    refine jts_nil ?_
    rw [if_pos rfl]
    intro s3 H3 C3 cl3 fp3
    refine (h2 s3 H3 C3 cl3 fp3).mono fun y S4 ⟨hy, hm⟩ => ⟨hm, by rw [List.length_append, ha]; rfl, fun j z hz => ?_⟩
    by_cases hj : j < acc.length
    · rw [List.getElem?_append_left hj] at hz
      exact hp j z hz
    · rw [List.getElem?_append_right (by omega)] at hz
      have : j - acc.length = 0 := by
        cases hk : j - acc.length with
        | zero => rfl
        | succ k => rw [hk] at hz; simp at hz
      rw [this] at hz
      obtain rfl : y = z := by simpa using hz
      rw [show j = i by omega]; exact hy, fun acc S' ⟨e, ha, hp⟩ => by subst e; exact hk acc ha hp⟩)
/-- tuple(range(n)), list(range(n)) -/
theorem jtupRg {K : D → List Sl → Prop} {a : Expr} {p p2 pos pos2 : Pos} (hm : X.mg "tuple" = none) (hm2 : X.mg "range" = none) (h : JE X r a S fun d S1 => ∃ n : Nat, d = .int n ∧ n ≤ 1000000 ∧ K (.tuple (rangeD 0 n)) S1)
    (hc : X.calm = true := by rfl) (hg : Gl X "tuple" := by rfl) (hg2 : Gl X "range" := by rfl) (na : starEach [a] X.env = (false, eval a X.env) :: starEach [] X.env := by rfl)
    (ne : starEach [.Call (.Name "range" p2) [a] [] pos2] X.env = (false, eval (.Call (.Name "range" p2) [a] [] pos2) X.env) :: starEach [] X.env := by rfl) : JE X r (.Call (.Name "tuple" p) [.Call (.Name "range" p2) [a] [] pos2] [] pos) S K :=
  je_tupRg1 hc hg hm hg2 hm2 na ne (h.mono fun d S1 ⟨n, e, hn, k⟩ => ⟨n, e, by unfold RgOk; have := sizeLine_eq; omega, by rw [show ((n : Int)).toNat = n by omega]; exact k⟩)
theorem jlistRg {K : List D → List Sl → Prop} {a : Expr} {p p2 pos pos2 : Pos} (hm : X.mg "list" = none) (hm2 : X.mg "range" = none) (h : JE X r a S fun d S1 => ∃ n : Nat, d = .int n ∧ n ≤ 1000000 ∧ K (rangeD 0 n) S1)
    (hc : X.calm = true := by rfl) (hg : Gl X "list" := by rfl) (hg2 : Gl X "range" := by rfl) (na : starEach [a] X.env = (false, eval a X.env) :: starEach [] X.env := by rfl)
    (ne : starEach [.Call (.Name "range" p2) [a] [] pos2] X.env = (false, eval (.Call (.Name "range" p2) [a] [] pos2) X.env) :: starEach [] X.env := by rfl) : JN X r (.Call (.Name "list" p) [.Call (.Name "range" p2) [a] [] pos2] [] pos) S K :=
  jn_listRg1 hc hg hm hg2 hm2 na ne (h.mono fun d S1 ⟨n, e, hn, k⟩ => ⟨n, e, by unfold RgOk; have := sizeLine_eq; omega, by rw [show ((n : Int)).toNat = n by omega]; exact k⟩)
end DL

/-! DMI: a def whose second argument is a list of the caller's own, read alone. -/
namespace DL
open PySem L2
/-- a promise over data and a list that stands -/
def SpB (φ : D → List D → (D → Prop) → Prop) : Sp := fun vs H Q _ => ∃ (c : C) (v0 : V) (a : Addr) (ys : List V) (d0 : D) (ds : List D) (K : D → Prop), vs = [v0, .ref a] ∧ Fin c c.F0 H ∧ Rp c.F0 v0 d0 ∧ c.B a = some (.lst ys) ∧ RpA c.F0 ys ds ∧ φ d0 ds K ∧ ∀ v d F' H', K d → Fin c F' H' → Rp F' v d → Q v H'
theorem spb_call {S : List Sl} {φ : D → List D → (D → Prop) → Prop} {c : C} {F : Hp} {σ : L2.St} {H : Hp} {v0 : V} {a0 : Addr} {d0 : D} {ys : List V} {ds : List D} {Q : VK} {XE : XK} {K : D → Prop} (E : EvD c S F σ H) (r0 : Rp F v0 d0) (ha0 : H a0 = some (.lst ys)) (na0 : ∀ p, c.sr = some p → a0 ≠ p.1 ∧ a0 ≠ p.2) (ry : RpA F ys ds) (h : φ d0 ds K)
    (q : ∀ v d F' H', K d → EvD c S F' σ H' → Ex F F' → Rp F' v d → Q v H') : SpB φ [v0, .ref a0] H Q XE := by
  have ns : ∀ a, (∃ p, c.sr = some p ∧ (a = p.1 ∨ a = p.2)) → F a = none ∧ c.B a = none := fun a ⟨p, ep, z⟩ => by
    obtain ⟨_, n1, n2, b1, b2⟩ := E.fin.src p ep
    rcases z with z | z <;> subst z
    · exact ⟨n1, b1⟩
    · exact ⟨n2, b2⟩
  let B' : Hp := fun a => match c.sr with
    | none => H a
    | some p => if a = p.1 ∨ a = p.2 then none else H a
  have hB : ∀ a o, B' a = some o → H a = some o := fun a o e => by
    show H a = some o
    cases hs : c.sr with
    | none => simp only [B', hs] at e; exact e
    | some p =>
      simp only [B', hs] at e
      by_cases z : a = p.1 ∨ a = p.2
      · rw [if_pos z] at e; cases e
      · rw [if_neg z] at e; exact e
  have hB2 : ∀ a, (∀ p, c.sr = some p → a ≠ p.1 ∧ a ≠ p.2) → B' a = H a := fun a z => by
    cases hs : c.sr with
    | none => simp only [B', hs]
    | some p =>
      obtain ⟨z1, z2⟩ := z p hs
      simp only [B', hs]
      rw [if_neg (by intro q; rcases q with q | q; exact z1 q; exact z2 q)]
  refine ⟨⟨B', F, c.sr⟩, v0, a0, ys, d0, ds, K, rfl, ⟨Ex.refl F, E.fin.fh, hB, fun _ _ _ => .inl rfl, fun p ep => ?_⟩, r0, (hB2 a0 na0).trans ha0, ry, h, fun v d F' H' kd fn rp => ?_⟩
  · obtain ⟨s, n1, n2, b1, b2⟩ := E.fin.src p ep
    have ep' : c.sr = some p := ep
    refine ⟨s, n1, n2, ?_, ?_⟩
    · show B' p.1 = none
      simp [B', ep']
    · show B' p.2 = none
      simp [B', ep']
  · have kF : Ex F F' := fn.f0
    refine q v d F' H' kd ?_ kF rp
    have hk : ∀ a o, (∀ p, c.sr = some p → a ≠ p.1 ∧ a ≠ p.2) → H a = some o → H' a = some o ∧ (F' a = F a ∨ ∃ xs, o = .tup xs) := fun a o z e => by
      have e' : B' a = some o := by rw [hB2 a z]; exact e
      exact ⟨fn.bh a o e', fn.bf a o e'⟩
    have hcB : ∀ a o, c.B a = some o → (∀ p, c.sr = some p → a ≠ p.1 ∧ a ≠ p.2) := fun a o e p ep => by
      obtain ⟨_, _, _, b1, b2⟩ := E.fin.src p ep
      exact ⟨fun z => (by rw [z, b1] at e; cases e), fun z => (by rw [z, b2] at e; cases e)⟩
    refine ⟨⟨E.fin.f0.trans kF, fn.fh, fun a o e => (hk a o (hcB a o e) (E.fin.bh a o e)).1, fun a o e => ((hk a o (hcB a o e) (E.fin.bh a o e)).2).elim (fun z => (E.fin.bf a o e).elim (fun y => .inl (z.trans y)) .inr) .inr, fun p ep => ?_⟩, E.len, fun i s e => ?_, E.ds⟩
    · obtain ⟨s, n1, n2, _, _⟩ := fn.src p ep
      obtain ⟨_, _, _, b1, b2⟩ := E.fin.src p ep
      exact ⟨s, n1, n2, b1, b2⟩
    · obtain ⟨x, e1, rr⟩ := E.sl i s e
      refine ⟨x, e1, ?_⟩
      cases s with
      | emp => trivial
      | src => exact rr
      | rf _ => exact rr
      | val d =>
        obtain ⟨v, e2, rr⟩ := rr
        exact ⟨v, e2, rr.ex kF⟩
      | ob ds =>
        obtain ⟨a, ws, e2, h1, r1, n1, b1, q1⟩ := rr
        have za : ∀ p, c.sr = some p → a ≠ p.1 ∧ a ≠ p.2 := q1
        obtain ⟨g1, g2⟩ := hk a _ za h1
        rcases g2 with g2 | ⟨xs, g2⟩
        · exact ⟨a, ws, e2, g1, r1.ex kF, by rw [g2]; exact n1, b1, q1⟩
        · have m := r1.mut
          rw [g2] at m
          exact m.elim

/-- the slots at the start: data, a list that stands -/
def startB (N : List Str) (d0 : D) (a : Addr) : List Sl := [.val d0, .rf a] ++ List.replicate (N.length - 2) .emp
theorem env_startB {c : C} {H : Hp} {v0 : V} {d0 : D} {a : Addr} {N : List Str} (fn : Fin c c.F0 H) (r0 : Rp c.F0 v0 d0) : EvD c (startB N d0 a) c.F0 (L2.start N [v0, .ref a]) H := by
  have e : startB N d0 a = (startS N [.d d0, .d .none]).set 1 (.rf a) := rfl
  have E0 := env_start (N := N) (vs := [v0, .non]) (as := [.d d0, .d .none]) fn (.cons r0 (.cons .non .nil))
  have es : L2.start N [v0, .ref a] = (L2.start N [v0, .non]).set 1 (some (.ref a)) := rfl
  rw [e, es]
  have hl1 : 1 < (startS N [Ar.d d0, Ar.d .none]).length := by unfold startS; simp
  refine ⟨E0.fin, by rw [List.length_set, List.length_set]; exact E0.len, fun i s e => ?_, fun i j xs ys a e1 e2 e3 e4 => ?_⟩
  · by_cases hi : 1 = i
    · subst hi
      rw [List.getElem?_set_self hl1] at e
      cases e
      exact ⟨some (.ref a), List.getElem?_set_self (by rw [E0.len]; exact hl1), rfl⟩
    · rw [List.getElem?_set_ne hi] at e ⊢
      exact E0.sl i s e
  · have n1 : 1 ≠ i := fun z => by
      subst z
      rw [List.getElem?_set_self hl1] at e1; cases e1
    have n2 : 1 ≠ j := fun z => by
      subst z
      rw [List.getElem?_set_self hl1] at e2; cases e2
    rw [List.getElem?_set_ne n1] at e1 e3
    rw [List.getElem?_set_ne n2] at e2 e4
    exact E0.ds i j xs ys _ e1 e2 e3 e4
section
variable {P : Program} {w : World} {K : PySem.W.Frag} {mg : Str → Option Value} {base : Heap}
theorem fn_B {x qual : Str} {st : Stmt} {f : Addr} {fd : FuncData} {N ps : List Str} {k : Nat} {φ : D → List D → (D → Prop) → Prop} (F : Fun K x qual st f fd) (Sc : FnScope N ps (defScope st)) (len : ps.length = 2)
    (hbody : ∀ (d0 : D) (a : Addr) (ys : List V) (ds : List D) (Kd : D → Prop) (c0 : C) (cdv : Value) (A : Around) (outer : List PySem.Env) (s : Shared) (H : Hp) (E : XK), c0.B a = some (.lst ys) → RpA c0.F0 ys ds → Room k (A.deeper (PyProof.Rows.envOfC qual (defScope st) s.heap.objs.size f cdv)) → φ d0 ds Kd →
      JSs (cxOf CX0 P w K mg base N qual (defScope st) f cdv A outer s H E).nox (srL c0) (defBody st) (startB N d0 a) { nx := fun _ => Kd .none, rt := Kd }) : FnOk P w K mg base CX0 (k + 1) f fd ps (SpB φ) := by
  refine F.ok Sc (fun vs H Q E h => ?_) (fun cdv A outer s H vs Q E hr h => ?_)
  · obtain ⟨c, v0, a, ys, d0, ds, Kd, rfl, _⟩ := h
    rw [len]; rfl
  · obtain ⟨c, v0, a, ys, d0, ds, Kd, rfl, fn, r0, ha, ry, hφ, q⟩ := h
    exact ⟨_, pss_tSs, hbody d0 a ys ds Kd c cdv A outer s H E ha ry hr hφ c c.F0 _ H (srL_refl c) (env_startB fn r0) _ ⟨fun F' σ' H' S' a E' k' => q .non .none F' H' a E'.fin .non, fun v d F' H' a fn' rp => q v d F' H' a fn' rp, fun _ _ _ _ a => a.elim, fun _ _ _ _ a => a.elim⟩⟩
end
section
variable {X : Cx} {r : SR} {S : List Sl}
/-- for y in x, x a list that stands -/
theorem jiR {tg : Expr} {x : Str} {px : Pos} {c0 : C} {a : Addr} {ys : List V} {ds : List D} {K : List D → List Sl → Prop} (i : Nat) (ha : c0.B a = some (.lst ys)) (ry : RpA c0.F0 ys ds) (e : S[i]? = some (.rf a)) (k : K ds S)
    (hNi : X.N[i]? = some x := by rfl) (hv : Vis X.env.scope x := by first | exact Or.inl rfl | exact Or.inr (Or.inl rfl) | exact Or.inr (Or.inr rfl)) (hd : (x == ("__debug__" : Str)) = false := by decide) (hcd : (x == ("__classdict__" : Str)) = false := by decide) :
    JI X (srL c0) tg (.Name x px) S K := fun c F σ H hr E R q => by
  obtain ⟨hsr, hF, hB⟩ := hr
  obtain ⟨y, e1, e2⟩ := E.sl i _ e
  have e2 : y = some (.ref a) := e2
  subst e2
  have hb : c.B a = some (.lst ys) := hB a _ ha
  have ryF : RpA F ys ds := by
    rw [← hF] at ry
    exact ry.ex E.fin.f0
  exact of_pi (pi_list (pe_var hNi hv hd hcd)) ⟨.ref a, e1, a, rfl, ⟨ys, .inl (.inl (E.fin.bh a _ hb))⟩, q _ ds F H S k E (Ex.refl F) (itl_dB hb ryF)⟩
/-- f(e, x), x a list of one's own (slot i) -/
theorem jcallB {K0 : D → List Sl → Prop} {k k' : Nat} {f : Addr} {fd : FuncData} {ps : List Str} {x y : Str} {st : Stmt} {p py pos : Pos} {e : Expr} {φ : D → List D → (D → Prop) → Prop} (i : Nat) (hr : Room k' X.A) (N : Dn X.K X.mg x st ps f fd) (F : FnOk X.prog X.w X.K X.mg X.base CX0 k f fd ps (SpB φ))
    (h : JE X r e S fun d S1 => ∃ ds, S1[i]? = some (.own ds) ∧ φ d ds fun d => K0 d S1) (hk : k ≤ k' := by decide) (hg : Gl X x := by rfl) (hdb : (x == ("__debug__" : Str)) = false := by decide)
    (he : starEach [e, .Name y py] X.env = (false, eval e X.env) :: starEach [.Name y py] X.env := by rfl) (he2 : starEach [.Name y py] X.env = (false, eval (.Name y py) X.env) :: starEach [] X.env := by rfl) (hpl : (backTo pos (starEach [.Name y py] X.env)).any (·.1) = false := by rfl)
    (hNi : X.N[i]? = some y := by rfl) (hv : Vis X.env.scope y := by first | exact Or.inl rfl | exact Or.inr (Or.inl rfl) | exact Or.inr (Or.inr rfl)) (hd : (y == ("__debug__" : Str)) = false := by decide) (hcd : (y == ("__classdict__" : Str)) = false := by decide) : JE X r (.Call (.Name x p) [e, .Name y py] [] pos) S K0 :=
  fun c F' σ H hr' E Q q => of_pe (pe_call F (hr.mono hk) hg N.g N.F.kp N.b .nil (E := E0) pass0 (pa_cons pe_tE (pa_cons (pe_var hNi hv hd hcd) pa_nil he2) he) hdb he hpl) (h c F' σ H hr' E _ fun v d F1 H1 S1 h1 E1 k1 r1 => by
    obtain ⟨ds, es, hφ⟩ := h1
    obtain ⟨z, e1, a, hh, e2, ha, rv, nF, nb, q0⟩ := E1.sl i _ es
    subst e2
    obtain ⟨ys, rfl, rv⟩ := obr_l rv
    refine ⟨.ref a, e1, ?_⟩
    exact spb_call (XE := E0) E1 r1 ha q0 rv hφ fun v d F2 H2 kd E2 k2 rp => q v d F2 H2 S1 kd E2 (k1.trans k2) rp)
end
end DL

/-! DMJ: tuple(x) and *x, x a list of one's own that stays so. -/
namespace DL
open PySem L2
section
variable {X : Cx} {r : SR} {S : List Sl}
theorem jtupO {K : D → List Sl → Prop} {x : Str} {p p2 pos : Pos} (i : Nat) {xs : List D} (hm : X.mg "tuple" = none) (k : K (.tuple xs) S) (e : S[i]? = some (.own xs) := by rfl) (hg : Gl X "tuple" := by rfl) (hN : X.N[i]? = some x := by rfl) (hv : Vis X.env.scope x := by first | exact Or.inl rfl | exact Or.inr (Or.inl rfl) | exact Or.inr (Or.inr rfl)) (hd : (x == ("__debug__" : Str)) = false := by decide) (hcd : (x == ("__classdict__" : Str)) = false := by decide)
    (na : starEach [.Name x p2] X.env = (false, eval (.Name x p2) X.env) :: starEach [] X.env := by rfl) : JE X r (.Call (.Name "tuple" p) [.Name x p2] [] pos) S K :=
  fun c F σ H hr E Q q => of_pe (pe_tupleOf hg hm (pe_var hN hv hd hcd) na) (by
    obtain ⟨z, e1, a, hh, e2, ha, rv, nF, nb, q0⟩ := E.sl i _ e
    subst e2
    obtain ⟨ws, rfl, rv⟩ := obr_l rv
    refine ⟨.ref a, e1, .inl ⟨a, ws, rfl, .inl (.inl ha), fun p n => ?_⟩⟩
    have g := Grow.new E.fin.fh (o := .tup ws) n
    exact q _ _ _ _ S k (E.grow g) g.kF (.tup upd_same (rv.ex g.kF)))
theorem jA_starO {K : List Ar → List Sl → Prop} {x : Str} {p2 p : Pos} {es : List Expr} (i : Nat) {xs : List D} (h : JA X r es S fun as S2 => K (xs.map Ar.d ++ as) S2) (e : S[i]? = some (.own xs) := by rfl) (hN : X.N[i]? = some x := by rfl) (hv : Vis X.env.scope x := by first | exact Or.inl rfl | exact Or.inr (Or.inl rfl) | exact Or.inr (Or.inr rfl)) (hd : (x == ("__debug__" : Str)) = false := by decide) (hcd : (x == ("__classdict__" : Str)) = false := by decide)
    (hs : starEach (.Starred (.Name x p2) p :: es) X.env = (true, eval (.Name x p2) X.env) :: starEach es X.env := by rfl) : JA X r (.Starred (.Name x p2) p :: es) S K := fun c F σ H hr E Q q =>
  of_pa (StX.pa_star (pe_var hN hv hd hcd) pa_tA hs) (by
    obtain ⟨z, e1, a, hh, e2, ha, rv, nF, nb, q0⟩ := E.sl i _ e
    subst e2
    obtain ⟨ws, rfl, rv⟩ := obr_l rv
    exact ⟨.ref a, e1, a, ws, rfl, .inr (.inl (.inl ha)), h c F σ H hr E _ fun vs as F2 H2 S2 h3 E2 k2 r2 => q _ _ F2 H2 S2 h3 E2 k2 (ArA.app (ArA.ofRp (rv.ex k2)) r2)⟩)
end
end DL

/-! DMK: xs.extend(t), t a tuple. -/
namespace DL
open PySem L2 PySem.AutoSeq1
theorem ext_tupM (l : Addr) (items : Array Value) (n : Nat) (b : Addr) (items2 : Array Value) (n2 : Nat) (dd : Option Addr) (ss : Array (Option Value)) (hs0 : ¬(!items.isEmpty && Builtin.List.listTooLong (items.size + items2.size)) = true) (hs1 : items.size ≤ sizeLine) (hs2 : items.size + items2.size ≤ sizeLine + 1) :
    Meets (Builtin.«list.extend» ⟨[.ref l, .ref b], []⟩) (fun _ R s => s.heap.get? l = some { cls := .type "list", dict := none, data := .seq items n, slots := #[] } ∧ s.heap.get? b = some { cls := .type "tuple", dict := dd, data := .seq items2 n2, slots := ss } ∧ R (.ok (.ret Value.none)) { s with heap := s.heap.update l (Obj.mapSeq fun x => x ++ items2), toks := s.toks }) :=
  .of_wp fun prog w A R s h => by
    obtain ⟨hp, g, d, tk, os⟩ := s; obtain ⟨hl, hb, h⟩ := h; have f1 := idx_int; have f2 := sub_tuple_tuple; have f3 := sub_list_list; have f4 := sub_tuple_list; have f5 := sub_list_tuple;
    have hz' : (items ++ items2).size ≤ sizeLine + 1 := by rw [Array.size_append]; exact hs2
    wp_walk using (wpAny_updateSeq hl rfl (hz := hs1) (_hz' := hz')), wpAny_loadPart' hl, wpAny_loadPart' hb; exact ⟨_, rfl, h⟩
variable {X : Cx} {r : SR} {S : List Sl}
def rExtendT (K : PySem.W.Frag) : V → List V → Hp → VK → Prop := fun x vs H Q => ∃ l b xs zs, x = .ref l ∧ vs = [.ref b] ∧ H l = some (.lst xs) ∧ SqT K H b zs ∧ xs.length + zs.length ≤ sizeLine ∧ Q .non (upd H l (.lst (xs ++ zs)))
theorem mt_extendT : MtM X "list.extend" (rExtendT X.K) := by
  intro pins s σ H x vs v us Q I rx rv h
  obtain ⟨l, b, xs, zs, rfl, rfl, hH, hB, hz, q⟩ := h
  cases rx
  obtain ⟨u, rfl, ru⟩ := rv.one
  cases ru
  obtain ⟨z, its, n, r, hl, e⟩ := I.lstM hH
  obtain ⟨its2, r2, ⟨o, e2, hc, n2, hd⟩, hz2⟩ := I.tuple hB
  obtain ⟨cls, dd, dt, ss⟩ := o
  have hc : cls = .type "tuple" := hc
  have hd : dt = .seq its2.toArray n2 := hd
  subst hc hd
  have hl2 := r2.length
  have hsz : its.toArray.size + its2.toArray.size ≤ sizeLine := by rw [List.size_toArray, List.size_toArray]; omega
  have hlong : ¬ (!its.toArray.isEmpty && Builtin.List.listTooLong (its.toArray.size + its2.toArray.size)) = true := by
    rw [show Builtin.List.listTooLong (its.toArray.size + its2.toArray.size) = false by unfold Builtin.List.listTooLong; exact decide_eq_false (by omega), Bool.and_false]
    exact Bool.false_ne_true
  refine call_meets F.slot_list_extend ⟨_, e, rfl⟩ F.entry_list_extend (F.args_list_extend_2 _ _)
    (ext_tupM l its.toArray n b its2.toArray n2 dd ss hlong (by rw [List.size_toArray]; omega) (by omega)) ⟨e, e2, ?_⟩
  refine ⟨.non, _, I.lset (its' := its ++ its2) hH e (by simp) (r.append r2) ?_, rfl, q⟩
  rw [List.length_append]
  omega
/-- x.extend(t), x a list of one's own, t a tuple -/
theorem jextendT {e : Expr} {x : Str} {p apos cpos pos : Pos} {E : DE} {rest : List Stmt} (i : Nat) (xs0 : List D)
    (h : JE X r e S fun d S1 => ∃ ys xs, d = .tuple ys ∧ S1[i]? = some (.own xs) ∧ xs.length + ys.length ≤ sizeLine ∧ JSs X r rest (S1.set i (.own (xs ++ ys))) E) (h0 : S[i]? = some (.own xs0) := by rfl)
    (hp : PS X (.Expr (.Call (.Attribute (.Name x p) "extend" apos) [e] [] cpos) pos) (tDrop (tBM X.K "list" (rExtendT X.K) (tVar i) (tCons (tE X e) tNil))) := by exact ps_expr (pe_bm PySem.F.plainAttrs_list PySem.F.slot_list_extend PySem.F.type_list_extend mt_extendT (pv _) (pa_cons pe_tE pa_nil))) :
    JSs X r (.Expr (.Call (.Attribute (.Name x p) "extend" apos) [e] [] cpos) pos :: rest) S E := jss_cons fun c F σ H hr Ev G g => of_ps hp (by
    obtain ⟨y, e1, a, hh, e2, ha, rv, nF, nb, q0⟩ := Ev.sl i _ h0
    subst e2
    obtain ⟨vs, rfl, rv⟩ := obr_l rv
    refine ⟨.ref a, e1, .inl ⟨rfl, _, .inl (.inl ha)⟩, h c F σ H hr Ev _ fun v d F1 H1 S1 h1 E1 k1 r1 => ?_⟩
    obtain ⟨ys, xs, rfl, e3, hl, kx⟩ := h1
    obtain ⟨y, e1', a', hh, e2', ha', rv', _⟩ := E1.sl i _ e3
    rw [e1] at e1'; cases e1'; cases e2'
    obtain ⟨vs', rfl, rv'⟩ := obr_l rv'
    cases r1 with
    | @tup b ws _ hb rw' =>
      exact ⟨a, b, vs', ws, rfl, rfl, ha', .of (E1.fin.fh _ _ hb), by rw [rv'.length, rw'.length]; exact hl, g.nx F1 σ _ _ kx (E1.write (vs := .lst (vs' ++ ws)) (ds := .l (xs ++ ys)) e3 e1 (rv'.append rw')) k1⟩)
/-- x[:k], x a list of one's own that stays so -/
theorem jn_cutToO {K : List D → List Sl → Prop} {x : Str} {hi : Expr} {p p2 pos : Pos} (i : Nat) {xs : List D} (h : JE X r hi S fun d S2 => ∃ k : Nat, d = .int k ∧ S2[i]? = some (.own xs) ∧ K (xs.take k) S2) (e : S[i]? = some (.own xs) := by rfl) (hN : X.N[i]? = some x := by rfl) (hv : Vis X.env.scope x := by first | exact Or.inl rfl | exact Or.inr (Or.inl rfl) | exact Or.inr (Or.inr rfl)) (hd : (x == ("__debug__" : Str)) = false := by decide) (hcd : (x == ("__classdict__" : Str)) = false := by decide) : JN X r (.Subscript (.Name x p) (.Slice none (some hi) none p2) pos) S K :=
  fun c F σ H hr E Q q => of_pe (pe_slice sl_list (pe_var hN hv hd hcd) po_tO po_tO) (by
    obtain ⟨y, e1, a, hh, e2, ha, rv, nF, nb, q0⟩ := E.sl i _ e
    subst e2
    refine ⟨.ref a, e1, ?_⟩
    have h1 : PtD X r S none fun l S2 => PtD X r S2 (some hi) fun u S3 => S3[i]? = some (.own xs) ∧ K (cutD xs l u) S3 := by
      show JE X r hi S _
      exact h.mono fun d S2 ⟨k, e1, e2, kk⟩ => ⟨k, e1, e2, by rw [cutD_to]; exact kk⟩
    refine ptd_run hr E h1 _ fun l F2 H2 S2 h2 E2 k2 => ptd_run hr E2 h2 _ fun u F3 H3 S3 h3 E3 k3 => ?_
    obtain ⟨e3, kd⟩ := h3
    obtain ⟨y, e1', a', hh', e2', ha', rv', _⟩ := E3.sl i _ e3
    rw [e1] at e1'; cases e1'; cases e2'
    obtain ⟨vs', rfl, rv'⟩ := obr_l rv'
    exact ⟨a, vs', rfl, .inl (.inl ha'), fun p n => q p _ F3 _ S3 kd (newL_of E3 n (cut_rp rv' l u)) (k2.trans k3)⟩)
end DL

/-! nets: pieces, free lots, rings (plain). -/
namespace NT
abbrev Ed := Nat × Nat
/-- led to by roads -/
inductive Cn (es : List Ed) : Nat → Nat → Prop
  | refl (a : Nat) : Cn es a a
  | step {a b c : Nat} : ((a, b) ∈ es ∨ (b, a) ∈ es) → Cn es b c → Cn es a c
theorem Cn.trans {es : List Ed} {a b c : Nat} (h : Cn es a b) (k : Cn es b c) : Cn es a c := by
  induction h with
  | refl => exact k
  | step e _ ih => exact .step e (ih k)
theorem Cn.one {es : List Ed} {a b : Nat} (h : (a, b) ∈ es) : Cn es a b := .step (.inl h) (.refl b)
theorem Cn.symm {es : List Ed} {a b : Nat} (h : Cn es a b) : Cn es b a := by
  induction h with
  | refl => exact .refl _
  | step e _ ih => exact ih.trans (.step e.symm (.refl _))
theorem Cn.mono {es fs : List Ed} (h : ∀ e ∈ es, e ∈ fs) {a b : Nat} (k : Cn es a b) : Cn fs a b := by
  induction k with
  | refl => exact .refl _
  | step e _ ih => exact .step (e.imp (h _) (h _)) ih
/-- roads that lead nowhere new -/
theorem Cn.flat {es fs : List Ed} (h : ∀ e ∈ es, Cn fs e.1 e.2) {a b : Nat} (k : Cn es a b) : Cn fs a b := by
  induction k with
  | refl => exact .refl _
  | step e _ ih =>
    rcases e with e | e
    · exact (h _ e).trans ih
    · exact (h _ e).symm.trans ih
theorem cn_nil {a b : Nat} : Cn [] a b ↔ a = b := by
  constructor
  · intro h
    cases h with
    | refl => rfl
    | step e _ => rcases e with e | e <;> cases e
  · intro h
    rw [h]; exact .refl b
theorem cn_cons {es : List Ed} {e : Ed} {c d : Nat} : Cn (e :: es) c d ↔ Cn es c d ∨ (Cn es c e.1 ∧ Cn es e.2 d) ∨ (Cn es c e.2 ∧ Cn es e.1 d) := by
  constructor
  · intro h
    induction h with
    | refl => exact .inl (.refl _)
    | @step a b c h _ ih =>
      have key : Cn es a b ∨ (a = e.1 ∧ b = e.2) ∨ (a = e.2 ∧ b = e.1) := by
        rcases h with h | h
        · rcases List.mem_cons.mp h with h | h
          · exact .inr (.inl ⟨congrArg Prod.fst h, congrArg Prod.snd h⟩)
          · exact .inl (.one h)
        · rcases List.mem_cons.mp h with h | h
          · exact .inr (.inr ⟨congrArg Prod.snd h, congrArg Prod.fst h⟩)
          · exact .inl (Cn.one h).symm
      rcases key with k | ⟨rfl, rfl⟩ | ⟨rfl, rfl⟩
      · rcases ih with i | ⟨i, j⟩ | ⟨i, j⟩
        · exact .inl (k.trans i)
        · exact .inr (.inl ⟨k.trans i, j⟩)
        · exact .inr (.inr ⟨k.trans i, j⟩)
      · rcases ih with i | ⟨i, j⟩ | ⟨i, j⟩
        · exact .inr (.inl ⟨.refl _, i⟩)
        · exact .inr (.inl ⟨.refl _, j⟩)
        · exact .inl j
      · rcases ih with i | ⟨i, j⟩ | ⟨i, j⟩
        · exact .inr (.inr ⟨.refl _, i⟩)
        · exact .inl j
        · exact .inr (.inr ⟨.refl _, j⟩)
  · have m : ∀ x ∈ es, x ∈ e :: es := fun x h => List.mem_cons_of_mem _ h
    have o : Cn (e :: es) e.1 e.2 := .one List.mem_cons_self
    rintro (h | ⟨h, k⟩ | ⟨h, k⟩)
    · exact h.mono m
    · exact (h.mono m).trans (o.trans (k.mono m))
    · exact (h.mono m).trans (o.symm.trans (k.mono m))
theorem cn_perm {es fs : List Ed} (h : es.Perm fs) {a b : Nat} : Cn es a b ↔ Cn fs a b := ⟨Cn.mono fun e he => h.mem_iff.mp he, Cn.mono fun e he => h.mem_iff.mpr he⟩
/-- exchange -/
theorem cn_exch {es : List Ed} {e : Ed} {c d : Nat} (h : Cn (e :: es) c d) (n : ¬ Cn es c d) : Cn ((c, d) :: es) e.1 e.2 := by
  have m : ∀ x ∈ es, x ∈ (c, d) :: es := fun x h => List.mem_cons_of_mem _ h
  have o : Cn ((c, d) :: es) c d := .one List.mem_cons_self
  rcases cn_cons.mp h with h | ⟨h, k⟩ | ⟨h, k⟩
  · exact (n h).elim
  · exact ((h.mono m).symm.trans o).trans (k.mono m).symm
  · exact ((k.mono m).trans o.symm).trans (h.mono m)
/-! ### heads: a number for each piece -/
structure Hd (n : Nat) (es : List Ed) (f : Nat → Nat) : Prop where
  lt : ∀ c, c < n → f c < n
  idem : ∀ c, c < n → f (f c) = f c
  ker : ∀ c d, c < n → d < n → (f c = f d ↔ Cn es c d)
def mrgF (f : Nat → Nat) (one other : Nat) : Nat → Nat := fun c => if f c = other then one else f c
theorem hd_id (n : Nat) : Hd n [] id := ⟨fun c h => h, fun c _ => rfl, fun c d _ _ => cn_nil.symm⟩
/-- two pieces get one head -/
theorem Hd.mrg {n : Nat} {es : List Ed} {f : Nat → Nat} (h : Hd n es f) {a b one other : Nat} (ha : a < n) (hb : b < n) (ho : (one = f a ∧ other = f b) ∨ (one = f b ∧ other = f a)) : Hd n ((a, b) :: es) (mrgF f one other) := by
  have h1 : one < n := by rcases ho with ⟨e, _⟩ | ⟨e, _⟩ <;> rw [e] <;> first | exact h.lt _ ha | exact h.lt _ hb
  have i1 : f one = one := by rcases ho with ⟨e, _⟩ | ⟨e, _⟩ <;> rw [e] <;> first | exact h.idem _ ha | exact h.idem _ hb
  refine ⟨fun c hc => ?_, fun c hc => ?_, fun c d hc hd => ?_⟩
  · unfold mrgF; split
    · exact h1
    · exact h.lt c hc
  · unfold mrgF
    by_cases e : f c = other
    · rw [if_pos e, i1]; split <;> rfl
    · rw [if_neg e, h.idem c hc, if_neg e]
  · rw [cn_cons]
    have k1 := h.ker c d hc hd
    have k2 := h.ker c a hc ha
    have k3 := h.ker b d hb hd
    have k4 := h.ker c b hc hb
    have k5 := h.ker a d ha hd
    rw [← k1, ← k2, ← k3, ← k4, ← k5]
    unfold mrgF
    rcases ho with ⟨rfl, rfl⟩ | ⟨rfl, rfl⟩
    · by_cases e1 : f c = f b <;> by_cases e2 : f d = f b
      · rw [if_pos e1, if_pos e2]; exact ⟨fun _ => .inl (e1.trans e2.symm), fun _ => rfl⟩
      · rw [if_pos e1, if_neg e2]; constructor
        · intro e; exact .inr (.inr ⟨e1, e⟩)
        · rintro (e | ⟨_, e⟩ | ⟨_, e⟩)
          · exact (e2 (e.symm.trans e1)).elim
          · exact (e2 e.symm).elim
          · exact e
      · rw [if_neg e1, if_pos e2]; constructor
        · intro e; exact .inr (.inl ⟨e, e2.symm⟩)
        · rintro (e | ⟨e, _⟩ | ⟨e, _⟩)
          · exact (e1 (e.trans e2)).elim
          · exact e
          · exact (e1 e).elim
      · rw [if_neg e1, if_neg e2]; constructor
        · exact .inl
        · rintro (e | ⟨_, e⟩ | ⟨e, _⟩)
          · exact e
          · exact (e2 e.symm).elim
          · exact (e1 e).elim
    · by_cases e1 : f c = f a <;> by_cases e2 : f d = f a
      · rw [if_pos e1, if_pos e2]; exact ⟨fun _ => .inl (e1.trans e2.symm), fun _ => rfl⟩
      · rw [if_pos e1, if_neg e2]; constructor
        · intro e; exact .inr (.inl ⟨e1, e⟩)
        · rintro (e | ⟨_, e⟩ | ⟨_, e⟩)
          · exact (e2 (e.symm.trans e1)).elim
          · exact e
          · exact (e2 e.symm).elim
      · rw [if_neg e1, if_pos e2]; constructor
        · intro e; exact .inr (.inr ⟨e, e2.symm⟩)
        · rintro (e | ⟨e, _⟩ | ⟨e, _⟩)
          · exact (e1 (e.trans e2)).elim
          · exact (e1 e).elim
          · exact e
      · rw [if_neg e1, if_neg e2]; constructor
        · exact .inl
        · rintro (e | ⟨e, _⟩ | ⟨_, e⟩)
          · exact e
          · exact (e1 e).elim
          · exact (e2 e.symm).elim
theorem Hd.perm {n : Nat} {es fs : List Ed} {f : Nat → Nat} (h : Hd n es f) (p : es.Perm fs) : Hd n fs f := ⟨h.lt, h.idem, fun c d hc hd => (h.ker c d hc hd).trans (cn_perm p)⟩
/-- how many heads -/
def cnt (n : Nat) (f : Nat → Nat) : Nat := ((List.range n).filter fun c => decide (f c = c)).length
/-- a piece less, if two are joined -/
theorem filter_less {α : Type} {p q : α → Bool} {x : α} : ∀ {l : List α}, l.Nodup → x ∈ l → p x = true → q x = false → (∀ y ∈ l, y ≠ x → q y = p y) → (l.filter q).length + 1 = (l.filter p).length
  | y :: l, nd, hx, hp, hq, h => by
    rw [List.nodup_cons] at nd
    rcases List.mem_cons.mp hx with rfl | hx
    · rw [List.filter_cons_of_pos hp, List.filter_cons_of_neg (by rw [hq]; exact Bool.false_ne_true), List.length_cons]
      rw [List.filter_congr fun z hz => h z (List.mem_cons_of_mem _ hz) fun e => nd.1 (e ▸ hz)]
    · have ih := filter_less nd.2 hx hp hq fun z hz => h z (List.mem_cons_of_mem _ hz)
      have hy := h y List.mem_cons_self fun e => nd.1 (e ▸ hx)
      cases hpy : p y with
      | true => rw [List.filter_cons_of_pos hpy, List.filter_cons_of_pos (by rw [hy, hpy]), List.length_cons, List.length_cons, ih]
      | false => rw [List.filter_cons_of_neg (p := p) (by rw [hpy]; exact Bool.false_ne_true), List.filter_cons_of_neg (p := q) (by rw [hy, hpy]; exact Bool.false_ne_true), ih]
theorem cnt_mrg {n : Nat} {es : List Ed} {f : Nat → Nat} (h : Hd n es f) {a b one other : Nat} (ha : a < n) (hb : b < n) (ho : (one = f a ∧ other = f b) ∨ (one = f b ∧ other = f a)) :
    (f a = f b → cnt n (mrgF f one other) = cnt n f) ∧ (f a ≠ f b → cnt n (mrgF f one other) + 1 = cnt n f) := by
  constructor
  · intro e
    have : mrgF f one other = f := by
      funext c
      unfold mrgF
      rcases ho with ⟨rfl, rfl⟩ | ⟨rfl, rfl⟩ <;> split <;> simp_all
    rw [this]
  · intro e
    have i2 : f other = other := by rcases ho with ⟨_, e⟩ | ⟨_, e⟩ <;> rw [e] <;> first | exact h.idem _ ha | exact h.idem _ hb
    have h2 : other < n := by rcases ho with ⟨_, e⟩ | ⟨_, e⟩ <;> rw [e] <;> first | exact h.lt _ ha | exact h.lt _ hb
    have hne : one ≠ other := by rcases ho with ⟨e1, e2⟩ | ⟨e1, e2⟩ <;> rw [e1, e2] <;> first | exact e | exact fun z => e z.symm
    refine filter_less List.nodup_range (List.mem_range.mpr h2) (decide_eq_true i2) ?_ fun y hy hyo => ?_
    · unfold mrgF
      rw [if_pos i2]
      exact decide_eq_false hne
    · unfold mrgF
      by_cases e2 : f y = other
      · rw [if_pos e2]
        have hy2 := List.mem_range.mp hy
        have n1 : ¬ one = y := fun z => by
          have := h.idem
          subst z
          rcases ho with ⟨e3, e4⟩ | ⟨e3, e4⟩
          · rw [e3, h.idem _ ha, e4] at e2; exact e e2
          · rw [e3, h.idem _ hb, e4] at e2; exact e e2.symm
        have n2 : ¬ f y = y := fun z => hyo (by rw [← z, e2])
        rw [decide_eq_false n1, decide_eq_false n2]
      · rw [if_neg e2]
/-- as many heads as pieces, whatever they are called: those that are the first of their piece -/
def firsts (n : Nat) (f : Nat → Nat) : Nat := ((List.range n).filter fun c => (List.range c).all fun d => !decide (f d = f c)).length
theorem firsts_ker {n : Nat} {f g : Nat → Nat} (h : ∀ c d, c < n → d < n → (f c = f d ↔ g c = g d)) : firsts n f = firsts n g := by
  unfold firsts
  refine congrArg List.length (List.filter_congr fun c hc => ?_)
  have hc := List.mem_range.mp hc
  refine Bool.eq_iff_iff.mpr ?_
  rw [List.all_eq_true, List.all_eq_true]
  refine forall_congr' fun d => forall_congr' fun hd => ?_
  have hd := List.mem_range.mp hd
  simp [h d c (by omega) hc]
/-- the heads that are met -/
def vals (f : Nat → Nat) : Nat → List Nat
  | 0 => []
  | n + 1 => if f n ∈ vals f n then vals f n else vals f n ++ [f n]
theorem vals_succ (f : Nat → Nat) (n : Nat) : vals f (n + 1) = if f n ∈ vals f n then vals f n else vals f n ++ [f n] := rfl
theorem mem_vals {f : Nat → Nat} : ∀ {n x}, x ∈ vals f n ↔ ∃ c, c < n ∧ f c = x
  | 0, x => by simp [vals]
  | n + 1, x => by
    have ih := @mem_vals f n
    unfold vals
    constructor
    · intro h
      split at h
      · obtain ⟨c, h1, h2⟩ := ih.mp h
        exact ⟨c, by omega, h2⟩
      · rcases List.mem_append.mp h with h | h
        · obtain ⟨c, h1, h2⟩ := ih.mp h
          exact ⟨c, by omega, h2⟩
        · exact ⟨n, by omega, (List.mem_singleton.mp h).symm⟩
    · rintro ⟨c, hc, rfl⟩
      by_cases e : c = n
      · subst e
        split
        · assumption
        · exact List.mem_append.mpr (.inr (List.mem_singleton.mpr rfl))
      · have := ih.mpr ⟨c, by omega, rfl⟩
        split
        · exact this
        · exact List.mem_append.mpr (.inl this)
theorem vals_nodup {f : Nat → Nat} : ∀ n, (vals f n).Nodup
  | 0 => List.nodup_nil
  | n + 1 => by
    unfold vals
    split
    · exact vals_nodup n
    · rename_i h
      exact List.nodup_append.mpr ⟨vals_nodup n, by simp, fun a ha b hb e => by
        rw [List.mem_singleton.mp hb] at e
        exact h (e ▸ ha)⟩
theorem vals_firsts {f : Nat → Nat} : ∀ n, (vals f n).length = firsts n f
  | 0 => rfl
  | n + 1 => by
    have ih := vals_firsts (f := f) n
    unfold firsts at ih ⊢
    rw [List.range_succ, List.filter_append, List.length_append, ← ih, vals_succ]
    by_cases h : f n ∈ vals f n
    · obtain ⟨c, h1, h2⟩ := mem_vals.mp h
      rw [if_pos h, List.filter_cons_of_neg]
      · rfl
      · rw [List.all_eq_true]
        intro z
        have := z c (List.mem_range.mpr h1)
        simp [h2] at this
    · rw [if_neg h, List.length_append, List.filter_cons_of_pos]
      · rfl
      · rw [List.all_eq_true]
        intro d hd
        have hd := List.mem_range.mp hd
        have : f d ≠ f n := fun e => h (mem_vals.mpr ⟨d, hd, e⟩)
        simp [this]
/-- the heads are those that are their own -/
theorem Hd.cnt {n : Nat} {es : List Ed} {f : Nat → Nat} (h : Hd n es f) : cnt n f = firsts n f := by
  rw [← vals_firsts]
  have p : ((List.range n).filter fun c => decide (f c = c)).Perm (vals f n) := (List.perm_ext_iff_of_nodup (List.nodup_range.sublist List.filter_sublist) (vals_nodup n)).mpr fun x => by
    rw [List.mem_filter, List.mem_range, decide_eq_true_eq, mem_vals]
    constructor
    · rintro ⟨h1, h2⟩
      exact ⟨x, h1, h2⟩
    · rintro ⟨c, h1, rfl⟩
      exact ⟨h.lt c h1, h.idem c h1⟩
  exact p.length_eq
/-! ### how many pieces -/
def headF : List Ed → Nat → Nat
  | [], c => c
  | (a, b) :: es, c => mrgF (headF es) (headF es a) (headF es b) c
def Ends (n : Nat) (es : List Ed) : Prop := ∀ e ∈ es, e.1 < n ∧ e.2 < n
theorem Ends.tail {n : Nat} {e : Ed} {es : List Ed} (h : Ends n (e :: es)) : Ends n es := fun x hx => h x (List.mem_cons_of_mem _ hx)
theorem headF_hd {n : Nat} : ∀ {es : List Ed}, Ends n es → Hd n es (headF es)
  | [], _ => hd_id n
  | (a, b) :: es, h => (headF_hd h.tail).mrg (h _ List.mem_cons_self).1 (h _ List.mem_cons_self).2 (.inl ⟨rfl, rfl⟩)
/-- the number of pieces -/
def pc (n : Nat) (es : List Ed) : Nat := cnt n (headF es)
theorem Hd.pc {n : Nat} {es : List Ed} {f : Nat → Nat} (h : Hd n es f) (he : Ends n es) : firsts n f = pc n es := by
  have h2 := headF_hd he
  unfold NT.pc
  rw [h2.cnt]
  exact firsts_ker fun c d hc hd => (h.ker c d hc hd).trans (h2.ker c d hc hd).symm
theorem pc_perm {n : Nat} {es fs : List Ed} (h : ∀ a b, Cn es a b ↔ Cn fs a b) (he : Ends n es) (hf : Ends n fs) : pc n es = pc n fs := by
  rw [← (headF_hd he).pc he]
  have h2 := headF_hd hf
  unfold pc
  rw [h2.cnt]
  exact firsts_ker fun c d hc hd => ((headF_hd he).ker c d hc hd).trans ((h c d).trans (h2.ker c d hc hd).symm)
theorem pc_nil (n : Nat) : pc n [] = n := by
  show ((List.range n).filter fun c => decide (c = c)).length = n
  rw [List.filter_eq_self.mpr fun c _ => decide_eq_true rfl, List.length_range]
theorem pc_same {n : Nat} {e : Ed} {es : List Ed} (he : Ends n (e :: es)) (h : Cn es e.1 e.2) : pc n (e :: es) = pc n es := by
  have h1 := headF_hd he.tail
  obtain ⟨a, b⟩ := e
  obtain ⟨ha, hb⟩ := he _ List.mem_cons_self
  exact (cnt_mrg h1 ha hb (.inl ⟨rfl, rfl⟩)).1 ((h1.ker a b ha hb).mpr h)
theorem pc_less {n : Nat} {e : Ed} {es : List Ed} (he : Ends n (e :: es)) (h : ¬ Cn es e.1 e.2) : pc n (e :: es) + 1 = pc n es := by
  have h1 := headF_hd he.tail
  obtain ⟨a, b⟩ := e
  obtain ⟨ha, hb⟩ := he _ List.mem_cons_self
  exact (cnt_mrg h1 ha hb (.inl ⟨rfl, rfl⟩)).2 fun z => h ((h1.ker a b ha hb).mp z)
/-! ### free lots -/
def Free (n : Nat) (es : List Ed) : Prop := pc n es + es.length = n
theorem pc_ge {n : Nat} : ∀ {es : List Ed}, Ends n es → n ≤ pc n es + es.length
  | [], _ => by rw [pc_nil]; exact Nat.le_add_right _ _
  | e :: es, h => by
    have ih := pc_ge h.tail
    rw [List.length_cons]
    by_cases c : Cn es e.1 e.2
    · rw [pc_same h c]; omega
    · have := pc_less h c; omega
theorem free_cons {n : Nat} {e : Ed} {es : List Ed} (he : Ends n (e :: es)) : Free n (e :: es) ↔ Free n es ∧ ¬ Cn es e.1 e.2 := by
  have g := pc_ge he.tail
  unfold Free
  rw [List.length_cons]
  by_cases c : Cn es e.1 e.2
  · rw [pc_same he c]
    exact ⟨fun h => by omega, fun h => (h.2 c).elim⟩
  · have := pc_less he c
    exact ⟨fun h => ⟨by omega, c⟩, fun h => by omega⟩
theorem free_perm {n : Nat} {es fs : List Ed} (p : es.Perm fs) (he : Ends n es) : Free n es ↔ Free n fs := by
  have hf : Ends n fs := fun e h => he e (p.mem_iff.mpr h)
  unfold Free
  rw [pc_perm (fun a b => cn_perm p) he hf, p.length_eq]
theorem free_nil (n : Nat) : Free n [] := by unfold Free; rw [pc_nil]; rfl
theorem Ends.sub {n : Nat} {es fs : List Ed} (h : Ends n fs) (s : es.Sublist fs) : Ends n es := fun e he => h e (s.subset he)
theorem Free.sub {n : Nat} {es fs : List Ed} (s : es.Sublist fs) (he : Ends n fs) (h : Free n fs) : Free n es := by
  induction s with
  | slnil => exact h
  | cons a s ih => exact ih he.tail ((free_cons he).mp h).1
  | cons_cons a s ih =>
    obtain ⟨h1, h2⟩ := (free_cons he).mp h
    exact (free_cons fun e hx => by
      rcases List.mem_cons.mp hx with rfl | hx
      · exact he _ List.mem_cons_self
      · exact he _ (List.mem_cons_of_mem _ (s.subset hx))).mpr ⟨ih he.tail h1, fun c => h2 (c.mono fun e hx => s.subset hx)⟩
end NT

/-! nets: rings by their crossings: each is met twice, and they hang together (plain). -/
namespace NT
def endsL (es : List Ed) : List Nat := es.flatMap fun e => [e.1, e.2]
def deg (es : List Ed) (x : Nat) : Nat := (endsL es).count x
theorem endsL_cons (e : Ed) (es : List Ed) : endsL (e :: es) = e.1 :: e.2 :: endsL es := rfl
theorem deg_cons (e : Ed) (es : List Ed) (x : Nat) : deg (e :: es) x = deg es x + (if e.2 = x then 1 else 0) + (if e.1 = x then 1 else 0) := by
  unfold deg
  rw [endsL_cons, List.count_cons, List.count_cons]
  simp [beq_iff_eq]
theorem mem_endsL {es : List Ed} {x : Nat} : x ∈ endsL es ↔ ∃ e ∈ es, e.1 = x ∨ e.2 = x := by
  unfold endsL
  rw [List.mem_flatMap]
  constructor
  · rintro ⟨e, he, hx⟩
    simp only [List.mem_cons, List.not_mem_nil, or_false] at hx
    exact ⟨e, he, hx.imp Eq.symm Eq.symm⟩
  · rintro ⟨e, he, hx⟩
    exact ⟨e, he, by simp only [List.mem_cons, List.not_mem_nil, or_false]; exact hx.imp Eq.symm Eq.symm⟩
theorem deg_pos {es : List Ed} {x : Nat} : 0 < deg es x ↔ x ∈ endsL es := List.count_pos_iff
theorem deg_perm {es fs : List Ed} (p : es.Perm fs) (x : Nat) : deg es x = deg fs x := by
  have : (endsL es).Perm (endsL fs) := p.flatMap_right _
  exact this.count_eq x
/-- sums over crossings -/
def sumN (n : Nat) (f : Nat → Nat) : Nat := ((List.range n).map f).sum
theorem sumN_succ (n : Nat) (f : Nat → Nat) : sumN (n + 1) f = sumN n f + f n := by
  unfold sumN
  rw [List.range_succ, List.map_append, List.sum_append]
  simp
theorem sumN_add (f g : Nat → Nat) : ∀ n, sumN n (fun x => f x + g x) = sumN n f + sumN n g
  | 0 => rfl
  | n + 1 => by rw [sumN_succ, sumN_succ, sumN_succ, sumN_add f g n]; omega
theorem sumN_zero : ∀ n, sumN n (fun _ => 0) = 0
  | 0 => rfl
  | n + 1 => by rw [sumN_succ, sumN_zero n]
theorem sumN_one (p : Nat → Bool) (a : Nat) : ∀ n, sumN n (fun x => if p x = true then (if a = x then 1 else 0) else 0) = if a < n ∧ p a = true then 1 else 0
  | 0 => by simp [sumN]
  | n + 1 => by
    rw [sumN_succ, sumN_one p a n]
    by_cases e : a = n
    · subst e
      by_cases hp : p a = true
      · simp [hp]
      · simp [hp]
    · have : (a < n + 1 ∧ p a = true) ↔ (a < n ∧ p a = true) := by constructor <;> rintro ⟨h1, h2⟩ <;> exact ⟨by omega, h2⟩
      simp only [this, e, if_false]
      simp
theorem sumN_congr {f g : Nat → Nat} : ∀ {n}, (∀ x, x < n → f x = g x) → sumN n f = sumN n g
  | 0, _ => rfl
  | n + 1, h => by rw [sumN_succ, sumN_succ, sumN_congr fun x hx => h x (by omega), h n (by omega)]
theorem sumN_count (p : Nat → Bool) (c : Nat) : ∀ n, sumN n (fun x => if p x = true then c else 0) = ((List.range n).filter p).length * c
  | 0 => by simp [sumN]
  | n + 1 => by
    rw [sumN_succ, sumN_count p c n, List.range_succ, List.filter_append, List.length_append, Nat.add_mul]
    by_cases h : p n = true
    · rw [if_pos h, List.filter_cons_of_pos h]; simp
    · rw [if_neg h, List.filter_cons_of_neg h]; simp
/-- how often roads meet some crossings -/
theorem sum_deg {n : Nat} (p : Nat → Bool) : ∀ {es : List Ed}, Ends n es → sumN n (fun x => if p x = true then deg es x else 0) = (es.map fun e => (if p e.1 = true then 1 else 0) + (if p e.2 = true then 1 else 0)).sum
  | [], _ => by
    show sumN n (fun x => if p x = true then 0 else 0) = 0
    rw [sumN_congr (g := fun _ => 0) fun x _ => by split <;> rfl, sumN_zero]
  | e :: es, h => by
    have ih := sum_deg p h.tail
    obtain ⟨h1, h2⟩ := h e List.mem_cons_self
    rw [List.map_cons, List.sum_cons, ← ih]
    have e1 : ∀ x, (if p x = true then deg (e :: es) x else 0) = (if p x = true then deg es x else 0) + ((if p x = true then (if e.2 = x then 1 else 0) else 0) + (if p x = true then (if e.1 = x then 1 else 0) else 0)) := fun x => by
      rw [deg_cons]
      split <;> omega
    rw [sumN_congr fun x _ => e1 x, sumN_add, sumN_add, sumN_one, sumN_one]
    simp only [h1, h2, true_and]
    omega
theorem sum_deg_all {n : Nat} {es : List Ed} (h : Ends n es) : sumN n (deg es) = 2 * es.length := by
  have := sum_deg (fun _ => true) h
  simp only [if_true] at this
  rw [this]
  clear this h
  induction es with
  | nil => rfl
  | cons e es ih => rw [List.map_cons, List.sum_cons, ih, List.length_cons]; omega
/-- a piece's crossings are met evenly -/
theorem even_piece {n : Nat} {es : List Ed} (h : Ends n es) (p : Nat → Bool) (hp : ∀ e ∈ es, p e.1 = p e.2) : ∃ k, sumN n (fun x => if p x = true then deg es x else 0) = 2 * k := by
  rw [sum_deg p h]
  clear h
  induction es with
  | nil => exact ⟨0, rfl⟩
  | cons e es ih =>
    obtain ⟨k, hk⟩ := ih fun e he => hp e (List.mem_cons_of_mem _ he)
    rw [List.map_cons, List.sum_cons, hk, hp e List.mem_cons_self]
    by_cases h : p e.2 = true
    · exact ⟨k + 1, by rw [if_pos h]; omega⟩
    · exact ⟨k, by rw [if_neg h]; omega⟩
/-! ### pieces that are met -/
def metC (es : List Ed) (c : Nat) : Bool := decide (c ∈ endsL es)
/-- who is met by no road is alone -/
theorem cn_alone {es : List Ed} {a b : Nat} (h : Cn es a b) (n : a ∉ endsL es) : a = b := by
  cases h with
  | refl => rfl
  | step e _ =>
    refine (n ?_).elim
    rcases e with e | e
    · exact mem_endsL.mpr ⟨_, e, .inl rfl⟩
    · exact mem_endsL.mpr ⟨_, e, .inr rfl⟩
theorem filter_two {α : Type} (p q : α → Bool) (l : List α) : (l.filter p).length = (l.filter fun x => p x && q x).length + (l.filter fun x => p x && !q x).length := by
  induction l with
  | nil => rfl
  | cons x l ih =>
    cases hp : p x <;> cases hq : q x <;> simp [hp, hq, ih] <;> omega
/-- heads that are met, and crossings that aren't -/
theorem cnt_split {n : Nat} {es : List Ed} {f : Nat → Nat} (h : Hd n es f) : cnt n f + ((List.range n).filter (metC es)).length = ((List.range n).filter fun c => decide (f c = c) && metC es c).length + n := by
  have h1 := filter_two (fun c => decide (f c = c)) (metC es) (List.range n)
  have h2 := filter_two (fun _ => true) (metC es) (List.range n)
  have e : ((List.range n).filter fun c => decide (f c = c) && !metC es c) = (List.range n).filter fun c => true && !metC es c := List.filter_congr fun c hc => by
    have hc := List.mem_range.mp hc
    cases hm : metC es c with
    | true => simp
    | false =>
      have hn : c ∉ endsL es := of_decide_eq_false hm
      have : f c = c := by
        have h3 := (h.ker c (f c) hc (h.lt c hc)).mp (h.idem c hc).symm
        exact (cn_alone h3 hn).symm
      simp [this]
  rw [e] at h1
  have e2 : (List.range n).filter (fun _ => true) = List.range n := List.filter_eq_self.mpr fun _ _ => rfl
  rw [e2, List.length_range] at h2
  simp only [Bool.true_and] at h1 h2
  unfold cnt
  show _ + ((List.range n).filter fun x => metC es x).length = _
  omega
def RingE (n : Nat) (es : List Ed) : Prop := ¬ Free n es ∧ ∀ k, k < es.length → Free n (es.eraseIdx k)
theorem erase_perm {α : Type} {l : List α} {k : Nat} (h : k < l.length) : (l[k] :: l.eraseIdx k).Perm l := DL.eraseIdx_perm l k h
/-- a road of a ring is led round by the others -/
theorem RingE.round {n : Nat} {es : List Ed} (he : Ends n es) (h : RingE n es) {k : Nat} (hk : k < es.length) : Cn (es.eraseIdx k) es[k].1 es[k].2 := by
  have p := erase_perm hk
  have he' : Ends n (es[k] :: es.eraseIdx k) := fun e hx => he e (p.mem_iff.mp hx)
  refine Classical.byContradiction fun nc => h.1 ((free_perm p he').mp ((free_cons he').mpr ⟨h.2 k hk, nc⟩))
/-- what the program asks of a ring -/
structure Loop (n : Nat) (es : List Ed) (f : Nat → Nat) : Prop where
  ne : es ≠ []
  two : ∀ x ∈ endsL es, deg es x = 2
  one : ((List.range n).filter fun c => decide (f c = c) && metC es c).length = 1
theorem sumN_le {f g : Nat → Nat} : ∀ {n}, (∀ x, x < n → f x ≤ g x) → sumN n f ≤ sumN n g
  | 0, _ => Nat.le_refl _
  | n + 1, h => by
    rw [sumN_succ, sumN_succ]
    have := sumN_le (f := f) (g := g) (n := n) fun x hx => h x (by omega)
    have := h n (by omega)
    omega
theorem sumN_eq {f g : Nat → Nat} : ∀ {n}, (∀ x, x < n → f x ≤ g x) → sumN n f = sumN n g → ∀ x, x < n → f x = g x
  | 0, _, _, x, hx => by omega
  | n + 1, h, e, x, hx => by
    rw [sumN_succ, sumN_succ] at e
    have h1 := sumN_le (f := f) (g := g) (n := n) fun x hx => h x (by omega)
    have h2 := h n (by omega)
    by_cases hxn : x = n
    · subst hxn; omega
    · exact sumN_eq (n := n) (fun x hx => h x (by omega)) (by omega) x (by omega)
theorem ring_loop {n : Nat} {es : List Ed} (he : Ends n es) (nl : ∀ e ∈ es, e.1 ≠ e.2) {f : Nat → Nat} (hd : Hd n es f) : RingE n es ↔ Loop n es f := by
  have hs := sum_deg_all he
  have hc := cnt_split hd
  have hcp : cnt n f = pc n es := by rw [hd.cnt, hd.pc he]
  rw [hcp] at hc
  have elt : ∀ x ∈ endsL es, x < n := fun x hx => by
    obtain ⟨e, h1, h2⟩ := mem_endsL.mp hx
    rcases h2 with rfl | rfl
    · exact (he e h1).1
    · exact (he e h1).2
  have hsm : sumN n (fun x => if metC es x = true then 2 else 0) = ((List.range n).filter (metC es)).length * 2 := sumN_count _ _ _
  constructor
  · intro h
    have ne : es ≠ [] := fun z => by subst z; exact h.1 (free_nil n)
    have ge2 : ∀ x ∈ endsL es, 2 ≤ deg es x := fun x hx => by
      obtain ⟨e, h1, h2⟩ := mem_endsL.mp hx
      obtain ⟨k, hk, rfl⟩ := List.getElem_of_mem h1
      have r := h.round he hk
      have p := erase_perm hk
      have hd1 : 0 < deg (es.eraseIdx k) x := by
        rw [deg_pos]
        refine Classical.byContradiction fun nx => ?_
        rcases h2 with h2 | h2
        · rw [← h2] at nx
          exact nl _ h1 (cn_alone r nx)
        · rw [← h2] at nx
          exact nl _ h1 (cn_alone r.symm nx).symm
      rw [← deg_perm p x, deg_cons]
      rcases h2 with h2 | h2
      · rw [if_pos h2]; omega
      · rw [if_pos h2]; omega
    -- pieces
    have hpos : 0 < es.length := List.length_pos_iff.mpr ne
    have f0 := h.2 0 hpos
    have p0 := erase_perm hpos
    have he0 : Ends n (es[0] :: es.eraseIdx 0) := fun e hx => he e (p0.mem_iff.mp hx)
    have hpc : pc n es = pc n (es.eraseIdx 0) := by
      rw [← pc_same he0 (h.round he hpos)]
      exact (pc_perm (fun a b => cn_perm p0) he0 he).symm
    unfold Free at f0
    rw [List.length_eraseIdx_of_lt hpos] at f0
    have le2 : ∀ x, x < n → (if metC es x = true then 2 else 0) ≤ deg es x := fun x _ => by
      split
      · rename_i hm; exact ge2 x (of_decide_eq_true hm)
      · exact Nat.zero_le _
    have hsum := sumN_le le2
    have hone : 0 < ((List.range n).filter fun c => decide (f c = c) && metC es c).length := by
      have hx : es[0].1 ∈ endsL es := mem_endsL.mpr ⟨es[0], List.getElem_mem hpos, .inl rfl⟩
      have hxn := elt _ hx
      have hfm : f es[0].1 ∈ endsL es := by
        refine Classical.byContradiction fun nx => ?_
        have := cn_alone ((hd.ker _ _ (hd.lt _ hxn) hxn).mp (hd.idem _ hxn)) nx
        rw [this] at nx; exact nx hx
      exact List.length_pos_iff.mpr (List.ne_nil_of_mem (List.mem_filter.mpr ⟨List.mem_range.mpr (hd.lt _ hxn), by
        rw [decide_eq_true (hd.idem _ hxn)]
        exact decide_eq_true hfm⟩))
    refine ⟨ne, fun x hx => ?_, by omega⟩
    have := sumN_eq le2 (by omega) x (elt x hx)
    rw [if_pos (show metC es x = true from decide_eq_true hx)] at this
    exact this.symm
  · rintro ⟨ne, two, one⟩
    have hall : sumN n (deg es) = sumN n fun x => if metC es x = true then 2 else 0 := sumN_congr fun x _ => by
      by_cases hm : x ∈ endsL es
      · rw [two x hm, if_pos (show metC es x = true from decide_eq_true hm)]
      · rw [if_neg (by rw [show metC es x = false from decide_eq_false hm]; exact Bool.false_ne_true)]
        have : ¬ 0 < deg es x := fun z => hm (deg_pos.mp z)
        omega
    have hlen : pc n es + es.length = n + 1 := by omega
    refine ⟨fun h => by unfold Free at h; omega, fun k hk => ?_⟩
    have p := erase_perm hk
    have he' : Ends n (es[k] :: es.eraseIdx k) := fun e hx => he e (p.mem_iff.mp hx)
    have hm : es[k] ∈ es := List.getElem_mem hk
    have round : Cn (es.eraseIdx k) es[k].1 es[k].2 := by
      refine Classical.byContradiction fun nc => ?_
      have hd' := headF_hd he'.tail
      have h1 := (he _ hm).1
      have h2 := (he _ hm).2
      obtain ⟨q, hq⟩ := even_piece he'.tail (fun x => decide (headF (es.eraseIdx k) x = headF (es.eraseIdx k) es[k].1)) fun e hx => by
        have hee := he'.tail e hx
        have : headF (es.eraseIdx k) e.1 = headF (es.eraseIdx k) e.2 := (hd'.ker _ _ hee.1 hee.2).mpr (.one hx)
        rw [this]
      have hsplit : sumN n (fun x => if decide (headF (es.eraseIdx k) x = headF (es.eraseIdx k) es[k].1) = true then deg es x else 0) = sumN n (fun x => if decide (headF (es.eraseIdx k) x = headF (es.eraseIdx k) es[k].1) = true then deg (es.eraseIdx k) x else 0) + 1 := by
        have e1 : ∀ x, (if decide (headF (es.eraseIdx k) x = headF (es.eraseIdx k) es[k].1) = true then deg es x else 0) = (if decide (headF (es.eraseIdx k) x = headF (es.eraseIdx k) es[k].1) = true then deg (es.eraseIdx k) x else 0) + ((if decide (headF (es.eraseIdx k) x = headF (es.eraseIdx k) es[k].1) = true then (if es[k].2 = x then 1 else 0) else 0) + (if decide (headF (es.eraseIdx k) x = headF (es.eraseIdx k) es[k].1) = true then (if es[k].1 = x then 1 else 0) else 0)) := fun x => by
          rw [← deg_perm p x, deg_cons]
          split <;> omega
        rw [sumN_congr fun x _ => e1 x, sumN_add, sumN_add, sumN_one (fun x => decide (headF (es.eraseIdx k) x = headF (es.eraseIdx k) es[k].1)), sumN_one (fun x => decide (headF (es.eraseIdx k) x = headF (es.eraseIdx k) es[k].1))]
        have n2 : ¬ (es[k].2 < n ∧ decide (headF (es.eraseIdx k) es[k].2 = headF (es.eraseIdx k) es[k].1) = true) := fun ⟨_, z⟩ => nc ((hd'.ker _ _ h1 h2).mp (of_decide_eq_true z).symm)
        rw [if_neg n2, if_pos ⟨h1, decide_eq_true rfl⟩]
      have heven : ∃ q2, sumN n (fun x => if decide (headF (es.eraseIdx k) x = headF (es.eraseIdx k) es[k].1) = true then deg es x else 0) = 2 * q2 := by
        have e2 : ∀ x, x < n → (if decide (headF (es.eraseIdx k) x = headF (es.eraseIdx k) es[k].1) = true then deg es x else 0) = if (decide (headF (es.eraseIdx k) x = headF (es.eraseIdx k) es[k].1) && metC es x) = true then 2 else 0 := fun x _ => by
          by_cases hmx : x ∈ endsL es
          · rw [two x hmx, show metC es x = true from decide_eq_true hmx, Bool.and_true]
          · rw [show metC es x = false from decide_eq_false hmx, Bool.and_false, if_neg Bool.false_ne_true]
            have : ¬ 0 < deg es x := fun z => hmx (deg_pos.mp z)
            split <;> omega
        rw [sumN_congr e2, sumN_count]
        exact ⟨_, Nat.mul_comm _ _⟩
      obtain ⟨q2, hq2⟩ := heven
      omega
    have hpc : pc n es = pc n (es.eraseIdx k) := by
      rw [← pc_same he' round]
      exact (pc_perm (fun a b => cn_perm p) he' he).symm
    unfold Free
    rw [List.length_eraseIdx_of_lt hk]
    omega
end NT

namespace K24
open PySem L2 DL
def topS (i : Nat) : Stmt := PySem.Challenge.pw_shelledlots_k24_whole_lots_without_broke.main.body.getD i (.Pass ⟨0, 0, 0, 0⟩)
theorem sc_law_source : FnScope ["script", "mixed", "cell"] ["script"] (defScope (topS 26)) := ⟨rfl, rfl, rfl, by decide +kernel, rfl, by decide +kernel, by decide +kernel⟩
theorem sc_law_pick : FnScope ["source", "many", "left", "mixed"] ["source", "many"] (defScope (topS 27)) := ⟨rfl, rfl, rfl, by decide +kernel, rfl, by decide +kernel, by decide +kernel⟩
theorem sc_law_mixed : FnScope ["source", "things", "rest", "lap"] ["source", "things"] (defScope (topS 29)) := ⟨rfl, rfl, rfl, by decide +kernel, rfl, by decide +kernel, by decide +kernel⟩
structure Txt (mg : Str → Option Value) : Prop where
  ran : mg "range" = none
  tup : mg "tuple" = none
  all : mg "all" = none
  len : mg "len" = none
  lst : mg "list" = none
  enu : mg "enumerate" = none
/-! ### data -/
def lotD (l : List Int) : D := .tuple (l.map .int)
def ordD (n : Nat) (lots : List (List Int)) : D := .tuple [.int n, .tuple (lots.map lotD)]
def optD : Option Int → D
  | none => .none
  | some i => .int i
theorem nice_lot {k : Nat} (l : List Int) : Nice (k + 1) (lotD l) := nice_tup (nice_map fun a => nice_int a)
theorem lot_at {lots : List (List Int)} {a : Nat} (h : a < lots.length) : (lots.map lotD)[a]? = some (lotD (lots.getD a [])) := by
  rw [List.getElem?_map, List.getElem?_eq_getElem h, List.getD_eq_getElem?_getD, List.getElem?_eq_getElem h]
  rfl
theorem lot_atI {lots : List (List Int)} {a : Int} (h0 : 0 ≤ a) (h : a < lots.length) : atI (lots.map lotD) a = some (lotD (lots.getD a.toNat [])) := by
  obtain ⟨j, rfl⟩ : ∃ j : Nat, a = j := ⟨a.toNat, by omega⟩
  exact atI_nn (lot_at (by omega))
/-- x under y -/
def leB (lots : List (List Int)) (x y : Int) : Bool := decide (x ∈ lots.getD y.toNat [])
def ups (n : Nat) (lots : List (List Int)) (lot : List Int) : List Int := ((List.range n).filter fun (y : Nat) => lot.all fun x => leB lots x (y : Int)).map Int.ofNat
def downs (n : Nat) (lots : List (List Int)) (lot : List Int) : List Int := ((List.range n).filter fun (x : Nat) => lot.all fun y => leB lots (x : Int) y).map Int.ofNat
def leasts (lots : List (List Int)) (l : List Int) : List Int := l.filter fun x => l.all fun y => leB lots x y
def greats (lots : List (List Int)) (l : List Int) : List Int := l.filter fun x => l.all fun y => leB lots y x
def joinO (n : Nat) (lots : List (List Int)) (lot : List Int) : Option Int := (leasts lots (ups n lots lot)).head?
def meetO (n : Nat) (lots : List (List Int)) (lot : List Int) : Option Int := (greats lots (downs n lots lot)).head?
def inR (n : Nat) (l : List Int) : Prop := ∀ x ∈ l, 0 ≤ x ∧ x < n
theorem ups_inR (n : Nat) (lots : List (List Int)) (lot : List Int) : inR n (ups n lots lot) := fun x hx => by
  obtain ⟨a, ha, rfl⟩ := List.mem_map.mp hx
  have := List.mem_range.mp (List.mem_filter.mp ha).1
  exact ⟨Int.natCast_nonneg a, by exact Int.ofNat_lt.mpr this⟩
theorem downs_inR (n : Nat) (lots : List (List Int)) (lot : List Int) : inR n (downs n lots lot) := fun x hx => by
  obtain ⟨a, ha, rfl⟩ := List.mem_map.mp hx
  have := List.mem_range.mp (List.mem_filter.mp ha).1
  exact ⟨Int.natCast_nonneg a, by exact Int.ofNat_lt.mpr this⟩
theorem ups_len (n : Nat) (lots : List (List Int)) (lot : List Int) : (ups n lots lot).length ≤ n := by
  unfold ups
  rw [List.length_map]
  have h := List.length_filter_le (fun (y : Nat) => lot.all fun x => leB lots x (y : Int)) (List.range n)
  rw [List.length_range] at h
  exact h
theorem downs_len (n : Nat) (lots : List (List Int)) (lot : List Int) : (downs n lots lot).length ≤ n := by
  unfold downs
  rw [List.length_map]
  have h := List.length_filter_le (fun (y : Nat) => lot.all fun x => leB lots (y : Int) x) (List.range n)
  rw [List.length_range] at h
  exact h
theorem map_ofNat (l : List Nat) : l.map (fun i : Nat => PyData.int (i : Int)) = (l.map Int.ofNat).map .int := by
  rw [List.map_map]; rfl
section
variable {P : Program} {w : World} {K : PySem.W.Frag} {mg : Str → Option Value} {base : Heap}
/-! ### the package -/
def φA : List Ar → (D → Prop) → Prop := fun as Kd => ∃ (n : Nat) (lots : List (List Int)) (lot : List Int), as = [.d (ordD n lots), .d (lotD lot)] ∧ lots.length = n ∧ n ≤ 1000 ∧ lot.length ≤ 1000 ∧ Kd (lotD (ups n lots lot))
def φU : List Ar → (D → Prop) → Prop := fun as Kd => ∃ (n : Nat) (lots : List (List Int)) (lot : List Int), as = [.d (ordD n lots), .d (lotD lot)] ∧ lots.length = n ∧ n ≤ 1000 ∧ lot.length ≤ 1000 ∧ inR n lot ∧ Kd (lotD (downs n lots lot))
def φJ : List Ar → (D → Prop) → Prop := fun as Kd => ∃ (n : Nat) (lots : List (List Int)) (lot : List Int), as = [.d (ordD n lots), .d (lotD lot)] ∧ lots.length = n ∧ n ≤ 1000 ∧ lot.length ≤ 1000 ∧ Kd (optD (joinO n lots lot))
def φM : List Ar → (D → Prop) → Prop := fun as Kd => ∃ (n : Nat) (lots : List (List Int)) (lot : List Int), as = [.d (ordD n lots), .d (lotD lot)] ∧ lots.length = n ∧ n ≤ 1000 ∧ lot.length ≤ 1000 ∧ inR n lot ∧ Kd (optD (meetO n lots lot))
/-- is an order a lattice -/
def isLatB (n : Nat) (lots : List (List Int)) : Bool := (List.range n).all fun x => (List.range (x + 1)).all fun y => (joinO n lots [(x : Int), (y : Int)]).isSome && (meetO n lots [(x : Int), (y : Int)]).isSome
theorem isNone_opt (o : Option Int) : isNone (optD o) = !o.isSome := by cases o <;> rfl
def φOrd (g : Nat → List (List Int) → D) : List Ar → (D → Prop) → Prop := fun as Kd => ∃ (n : Nat) (lots : List (List Int)), as = [.d (ordD n lots)] ∧ lots.length = n ∧ n ≤ 1000 ∧ Kd (g n lots)
/-! ### the law's own looks -/
def φUn : List Ar → (D → Prop) → Prop := fun as Kd => ∃ (n : Nat) (lots : List (List Int)) (x y : Int), as = [.d (ordD n lots), .d (.int x), .d (.int y)] ∧ lots.length = n ∧ 0 ≤ y ∧ y < n ∧ Kd (.bool (leB lots x y))
theorem isEmpty_filter_not {α : Type} (l : List α) (p : α → Bool) : (l.filter fun x => !p x).isEmpty = l.all p := by
  induction l with
  | nil => rfl
  | cons x l ih =>
    rw [List.filter_cons, List.all_cons]
    cases p x with
    | true => simpa using ih
    | false => rfl
theorem isEmpty_map {α β : Type} (l : List α) (g : α → β) : (l.map g).isEmpty = l.isEmpty := by cases l <;> rfl
/-- a lattice by the pairs of two -/
def isLatL (n : Nat) (lots : List (List Int)) : Bool := (List.range n).all fun x => (List.range x).all fun y => (joinO n lots [(x : Int), (y : Int)]).isSome && (meetO n lots [(x : Int), (y : Int)]).isSome
def turn (n : Nat) (lots : List (List Int)) : List (List Int) := (List.range n).map fun (x : Nat) => ups n lots [(x : Int)]
def within (one other : List Int) : Bool := one.all fun x => decide (x ∈ other)
def φW : List Ar → (D → Prop) → Prop := fun as Kd => ∃ (one other : List Int), as = [.d (lotD one), .d (lotD other)] ∧ one.length ≤ 1000 ∧ Kd (.bool (within one other))
def ofLots (ls : List (List Int)) : List (List Int) := ls.map fun one => ((List.range ls.length).filter fun k => within (ls.getD k []) one).map Int.ofNat
theorem enumD_lots (ls : List (List Int)) : enumD (ls.map lotD) = (List.range ls.length).map fun (i : Nat) => PyData.tuple [.int (i : Int), lotD (ls.getD i [])] := by
  unfold enumD
  rw [List.length_map]
  refine List.map_congr_left fun i hi => ?_
  have := List.mem_range.mp hi
  rw [List.getD_eq_getElem?_getD, lot_at this]
  rfl
def φOL : List Ar → (D → Prop) → Prop := fun as Kd => ∃ (ls : List (List Int)), as = [.d (.list (ls.map lotD))] ∧ ls.length ≤ 1000 ∧ (∀ l ∈ ls, l.length ≤ 1000) ∧ Kd (ordD ls.length (ofLots ls))
end
end K24

namespace K24
open PySem L2 DL
structure Txs (mg : Str → Option Value) : Prop where
  len : mg "len" = none
  max : mg "max" = none
  int : mg "int" = none
  abs : mg "abs" = none
section
variable {P : Program} {w : World} {K : PySem.W.Frag} {mg : Str → Option Value} {base : Heap}
theorem ok_pick {f : Addr} {fd : FuncData} (F : Fun K "_law_pick" "_law_pick" (topS 27) f fd) (T : Txs mg) : FnOk P w K mg base CX0 1 f fd ["source", "many"] (SpD φPick) := by
  have sc := sc_law_pick
  refine F.ok sc (fun vs H Q E h => ?_) (fun cdv A outer s H vs Q E hr h => ?_)
  · obtain ⟨c, as, Kd, fn, ra, ⟨many, rfl, _⟩, _⟩ := h
    rw [ra.length]; rfl
  · obtain ⟨c, as, Kd, fn, ra, ⟨many, rfl, hm, k⟩, q⟩ := h
    have hu := hu_of hr
    cases ra with
    | @cons v1 _ vs1 _ r1 t1 =>
    cases t1 with
    | @cons v2 _ vs2 _ r2 t2 =>
    cases t2
    obtain ⟨p, ep, rfl⟩ := r1
    have r2 : Rp c.F0 v2 (.int many) := r2
    cases r2
    obtain ⟨⟨cs0, a0, b0, c0, h1, h2⟩, f1, f2, b1, b2⟩ := fn.src p ep
    have at0 : At p H H cs0.length := ⟨⟨cs0, a0, b0, c0, rfl, h1, h2⟩, fun _ _ _ _ e => e⟩
    have fin : ∀ {H' : Hp} {n : Nat} (v : Int), At p H H' n → 0 ≤ v → v < (if many > 1 then many else 1) → Q (.int v) H' := fun {H' n} v h v0 v1 => by
      refine q _ _ c.F0 H' (k v v0 v1) ?_ (.int v)
      obtain ⟨⟨cs, x, y, z, _, g1, g2⟩, kk⟩ := h
      refine ⟨Ex.refl _, fun a o e => kk a o ?_ ?_ (fn.fh a o e), fun a o e => kk a o ?_ ?_ (fn.bh a o e), fun _ _ _ => .inl rfl, fun p' ep' => ?_⟩
      · intro z; rw [z, f1] at e; cases e
      · intro z; rw [z, f2] at e; cases e
      · intro z; rw [z, b1] at e; cases e
      · intro z; rw [z, b2] at e; cases e
      · rw [ep] at ep'; cases ep'
        exact ⟨⟨cs, x, y, z, g1, g2⟩, f1, f2, b1, b2⟩
    refine ⟨_, pss_cons (ps_while PassesOwn.never (PW.pt (pw_and (pt_cmpR op_gt (pv 1) pe_int (nomark _)) (pw_and (pt_cmpR op_lt (pe_dget hu (pv 0) pe_str (fun _ _ => rfl)) pe_int (nomark _))
        (pw_and1 (pt_cmpR op_gt (pe_callB call_len_seq (by rfl) T.len PySem.boot_len (pa_cons (pe_dget hu (pv 0) pe_str (fun _ _ => rfl)) pa_nil)) pe_int (nomark _))))))
        (pss_one (ps_dput hu (pv 0) pe_str (pe_bm0 PySem.F.plainAttrs_list PySem.F.slot_list_pop PySem.F.type_list_pop mt_pop (pe_dget hu (pv 0) pe_str (fun _ _ => rfl))) rfl)))
      (pss_cons (ps_set (i := 2) sc.nd rfl (.inl rfl) (pe_dget hu (pv 0) pe_str (fun _ _ => rfl)))
      (pss_cons (ps_if (PW.pt (pw_or (pt_cmpR op_lt (pv 1) pe_int (nomark _)) (pw_or1 (pt_cmpR op_gt (pv 2) pe_int (nomark _)))))
        (pss_cons (ps_dput hu (pv 0) pe_str (pe_op op_fdiv (pv 2) (pe_callB (call_max2 rfl) (by rfl) T.max (by decide +kernel) (pa_cons pe_int (pa_cons (pv 1) pa_nil)))) rfl)
          (pss_one (ps_ret (pe_op op_mod (pe_callTy call_int1 (by rfl) T.int (by decide +kernel) (pa_cons (pv 2) pa_nil)) (pe_callB (call_max2 rfl) (by rfl) T.max (by decide +kernel) (pa_cons pe_int (pa_cons (pv 1) pa_nil))))))) pss_nil)
      (pss_cons (ps_dput hu (pv 0) pe_str (pe_op op_add (pe_dget hu (pv 0) pe_str (fun _ _ => rfl)) pe_int) rfl)
      (pss_cons (ps_set (i := 3) sc.nd rfl (.inl rfl) (pe_op op_mod (pe_callTy call_int1 (by rfl) T.int (by decide +kernel) (pa_cons (pe_op op_add (pe_dget hu (pv 0) pe_str (fun _ _ => rfl)) (pe_op op_mul (pe_dget hu (pv 0) pe_str (fun _ _ => rfl)) pe_int)) pa_nil)) pe_int))
      (pss_cons (ps_set (i := 3) sc.nd rfl (.inl rfl) (pe_op op_mod (pe_callTy call_int1 (by rfl) T.int (by decide +kernel) (pa_cons (pe_op op_add (pe_op op_mul (pv 3) (pv 3)) (pe_op op_mul (pe_dget hu (pv 0) pe_str (fun _ _ => rfl)) pe_int)) pa_nil)) pe_int))
      (pss_cons (ps_dput hu (pv 0) pe_str (pv 3) rfl)
      (pss_one (ps_ret (pe_op op_mod (pe_callTy call_int1 (by rfl) T.int (by decide +kernel) (pa_cons (pe_op op_fdiv (pv 3) pe_int) pa_nil)) (pv 1)))))))))), ?_⟩
    -- the loop
    refine whl (fun m σ H' => σ = [some (.ref p.1), some (.int many), none, none] ∧ At p H H' m) cs0.length ⟨rfl, at0⟩ ?_ ?_
    · rintro m σ H' ⟨rfl, hat⟩
      obtain ⟨⟨cs, x, y, z, el, g1, g2⟩, _⟩ := id hat
      -- left = source['left']
      refine ⟨_, rfl, _, _, rfl, dgL g1, ?_⟩
      -- if many < 2 or left > 1
      have hlast : 0 < (if many > 1 then many else 1) := by split <;> omega
      have thn : ∀ b : Bool, (b = true → tSeq (sDPut (tVar 0) (tC (.str "left")) (tOp (rI CDiv fun i j => .int (i / j)) (tVar 2) (tCB (fun xs H Q => ∃ i j, xs = [.int i, .int j] ∧ Q (.int (if j > i then j else i)) H) (tCons (tC (.int 1)) (tCons (tVar 1) tNil)))))
          (tRet (tOp (rI (fun _ j => 0 < j) fun i j => .int (i % j)) (tCB (fun xs H Q => (∃ i, xs = [.int i] ∧ Q (.int i) H) ∨ ∃ k, xs = [.bl k] ∧ Q (.int (if k then 1 else 0)) H) (tCons (tVar 2) tNil)) (tCB (fun xs H Q => ∃ i j, xs = [.int i, .int j] ∧ Q (.int (if j > i then j else i)) H) (tCons (tC (.int 1)) (tCons (tVar 1) tNil))))) { nx := fun _ H' => Q .non H', rt := Q } [some (.ref p.1), some (.int many), some (.int x), none] H') := fun b _ => by
        refine ⟨.int x, rfl, .int many, rfl, 1, many, rfl, x, _, rfl, rfl, ⟨hlast, ?_⟩, ?_⟩
        · split <;> omega
        · refine ⟨_, rfl, p.1, _, rfl, dpL _ g1, ?_⟩
          refine ⟨_, rfl, Or.inl ⟨x, rfl, .int many, rfl, 1, many, rfl, x, _, rfl, rfl, hlast, ?_⟩⟩
          exact fin _ (hat.put _ _ _) (Int.emod_nonneg _ (by omega)) (Int.emod_lt_of_pos _ hlast)
      refine ⟨_, rfl, many, 2, rfl, rfl, _, rfl, ?_⟩
      refine ite2 (fun h1 => iteT (thn true rfl)) (fun h1 => ?_)
      refine ⟨_, rfl, x, 1, rfl, rfl, _, rfl, ?_⟩
      refine ite2 (fun h2 => thn true rfl) (fun h2 => ?_)
      have hm2 : 1 < many := by
        have := of_decide_eq_false (Bool.not_eq_true _ ▸ h1)
        omega
      -- turn, mixed
      refine ⟨_, rfl, p.1, _, rfl, dgT g1, z, 1, rfl, rfl, _, rfl, p.1, _, rfl, dpT _ g1, ?_⟩
      have hat1 := hat.put x y (z + 1)
      have g3 : (upd H' p.1 (srcO p.2 x y (z + 1))) p.1 = some (srcO p.2 x y (z + 1)) := upd_same
      generalize upd H' p.1 (srcO p.2 x y (z + 1)) = H1 at *
      refine ⟨_, rfl, p.1, _, rfl, dgM g3, _, rfl, p.1, _, rfl, dgT g3, z + 1, 104729, rfl, rfl, .inr ⟨by decide, by decide⟩, y, _, rfl, rfl, Or.inl ⟨_, rfl, _, 998244353, rfl, rfl, by show (0 : Int) < 998244353; decide, ?_⟩⟩
      have e0 := Int.emod_nonneg (y + (z + 1) * 104729) (show (998244353 : Int) ≠ 0 by decide)
      have e1 := Int.emod_lt_of_pos (y + (z + 1) * 104729) (show (0 : Int) < 998244353 by decide)
      refine ⟨.int ((y + (z + 1) * 104729) % 998244353), rfl, .int ((y + (z + 1) * 104729) % 998244353), rfl, ((y + (z + 1) * 104729) % 998244353), ((y + (z + 1) * 104729) % 998244353), rfl, rfl, .inl ⟨by omega, by omega⟩, _, rfl, p.1, _, rfl, dgT g3, z + 1, 17, rfl, rfl, .inr ⟨by decide, by decide⟩, _, _, rfl, rfl, Or.inl ⟨_, rfl, _, 2147483647, rfl, rfl, by show (0 : Int) < 2147483647; decide, ?_⟩⟩
      refine ⟨.int ((((y + (z + 1) * 104729) % 998244353) * ((y + (z + 1) * 104729) % 998244353) + (z + 1) * 17) % 2147483647), rfl, _, rfl, p.1, _, rfl, dpM ((((y + (z + 1) * 104729) % 998244353) * ((y + (z + 1) * 104729) % 998244353) + (z + 1) * 17) % 2147483647) g3, ?_⟩
      refine ⟨.int ((((y + (z + 1) * 104729) % 998244353) * ((y + (z + 1) * 104729) % 998244353) + (z + 1) * 17) % 2147483647), rfl, ((((y + (z + 1) * 104729) % 998244353) * ((y + (z + 1) * 104729) % 998244353) + (z + 1) * 17) % 2147483647), 16, rfl, rfl, ⟨by decide, by decide⟩, Or.inl ⟨_, rfl, _, rfl, _, many, rfl, rfl, by omega, ?_⟩⟩
      have hlast : (if many > 1 then many else 1) = many := if_pos hm2
      refine fin _ (hat1.put _ _ _) (Int.emod_nonneg _ (by omega)) ?_
      rw [hlast]
      exact Int.emod_lt_of_pos _ (by omega)
    · rintro X hX m σ H' ⟨rfl, hat⟩
      obtain ⟨⟨cs, x, y, z, el, g1, g2⟩, _⟩ := id hat
      refine ⟨_, rfl, _, _, rfl, rfl, _, rfl, ?_⟩
      refine ite2 (fun h1 => ?_) (fun h1 => iteF (hX m _ _ ⟨rfl, hat⟩))
      refine ⟨_, rfl, p.1, _, rfl, dgL g1, _, _, rfl, rfl, _, rfl, ?_⟩
      refine ite2 (fun h2 => ?_) (fun h2 => iteF (hX m _ _ ⟨rfl, hat⟩))
      refine ⟨_, rfl, p.1, _, rfl, dgC g1, p.2, _, rfl, Or.inl (Or.inl (Or.inl g2)), _, _, rfl, rfl, _, rfl, ?_⟩
      refine ite2 (fun h3 => ?_) (fun h3 => hX m _ _ ⟨rfl, hat⟩)
      refine ⟨fun σ' H2 => σ' = [some (.ref p.1), some (.int many), none, none] ∧ At p H H2 cs.dropLast.length, fun σ' H2 ⟨e, h⟩ => ⟨cs.dropLast.length, ?_, e, h⟩, ?_⟩
      · have := of_decide_eq_true h3
        rw [List.length_map] at this
        rw [List.length_dropLast]
        omega
      · have hpos : 0 < cs.length := by
          have := of_decide_eq_true h3
          rw [List.length_map] at this
          omega
        refine ⟨_, rfl, p.1, _, rfl, dgC g1, Or.inl ⟨rfl, _, Or.inl (Or.inl g2)⟩, p.2, _, .int (cs.getLast (by intro e; rw [e] at hpos; cases hpos)), rfl, rfl, g2, ?_, ?_⟩
        · rw [List.length_map, List.getElem?_map, ← List.getLast?_eq_getElem?, List.getLast?_eq_some_getLast]
          rfl
        · have hp := hat.pop (cs := cs.dropLast) g1
          have e2 : (cs.map V.int).dropLast = cs.dropLast.map V.int := List.map_dropLast.symm
          rw [e2]
          have g1' : (upd H' p.2 (.lst (cs.dropLast.map V.int))) p.1 = some (srcO p.2 x y z) := by rw [upd_ne hat.ne.symm]; exact g1
          refine ⟨_, rfl, p.1, _, rfl, dpL _ g1', rfl, ?_⟩
          exact hp.put _ _ _
theorem ok_source {f : Addr} {fd : FuncData} (F : Fun K "_law_source" "_law_source" (topS 26) f fd) (T : Txs mg) : FnOk P w K mg base CX0 1 f fd ["script"] (spSource K) := by
  have sc := sc_law_source
  refine F.ok sc (fun vs H Q E h => ?_) (fun cdv A outer s H vs Q E hr h => ?_)
  · obtain ⟨a, ns, rfl, _⟩ := h
    rfl
  · obtain ⟨a, ns, rfl, hS, hl, q⟩ := h
    refine ⟨_, pss_cons (ps_set (i := 1) sc.nd rfl (.inl rfl) pe_int)
      (pss_cons (ps_for PassesOwn.never rfl (pi_list (pv 0)) (pg_name (i := 2) sc.nd rfl (.inl rfl)) (pss_one (ps_set (i := 1) sc.nd rfl (.inl rfl)
        (pe_op op_mod (pe_callTy call_int1 (by rfl) T.int (by decide +kernel) (pa_cons (pe_op op_add (pe_op op_add (pe_op op_mul (pv 1) pe_int) (pe_op op_mul (pv 2) pe_int)) pe_int) pa_nil)) pe_int))))
      (pss_one (ps_ret (pe_disp (pps_cons pe_str (pe_revL (pe_lc (own := [("cell", 2)]) (g := gName 2) (tt := tYes) rfl sc.nd (pi_list (pv 0)) (blkOk_by rfl) (fun _ _ _ _ _ => pg_name (i := 2) sc.nd rfl (Or.inl rfl)) (fun _ _ _ _ _ => pts_nil)
          (fun _ _ _ _ _ => pe_callB call_abs (by rfl) T.abs (by decide +kernel) (pa_cons (pv 2) pa_nil))))
        (pps_cons pe_str pe_int (pps_cons pe_str (pv 1) (pps_cons pe_str pe_int pps_nil)))) rfl rfl (by intro e; cases e) (by decide))))), ?_⟩
    refine ⟨_, rfl, a, rfl, ⟨_, hS⟩, for_list (K := K) (a := a) (xs := ns.map V.int) (fun i σ H' => H' = H ∧ ∃ (m : Int) (y : Option V), 0 ≤ m ∧ m < 2147483629 ∧ σ = [some (.ref a), some (.int m), y]) ⟨rfl, 11, none, by decide, by decide, rfl⟩ (fun i σ H' _ h => by rw [h.1]; exact hS) ?_ ?_⟩
    · rintro i x σ H' hx ⟨rfl, m, y, m0, m1, rfl⟩
      obtain ⟨u, rfl⟩ : ∃ u, x = V.int u := by
        rw [List.getElem?_map] at hx
        cases e : ns[i]? with
        | none => rw [e] at hx; cases hx
        | some u => rw [e] at hx; exact ⟨u, (Option.some.inj hx).symm⟩
      refine ⟨.int m, rfl, m, 69069, rfl, rfl, .inr ⟨by decide, by decide⟩, .int u, rfl, u, 31, rfl, rfl, .inr ⟨by decide, by decide⟩, _, _, rfl, rfl, _, 5, rfl, rfl, Or.inl ⟨_, rfl, _, 2147483629, rfl, rfl, by show (0 : Int) < 2147483629; decide, ?_⟩⟩
      exact ⟨rfl, _, _, Int.emod_nonneg _ (by decide), Int.emod_lt_of_pos _ (by decide), rfl⟩
    · rintro σ H' ⟨rfl, m, y, m0, m1, rfl⟩
      intro p hp
      have s1 : Same H' (upd H' p (.dK [])) := same_upd hp
      refine ⟨_, rfl, a, rfl, ⟨_, s1.seq hS⟩, fun D nD => ?_⟩
      have nDp : D ≠ p := fun e => by rw [e, upd_same] at nD; cases nD
      have nD0 : H' D = none := by rw [upd_ne nDp] at nD; exact nD
      refine lc_list (K := K) (a := a) (xs := ns.map V.int) (fun i H2 => Same H' H2 ∧ H2 p = some (.dK []) ∧ ∃ cs : List Int, cs.length = i ∧ H2 D = some (.lst (cs.map V.int))) ⟨same_upd2 s1 nD0, by rw [upd_ne nDp.symm]; exact upd_same, [], rfl, upd_same⟩ (fun i H2 _ h => h.1.seq hS) ?_ ?_
      · rintro i x H2 hx ⟨sm, hp2, cs, ec, hD⟩
        have hi : i < ns.length := by
          have := (List.getElem?_eq_some_iff.mp hx).1
          rw [List.length_map] at this; exact this
        obtain ⟨u, rfl⟩ : ∃ u, x = V.int u := by
          rw [List.getElem?_map] at hx
          cases e : ns[i]? with
          | none => rw [e] at hx; cases hx
          | some u => rw [e] at hx; exact ⟨u, (Option.some.inj hx).symm⟩
        refine ⟨rfl, ?_⟩
        unfold tYes
        dsimp only
        rw [if_pos rfl]
        refine ⟨.int u, rfl, u, rfl, cs.map V.int, hD, ?_, ?_⟩
        · rw [List.length_map, ec]
          have : sizeLine = 16777216 := sizeLine_eq
          omega
        · refine ⟨same_upd2 sm nD0, by rw [upd_ne nDp.symm]; exact hp2, cs ++ [if u < 0 then -u else u], by rw [List.length_append, ec]; rfl, ?_⟩
          rw [upd_same, List.map_append]
          rfl
      · rintro H2 ⟨sm, hp2, cs, ec, hD⟩
        refine ⟨D, cs.map V.int, rfl, .inl (.inl hD), fun l nl => ?_⟩
        have nlp : l ≠ p := fun e => by rw [e, hp2] at nl; cases nl
        have nl0 : H' l = none := sm.free nl
        refine ⟨.int m, rfl, ?_⟩
        refine ⟨by rw [upd_ne nlp.symm]; exact hp2, [(kC, V.ref l), (kL, .int 1), (kM, .int m), (kT, .int 0)], rfl, by show 4 ≤ 15; decide, ?_⟩
        rw [merge4]
        refine q _ (p, l) (same_upd2 (same_upd2 sm nl0) hp) hp nl0 ⟨cs.reverse, 1, m, 0, upd_same, ?_⟩
        show (upd (upd H2 l _) p _) l = _
        rw [upd_ne nlp, upd_same, List.map_reverse]
end
end K24

namespace K24
open PySem L2 DL
def pairD (p : Nat × Nat) : D := .tuple [.int p.1, .int p.2]
def φClosed : List Ar → (D → Prop) → Prop := fun as Kd => ∃ (n : Nat) (pairs : List (Nat × Nat)), as = [.d (.int n), .d (.list (pairs.map pairD))] ∧ n ≤ 60 ∧ pairs.length ≤ 100000 ∧ (∀ p ∈ pairs, p.1 < n ∧ p.2 < n ∧ p.1 ≠ p.2) ∧
  ∀ lots : List (List Int), lots.length = n → (∀ y, y < n → (lots.getD y []).Perm ((closedU n pairs).getD y []) ∧ (lots.getD y []).Pairwise (· ≤ ·)) → Kd (ordD n lots)
theorem lapsU_get {n : Nat} {pairs : List (Nat × Nat)} (hp : ∀ p ∈ pairs, p.1 < n) (k : Nat) : WfU n (lapsU pairs k (startU n)) := wfU_laps (wfU_start n) hp k
section
variable {P : Program} {w : World} {K : PySem.W.Frag} {mg : Str → Option Value} {base : Heap}
theorem bDict : bootBuiltins "dict" = some (.type "dict") := by decide +kernel
theorem bSorted : bootBuiltins "sorted" = some (.builtin "sorted") := by decide +kernel
structure Txd (mg : Str → Option Value) : Prop where
  dct : mg "dict" = none
  srt : mg "sorted" = none
end
end K24

namespace K24
open PySem L2 DL
section
variable {P : Program} {w : World} {K : PySem.W.Frag} {mg : Str → Option Value} {base : Heap}
def φOf : List Ar → (D → Prop) → Prop := fun as Kd => ∃ ds : List D, as = [.src, .d (.list ds)] ∧ ds ≠ [] ∧ ds.length ≤ 1000000 ∧ ∀ d ∈ ds, Kd d
theorem pick_at {α : Type} {ds : List α} (h0 : ds ≠ []) {v : Int} (h1 : 0 ≤ v) (h2 : v < (if (ds.length : Int) > 1 then (ds.length : Int) else 1)) : v.toNat < ds.length := by
  have : 0 < ds.length := List.length_pos_iff.mpr h0
  split at h2 <;> omega
def φMix : List Ar → (D → Prop) → Prop := fun as Kd => ∃ ds : List D, as = [.src, .d (.list ds)] ∧ ds.length ≤ 1000000 ∧ ∀ es : List D, es.Perm ds → Kd (.list es)
theorem ok_mixed {f fP : Addr} {fd fdP : FuncData} (F : Fun K "_law_mixed" "_law_mixed" (topS 29) f fd) (T : Txt mg) (T2 : Txs mg) (NP : Dn K mg "_law_pick" (topS 27) ["source", "many"] fP fdP) : FnOk P w K mg base CX0 2 f fd ["source", "things"] (SpD φMix) := by
  refine fn_D F sc_law_mixed (fun as Kd h => ?_) (fun as Kd r cdv A outer s H E hr h => ?_)
  · obtain ⟨ds, rfl, _⟩ := h
    rfl
  · obtain ⟨ds, rfl, hl, k⟩ := h
    have nd := sc_law_mixed.nd
    refine jsetN 2 (jlist T.lst (jv 1 ⟨ds, .inl rfl, ?_⟩))
    refine jret (JN.je (jn_lc [("lap", 3)] [3] rfl nd (blkOk_by rfl) (fun _ => rfl) (by decide) (jrange1 T.ran (je_lenO (xs := ds) 2 T.len ⟨_, rfl, by omega, by omega, ?_⟩))))
    refine ⟨fun i acc S' => ∃ rest, S' = [.src, .val (.list ds), .own rest, .emp] ∧ (acc ++ rest).Perm ds ∧ acc.length = i, ⟨ds, rfl, by simp, rfl⟩, ?_, ?_, ?_⟩
    · rintro i acc S' ⟨rest, rfl, hp, e⟩ hi
      rw [rangeD_length] at hi
      refine ⟨?_, noOwn_of (S := [.src, .val (.list ds), .own rest, .emp]) rfl⟩
      have : sizeLine = 16777216 := sizeLine_eq
      omega
    · rintro i d acc S' hd ⟨rest, rfl, hp, e⟩
      have hi : i < ds.length := by
        have := (List.getElem?_eq_some_iff.mp hd).1
        rw [rangeD_length] at this; omega
      have hlen := hp.length_eq
      rw [List.length_append] at hlen
      have hr0 : rest ≠ [] := fun z => by rw [z] at hlen; simp at hlen; omega
      intro _ _ _ _ _
      refine jg 3 ?_
      intro _ _ _ _ _
      refine jts_nil ?_
      rw [if_pos rfl]
      intro _ _ _ _ _
      refine je_popO 2 (xs0 := rest) rfl (pe_bm PySem.F.plainAttrs_list PySem.F.slot_list_pop PySem.F.type_list_pop mt_popAt (pv 2) (pa_cons pe_tE pa_nil)) ?_
      refine jcall hr NP (ok_pick NP.F T2) (jAs 0 (ja1 (je_lenO (xs := rest) 2 T.len ⟨(rest.length : Nat), rfl, by omega, fun v h1 h2 => ?_⟩)))
      have hv := pick_at hr0 h1 h2
      obtain ⟨j, rfl⟩ : ∃ j : Nat, v = j := ⟨v.toNat, by omega⟩
      have hj : j < rest.length := by omega
      refine ⟨rest, j, rest[j], rfl, rfl, by omega, List.getElem?_eq_getElem hj, rest.eraseIdx j, rfl, ?_, by rw [List.length_append, e]; rfl⟩
      refine List.Perm.trans ?_ hp
      rw [List.append_assoc]
      exact List.Perm.append_left _ (eraseIdx_perm rest j hj)
    · rintro acc S' ⟨rest, rfl, hp, e⟩
      rw [rangeD_length] at e
      have hlen := hp.length_eq
      rw [List.length_append] at hlen
      have : rest = [] := List.length_eq_zero_iff.mp (by omega)
      subst this
      rw [List.append_nil] at hp
      exact k acc hp
end
end K24

namespace K24
open PySem L2 DL
section
variable {P : Program} {w : World} {K : PySem.W.Frag} {mg : Str → Option Value} {base : Heap}
def φLot : List Ar → (D → Prop) → Prop := fun as Kd => ∃ n : Nat, as = [.src, .d (.int n)] ∧ n ≤ 1000 ∧ ∀ lot : List Int, lot.Pairwise (· < ·) → inR n lot → lot.length ≤ n → Kd (lotD lot)
theorem rangeD_ints (n : Nat) : rangeD 0 n = ((List.range n).map Int.ofNat).map .int := by
  rw [rangeD0, List.map_map]; rfl
theorem nodup_range_int (n : Nat) : ((List.range n).map Int.ofNat).Nodup := by
  rw [List.nodup_iff_pairwise_ne, List.pairwise_map]
  exact (List.nodup_iff_pairwise_ne.mp List.nodup_range).imp fun h e => h (Int.ofNat.inj e)
theorem perm_ints {ns : List Int} : ∀ {es : List D}, es.Perm (ns.map .int) → ∃ ms : List Int, es = ms.map .int ∧ ms.Perm ns := fun {es} h => by
  have hm : ∀ d ∈ es, ∃ i, d = PyData.int i := fun d hd => by
    obtain ⟨i, _, rfl⟩ := List.mem_map.mp (h.mem_iff.mp hd)
    exact ⟨i, rfl⟩
  have : ∃ ms : List Int, es = ms.map .int := by
    clear h
    induction es with
    | nil => exact ⟨[], rfl⟩
    | cons d es ih =>
      obtain ⟨i, rfl⟩ := hm d List.mem_cons_self
      obtain ⟨ms, rfl⟩ := ih fun d hd => hm d (List.mem_cons_of_mem _ hd)
      exact ⟨i :: ms, rfl⟩
  obtain ⟨ms, rfl⟩ := this
  refine ⟨ms, rfl, ?_⟩
  let un : D → Int := fun d => match d with
    | .int i => i
    | _ => 0
  have e : ∀ l : List Int, (l.map PyData.int).map un = l := fun l => by
    rw [List.map_map]
    conv => rhs; rw [← List.map_id l]
    rfl
  have h2 := h.map un
  rw [e, e] at h2
  exact h2
theorem cutD_map {α : Type} (enc : α → D) (l : List α) (lo hi : Option Int) : ∃ m : List α, cutD (l.map enc) lo hi = m.map enc ∧ m.Sublist l := by
  unfold cutD
  rw [← List.map_drop, ← List.map_take]
  exact ⟨_, rfl, (List.take_sublist _ _).trans (List.drop_sublist _ _)⟩
theorem sorted_lt {l : List Int} (h : l.Pairwise (· ≤ ·)) (n : l.Nodup) : l.Pairwise (· < ·) := by
  have := h.and (List.nodup_iff_pairwise_ne.mp n)
  exact this.imp fun ⟨a, b⟩ => by omega
end
end K24


/-! k31: parts, lots left, signs. -/
namespace K24
open PySem L2 DL
/-! ### what they compute -/
def rangeI (n : Nat) : List Int := (List.range n).map Int.ofNat
def partsS (found : List (List Int)) (x : Int) : List (List Int) := found ++ found.map (· ++ [x])
def partsL (lot : List Int) : List (List Int) := lot.foldl partsS [[]]
def restL (n : Nat) (lot : List Int) : List Int := (rangeI n).filter fun x => !decide (x ∈ lot)
def signL (lot : List Int) : Int := 1 - 2 * ((lot.map (· % 2)).sum % 2)
def signL2 (lot : List Int) : Int := 1 - 2 * (((lot.filter fun x => decide (x % 2 = 1)).length : Nat) % 2)
def allL (n : Nat) : List (List Int) := sortL (partsL (rangeI n))
def famD (n : Nat) (fam : List (List Int)) : D := .tuple [.int n, .tuple (fam.map tupI)]
def turnL (n : Nat) (fam : List (List Int)) : List (List Int) := (allL n).filter fun l => !decide (restL n l ∈ fam)
def turnL2 (n : Nat) (fam : List (List Int)) : List (List Int) := sortL ((partsL (rangeI n)).filter fun l => !decide (restL n l ∈ fam))
structure Txf (mg : Str → Option Value) : Prop where
  isi : mg "isinstance" = none
  sum : mg "sum" = none
  bol : mg "bool" = none
theorem partsL_snoc (l : List Int) (x : Int) : partsL (l ++ [x]) = partsS (partsL l) x := by unfold partsL; rw [List.foldl_append]; rfl
theorem partsL_len (l : List Int) : (partsL l).length = 2 ^ l.length := by
  suffices h : ∀ (l : List Int) (a : List (List Int)), (l.foldl partsS a).length = a.length * 2 ^ l.length by
    have := h l [[]]
    rw [List.length_singleton, Nat.one_mul] at this
    exact this
  intro l
  induction l with
  | nil => intro a; simp
  | cons x l ih =>
    intro a
    rw [List.foldl_cons, ih, List.length_cons, Nat.pow_succ]
    unfold partsS
    rw [List.length_append, List.length_map, ← Nat.two_mul, Nat.mul_comm 2, Nat.mul_assoc, Nat.mul_comm 2]
theorem mem_partsS {p : List Int} {found : List (List Int)} {x : Int} : p ∈ partsS found x ↔ p ∈ found ∨ ∃ q ∈ found, p = q ++ [x] := by
  unfold partsS
  rw [List.mem_append, List.mem_map]
  refine or_congr Iff.rfl ⟨fun ⟨q, h, e⟩ => ⟨q, h, e.symm⟩, fun ⟨q, h, e⟩ => ⟨q, h, e.symm⟩⟩
theorem snoc_ind {α : Type} {p : List α → Prop} (h0 : p []) (h1 : ∀ l x, p l → p (l ++ [x])) : ∀ l, p l := fun l => by
  have : ∀ m : List α, p m.reverse := fun m => by
    induction m with
    | nil => exact h0
    | cons x m ih => rw [List.reverse_cons]; exact h1 _ _ ih
  have := this l.reverse
  rwa [List.reverse_reverse] at this
/-- the parts of a lot are what lies in it -/
theorem mem_partsL {p : List Int} : ∀ {l : List Int}, p ∈ partsL l ↔ p.Sublist l := fun {l} => by
  revert p
  refine snoc_ind (p := fun l => ∀ {p : List Int}, p ∈ partsL l ↔ p.Sublist l) ?_ ?_ l
  · intro p
    show p ∈ [[]] ↔ _
    rw [List.mem_singleton, List.sublist_nil]
  · intro l x ih p
    rw [partsL_snoc, mem_partsS]
    constructor
    · rintro (h | ⟨q, h, rfl⟩)
      · exact (ih.mp h).trans (List.sublist_append_left _ _)
      · exact (ih.mp h).append (List.Sublist.refl _)
    · intro h
      obtain ⟨a, b, rfl, h1, h2⟩ := List.sublist_append_iff.mp h
      cases h2 with
      | cons _ h2 => rw [List.sublist_nil.mp h2, List.append_nil]; exact .inl (ih.mpr h1)
      | cons_cons _ h2 => rw [List.sublist_nil.mp h2]; exact .inr ⟨a, ih.mpr h1, rfl⟩
theorem rangeI_len (n : Nat) : (rangeI n).length = n := by unfold rangeI; rw [List.length_map, List.length_range]
theorem rangeD_tup (n : Nat) : PyData.tuple (rangeD 0 n) = tupI (rangeI n) := by rw [rangeD_ints]; rfl
theorem mem_rangeI {n : Nat} {x : Int} : x ∈ rangeI n ↔ 0 ≤ x ∧ x < n := by
  unfold rangeI
  rw [List.mem_map]
  constructor
  · rintro ⟨a, h, rfl⟩
    have := List.mem_range.mp h
    exact ⟨Int.natCast_nonneg a, Int.ofNat_lt.mpr this⟩
  · rintro ⟨h1, h2⟩
    exact ⟨x.toNat, List.mem_range.mpr (by omega), by show ((x.toNat : Nat) : Int) = x; omega⟩
section
variable {P : Program} {w : World} {K : PySem.W.Frag} {mg : Str → Option Value} {base : Heap}
/-! ### the parts -/
def φParts : List Ar → (D → Prop) → Prop := fun as Kd => ∃ lot : List Int, as = [.d (tupI lot)] ∧ lot.length ≤ 12 ∧ Kd (.list ((partsL lot).map tupI))
theorem small12 {n : Nat} (h : n ≤ 12) : 2 ^ n ≤ 4096 := Nat.pow_le_pow_right (by decide) h
theorem parts_le {lot : List Int} {i : Nat} (hl : lot.length ≤ 12) : (partsL (lot.take i)).length ≤ 4096 := by
  rw [partsL_len]
  refine small12 (Nat.le_trans ?_ hl)
  rw [List.length_take]; exact Nat.min_le_right _ _
theorem take_snoc {lot : List Int} {i : Nat} {x : Int} (h : lot[i]? = some x) : lot.take (i + 1) = lot.take i ++ [x] := by
  rw [List.take_succ, h]; rfl
/-! ### what lots leave -/
def φRest : List Ar → (D → Prop) → Prop := fun as Kd => ∃ (n : Nat) (lot : List Int), as = [.d (.int n), .d (tupI lot)] ∧ n ≤ 1000 ∧ Kd (tupI (restL n lot))
theorem rest_filter (n : Nat) (lot : List Int) : ((List.range n).filter fun (i : Nat) => !decide ((i : Int) ∈ lot)).map (fun i : Nat => PyData.int (i : Int)) = (restL n lot).map .int := by
  unfold restL rangeI
  rw [List.filter_map, List.map_map]
  rfl
end
end K24

/-! k31: all lots, the turned family, what is a family. -/
namespace K24
open PySem L2 DL
/-- a lot of so many things -/
def LotOk (n : Nat) (l : List Int) : Prop := l.Pairwise (· < ·) ∧ inR n l
def sidesL (l : List Int) : List (List Int) := (List.range l.length).map fun k => l.eraseIdx k
structure FamOk (n : Nat) (fam : List (List Int)) : Prop where
  lots : ∀ l ∈ fam, LotOk n l
  asc : fam.Pairwise fun a b => ltL a b = true
  down : ∀ l ∈ fam, ∀ s ∈ sidesL l, s ∈ fam
section
variable {P : Program} {w : World} {K : PySem.W.Frag} {mg : Str → Option Value} {base : Heap}
def φAll : List Ar → (D → Prop) → Prop := fun as Kd => ∃ n : Nat, as = [.d (.int n)] ∧ n ≤ 12 ∧ Kd (.tuple ((allL n).map tupI))
theorem allL_len (n : Nat) : (allL n).length = 2 ^ n := by
  unfold allL
  rw [(sortL_perm _).length_eq, partsL_len, rangeI_len]
/-! ### the turned family -/
def φTurn (g : Nat → List (List Int) → List (List Int)) : List Ar → (D → Prop) → Prop := fun as Kd => ∃ (n : Nat) (fam : List (List Int)), as = [.d (famD n fam)] ∧ n ≤ 12 ∧ fam.length ≤ 4096 ∧ Kd (famD n (g n fam))
theorem fam_map (ls : List (List Int)) (p : List Int → Bool) (n : Nat) : PyData.tuple [.int n, .tuple ((ls.filter p).map tupI)] = famD n (ls.filter p) := rfl
/-! ### signs -/
def φSign (g : List Int → Int) : List Ar → (D → Prop) → Prop := fun as Kd => ∃ lot : List Int, as = [.d (tupI lot)] ∧ lot.length ≤ 1000 ∧ Kd (.int (g lot))
/-! ### what is a family -/
def φThing : List Ar → (D → Prop) → Prop := fun as Kd => ∃ x n : Int, as = [.d (.int x), .d (.int n)] ∧ 0 ≤ x ∧ x < n ∧ Kd (.bool true)
def φLotOf : List Ar → (D → Prop) → Prop := fun as Kd => ∃ (n : Nat) (l : List Int), as = [.d (.int n), .d (tupI l)] ∧ l.length ≤ 1000 ∧ LotOk n l ∧ Kd (.bool true)
def φSides : List Ar → (D → Prop) → Prop := fun as Kd => ∃ l : List Int, as = [.d (tupI l)] ∧ l.length ≤ 1000 ∧ Kd (.list ((sidesL l).map tupI))
def φFam : List Ar → (D → Prop) → Prop := fun as Kd => ∃ (n : Nat) (fam : List (List Int)), as = [.d (famD n fam)] ∧ n ≤ 12 ∧ fam.length ≤ 4096 ∧ FamOk n fam ∧ Kd (.bool true)
theorem lotOk_len {n : Nat} {l : List Int} (h : LotOk n l) : l.length ≤ n := nodup_len (List.nodup_iff_pairwise_ne.mpr (h.1.imp fun h => by omega)) h.2
theorem fam_at {fam : List (List Int)} {i : Nat} (h : i < fam.length) : atI (fam.map tupI) (i : Int) = some (tupI fam[i]) := atI_nn (by rw [List.getElem?_map, List.getElem?_eq_getElem h]; rfl)
end
end K24

/-! k31: the plain law. -/
namespace K24
open PySem L2 DL
theorem rangeI_lt (n : Nat) : (rangeI n).Pairwise (· < ·) := by
  unfold rangeI
  rw [List.pairwise_map]
  refine List.Pairwise.imp (fun {a b} h => ?_) (List.pairwise_lt_range (n := n))
  exact Int.ofNat_lt.mpr h
theorem sub_of_sorted : ∀ {q p : List Int}, p.Pairwise (· < ·) → q.Pairwise (· < ·) → (∀ x ∈ p, x ∈ q) → p.Sublist q
  | [], [], _, _, _ => List.Sublist.refl _
  | [], x :: p, _, _, h => absurd (h x List.mem_cons_self) List.not_mem_nil
  | y :: q, [], _, _, _ => List.nil_sublist _
  | y :: q, x :: p, hp, hq, h => by
    rw [List.pairwise_cons] at hp hq
    by_cases e : x = y
    · subst e
      refine (sub_of_sorted hp.2 hq.2 fun z hz => ?_).cons_cons x
      rcases List.mem_cons.mp (h z (List.mem_cons_of_mem _ hz)) with e | hz2
      · have := hp.1 z hz
        omega
      · exact hz2
    · refine (sub_of_sorted (List.pairwise_cons.mpr hp) hq.2 fun z hz => ?_).cons y
      have hx : x ∈ q := (List.mem_cons.mp (h x List.mem_cons_self)).resolve_left e
      have hyx := hq.1 x hx
      rcases List.mem_cons.mp (h z hz) with e2 | hz2
      · subst e2
        rcases List.mem_cons.mp hz with e3 | hz3
        · omega
        · have := hp.1 z hz3
          omega
      · exact hz2
theorem eq_of_sorted {p q : List Int} (hp : p.Pairwise (· < ·)) (hq : q.Pairwise (· < ·)) (h : ∀ x, x ∈ p ↔ x ∈ q) : p = q :=
  (sub_of_sorted hp hq fun x hx => (h x).mp hx).eq_of_length_le (sub_of_sorted hq hp fun x hx => (h x).mpr hx).length_le
theorem lotOk_iff {n : Nat} {l : List Int} : LotOk n l ↔ l.Sublist (rangeI n) := by
  constructor
  · rintro ⟨h1, h2⟩
    exact sub_of_sorted h1 (rangeI_lt n) fun x hx => mem_rangeI.mpr (h2 x hx)
  · intro h
    exact ⟨(rangeI_lt n).sublist h, fun x hx => mem_rangeI.mp (h.subset hx)⟩
theorem partsL_nodup {l : List Int} : l.Nodup → (partsL l).Nodup := by
  refine snoc_ind (p := fun l => l.Nodup → (partsL l).Nodup) ?_ ?_ l
  · intro _
    show ([[]] : List (List Int)).Nodup
    exact List.nodup_cons.mpr ⟨List.not_mem_nil, List.nodup_nil⟩
  · intro l x ih h
    rw [List.nodup_append] at h
    rw [partsL_snoc]
    unfold partsS
    rw [List.nodup_append]
    refine ⟨ih h.1, ?_, ?_⟩
    · rw [List.nodup_iff_pairwise_ne, List.pairwise_map]
      exact (List.nodup_iff_pairwise_ne.mp (ih h.1)).imp fun hne e => hne (List.append_cancel_right e)
    · intro a ha b hb e
      obtain ⟨c, hc, rfl⟩ := List.mem_map.mp hb
      subst e
      have : x ∈ l := (mem_partsL.mp ha).subset (by simp)
      exact h.2.2 x this x (by simp) rfl
theorem allL_nodup (n : Nat) : (partsL (rangeI n)).Nodup := partsL_nodup (nodup_range_int n)
theorem allL_lt (n : Nat) : (allL n).Pairwise fun a b => ltL a b = true := sortL_lt (allL_nodup n)
theorem mem_allL {n : Nat} {l : List Int} : l ∈ allL n ↔ l.Sublist (rangeI n) := by
  unfold allL
  rw [(sortL_perm _).mem_iff, mem_partsL]
theorem restL_sub (n : Nat) (l : List Int) : (restL n l).Sublist (rangeI n) := List.filter_sublist
theorem restL_mem (n : Nat) (l : List Int) : restL n l ∈ allL n := mem_allL.mpr (restL_sub n l)
theorem mem_restL {n : Nat} {l : List Int} {x : Int} : x ∈ restL n l ↔ x ∈ rangeI n ∧ x ∉ l := by
  unfold restL
  rw [List.mem_filter]
  simp
theorem restL_lt (n : Nat) (l : List Int) : (restL n l).Pairwise (· < ·) := (rangeI_lt n).sublist (restL_sub n l)
theorem rest_rest {n : Nat} {l : List Int} (h : l.Sublist (rangeI n)) : restL n (restL n l) = l := by
  refine eq_of_sorted (restL_lt _ _) ((rangeI_lt n).sublist h) fun x => ?_
  rw [mem_restL, mem_restL]
  constructor
  · rintro ⟨h1, h2⟩
    exact Classical.byContradiction fun h3 => h2 ⟨h1, h3⟩
  · intro h1
    exact ⟨h.subset h1, fun h2 => h2.2 h1⟩
theorem rest_anti {n : Nat} {s l : List Int} (h : s.Sublist l) : (restL n l).Sublist (restL n s) :=
  sub_of_sorted (restL_lt _ _) (restL_lt _ _) fun x hx => by
    rw [mem_restL] at hx ⊢
    exact ⟨hx.1, fun hs => hx.2 (h.subset hs)⟩
/-- a family: ascending lots of so many things, with all their parts -/
structure FamP (n : Nat) (fam : List (List Int)) : Prop where
  sub : ∀ l ∈ fam, l.Sublist (rangeI n)
  asc : fam.Pairwise fun a b => ltL a b = true
  down : ∀ l ∈ fam, ∀ s, s.Sublist l → s ∈ fam
theorem nodup_of_lt {fam : List (List Int)} (h : fam.Pairwise fun a b => ltL a b = true) : fam.Nodup := List.nodup_iff_pairwise_ne.mpr (h.imp fun {a b} h e => by
  subst e
  rw [ltL_irrefl] at h; cases h)
theorem FamP.ok {n : Nat} {fam : List (List Int)} (h : FamP n fam) : FamOk n fam := ⟨fun l hl => lotOk_iff.mpr (h.sub l hl), h.asc, fun l hl s hs => by
  unfold sidesL at hs
  obtain ⟨k, _, rfl⟩ := List.mem_map.mp hs
  exact h.down l hl _ (List.eraseIdx_sublist l k)⟩
theorem len_of_mem {a b : List (List Int)} (ha : a.Nodup) (hb : b.Nodup) (h : ∀ x, x ∈ a ↔ x ∈ b) : a.length = b.length := by
  have : sortL a = sortL b := sorted_one (sortL_lt ha) (sortL_lt hb) fun x => by rw [(sortL_perm a).mem_iff, (sortL_perm b).mem_iff]; exact h x
  rw [← (sortL_perm a).length_eq, this, (sortL_perm b).length_eq]
theorem FamP.len {n : Nat} {fam : List (List Int)} (h : FamP n fam) : fam.length ≤ 2 ^ n := by
  have e : fam = (allL n).filter fun l => decide (l ∈ fam) := sorted_one h.asc ((allL_lt n).sublist List.filter_sublist) fun x => by
    rw [List.mem_filter, decide_eq_true_eq, mem_allL]
    exact ⟨fun hx => ⟨h.sub x hx, hx⟩, fun hx => hx.2⟩
  rw [e, ← allL_len n]
  exact List.length_filter_le _ _
theorem mem_turn {n : Nat} {fam : List (List Int)} {l : List Int} : l ∈ turnL n fam ↔ l.Sublist (rangeI n) ∧ restL n l ∉ fam := by
  unfold turnL
  rw [List.mem_filter, mem_allL]
  simp
theorem turn_lt (n : Nat) (fam : List (List Int)) : (turnL n fam).Pairwise fun a b => ltL a b = true := (allL_lt n).sublist List.filter_sublist
theorem turn_turn2 (n : Nat) (fam : List (List Int)) : turnL2 n fam = turnL n fam := by
  refine sorted_one (sortL_lt ((allL_nodup n).sublist List.filter_sublist)) (turn_lt n fam) fun x => ?_
  unfold turnL2
  rw [(sortL_perm _).mem_iff, mem_turn, List.mem_filter, mem_partsL]
  simp
theorem turn_fam {n : Nat} {fam : List (List Int)} (h : FamP n fam) : FamP n (turnL n fam) := ⟨fun l hl => (mem_turn.mp hl).1, turn_lt n fam, fun l hl s hs => by
  obtain ⟨h1, h2⟩ := mem_turn.mp hl
  exact mem_turn.mpr ⟨hs.trans h1, fun h3 => h2 (h.down _ h3 _ (rest_anti hs))⟩⟩
theorem turn_turn {n : Nat} {fam : List (List Int)} (h : FamP n fam) : turnL n (turnL n fam) = fam := by
  refine sorted_one (turn_lt _ _) h.asc fun x => ?_
  rw [mem_turn, mem_turn]
  constructor
  · rintro ⟨h1, h2⟩
    rw [rest_rest h1] at h2
    exact Classical.byContradiction fun h3 => h2 ⟨restL_sub _ _, h3⟩
  · intro hx
    have h1 := h.sub x hx
    refine ⟨h1, fun h2 => h2.2 ?_⟩
    rw [rest_rest h1]; exact hx
theorem turn_len {n : Nat} {fam : List (List Int)} (h : FamP n fam) : (turnL n fam).length + fam.length = 2 ^ n := by
  have e1 := List.length_eq_countP_add_countP (fun l => !decide (restL n l ∈ fam)) (l := allL n)
  rw [allL_len, List.countP_eq_length_filter, List.countP_eq_length_filter] at e1
  have e2 : ((allL n).filter fun l => decide ¬(!decide (restL n l ∈ fam)) = true).length = (fam.map (restL n)).length := by
    refine len_of_mem ((nodup_of_lt (allL_lt n)).sublist List.filter_sublist) ?_ fun x => ?_
    · rw [List.nodup_iff_pairwise_ne, List.pairwise_map]
      refine List.Pairwise.imp_of_mem ?_ (List.nodup_iff_pairwise_ne.mp (nodup_of_lt h.asc))
      intro a b ha hb hne e
      have := congrArg (restL n) e
      rw [rest_rest (h.sub a ha), rest_rest (h.sub b hb)] at this
      exact hne this
    · rw [List.mem_filter, mem_allL, List.mem_map]
      constructor
      · rintro ⟨h1, h2⟩
        exact ⟨restL n x, by simpa using h2, rest_rest h1⟩
      · rintro ⟨a, ha, rfl⟩
        exact ⟨restL_sub _ _, by rw [rest_rest (h.sub a ha)]; simpa using ha⟩
  rw [List.length_map] at e2
  rw [e2] at e1
  exact e1.symm
theorem turn_in {n : Nat} {fam : List (List Int)} {l : List Int} (h : l.Sublist (rangeI n)) : decide (restL n l ∈ turnL n fam) = !decide (l ∈ fam) := by
  rw [Bool.eq_iff_iff, decide_eq_true_eq, mem_turn, rest_rest h]
  simp [restL_sub]
theorem turn_all (n : Nat) : turnL n (allL n) = [] := List.filter_eq_nil_iff.mpr fun l _ h => by
  rw [decide_eq_true (restL_mem n l)] at h
  cases h
theorem turn_none (n : Nat) : turnL n [] = allL n := List.filter_eq_self.mpr fun l _ => rfl
theorem rest_nil_iff {n : Nat} {l : List Int} (h : l.Sublist (rangeI n)) : restL n l = [] ↔ ¬ l.length < n := by
  constructor
  · intro e hl
    have h1 := rest_rest h
    rw [e] at h1
    have h2 : restL n [] = rangeI n := List.filter_eq_self.mpr fun x _ => by simp
    rw [h2] at h1
    rw [← h1, rangeI_len] at hl
    omega
  · intro hl
    have h1 : l = rangeI n := h.eq_of_length_le (by rw [rangeI_len]; omega)
    subst h1
    exact List.filter_eq_nil_iff.mpr fun x hx => by simp [hx]
theorem turn_one (n : Nat) : turnL n [[]] = (allL n).filter fun l => decide (l.length < n) := by
  unfold turnL
  refine List.filter_congr fun l hl => ?_
  have := rest_nil_iff (mem_allL.mp hl)
  rw [Bool.eq_iff_iff, decide_eq_true_eq, Bool.not_eq_true', decide_eq_false_iff_not, List.mem_singleton, this]
  omega
theorem sign_sign (l : List Int) : signL l = signL2 l := by
  unfold signL signL2
  congr 2
  suffices h : (l.map (· % 2)).sum = (((l.filter fun x => decide (x % 2 = 1)).length : Nat) : Int) by rw [h]
  induction l with
  | nil => rfl
  | cons x l ih =>
    rw [List.map_cons, List.sum_cons, ih, List.filter_cons]
    by_cases e : x % 2 = 1
    · rw [if_pos (decide_eq_true e), List.length_cons, e]
      omega
    · rw [if_neg (by rw [decide_eq_false e]; exact Bool.false_ne_true)]
      omega
theorem all_three : allL 3 = [[], [0], [0, 1], [0, 1, 2], [0, 2], [1], [1, 2], [2]] := by
  have hp : ([[], [0], [0, 1], [0, 1, 2], [0, 2], [1], [1, 2], [2]] : List (List Int)).Perm (partsL (rangeI 3)) := by decide +kernel
  refine sorted_one (allL_lt 3) (by decide +kernel) fun x => ?_
  unfold allL
  rw [(sortL_perm _).mem_iff, hp.mem_iff]
theorem turn_three : turnL 3 [[], [0], [0, 1], [0, 2], [1], [1, 2], [2]] = [[]] := by
  unfold turnL
  rw [all_three]
  decide +kernel
/-! ### made of lots -/
def madeK (lots : List (List Int)) : List (List Int) := lots.foldl (fun ks l => uni ks (uni [] (partsL l))) []
theorem madeK_snoc (ls : List (List Int)) (l : List Int) : madeK (ls ++ [l]) = uni (madeK ls) (uni [] (partsL l)) := by unfold madeK; rw [List.foldl_append]; rfl
theorem madeK_nodup (lots : List (List Int)) : (madeK lots).Nodup := by
  refine snoc_ind (p := fun lots => (madeK lots).Nodup) List.nodup_nil (fun ls l ih => ?_) lots
  rw [madeK_snoc]
  exact nodup_uni _ _ ih
theorem mem_madeK {p : List Int} (lots : List (List Int)) : p ∈ madeK lots ↔ ∃ l ∈ lots, p.Sublist l := by
  refine snoc_ind (p := fun lots => p ∈ madeK lots ↔ ∃ l ∈ lots, p.Sublist l) ?_ (fun ls l ih => ?_) lots
  · constructor
    · intro h; cases h
    · rintro ⟨_, h, _⟩; cases h
  · rw [madeK_snoc, mem_uni, mem_uni, ih, mem_partsL]
    constructor
    · rintro (⟨m, h1, h2⟩ | h | h)
      · exact ⟨m, List.mem_append_left _ h1, h2⟩
      · cases h
      · exact ⟨l, by simp, h⟩
    · rintro ⟨m, h1, h2⟩
      rcases List.mem_append.mp h1 with h1 | h1
      · exact .inl ⟨m, h1, h2⟩
      · rw [List.mem_singleton] at h1
        subst h1
        exact .inr (.inr h2)
theorem made_fam {n : Nat} {lots : List (List Int)} (h : ∀ l ∈ lots, l.Sublist (rangeI n)) : FamP n (sortL (madeK lots)) := by
  have hm : ∀ p, p ∈ sortL (madeK lots) ↔ ∃ l ∈ lots, p.Sublist l := fun p => by rw [(sortL_perm _).mem_iff, mem_madeK]
  refine ⟨fun l hl => ?_, sortL_lt (madeK_nodup lots), fun l hl s hs => ?_⟩
  · obtain ⟨m, h1, h2⟩ := (hm l).mp hl
    exact h2.trans (h m h1)
  · obtain ⟨m, h1, h2⟩ := (hm l).mp hl
    exact (hm s).mpr ⟨m, h1, hs.trans h2⟩
theorem madeK_len {lots : List (List Int)} (h : ∀ l ∈ lots, l.length ≤ 12) : (madeK lots).length ≤ lots.length * 4096 := by
  revert h
  refine snoc_ind (p := fun lots => (∀ l ∈ lots, l.length ≤ 12) → (madeK lots).length ≤ lots.length * 4096) (fun _ => Nat.zero_le _) (fun ls l ih h => ?_) lots
  rw [madeK_snoc, List.length_append, List.length_singleton]
  have h1 := ih fun l hl => h l (List.mem_append_left _ hl)
  have h2 := uni_len (uni [] (partsL l)) (madeK ls)
  have h3 := uni_len (partsL l) []
  rw [partsL_len] at h3
  have h4 : 2 ^ l.length ≤ 4096 := small12 (h l (by simp))
  rw [List.length_nil] at h3
  omega
/-- no two lots of up to seven things have one hash -/
theorem hash7 : ((partsL (rangeI 7)).map hI).Nodup := by decide +kernel
theorem hash_inj {p q : List Int} (h1 : p.Sublist (rangeI 7)) (h2 : q.Sublist (rangeI 7)) (e : hI p = hI q) : p = q := by
  have n1 := hash7
  rw [List.nodup_iff_pairwise_ne, List.pairwise_map] at n1
  have h1 := mem_partsL.mpr h1
  have h2 := mem_partsL.mpr h2
  generalize partsL (rangeI 7) = L at *
  induction L with
  | nil => cases h1
  | cons a L ih =>
    rw [List.pairwise_cons] at n1
    rcases List.mem_cons.mp h1 with e1 | g1
    · rcases List.mem_cons.mp h2 with e2 | g2
      · rw [e1, e2]
      · subst e1; exact absurd e (n1.1 q g2)
    · rcases List.mem_cons.mp h2 with e2 | g2
      · subst e2; exact absurd e.symm (n1.1 p g1)
      · exact ih n1.2 g1 g2
theorem hash_nodup {l : List Int} (h : l.Sublist (rangeI 7)) : ((uni [] (partsL l)).map hI).Nodup := by
  have n1 := nodup_uni (partsL l) [] List.nodup_nil
  rw [List.nodup_iff_pairwise_ne, List.pairwise_map]
  refine List.Pairwise.imp_of_mem ?_ (List.nodup_iff_pairwise_ne.mp n1)
  intro a b ha hb hne e
  have ha : a.Sublist l := by
    rcases (mem_uni _ _).mp ha with h | h
    · cases h
    · exact mem_partsL.mp h
  have hb : b.Sublist l := by
    rcases (mem_uni _ _).mp hb with h | h
    · cases h
    · exact mem_partsL.mp h
  exact hne (hash_inj (ha.trans h) (hb.trans h) e)
end K24


namespace K24
open PySem L2 DL
section
variable {P : Program} {w : World} {K : PySem.W.Frag} {mg : Str → Option Value} {base : Heap}
theorem sc_law_of : FnScope ["source", "some"] ["source", "some"] (defScope (topS 28)) := ⟨rfl, rfl, rfl, by decide +kernel, rfl, by decide +kernel, by decide +kernel⟩
theorem ok_of {f fP : Addr} {fd fdP : FuncData} (F : Fun K "_law_of" "_law_of" (topS 28) f fd) (T : Txs mg) (NP : Dn K mg "_law_pick" (topS 27) ["source", "many"] fP fdP) : FnOk P w K mg base CX0 2 f fd ["source", "some"] (SpD φOf) := by
  refine fn_D F sc_law_of (fun as Kd h => ?_) (fun as Kd r cdv A outer s H E hr h => ?_)
  · obtain ⟨ds, rfl, _⟩ := h
    rfl
  · obtain ⟨ds, rfl, h0, hl, k⟩ := h
    have nd := sc_law_of.nd
    refine jret (jix ix_list (jv 1 (jcall hr NP (ok_pick NP.F T) (jAs 0 (ja1 (jlen T.len (jv 1 ⟨_, .inl rfl, (ds.length : Nat), rfl, by omega, fun v h1 h2 => ?_⟩)))))))
    have hv := pick_at h0 h1 h2
    obtain ⟨j, rfl⟩ : ∃ j : Nat, v = j := ⟨v.toNat, by omega⟩
    exact od_ixL (atI_nn (List.getElem?_eq_getElem (by omega))) (k _ (List.getElem_mem _))
end
end K24

/-! k01: odd values: numbers, what is bent. -/
namespace K24
open PySem L2 DL
/-! ### kinds -/
section
variable {P : Program} {w : World} {K : PySem.W.Frag} {mg : Str → Option Value} {base : Heap}
def φNum : List Ar → (D → Prop) → Prop := fun as Kd => ∃ (d : D), as = [.d d] ∧ noF d = true ∧ Kd (.bool (isInt d))
/-! ### bent -/
def φBent (B : Nat) (ws : List Nat) : List Ar → (D → Prop) → Prop := fun as Kd => ∃ d : D, as = [.src, .d d] ∧ okW B ws d = true ∧ ∀ d', okW (B + 2) (grW ws) d' = true → Kd d'
def oddL : List D := [.none, .int 0, .int 1, .int 2, .bool true, .int (-1), .str "a", .str "filled", .str "test", .str "rows", .str "round", .tuple [], .tuple [.int 0], .tuple [.int 0, .int 0], .list [], dctD [], .int 1000000]
theorem okW_oddL {B w : Nat} {ws : List Nat} (hB : 1000000 ≤ B) (hw : 2 ≤ w) : ∀ d ∈ oddL, okW B (w :: ws) d = true := by
  unfold oddL
  simp only [List.forall_mem_cons]
  have h0 : ∀ i : Int, i.natAbs ≤ 1000000 → ∀ {ws : List Nat}, okW B ws (.int i) = true := fun i h => okW_int (by omega)
  refine ⟨okW_none, h0 _ (by decide), h0 _ (by decide), h0 _ (by decide), okW_bool _, h0 _ (by decide), okW_atom ?_, okW_atom ?_, okW_atom ?_, okW_atom ?_, okW_atom ?_, okW_tup (Nat.zero_le _) (fun x hx => nomatch hx), okW_tup ?_ (fun x hx => ?_), okW_tup ?_ (fun x hx => ?_), okW_list (Nat.zero_le _) (fun x hx => nomatch hx), okW_atom rfl, h0 _ (by decide), fun d hd => by cases hd⟩
  · exact atom_mono (B := 0) (Nat.zero_le _) (by decide +kernel)
  · exact atom_mono (B := 0) (Nat.zero_le _) (by decide +kernel)
  · exact atom_mono (B := 0) (Nat.zero_le _) (by decide +kernel)
  · exact atom_mono (B := 0) (Nat.zero_le _) (by decide +kernel)
  · exact atom_mono (B := 0) (Nat.zero_le _) (by decide +kernel)
  · show 1 ≤ w; omega
  · rw [List.mem_singleton.mp hx]; exact h0 _ (by decide)
  · exact hw
  · rcases List.mem_cons.mp hx with rfl | hx
    · exact h0 _ (by decide)
    · rw [List.mem_singleton.mp hx]; exact h0 _ (by decide)
theorem okW_oddG {B : Nat} (hB : 1000000 ≤ B) : ∀ {ws : List Nat}, (∀ w ∈ ws, 2 ≤ w) → ∀ d ∈ oddL, okW (B + 2) (grW ws) d = true
  | [], _ => okW_oddL (by omega) (Nat.le_refl 2)
  | w :: ws, h => okW_oddL (by omega) (Nat.le_succ_of_le (h w List.mem_cons_self))
end
end K24

/-! k01: what is a lot, over odd values. -/
namespace K24
open PySem L2 DL
theorem getD_at {l : List Int} {i : Nat} (h : i < l.length) : l.getD i 0 = l[i] := by
  rw [List.getD_eq_getElem?_getD, List.getElem?_eq_getElem h]; rfl
def iD : D → Int
  | .int i => i
  | _ => 0
def intsD : D → List Int
  | .tuple q => q.map iD
  | _ => []
def ascB (l : List Int) : Bool := decide (l.Pairwise (· < ·))
def lotV (m : Int) : D → Bool
  | .tuple q => (q.all fun d => nbD d m) && ascB (q.map iD)
  | _ => false
theorem ints_of {m : Int} {q : List D} (h : (q.all fun d => nbD d m) = true) : ∃ is : List Int, q = is.map .int ∧ ∀ i ∈ is, 0 ≤ i ∧ i < m := by
  induction q with
  | nil => exact ⟨[], rfl, fun _ h => nomatch h⟩
  | cons d q ih =>
    rw [List.all_cons, Bool.and_eq_true] at h
    obtain ⟨is, rfl, hs⟩ := ih h.2
    have h1 := h.1
    cases d <;> first | cases h1 | skip
    rename_i i
    have h1 : (decide (0 ≤ i) && decide (i < m)) = true := h1
    rw [Bool.and_eq_true, decide_eq_true_eq, decide_eq_true_eq] at h1
    refine ⟨i :: is, rfl, fun x hx => ?_⟩
    rcases List.mem_cons.mp hx with rfl | hx
    · exact h1
    · exact hs x hx
theorem iD_map (is : List Int) : (is.map PyData.int).map iD = is := by
  rw [List.map_map]
  conv => rhs; rw [← List.map_id is]
  rfl
/-- one after another up: all of them up -/
theorem asc_of {α : Type} {r : α → α → Prop} (tr : ∀ a b c, r a b → r b c → r a c) : ∀ {l : List α}, (∀ a (h : a + 1 < l.length), r l[a] l[a + 1]) → l.Pairwise r
  | [], _ => .nil
  | [x], _ => List.pairwise_singleton _ _
  | x :: y :: l, h => by
    have ih : (y :: l).Pairwise r := asc_of tr fun a ha => h (a + 1) (by rw [List.length_cons]; omega)
    have h0 : r x y := h 0 (by rw [List.length_cons, List.length_cons]; omega)
    refine List.pairwise_cons.mpr ⟨fun z hz => ?_, ih⟩
    rcases List.mem_cons.mp hz with rfl | hz
    · exact h0
    · exact tr _ _ _ h0 ((List.pairwise_cons.mp ih).1 z hz)
theorem asc_range {α : Type} {r : α → α → Prop} (tr : ∀ a b c, r a b → r b c → r a c) (l : List α) (p : Nat → Bool) (hp : ∀ a (h : a + 1 < l.length), p a = true ↔ ¬ r l[a] l[a + 1]) : (((List.range (l.length - 1)).filter p).isEmpty = true) ↔ l.Pairwise r := by
  rw [List.isEmpty_iff, List.filter_eq_nil_iff]
  constructor
  · intro h
    refine asc_of tr fun a ha => ?_
    have h1 := h a (List.mem_range.mpr (by omega))
    exact Classical.byContradiction fun hn => h1 ((hp a ha).mpr hn)
  · intro h a ha hpa
    have ha := List.mem_range.mp ha
    exact (hp a (by omega)).mp hpa (List.pairwise_iff_getElem.mp h a (a + 1) (by omega) (by omega) (by omega))
theorem sort_asc {is ys : List Int} (hp : ys.Perm (uni [] is)) (hs : ys.Pairwise (· ≤ ·)) : decide (is = ys) = ascB is := by
  have nd : ys.Nodup := hp.nodup_iff.mpr (nodup_uni is [] List.nodup_nil)
  have hlt := sorted_lt hs nd
  unfold ascB
  by_cases h : is.Pairwise (· < ·)
  · rw [decide_eq_true h]
    refine decide_eq_true (eq_of_sorted h hlt fun x => ?_)
    rw [hp.mem_iff, mem_uni]
    simp
  · rw [decide_eq_false h]
    refine decide_eq_false fun e => h ?_
    rw [e]; exact hlt
section
variable {P : Program} {w : World} {K : PySem.W.Frag} {mg : Str → Option Value} {base : Heap}
def φIsThing : List Ar → (D → Prop) → Prop := fun as Kd => ∃ (d : D) (m : Int), as = [.d d, .d (.int m)] ∧ noF d = true ∧ Kd (.bool (nbD d m))
def φIsLot : List Ar → (D → Prop) → Prop := fun as Kd => ∃ (m : Int) (v : D), as = [.d (.int m), .d v] ∧ noF v = true ∧ (∀ q, v = .tuple q → q.length ≤ 60 ∧ ∀ d ∈ q, noF d = true) ∧ Kd (.bool (lotV m v))
end
end K24

/-! k01: what is a family, over odd values. -/
namespace K24
open PySem L2 DL
def AscL (lots : List (List Int)) : Prop := lots.Pairwise fun a b => ltL a b = true
instance (lots : List (List Int)) : Decidable (AscL lots) := inferInstanceAs (Decidable (List.Pairwise _ _))
def downB (lots : List (List Int)) : Bool := lots.all fun l => (sidesL l).all fun s => decide (s ∈ lots)
def famV : D → Bool
  | .tuple [.int m, .tuple ls] => decide (0 ≤ m) && (ls.all (lotV m) && (decide (AscL (ls.map intsD)) && downB (ls.map intsD)))
  | _ => false
theorem famV_eq (m : Int) (ls : List D) : famV (.tuple [.int m, .tuple ls]) = (decide (0 ≤ m) && (ls.all (lotV m) && (decide (AscL (ls.map intsD)) && downB (ls.map intsD)))) := rfl
theorem famV_len {q : List D} (h : q.length ≠ 2) : famV (.tuple q) = false := by
  match q, h with
  | [], _ => rfl
  | [a], _ => cases a <;> rfl
  | a :: b :: c :: t, _ => cases a <;> first | rfl | (cases b <;> rfl)
  | [_, _], h => exact absurd rfl h
theorem famV_snd {a b : D} (h : isTup b = false) : famV (.tuple [a, b]) = false := by
  cases a <;> first | rfl | (cases b <;> first | rfl | cases h)
theorem famV_fst {a b : D} (h : isInt a = false) : famV (.tuple [a, b]) = false := by
  cases a <;> first | rfl | cases h
theorem lots_of {m : Int} {ls : List D} (h : ls.all (lotV m) = true) : ∃ lots : List (List Int), ls = lots.map tupI ∧ ∀ l ∈ lots, l.Pairwise (· < ·) := by
  induction ls with
  | nil => exact ⟨[], rfl, fun _ h => nomatch h⟩
  | cons d q ih =>
    rw [List.all_cons, Bool.and_eq_true] at h
    obtain ⟨lots, rfl, hs⟩ := ih h.2
    have h1 := h.1
    cases d <;> first | cases h1 | skip
    rename_i is
    have h1 : ((is.all fun d => nbD d m) && ascB (is.map iD)) = true := h1
    rw [Bool.and_eq_true] at h1
    obtain ⟨l, rfl, _⟩ := ints_of h1.1
    have h2 := h1.2
    rw [iD_map] at h2
    refine ⟨l :: lots, rfl, fun x hx => ?_⟩
    rcases List.mem_cons.mp hx with rfl | hx
    · exact of_decide_eq_true h2
    · exact hs x hx
theorem intsD_map (lots : List (List Int)) : (lots.map tupI).map intsD = lots := by
  rw [List.map_map]
  conv => rhs; rw [← List.map_id lots]
  refine List.map_congr_left fun l _ => ?_
  show (l.map PyData.int).map iD = id l
  rw [iD_map]; rfl
theorem getL_at {l : List (List Int)} {i : Nat} (h : i < l.length) : l.getD i [] = l[i] := by
  rw [List.getD_eq_getElem?_getD, List.getElem?_eq_getElem h]; rfl
theorem eqv_lots (a b : List (List Int)) : PyData.eqv (.list (a.map tupI)) (.list (b.map tupI)) = decide (a = b) := by
  have h := PySem.W.Datum.eqv (α := List (PySem.W.Tup Int)) (a.map fun l => ⟨l⟩) (b.map fun l => ⟨l⟩)
  have e : ∀ c : List (List Int), (PySem.W.Datum.toD (c.map fun l => (⟨l⟩ : PySem.W.Tup Int))) = PyData.list (c.map tupI) := fun c => by
    show PyData.list ((c.map _).map _) = _
    rw [List.map_map]; rfl
  rw [e, e] at h
  rw [h, Bool.eq_iff_iff, decide_eq_true_eq, decide_eq_true_eq]
  refine ⟨fun z => ?_, fun z => by rw [z]⟩
  have h2 := congrArg (List.map PySem.W.Tup.items) z
  rw [List.map_map, List.map_map] at h2
  have e2 : ∀ c : List (List Int), c.map (PySem.W.Tup.items ∘ fun l => (⟨l⟩ : PySem.W.Tup Int)) = c := fun c => by
    conv => rhs; rw [← List.map_id c]
    rfl
  rw [e2, e2] at h2
  exact h2
section
variable {P : Program} {w : World} {K : PySem.W.Frag} {mg : Str → Option Value} {base : Heap}
/-- a value to be asked of: what are tuples at the lots' place are short -/
def φIsFam : List Ar → (D → Prop) → Prop := fun as Kd => ∃ (v : D) (B : Nat), as = [.d v] ∧ okW B [3, 129, 8, 2] v = true ∧ Kd (.bool (famV v))
theorem olot_at {B : Nat} {d : D} (h : okW B [8, 2] d = true) : noF d = true ∧ ∀ q, d = .tuple q → q.length ≤ 60 ∧ ∀ e ∈ q, noF e = true :=
  ⟨okW_noF h, fun q e => by subst e; exact ⟨Nat.le_trans (okW_tupE h).1 (by decide), fun x hx => okW_noF ((okW_tupE h).2 x hx)⟩⟩
end
end K24

/-! k01: what is a family, the law's own. -/
namespace K24
open PySem L2 DL
theorem mem_sides {l s : List Int} : s ∈ sidesL l ↔ ∃ k, k < l.length ∧ s = l.eraseIdx k := by
  unfold sidesL
  rw [List.mem_map]
  constructor
  · rintro ⟨k, hk, rfl⟩; exact ⟨k, List.mem_range.mp hk, rfl⟩
  · rintro ⟨k, hk, rfl⟩; exact ⟨k, List.mem_range.mpr hk, rfl⟩
/-- a shorter part lies in a side -/
theorem sub_side {s : List Int} : ∀ {l : List Int}, s.Sublist l → s.length < l.length → ∃ k, k < l.length ∧ s.Sublist (l.eraseIdx k) := by
  intro l h
  induction h with
  | slnil => intro h; cases h
  | @cons s l a h ih => intro _; exact ⟨0, Nat.zero_lt_succ _, h⟩
  | @cons_cons s l a h ih =>
    intro hl
    obtain ⟨k, hk, hs⟩ := ih (by simpa using hl)
    exact ⟨k + 1, by simpa using hk, hs.cons₂ a⟩
/-- closed under sides: closed under parts -/
theorem down_parts {lots : List (List Int)} (h : ∀ l ∈ lots, ∀ s ∈ sidesL l, s ∈ lots) : ∀ (n : Nat) (l : List Int), l.length ≤ n → l ∈ lots → ∀ s, s.Sublist l → s ∈ lots
  | n, l, hn, hl, s, hs => by
    by_cases e : s.length < l.length
    · obtain ⟨k, hk, h2⟩ := sub_side hs e
      match n with
      | 0 => omega
      | n + 1 => exact down_parts h n (l.eraseIdx k) (by rw [List.length_eraseIdx]; split <;> omega) (h l hl _ (mem_sides.mpr ⟨k, hk, rfl⟩)) s h2
    · rw [hs.eq_of_length (by have := hs.length_le; omega)]
      exact hl
theorem downB_eq (lots : List (List Int)) : downB lots = lots.all fun l => (partsL l).all fun s => decide (s ∈ lots) := by
  rw [Bool.eq_iff_iff]
  unfold downB
  simp only [List.all_eq_true, decide_eq_true_eq]
  constructor
  · intro h l hl s hs
    exact down_parts h l.length l (Nat.le_refl _) hl s (mem_partsL.mp hs)
  · intro h l hl s hs
    obtain ⟨k, hk, rfl⟩ := mem_sides.mp hs
    exact h l hl _ (mem_partsL.mpr (List.eraseIdx_sublist l k))
theorem sort_asc_lots (lots : List (List Int)) : decide (lots = sortL (uni [] lots)) = decide (AscL lots) := by
  have nd : (uni [] lots).Nodup := nodup_uni lots [] List.nodup_nil
  rw [Bool.eq_iff_iff, decide_eq_true_eq, decide_eq_true_eq]
  constructor
  · intro e
    have h := sortL_lt nd
    rw [← e] at h; exact h
  · intro h
    refine sorted_one h (sortL_lt nd) fun x => ?_
    rw [(sortL_perm _).mem_iff, mem_uni]
    simp
theorem all_uni (lots : List (List Int)) (p : List Int → Bool) : (uni [] lots).all p = lots.all p := by
  rw [Bool.eq_iff_iff, List.all_eq_true, List.all_eq_true]
  constructor
  · intro h l hl; exact h l ((mem_uni _ _).mpr (.inr hl))
  · intro h l hl; exact h l (by simpa using (mem_uni _ _).mp hl)
theorem mem_uni0 {lots : List (List Int)} {s : List Int} : decide (s ∈ uni [] lots) = decide (s ∈ lots) := by
  congr 1
  rw [mem_uni]; simp
theorem kvL_keys (ks : List (List Int)) : (kvL ks).map (·.1) = ks := by
  unfold kvL
  rw [List.map_map]
  conv => rhs; rw [← List.map_id ks]
  rfl
section
variable {P : Program} {w : World} {K : PySem.W.Frag} {mg : Str → Option Value} {base : Heap}
end
end K24

/-! k01: the family of lots, its greatest lots, its sizes. -/
namespace DL
open PySem L2
/-- over a local name that holds a tuple or a list -/
theorem jiV {X : Cx} {r : SR} {S : List Sl} {tg : Expr} {x : Str} {pos : Pos} {K : List D → List Sl → Prop} (i : Nat) {d : D} {ds : List D} (h : d = .tuple ds ∨ d = .list ds) (k : K ds S) (e : S[i]? = some (.val d) := by rfl) (hN : X.N[i]? = some x := by rfl) (hv : Vis X.env.scope x := by first | exact Or.inl rfl | exact Or.inr (Or.inl rfl) | exact Or.inr (Or.inr rfl)) (hd : (x == ("__debug__" : Str)) = false := by decide) (hcd : (x == ("__classdict__" : Str)) = false := by decide) : JI X r tg (.Name x pos) S K := by
  rcases h with h | h
  · exact jiT (jv i ⟨ds, h, k⟩ e hN hv hd hcd)
  · exact jiL (jv i ⟨ds, h, k⟩ e hN hv hd hcd)
end DL
namespace K24
open PySem L2 DL
theorem uni_snoc {α : Type} [DecidableEq α] (a g : List α) (x : α) : uni a (g ++ [x]) = if x ∈ uni a g then uni a g else uni a g ++ [x] := by unfold uni; rw [List.foldl_append]; rfl
theorem uni_uni {α : Type} [DecidableEq α] (a g : List α) : uni a (uni [] g) = uni a g := by
  have : ∀ m : List α, uni a (uni [] m.reverse) = uni a m.reverse := fun m => by
    induction m with
    | nil => rfl
    | cons x m ih =>
      rw [List.reverse_cons]
      generalize m.reverse = g at *
      rw [uni_snoc [] g x, uni_snoc a g x]
      by_cases h : x ∈ uni [] g
      · have h2 : x ∈ uni a g := (mem_uni _ _).mpr (.inr (((mem_uni _ _).mp h).resolve_left (by intro z; cases z)))
        rw [if_pos h, if_pos h2, ih]
      · rw [if_neg h, uni_snoc, ih]
  have := this g.reverse
  rwa [List.reverse_reverse] at this
theorem sub_len {α : Type} [DecidableEq α] : ∀ {a b : List α}, a.Nodup → (∀ x ∈ a, x ∈ b) → a.length ≤ b.length
  | [], _, _, _ => Nat.zero_le _
  | x :: a, b, nd, h => by
    have nd := List.nodup_cons.mp nd
    have hx := h x List.mem_cons_self
    have h2 := sub_len (a := a) (b := b.erase x) nd.2 fun y hy => (List.mem_erase_of_ne (fun (e : y = x) => nd.1 (by rw [← e]; exact hy))).mpr (h y (List.mem_cons_of_mem _ hy))
    rw [List.length_erase_of_mem hx] at h2
    have := List.length_pos_of_mem hx
    rw [List.length_cons]
    omega
theorem keyL_len (kvs : List (List Int × D)) : (keyL kvs).length = kvs.length := by unfold keyL; rw [List.length_map]
theorem at_map {α : Type} {f : α → D} {l : List α} {i : Nat} {d : D} (h : (l.map f)[i]? = some d) : ∃ x, l[i]? = some x ∧ d = f x := by
  rw [List.getElem?_map] at h
  cases e : l[i]? with
  | none => rw [e] at h; cases h
  | some x => rw [e] at h; exact ⟨x, rfl, (Option.some.inj h).symm⟩
theorem take_at {α : Type} {l : List α} {i : Nat} {x : α} (h : l[i]? = some x) : l.take (i + 1) = l.take i ++ [x] := by rw [List.take_succ, h]; rfl
/-! ### what they compute -/
def topsL (fam : List (List Int)) : List (List Int) := fam.filter fun l => !fam.any fun t => decide (l ∈ sidesL t)
def lens (ls : List (List Int)) : List Int := ls.map fun l => (l.length : Int)
def topSz (tops : List (List Int)) : D := match tops with
  | [] => .none
  | t :: ts => if (t :: ts).all (fun l => decide (l.length = t.length)) = true then .int t.length else .none
def sized (fam : List (List Int)) (k : Int) : List (List Int) := fam.filter fun l => decide ((l.length : Int) = k)
def IsMost (fam : List (List Int)) (m : Int) : Prop := m ∈ (-1 :: lens fam) ∧ ∀ y ∈ (-1 :: lens fam), y ≤ m
def signF (fam : List (List Int)) : Int := (fam.map fun l => (1 : Int) - 2 * ((l.length : Int) % 2)).sum
theorem most_one {fam : List (List Int)} {a b : Int} (ha : IsMost fam a) (hb : IsMost fam b) : a = b := by
  have := ha.2 b hb.1
  have := hb.2 a ha.1
  omega
theorem most_lo {fam : List (List Int)} {a : Int} (ha : IsMost fam a) : -1 ≤ a := ha.2 _ List.mem_cons_self
theorem most_hi {fam : List (List Int)} {a : Int} {n : Nat} (ha : IsMost fam a) (h : ∀ l ∈ fam, l.length ≤ n) : a ≤ n := by
  rcases List.mem_cons.mp ha.1 with rfl | h1
  · omega
  · obtain ⟨l, hl, rfl⟩ := List.mem_map.mp h1
    have := h l hl; omega
/-- one size alone -/
theorem one_size {tops : List (List Int)} {ys : List Int} (hp : ys.Perm (uni [] (lens tops))) : (ys.length = 1 ∧ ∃ k, ys = [k] ∧ topSz tops = .int k) ∨ (ys.length ≠ 1 ∧ topSz tops = .none) := by
  have nd : ys.Nodup := hp.nodup_iff.mpr (nodup_uni _ [] List.nodup_nil)
  have hm : ∀ x, x ∈ ys ↔ x ∈ lens tops := fun x => by rw [hp.mem_iff, mem_uni]; simp
  cases tops with
  | nil =>
    right
    cases ys with
    | nil => exact ⟨by decide, rfl⟩
    | cons y ys => exact absurd ((hm y).mp List.mem_cons_self) (by intro h; cases h)
  | cons t ts =>
    cases ha : (t :: ts).all (fun l => decide (l.length = t.length)) with
    | true =>
      left
      have hall : ∀ x ∈ ys, x = (t.length : Int) := fun x hx => by
        obtain ⟨l, hl, rfl⟩ := List.mem_map.mp ((hm x).mp hx)
        have := of_decide_eq_true (List.all_eq_true.mp ha l hl)
        rw [this]
      have ht : (t.length : Int) ∈ ys := (hm _).mpr (List.mem_map.mpr ⟨t, List.mem_cons_self, rfl⟩)
      match ys, nd, hall, ht with
      | [y], _, hall, _ =>
        have := hall y List.mem_cons_self
        subst this
        refine ⟨rfl, _, rfl, ?_⟩
        show (if (t :: ts).all (fun l => decide (l.length = t.length)) = true then PyData.int t.length else .none) = _
        rw [if_pos ha]
      | y :: z :: ys, nd, hall, _ =>
        have h1 := hall y List.mem_cons_self
        have h2 := hall z (List.mem_cons_of_mem _ List.mem_cons_self)
        exact absurd (h1.trans h2.symm) (by intro e; subst e; exact (List.nodup_cons.mp nd).1 List.mem_cons_self)
    | false =>
      right
      refine ⟨fun h1 => ?_, ?_⟩
      · obtain ⟨y, rfl⟩ : ∃ y, ys = [y] := by
          match ys, h1 with
          | [y], _ => exact ⟨y, rfl⟩
        have hall : ∀ l ∈ t :: ts, (l.length : Int) = y := fun l hl => by
          have := (hm (l.length : Int)).mpr (List.mem_map.mpr ⟨l, hl, rfl⟩)
          simpa using this
        have : (t :: ts).all (fun l => decide (l.length = t.length)) = true := List.all_eq_true.mpr fun l hl => decide_eq_true (by
          have h1 := hall l hl
          have h2 := hall t List.mem_cons_self
          omega)
        rw [this] at ha; cases ha
      · show (if (t :: ts).all (fun l => decide (l.length = t.length)) = true then PyData.int t.length else .none) = _
        rw [if_neg (by rw [ha]; decide)]
structure Txm (mg : Str → Option Value) : Prop where
  max : mg "max" = none
section
variable {P : Program} {w : World} {K : PySem.W.Frag} {mg : Str → Option Value} {base : Heap}
def φFamOf : List Ar → (D → Prop) → Prop := fun as Kd => ∃ (n : Nat) (lots : List (List Int)) (d : D), as = [.d (.int n), .d d] ∧ (d = .tuple (lots.map tupI) ∨ d = .list (lots.map tupI)) ∧ lots.length ≤ 1000 ∧ (∀ l ∈ lots, l.length ≤ 12) ∧ Kd (famD n (sortL (madeK lots)))
def φGreat : List Ar → (D → Prop) → Prop := fun as Kd => ∃ (n : Nat) (fam : List (List Int)), as = [.d (famD n fam)] ∧ fam.length ≤ 4096 ∧ (∀ l ∈ fam, l.length ≤ 12) ∧ Kd (.tuple ((topsL fam).map tupI))
theorem sides_len (l : List Int) : (sidesL l).length = l.length := by unfold sidesL; rw [List.length_map, List.length_range]
def φTopSz : List Ar → (D → Prop) → Prop := fun as Kd => ∃ (n : Nat) (fam : List (List Int)), as = [.d (famD n fam)] ∧ fam.length ≤ 4096 ∧ (∀ l ∈ fam, l.length ≤ 12) ∧ Kd (topSz (topsL fam))
theorem uni_lens {ls : List (List Int)} (h : ∀ l ∈ ls, l.length ≤ 12) : (uni [] (lens ls)).length ≤ 13 := by
  have := sub_len (a := uni [] (lens ls)) (b := rangeI 13) (nodup_uni _ [] List.nodup_nil) fun x hx => by
    have hx : x ∈ lens ls := by simpa using (mem_uni _ _).mp hx
    obtain ⟨l, hl, rfl⟩ := List.mem_map.mp hx
    have := h l hl
    rw [mem_rangeI]; omega
  rwa [rangeI_len] at this
def φSized (g : List (List Int) → D) : List Ar → (D → Prop) → Prop := fun as Kd => ∃ (n : Nat) (fam : List (List Int)) (m : Int), as = [.d (famD n fam), .d (.int m)] ∧ fam.length ≤ 4096 ∧ Kd (g (sized fam m))
def φMost : List Ar → (D → Prop) → Prop := fun as Kd => ∃ (n : Nat) (fam : List (List Int)), as = [.d (famD n fam)] ∧ fam.length ≤ 4096 ∧ ∀ m : Int, IsMost fam m → Kd (.int m)
def sizesD (fam : List (List Int)) (m : Int) : D := .tuple ((List.range (m + 1).toNat).map fun (k : Nat) => .int ((sized fam k).length : Nat))
def φSizes : List Ar → (D → Prop) → Prop := fun as Kd => ∃ (n : Nat) (fam : List (List Int)), as = [.d (famD n fam)] ∧ fam.length ≤ 4096 ∧ (∀ l ∈ fam, l.length ≤ 12) ∧ ∀ m : Int, IsMost fam m → Kd (sizesD fam m)
def φSignF : List Ar → (D → Prop) → Prop := fun as Kd => ∃ (n : Nat) (fam : List (List Int)), as = [.d (famD n fam)] ∧ fam.length ≤ 4096 ∧ Kd (.int (signF fam))
end
end K24

/-! k01: drawn families. -/
namespace DL
open PySem L2
variable {X : Cx} {r : SR} {S : List Sl}
/-- min(a, b) -/
theorem jmin2 {K : D → List Sl → Prop} {a b : Expr} {p pos : Pos} (hm : X.mg "min" = none) (h : JE X r a S fun d1 S1 => JE X r b S1 fun d2 S2 => ∃ i j : Int, d1 = .int i ∧ d2 = .int j ∧ K (.int (if j < i then j else i)) S2) (hc : X.calm = true := by rfl) (hg : Gl X "min" := by rfl)
    (hs : starEach [a, b] X.env = (false, eval a X.env) :: starEach [b] X.env := by rfl) (hs2 : starEach [b] X.env = (false, eval b X.env) :: starEach [] X.env := by rfl) (hpl : (backTo pos (starEach [b] X.env)).any (·.1) = false := by rfl) : JE X r (.Call (.Name "min" p) [a, b] [] pos) S K :=
  jB (call_min2 hc) hm (jA (h.mono fun d1 S1 h1 => ja1 (h1.mono fun d2 S2 ⟨i, j, e1, e2, kk⟩ => ⟨[d1, d2], rfl, by
    subst e1 e2
    intro F H vs kF rv Q q
    cases rv with
    | cons r1 t =>
      cases t with
      | cons r2 t =>
        cases t
        cases r1
        cases r2
        exact ⟨i, j, rfl, q _ _ F H kk (Grow.refl kF) (.int _)⟩⟩) hs2) hs) hg (by decide +kernel) (by decide) (by decide) hs hpl
/-- [x for x in .. if ..], draws in the test -/
theorem jn_lcS {elt tg iter : Expr} {ifs : List Expr} {scope : Scope} {pos : Pos} (own : List (Str × Nat)) (ts : List Nat) {K : List D → List Sl → Prop} (h : JI X r tg iter S fun ds S1 => noOwn (own.map (·.2)) S1 = true ∧ ds.length ≤ 1000000 ∧ (∀ d ∈ ds, Blk X scope fun Y => JG Y r tg ts d (wipeS S1 (own.map (·.2))) fun S2 => Blk X scope fun Y => JTs Y r ifs S2 fun b S3 => if b = true then Blk X scope fun Y => JE Y r elt S3 fun y S4 => y = d ∧ mrg (own.map (·.2)) S1 S4 = S1 else mrg (own.map (·.2)) S1 S3 = S1) ∧ ∀ zs : List D, zs.Sublist ds → K zs S1)
    (hc : X.calm = true := by rfl) (hN : X.N.Nodup := by assumption) (ok : BlkOk X.N X.env.scope scope own := by exact blkOk_by rfl) (hs : ∀ x, foldedSetIterable iter X.env x = pure x := by intro _; rfl) (hts : ∀ j ∈ ts, j ∈ own.map (·.2) := by decide) : JN X r (.ListComp elt [⟨tg, iter, ifs, 0⟩] scope pos) S K :=
  jn_lc own ts hc hN ok hs hts (h.mono fun ds S1 ⟨ho, hl, ht, hk⟩ => ⟨fun i acc S' => S' = S1 ∧ acc.Sublist (ds.take i), ⟨rfl, List.nil_sublist _⟩, fun i acc S' ⟨e, ha⟩ hi => by
    subst e
    refine ⟨?_, noOwn_of ho⟩
    have hz : sizeLine = 16777216 := sizeLine_eq
    have := ha.length_le
    rw [List.length_take] at this
    omega, fun i d acc S' hd ⟨e, ha⟩ => by
    subst e
    have tk : ds.take (i + 1) = ds.take i ++ [d] := by rw [List.take_succ, hd]; rfl
    intro s1 H1 C1 cl1 fp1
    refine (ht d (List.mem_of_getElem? hd) s1 H1 C1 cl1 fp1).mono fun S2 h2 => ?_
    intro s2 H2 C2 cl2 fp2
    refine (h2 s2 H2 C2 cl2 fp2).mono fun b S3 h3 => ?_
    cases b with
    | true =>
      rw [if_pos rfl] at h3 ⊢
      intro s3 H3 C3 cl3 fp3
      refine (h3 s3 H3 C3 cl3 fp3).mono fun y S4 ⟨hy, hm⟩ => ⟨hm, ?_⟩
      rw [tk, hy]
      exact ha.append (List.Sublist.refl _)
    | false =>
      rw [if_neg Bool.false_ne_true] at h3 ⊢
      refine ⟨h3, ?_⟩
      rw [tk]
      exact ha.trans (List.sublist_append_left _ _), fun acc S' ⟨e, ha⟩ => by
    subst e
    rw [List.take_length] at ha
    exact hk acc ha⟩)
/-- sorted(x), the ints told -/
theorem jsortIM {K : List D → List Sl → Prop} {a : Expr} {p pos : Pos} {k : Nat} (hr : Room k X.A) (hm : X.mg "sorted" = none) (h : JE X r a S fun d S1 => ∃ ns : List Int, d = .list (ns.map .int) ∧ K ((ns.mergeSort fun a b => decide (a ≤ b)).map .int) S1) (hg : Gl X "sorted" := by rfl) (hs : starEach [a] X.env = (false, eval a X.env) :: starEach [] X.env := by rfl) : JN X r (.Call (.Name "sorted" p) [a] [] pos) S K :=
  jsorted hr hm (h.mono fun d S1 ⟨ns, e, k⟩ => ⟨_, e, nice_map fun a => nice_int a, alike_map fun a b => by simp [PySem.W.alike], PySem.W.Sortable.others fun b => ⟨(by intro z; cases z), (by intro _ z; cases z)⟩, by
    rw [sort_map (PySem.W.dataLe_int fun b => b)]
    exact k⟩) hg hs
end DL
namespace K24
open PySem L2 DL
structure Txn (mg : Str → Option Value) : Prop where
  min : mg "min" = none
def wordsP : List Str := Txt.split "012 013 024 035 045 125 134 145 234 235" " "
def digs (w : Str) : List Int := w.cps.toList.map fun (c : Nat) => ((c : Int) - 48)
def planeL : List (List Int) := wordsP.map digs
theorem words_ok : ∀ w ∈ wordsP, ∀ c ∈ w.cps.toList, PySem.intText? ⟨#[c]⟩ = some ((c : Int) - 48) := by
  have h : (wordsP.all fun w => w.cps.toList.all fun c => decide (PySem.intText? ⟨#[c]⟩ = some ((c : Int) - 48))) = true := by decide +kernel
  exact fun w hw c hc => of_decide_eq_true (List.all_eq_true.mp (List.all_eq_true.mp h w hw) c hc)
theorem plane_ok : ∀ l ∈ planeL, l.Nodup ∧ ∀ x ∈ l, 0 ≤ x ∧ x < 6 := by
  have h : (planeL.all fun l => decide l.Nodup && l.all fun x => decide (0 ≤ x ∧ x < 6)) = true := by decide +kernel
  intro l hl
  have h1 := List.all_eq_true.mp h l hl
  rw [Bool.and_eq_true, decide_eq_true_eq, List.all_eq_true] at h1
  exact ⟨h1.1, fun x hx => of_decide_eq_true (h1.2 x hx)⟩
theorem plane_len : planeL.length = 10 := by decide +kernel
theorem rangeI_succ (n : Nat) : rangeI (n + 1) = rangeI n ++ [(n : Int)] := by
  unfold rangeI
  rw [List.range_succ, List.map_append]; rfl
theorem rangeI_mono {m n : Nat} (h : m ≤ n) : (rangeI m).Sublist (rangeI n) := sub_of_sorted (rangeI_lt m) (rangeI_lt n) fun x hx => by
  rw [mem_rangeI] at hx ⊢
  omega
theorem sorted_sub {q ys : List Int} {n : Nat} (nd : q.Nodup) (hr : ∀ x ∈ q, 0 ≤ x ∧ x < n) (hp : ys.Perm q) (hs : ys.Pairwise (· ≤ ·)) : ys.Sublist (rangeI n) :=
  lotOk_iff.mp ⟨sorted_lt hs (hp.nodup_iff.mpr nd), fun x hx => hr x (hp.mem_iff.mp hx)⟩
theorem ms_sorted (q : List Int) : (q.mergeSort fun a b => decide (a ≤ b)).Pairwise (· ≤ ·) := by
  have := List.pairwise_mergeSort (le := fun a b : Int => decide (a ≤ b)) (by intro a b c; simp; omega) (by intro a b; simp; omega) q
  simpa using this
def namedL (ms l : List Int) : List Int := (l.map fun x => ms.getD x.toNat 0).mergeSort fun a b => decide (a ≤ b)
theorem named_sub {ms l : List Int} (hp : ms.Perm (rangeI 6)) (hl : l.Nodup) (h6 : ∀ x ∈ l, 0 ≤ x ∧ x < 6) : (namedL ms l).Sublist (rangeI 6) := by
  have hlen : ms.length = 6 := by rw [hp.length_eq, rangeI_len]
  have hnd : ms.Nodup := hp.nodup_iff.mpr (by decide +kernel)
  have hpw := List.pairwise_iff_getElem.mp (List.nodup_iff_pairwise_ne.mp hnd)
  have inj : ∀ i j : Nat, i < 6 → j < 6 → ms.getD i 0 = ms.getD j 0 → i = j := fun i j hi hj e => by
    rw [getD_at (show i < ms.length by omega), getD_at (show j < ms.length by omega)] at e
    rcases Nat.lt_trichotomy i j with h | h | h
    · exact absurd e (hpw i j (by omega) (by omega) h)
    · exact h
    · exact absurd e.symm (hpw j i (by omega) (by omega) h)
  refine sorted_sub (q := l.map fun (x : Int) => ms.getD x.toNat 0) ?_ (fun x hx => ?_) (by unfold namedL; exact List.mergeSort_perm _ _) (by unfold namedL; exact ms_sorted _)
  · refine List.nodup_iff_pairwise_ne.mpr (List.pairwise_map.mpr ((List.nodup_iff_pairwise_ne.mp hl).imp_of_mem fun {a b} ha hb hab e => ?_))
    have h1 := h6 a ha
    have h2 := h6 b hb
    have := inj a.toNat b.toNat (by omega) (by omega) e
    omega
  · obtain ⟨y, hy, rfl⟩ := List.mem_map.mp hx
    have h1 := h6 y hy
    rw [getD_at (show y.toNat < ms.length by omega)]
    have := hp.mem_iff.mp (List.getElem_mem (show y.toNat < ms.length by omega))
    rw [mem_rangeI] at this
    exact this
section
variable {P : Program} {w : World} {K : PySem.W.Frag} {mg : Str → Option Value} {base : Heap}
def φMade : List Ar → (D → Prop) → Prop := fun as Kd => ∃ (n : Nat) (lots : List (List Int)), as = [.d (.int n), .d (.list (lots.map tupI))] ∧ lots.length ≤ 200 ∧ (∀ l ∈ lots, l.Sublist (rangeI 7)) ∧ Kd (famD n (sortL (madeK lots)))
theorem sub7_len {l : List Int} (h : l.Sublist (rangeI 7)) : l.length ≤ 12 := Nat.le_trans h.length_le (by rw [rangeI_len]; decide)
theorem mergeD_nil_kvL (b : List (List Int)) : mergeD [] (kvL b) = kvL (uni [] b) := mergeD_kvL b []
def φPlane : List Ar → (D → Prop) → Prop := fun as Kd => as = [] ∧ Kd (.list (planeL.map tupI))
def φFamily : List Ar → (D → Prop) → Prop := fun as Kd => ∃ most size : Nat, as = [.src, .d (.int most), .d (.int size)] ∧ most ≤ 7 ∧ size ≤ 7 ∧ ∀ (n : Nat) (fam : List (List Int)), n ≤ most → FamP n fam → Kd (famD n fam)
end
end K24

/-! k01: the plain law. -/
namespace K24
open PySem L2 DL
variable {n : Nat} {fam : List (List Int)}
theorem sub_ext {s : List Int} : ∀ {t : List Int}, s.Sublist t → s.length < t.length → ∃ u : List Int, u.Sublist t ∧ ∃ k, k < u.length ∧ s = u.eraseIdx k := by
  intro t h
  induction h with
  | slnil => intro h; cases h
  | @cons s l a h ih => intro _; exact ⟨a :: s, h.cons_cons a, 0, Nat.zero_lt_succ _, rfl⟩
  | @cons_cons s l a h ih =>
    intro hl
    obtain ⟨u, hu, k, hk, e⟩ := ih (by simpa using hl)
    exact ⟨a :: u, hu.cons_cons a, k + 1, by simpa using hk, by rw [e]; rfl⟩
def topsL2 (fam : List (List Int)) : List (List Int) := fam.filter fun l => (fam.filter fun t => decide (t.length > l.length) && decide (l ∈ partsL t)).isEmpty
theorem tops_tops (h : FamP n fam) : topsL2 fam = topsL fam := List.filter_congr fun l hl => by
  rw [Bool.eq_iff_iff, List.isEmpty_iff, List.filter_eq_nil_iff]
  simp only [Bool.not_eq_true', Bool.and_eq_true, decide_eq_true_eq, List.any_eq_false]
  constructor
  · intro h1 t ht hs
    obtain ⟨k, hk, rfl⟩ := mem_sides.mp hs
    refine h1 t ht ⟨?_, mem_partsL.mpr (List.eraseIdx_sublist t k)⟩
    rw [List.length_eraseIdx, if_pos hk]; omega
  · rintro h1 t ht ⟨h2, h3⟩
    obtain ⟨u, hu, k, hk, e⟩ := sub_ext (mem_partsL.mp h3) h2
    exact h1 u (h.down t ht u hu) (mem_sides.mpr ⟨k, hk, e⟩)
theorem FamP.len7 (h : FamP n fam) : ∀ l ∈ fam, l.length ≤ n := fun l hl => by
  have := (h.sub l hl).length_le
  rwa [rangeI_len] at this
theorem in_top (h : FamP n fam) : ∀ (k : Nat) (p : List Int), p ∈ fam → n - p.length ≤ k → ∃ t ∈ topsL fam, p.Sublist t := by
  intro k
  induction k with
  | zero =>
    intro p hp hk
    refine ⟨p, ?_, List.Sublist.refl _⟩
    unfold topsL
    rw [List.mem_filter]
    refine ⟨hp, ?_⟩
    simp only [Bool.not_eq_true', List.any_eq_false, decide_eq_true_eq]
    intro t ht hs
    obtain ⟨k, hk2, e⟩ := mem_sides.mp hs
    have h1 := h.len7 t ht
    have h2 : p.length = t.length - 1 := by rw [e, List.length_eraseIdx, if_pos hk2]
    omega
  | succ k ih =>
    intro p hp hk
    by_cases hc : (fam.any fun t => decide (p ∈ sidesL t)) = true
    · obtain ⟨t, ht, hs⟩ := List.any_eq_true.mp hc
      obtain ⟨j, hj, e⟩ := mem_sides.mp (of_decide_eq_true hs)
      have h2 : p.length = t.length - 1 := by rw [e, List.length_eraseIdx, if_pos hj]
      have h1 := h.len7 t ht
      obtain ⟨u, hu, hsu⟩ := ih t ht (by omega)
      refine ⟨u, hu, List.Sublist.trans ?_ hsu⟩
      rw [e]; exact List.eraseIdx_sublist t j
    · refine ⟨p, ?_, List.Sublist.refl _⟩
      unfold topsL
      rw [List.mem_filter]
      refine ⟨hp, ?_⟩
      rw [Bool.not_eq_true'] ; simpa using hc
/-- told of the greatest lots and of some more: the family -/
theorem told_fam (h : FamP n fam) {ls : List (List Int)} (h1 : ∀ l ∈ ls, l ∈ fam) (h2 : ∀ l ∈ topsL fam, l ∈ ls) : sortL (madeK ls) = fam := by
  refine sorted_one (sortL_lt (madeK_nodup ls)) h.asc fun p => ?_
  rw [(sortL_perm _).mem_iff, mem_madeK]
  constructor
  · rintro ⟨l, hl, hs⟩; exact h.down l (h1 l hl) p hs
  · intro hp
    obtain ⟨t, ht, hs⟩ := in_top h (n - p.length) p hp (Nat.le_refl _)
    exact ⟨t, h2 t ht, hs⟩
theorem count_sized (fam : List (List Int)) (k : Int) : (lens fam).count k = (sized fam k).length := by
  unfold lens sized
  induction fam with
  | nil => rfl
  | cons l fam ih =>
    rw [List.map_cons, List.count_cons, List.filter_cons, ih]
    by_cases e : (l.length : Int) = k
    · rw [if_pos (beq_iff_eq.mpr e), if_pos (decide_eq_true e), List.length_cons]
    · rw [if_neg (fun z => e (beq_iff_eq.mp z)), if_neg (fun z => e (of_decide_eq_true z)), Nat.add_zero]
def evens (fam : List (List Int)) : List Int := (lens fam).filter fun k => decide (k % 2 = 0)
theorem sign_evens (fam : List (List Int)) : signF fam = ((evens fam).length : Int) * 2 - ((lens fam).length : Int) := by
  unfold signF evens lens
  induction fam with
  | nil => rfl
  | cons l fam ih =>
    rw [List.map_cons, List.sum_cons, ih, List.map_cons, List.filter_cons, List.length_cons]
    by_cases e : ((l.length : Nat) : Int) % 2 = 0
    · rw [if_pos (decide_eq_true e), List.length_cons]; omega
    · rw [if_neg (fun z => e (of_decide_eq_true z))]; omega
theorem mem_tup (l : List Int) (ls : List (List Int)) : decide ((⟨l⟩ : PySem.W.Tup Int) ∈ ls.map fun x => ⟨x⟩) = decide (l ∈ ls) := by
  rw [Bool.eq_iff_iff, decide_eq_true_eq, decide_eq_true_eq, List.mem_map]
  constructor
  · rintro ⟨x, hx, e⟩
    injection e with e
    rw [← e]; exact hx
  · intro h; exact ⟨l, h, rfl⟩
theorem three_fam : sortL (madeK [[0, 1], [2]]) = [[], [0], [0, 1], [1], [2]] := by
  have e : madeK [[0, 1], [2]] = [[], [0], [1], [0, 1], [2]] := by decide +kernel
  refine sorted_one (sortL_lt (madeK_nodup _)) (by decide +kernel) fun x => ?_
  rw [(sortL_perm _).mem_iff, e]
  exact List.Perm.mem_iff (by decide +kernel)
/-! ### told by repr -/
theorem FamP.items (h : FamP n fam) (hn : n ≤ 7) : ∀ l ∈ fam, l.length ≤ 7 ∧ ∀ x ∈ l, x.natAbs ≤ 1000000 := fun l hl => by
  refine ⟨Nat.le_trans (h.len7 l hl) hn, fun x hx => ?_⟩
  have := mem_rangeI.mp ((h.sub l hl).subset hx)
  omega
theorem FamP.len128 (h : FamP n fam) (hn : n ≤ 7) : fam.length ≤ 128 := Nat.le_trans h.len (Nat.pow_le_pow_right (by decide) hn)
theorem okW_lot {ws : List Nat} {B w : Nat} {l : List Int} (h : l.length ≤ w) (hx : ∀ x ∈ l, x.natAbs ≤ B) : okW B (w :: ws) (tupI l) = true := okW_tup (by rw [List.length_map]; exact h) fun d hd => by
  obtain ⟨x, hxl, rfl⟩ := List.mem_map.mp hd
  exact okW_int (hx x hxl)
theorem okW_fam (h : FamP n fam) (hn : n ≤ 7) : okW 1000000 [2, 128, 7] (famD n fam) = true := by
  refine okW_tup (Nat.le_refl 2) fun d hd => ?_
  rcases List.mem_cons.mp hd with rfl | hd
  · exact okW_int (by omega)
  · rw [List.mem_singleton.mp hd]
    refine okW_tup (by rw [List.length_map]; exact h.len128 hn) fun d hd => ?_
    obtain ⟨l, hl, rfl⟩ := List.mem_map.mp hd
    exact okW_lot (h.items hn l hl).1 (h.items hn l hl).2
def leW : List Nat → List Nat → Bool
  | [], _ => true
  | _ :: _, [] => false
  | w :: ws, w' :: ws' => decide (w ≤ w') && leW ws ws'
theorem okW_up {B B' : Nat} (hB : B ≤ B') : ∀ {ws ws' : List Nat}, leW ws ws' = true → ∀ {d : D}, okW B ws d = true → okW B' ws' d = true
  | [], ws', _, d, h => okW_atom (atom_mono hB h)
  | _ :: _, [], h, _, _ => by cases h
  | w :: ws, w' :: ws', hl, d, hd => by
    have hl : (decide (w ≤ w') && leW ws ws') = true := hl
    rw [Bool.and_eq_true, decide_eq_true_eq] at hl
    have hh : ∀ xs : List D, (decide (xs.length ≤ w) && xs.all (okW B ws)) = true → (decide (xs.length ≤ w') && xs.all (okW B' ws')) = true := fun xs h => by
      rw [Bool.and_eq_true, decide_eq_true_eq, List.all_eq_true] at h ⊢
      exact ⟨Nat.le_trans h.1 hl.1, fun x hx => okW_up hB hl.2 (h.2 x hx)⟩
    cases d with
    | list xs => exact hh xs hd
    | tuple xs => exact hh xs hd
    | none => rfl
    | bool b => rfl
    | int i => exact okW_int (Nat.le_trans (okW_intE hd) hB)
    | str x => exact hd
    | dict kvs => exact hd
end K24




/-! k25: lots of roads: rings, unbroken lots, filled up (plain). -/
namespace K24
open PySem L2 DL NT
/-- the ends of a road -/
def en (E : List Ed) (r : Int) : Ed := E.getD r.toNat (0, 0)
def ed (E : List Ed) (l : List Int) : List Ed := l.map (en E)
/-- roads that are there -/
def Rd (E : List Ed) (l : List Int) : Prop := ∀ r ∈ l, 0 ≤ r ∧ r < (E.length : Int)
section
variable {n : Nat} {E : List Ed}
theorem en_mem {r : Int} (h : 0 ≤ r ∧ r < (E.length : Int)) : en E r ∈ E := by
  unfold en
  have : r.toNat < E.length := by omega
  rw [List.getD_eq_getElem?_getD, List.getElem?_eq_getElem this]; exact List.getElem_mem this
theorem ends_ed (hE : Ends n E) {l : List Int} (h : Rd E l) : Ends n (ed E l) := fun e he => by
  obtain ⟨r, hr, rfl⟩ := List.mem_map.mp he
  exact hE _ (en_mem (h r hr))
theorem Rd.sub {l m : List Int} (h : Rd E m) (s : ∀ x ∈ l, x ∈ m) : Rd E l := fun r hr => h r (s r hr)
theorem Rd.range {l : List Int} (h : l.Sublist (rangeI E.length)) : Rd E l := fun r hr => mem_rangeI.mp (h.subset hr)
def cR (E : List Ed) (l : List Int) (r : Int) : Prop := Cn (ed E l) (en E r).1 (en E r).2
theorem cR.mono {l m : List Int} {r : Int} (h : cR E l r) (s : ∀ x ∈ l, x ∈ m) : cR E m r := Cn.mono (fun e he => by
  obtain ⟨x, hx, rfl⟩ := List.mem_map.mp he
  exact List.mem_map.mpr ⟨x, s x hx, rfl⟩) h
theorem cR.self {l : List Int} {r : Int} (h : r ∈ l) : cR E l r := Cn.one (List.mem_map.mpr ⟨r, h, rfl⟩)
/-- free lots of roads -/
def Fr (n : Nat) (E : List Ed) (l : List Int) : Prop := Free n (ed E l)
theorem fr_cons (hE : Ends n E) {r : Int} {l : List Int} (h : Rd E (r :: l)) : Fr n E (r :: l) ↔ Fr n E l ∧ ¬ cR E l r := free_cons (ends_ed hE h)
theorem fr_perm (hE : Ends n E) {l m : List Int} (h : Rd E l) (p : l.Perm m) : Fr n E l ↔ Fr n E m := free_perm (p.map _) (ends_ed hE h)
theorem Fr.sub (hE : Ends n E) {l m : List Int} (h : Rd E m) (f : Fr n E m) (s : l.Sublist m) : Fr n E l := Free.sub (s.map _) (ends_ed hE h) f
theorem fr_nil : Fr n E [] := free_nil n
/-- a lot apart from one road -/
theorem take_out {l : List Int} (nd : l.Nodup) {x : Int} (hx : x ∈ l) : (x :: l.filter fun y => decide (y ≠ x)).Perm l := by
  refine (List.perm_ext_iff_of_nodup (List.nodup_cons.mpr ⟨fun h => ?_, nd.sublist List.filter_sublist⟩) nd).mpr fun y => ?_
  · have := (List.mem_filter.mp h).2
    simp at this
  · rw [List.mem_cons, List.mem_filter]
    constructor
    · rintro (rfl | h)
      · exact hx
      · exact h.1
    · intro hy
      by_cases e : y = x
      · exact .inl e
      · exact .inr ⟨hy, by simp [e]⟩
/-- ways within a free lot meet in one -/
theorem cn_meet (hE : Ends n E) {T : List Int} (hT : Rd E T) (nd : T.Nodup) (f : Fr n E T) {B : List Int} (hB : ∀ x ∈ B, x ∈ T) {a b : Nat} (cB : Cn (ed E B) a b) : ∀ (k : Nat) (A : List Int), (A.filter fun x => !decide (x ∈ B)).length ≤ k → (∀ x ∈ A, x ∈ T) → Cn (ed E A) a b → Cn (ed E (A.filter fun x => decide (x ∈ B))) a b
  | k, A, hk, hA, cA => by
    cases hf : A.filter fun x => !decide (x ∈ B) with
    | nil =>
      have : A.filter (fun x => decide (x ∈ B)) = A := List.filter_eq_self.mpr fun x hx => by
        have := List.filter_eq_nil_iff.mp hf x hx
        simpa using this
      rw [this]; exact cA
    | cons x xs =>
      have hx : x ∈ A.filter fun x => !decide (x ∈ B) := by rw [hf]; exact List.mem_cons_self
      obtain ⟨hxA, hxB⟩ := List.mem_filter.mp hx
      have hxB : x ∉ B := by simpa using hxB
      have sub : ∀ z ∈ A, z ∈ x :: A.filter fun y => decide (y ≠ x) := fun z hz => by
        by_cases e : z = x
        · rw [e]; exact List.mem_cons_self
        · exact List.mem_cons_of_mem _ (List.mem_filter.mpr ⟨hz, by simp [e]⟩)
      have cA' : Cn (ed E (A.filter fun y => decide (y ≠ x))) a b := by
        refine Classical.byContradiction fun nc => ?_
        have h1 : Cn (en E x :: ed E (A.filter fun y => decide (y ≠ x))) a b := cA.mono fun e he => by
          obtain ⟨z, hz, rfl⟩ := List.mem_map.mp he
          exact List.mem_map.mpr ⟨z, sub z hz, rfl⟩
        have h2 := cn_exch h1 nc
        have h3 : cR E (T.filter fun y => decide (y ≠ x)) x := h2.flat fun e he => by
          rcases List.mem_cons.mp he with rfl | he
          · exact cB.mono fun e he => by
              obtain ⟨z, hz, rfl⟩ := List.mem_map.mp he
              exact List.mem_map.mpr ⟨z, List.mem_filter.mpr ⟨hB z hz, by
                have : z ≠ x := fun e => hxB (e ▸ hz)
                simp [this]⟩, rfl⟩
          · obtain ⟨z, hz, rfl⟩ := List.mem_map.mp he
            obtain ⟨z1, z2⟩ := List.mem_filter.mp hz
            exact Cn.one (List.mem_map.mpr ⟨z, List.mem_filter.mpr ⟨hA z z1, z2⟩, rfl⟩)
        have p := take_out nd (hA x hxA)
        exact ((fr_cons hE (hT.sub fun z hz => p.mem_iff.mp hz)).mp ((fr_perm hE hT p.symm).mp f)).2 h3
      cases k with
      | zero => rw [hf] at hk; cases hk
      | succ k =>
        have ih := cn_meet hE hT nd f hB cB k (A.filter fun y => decide (y ≠ x)) (by
          have e : ((A.filter fun y => decide (y ≠ x)).filter fun x => !decide (x ∈ B)) = xs.filter fun y => decide (y ≠ x) := by
            rw [List.filter_filter]
            rw [show (fun a => !decide (a ∈ B) && decide (a ≠ x)) = fun a => decide (a ≠ x) && !decide (a ∈ B) by funext a; rw [Bool.and_comm]]
            rw [← List.filter_filter, hf, List.filter_cons_of_neg (by simp)]
          rw [e]
          rw [hf, List.length_cons] at hk
          exact Nat.le_trans (List.length_filter_le _ _) (by omega)) (fun z hz => hA z (List.mem_filter.mp hz).1) cA'
        exact ih.mono fun e he => by
          obtain ⟨z, hz, rfl⟩ := List.mem_map.mp he
          obtain ⟨z1, z2⟩ := List.mem_filter.mp hz
          exact List.mem_map.mpr ⟨z, List.mem_filter.mpr ⟨(List.mem_filter.mp z1).1, z2⟩, rfl⟩
/-! ### rings -/
def Ring (n : Nat) (E : List Ed) (C : List Int) : Prop := ¬ Fr n E C ∧ ∀ k, k < C.length → Fr n E (C.eraseIdx k)
theorem ring_in {l : List Int} (h : ¬ Fr n E l) : ∃ C, C.Sublist l ∧ Ring n E C := by
  generalize hk : l.length = k
  induction k generalizing l with
  | zero =>
    obtain rfl := List.length_eq_zero_iff.mp hk
    exact (h fr_nil).elim
  | succ k ih =>
    by_cases hr : ∀ j, j < l.length → Fr n E (l.eraseIdx j)
    · exact ⟨l, List.Sublist.refl l, h, hr⟩
    · obtain ⟨j, hj⟩ := Classical.not_forall.mp hr
      obtain ⟨hj1, hj2⟩ := Classical.not_imp.mp hj
      obtain ⟨C, h1, h2⟩ := ih hj2 (by rw [List.length_eraseIdx_of_lt hj1]; omega)
      exact ⟨C, h1.trans (List.eraseIdx_sublist _ _), h2⟩
theorem Ring.ne {C : List Int} (h : Ring n E C) : C ≠ [] := fun e => by
  subst e
  exact h.1 fr_nil
theorem Ring.tail (hE : Ends n E) {c : Int} {C : List Int} (hC : Rd E (c :: C)) (h : Ring n E (c :: C)) : Fr n E C ∧ cR E C c := by
  have f : Fr n E C := h.2 0 (Nat.zero_lt_succ _)
  refine ⟨f, Classical.byContradiction fun nc => h.1 ((fr_cons hE hC).mpr ⟨f, nc⟩)⟩
/-- no broken ring in a lot -/
def UnL (n : Nat) (E : List Ed) (l : List Int) : Prop := ∀ C, C.Sublist (rangeI E.length) → Ring n E C → ¬ ∀ x ∈ C.tail, x ∈ l
/-- free, and no road closes with later ones -/
def UnP (n : Nat) (E : List Ed) (l : List Int) : Prop := Fr n E l ∧ ∀ r, 0 ≤ r → r < (E.length : Int) → r ∉ l → ¬ cR E (l.filter fun y => decide (y > r)) r
theorem UnL.sub {l m : List Int} (h : UnL n E m) (s : ∀ x ∈ l, x ∈ m) : UnL n E l := fun C h1 h2 h3 => h C h1 h2 fun x hx => s x (h3 x hx)
theorem un_iff (hE : Ends n E) {l : List Int} (hl : l.Sublist (rangeI E.length)) : UnL n E l ↔ UnP n E l := by
  have la := (rangeI_lt E.length).sublist hl
  constructor
  · intro h
    refine ⟨Classical.byContradiction fun nf => ?_, fun r h0 h1 hr hc => ?_⟩
    · obtain ⟨C, c1, c2⟩ := ring_in nf
      exact h C (c1.trans hl) c2 fun x hx => c1.subset (List.mem_of_mem_tail hx)
    · have hD : (r :: l.filter fun y => decide (y > r)).Pairwise (· < ·) := List.pairwise_cons.mpr ⟨fun y hy => of_decide_eq_true (List.mem_filter.mp hy).2, la.sublist List.filter_sublist⟩
      have hDr : Rd E (r :: l.filter fun y => decide (y > r)) := fun z hz => by
        rcases List.mem_cons.mp hz with rfl | hz
        · exact ⟨h0, h1⟩
        · exact Rd.range hl z (List.mem_filter.mp hz).1
      obtain ⟨C, c1, c2⟩ := ring_in (l := r :: l.filter fun y => decide (y > r)) fun f => ((fr_cons hE hDr).mp f).2 hc
      refine h C (sub_of_sorted (hD.sublist c1) (rangeI_lt _) fun x hx => mem_rangeI.mpr (hDr x (c1.subset hx))) c2 fun x hx => ?_
      cases C with
      | nil => cases hx
      | cons c C =>
        have hca := List.pairwise_cons.mp (hD.sublist c1)
        have hx : x ∈ C := hx
        rcases List.mem_cons.mp (c1.subset (List.mem_cons_of_mem _ hx)) with rfl | h
        · have h3 := hca.1 x hx
          rcases List.mem_cons.mp (c1.subset List.mem_cons_self) with rfl | h4
          · omega
          · have := of_decide_eq_true (List.mem_filter.mp h4).2
            omega
        · exact (List.mem_filter.mp h).1
  · rintro ⟨f, hn⟩ C c1 c2 c3
    cases C with
    | nil => exact c2.ne rfl
    | cons c C =>
      have hca := List.pairwise_cons.mp ((rangeI_lt _).sublist c1)
      have hCr := Rd.range c1
      by_cases hcl : c ∈ l
      · refine c2.1 (f.sub hE (Rd.range hl) (sub_of_sorted ((rangeI_lt _).sublist c1) la fun x hx => ?_))
        rcases List.mem_cons.mp hx with rfl | hx
        · exact hcl
        · exact c3 x hx
      · obtain ⟨_, cc⟩ := c2.tail hE hCr
        have hc0 := hCr c List.mem_cons_self
        exact hn c hc0.1 hc0.2 hcl (cc.mono fun x hx => List.mem_filter.mpr ⟨c3 x hx, decide_eq_true (hca.1 x hx)⟩)
/-! ### filled up -/
open Classical in
noncomputable def gr (E : List Ed) : List Int → List Int → List Int
  | _, [] => []
  | found, r :: rs => if cR E found r then gr E found rs else r :: gr E (found ++ [r]) rs
theorem gr_yes {found rs : List Int} {r : Int} (h : cR E found r) : gr E found (r :: rs) = gr E found rs := by rw [gr, if_pos h]
theorem gr_no {found rs : List Int} {r : Int} (h : ¬ cR E found r) : gr E found (r :: rs) = r :: gr E (found ++ [r]) rs := by
  rw [gr, if_neg h]
theorem gr_sub : ∀ {rs found : List Int}, (gr E found rs).Sublist rs
  | [], _ => List.Sublist.refl _
  | r :: rs, found => by
    by_cases h : cR E found r
    · rw [gr_yes h]; exact (gr_sub (rs := rs)).cons _
    · rw [gr_no h]; exact (gr_sub (rs := rs)).cons_cons _
theorem gr_free (hE : Ends n E) : ∀ {rs found : List Int}, Rd E found → Rd E rs → Fr n E found → Fr n E (found ++ gr E found rs)
  | [], found, _, _, f => by rw [show gr E found [] = [] from rfl, List.append_nil]; exact f
  | r :: rs, found, h1, h2, f => by
    have h3 : Rd E rs := h2.sub fun x hx => List.mem_cons_of_mem _ hx
    by_cases h : cR E found r
    · rw [gr_yes h]; exact gr_free hE h1 h3 f
    · rw [gr_no h]
      have p : (r :: found).Perm (found ++ [r]) := (List.perm_append_singleton r found).symm
      have h4 : Rd E (r :: found) := fun x hx => by
        rcases List.mem_cons.mp hx with rfl | hx
        · exact h2 _ List.mem_cons_self
        · exact h1 x hx
      have := gr_free hE (rs := rs) (found := found ++ [r]) (h4.sub fun x hx => p.mem_iff.mpr hx) h3 ((fr_perm hE h4 p).mp ((fr_cons hE h4).mpr ⟨f, h⟩))
      rw [List.append_assoc] at this
      exact this
theorem gr_span : ∀ {rs found : List Int}, ∀ r ∈ rs, cR E (found ++ gr E found rs) r
  | s :: rs, found, r, hr => by
    by_cases h : cR E found s
    · rw [gr_yes h]
      rcases List.mem_cons.mp hr with rfl | hr
      · exact h.mono fun x hx => List.mem_append.mpr (.inl hx)
      · exact gr_span r hr
    · rw [gr_no h]
      rcases List.mem_cons.mp hr with rfl | hr
      · exact cR.self (List.mem_append.mpr (.inr List.mem_cons_self))
      · have := gr_span (rs := rs) (found := found ++ [s]) r hr
        rw [List.append_assoc] at this
        exact this
/-- a road left out was led round by what was taken before it -/
theorem gr_skip : ∀ {rs found : List Int}, rs.Pairwise (· < ·) → ∀ r ∈ rs, r ∉ gr E found rs → cR E (found ++ (gr E found rs).filter fun y => decide (y < r)) r
  | s :: rs, found, ha, r, hr, hn => by
    obtain ⟨ha1, ha2⟩ := List.pairwise_cons.mp ha
    by_cases h : cR E found s
    · rw [gr_yes h] at hn ⊢
      rcases List.mem_cons.mp hr with rfl | hr
      · exact h.mono fun x hx => List.mem_append.mpr (.inl hx)
      · exact gr_skip ha2 r hr hn
    · rw [gr_no h] at hn ⊢
      rcases List.mem_cons.mp hr with rfl | hr
      · exact (hn List.mem_cons_self).elim
      · have hs := ha1 r hr
        have := gr_skip (found := found ++ [s]) ha2 r hr fun z => hn (List.mem_cons_of_mem _ z)
        rw [List.filter_cons_of_pos (by simpa using hs)]
        rw [List.append_assoc] at this
        exact this
/-- the next one is the first that joins two pieces -/
theorem gr_first : ∀ {rs found pre : List Int} {i : Nat} {g : Int}, (∀ r ∈ pre, cR E found r) → (gr E found rs)[i]? = some g → ∃ q t, pre ++ rs = q ++ g :: t ∧ (∀ r ∈ q, cR E (found ++ (gr E found rs).take i) r) ∧ ¬ cR E (found ++ (gr E found rs).take i) g
  | [], found, pre, i, g, _, h => by cases h
  | r :: rs, found, pre, i, g, hp, h => by
    by_cases hc : cR E found r
    · rw [gr_yes hc] at h ⊢
      obtain ⟨q, t, e, h1, h2⟩ := gr_first (rs := rs) (found := found) (pre := pre ++ [r]) (i := i) (fun x hx => by
        rcases List.mem_append.mp hx with hx | hx
        · exact hp x hx
        · rw [List.mem_singleton.mp hx]; exact hc) h
      exact ⟨q, t, by rw [← e, List.append_assoc]; rfl, h1, h2⟩
    · rw [gr_no hc] at h ⊢
      cases i with
      | zero =>
        obtain rfl : r = g := by simpa using h
        refine ⟨pre, rs, rfl, ?_, ?_⟩
        · rw [List.take_zero, List.append_nil]; exact hp
        · rw [List.take_zero, List.append_nil]; exact hc
      | succ i =>
        have m : ∀ x ∈ found, x ∈ found ++ [r] := fun x hx => List.mem_append.mpr (.inl hx)
        obtain ⟨q, t, e, h1, h2⟩ := gr_first (rs := rs) (found := found ++ [r]) (pre := pre ++ [r]) (i := i) (fun x hx => by
          rcases List.mem_append.mp hx with hx | hx
          · exact (hp x hx).mono m
          · rw [List.mem_singleton.mp hx]; exact cR.self (List.mem_append.mpr (.inr List.mem_cons_self))) (by simpa using h)
        rw [List.append_assoc] at h1 h2
        exact ⟨q, t, by rw [← e, List.append_assoc]; rfl, h1, h2⟩
/-! ### the tree -/
/-- a frame that hangs together -/
def Whole (n : Nat) (E : List Ed) : Prop := ∀ a b, a < n → b < n → Cn E a b
theorem pc_one (hE : Ends n E) (hn : 0 < n) {l : List Int} (hl : Rd E l) (h : ∀ a b, a < n → b < n → Cn (ed E l) a b) : pc n (ed E l) = 1 := by
  have he := ends_ed hE hl
  have hd := headF_hd he
  rw [← hd.pc he]
  unfold firsts
  have : (List.range n).filter (fun c => (List.range c).all fun d => !decide (headF (ed E l) d = headF (ed E l) c)) = [0] := by
    obtain ⟨m, rfl⟩ : ∃ m, n = m + 1 := ⟨n - 1, by omega⟩
    rw [List.range_succ_eq_map, List.filter_cons_of_pos (by rfl)]
    rw [List.filter_eq_nil_iff.mpr]
    intro c hc
    obtain ⟨c', hc', rfl⟩ := List.mem_map.mp hc
    have hc' := List.mem_range.mp hc'
    rw [List.all_eq_true]
    intro z
    have := z 0 (List.mem_range.mpr (Nat.zero_lt_succ _))
    rw [(hd.ker 0 (c' + 1) (by omega) (by omega)).mpr (h _ _ (by omega) (by omega))] at this
    simp at this
  rw [this]; rfl
theorem rangeI_rd : Rd E (rangeI E.length) := Rd.range (List.Sublist.refl _)
noncomputable def fillL (E : List Ed) (l : List Int) : List Int := l ++ gr E l (rangeI E.length)
theorem fill_span (hw : Whole n E) (l : List Int) : ∀ a b, a < n → b < n → Cn (ed E (fillL E l)) a b := fun a b ha hb => (hw a b ha hb).flat fun e he => by
  obtain ⟨i, hi, rfl⟩ := List.getElem_of_mem he
  have := gr_span (E := E) (found := l) (rs := rangeI E.length) (i : Int) (mem_rangeI.mpr ⟨by omega, by omega⟩)
  unfold cR at this
  have e : en E (i : Int) = E[i] := by
    unfold en
    rw [show ((i : Int)).toNat = i by omega, List.getD_eq_getElem?_getD, List.getElem?_eq_getElem hi]; rfl
  rw [e] at this
  exact this
theorem fill_rd {l : List Int} (h : Rd E l) : Rd E (fillL E l) := fun x hx => by
  rcases List.mem_append.mp hx with hx | hx
  · exact h x hx
  · exact rangeI_rd x (gr_sub.subset hx)
theorem fill_free (hE : Ends n E) {l : List Int} (h : Rd E l) (f : Fr n E l) : Fr n E (fillL E l) := gr_free hE h rangeI_rd f
theorem fill_len (hE : Ends n E) (hw : Whole n E) (hn : 0 < n) {l : List Int} (h : Rd E l) (f : Fr n E l) : (fillL E l).length + 1 = n := by
  have h1 : Fr n E (fillL E l) := fill_free hE h f
  have h2 := pc_one hE hn (fill_rd h) (fill_span hw l)
  unfold Fr Free at h1
  rw [h2] at h1
  unfold ed at h1
  rw [List.length_map] at h1
  omega
theorem fill_nodup {l : List Int} (nd : l.Nodup) : (fillL E l).Nodup := by
  refine List.nodup_append.mpr ⟨nd, (nodup_of_asc2 (rangeI_lt _)).sublist gr_sub, fun a ha b hb e => ?_⟩
  subst e
  exact gr_fresh a hb ha
where
  nodup_of_asc2 : ∀ {l : List Int}, l.Pairwise (· < ·) → l.Nodup := fun h => List.nodup_iff_pairwise_ne.mpr (h.imp fun h => by omega)
  gr_fresh : ∀ {rs found : List Int}, ∀ x ∈ gr E found rs, x ∉ found := fun {rs} => by
    induction rs with
    | nil => intro found x hx; cases hx
    | cons r rs ih =>
      intro found x hx hf
      by_cases h : cR E found r
      · rw [gr_yes h] at hx; exact ih x hx hf
      · rw [gr_no h] at hx
        rcases List.mem_cons.mp hx with rfl | hx
        · exact h (cR.self hf)
        · exact ih x hx (List.mem_append.mpr (.inl hf))
/-- as numbers ascend -/
noncomputable def fillS (E : List Ed) (l : List Int) : List Int := (rangeI E.length).filter fun x => decide (x ∈ fillL E l)
theorem mem_fillS {l : List Int} (h : Rd E l) {x : Int} : x ∈ fillS E l ↔ x ∈ fillL E l := by
  unfold fillS
  rw [List.mem_filter, decide_eq_true_eq]
  exact ⟨fun h => h.2, fun hx => ⟨mem_rangeI.mpr (fill_rd h x hx), hx⟩⟩
theorem fillS_sub {l : List Int} : (fillS E l).Sublist (rangeI E.length) := List.filter_sublist
theorem fillS_perm {l : List Int} (h : Rd E l) (nd : l.Nodup) : (fillS E l).Perm (fillL E l) :=
  (List.perm_ext_iff_of_nodup (List.nodup_iff_pairwise_ne.mpr (((rangeI_lt E.length).sublist fillS_sub).imp fun h => by omega)) (fill_nodup nd)).mpr fun _ => mem_fillS h
def Tree (n : Nat) (E : List Ed) (t : List Int) : Prop := t.Sublist (rangeI E.length) ∧ Fr n E t ∧ t.length + 1 = n
theorem fillS_tree (hE : Ends n E) (hw : Whole n E) (hn : 0 < n) {l : List Int} (h : Rd E l) (nd : l.Nodup) (f : Fr n E l) : Tree n E (fillS E l) := by
  have p := fillS_perm h nd
  exact ⟨fillS_sub, (fr_perm hE (fill_rd h) p.symm).mp (fill_free hE h f), by rw [p.length_eq]; exact fill_len hE hw hn h f⟩
/-- the least tree that has a lot -/
theorem fill_least (hE : Ends n E) {l t : List Int} (h : Rd E l) (nd : l.Nodup) (f : Fr n E l) (ht : t.Sublist (rangeI E.length)) (hf : Fr n E t) (hlt : ∀ x ∈ l, x ∈ t) (hlen : t.length = (fillS E l).length) : ltL t (fillS E l) = false := by
  have ha := (rangeI_lt E.length).sublist ht
  have hb := (rangeI_lt E.length).sublist (fillS_sub (l := l))
  have key : ∀ (a b q : List Int), t = q ++ a → fillS E l = q ++ b → ltL a b = false := by
    intro a
    induction a with
    | nil =>
      intro b q e1 e2
      have : b = [] := by
        have h1 := congrArg List.length e1
        have h2 := congrArg List.length e2
        rw [List.length_append] at h1 h2
        exact List.length_eq_zero_iff.mp (by simp at h1; omega)
      rw [this]; rfl
    | cons x a ih =>
      intro b q e1 e2
      cases b with
      | nil => rfl
      | cons y b =>
        rw [ltL_cons]
        by_cases e : x = y
        · rw [if_pos e]
          exact ih b (q ++ [x]) (by rw [e1, List.append_assoc]; rfl) (by rw [e2, List.append_assoc, e]; rfl)
        · rw [if_neg e]
          refine decide_eq_false fun hxy => ?_
          rw [e1] at ha
          rw [e2] at hb
          have a1 := List.pairwise_append.mp ha
          have b1 := List.pairwise_append.mp hb
          have a2 := List.pairwise_cons.mp a1.2.1
          have b2 := List.pairwise_cons.mp b1.2.1
          -- x is no road of the filled one
          have hx : x ∉ fillS E l := fun hx => by
            rw [e2] at hx
            rcases List.mem_append.mp hx with hx | hx
            · have := a1.2.2 x hx x List.mem_cons_self; omega
            · rcases List.mem_cons.mp hx with hx | hx
              · exact e hx
              · have := b2.1 x hx; omega
          have hxt : x ∈ t := by rw [e1]; exact List.mem_append.mpr (.inr List.mem_cons_self)
          have hxr : x ∈ rangeI E.length := ht.subset hxt
          have hxf : x ∉ fillL E l := fun z => hx ((mem_fillS h).mpr z)
          have hsk := gr_skip (E := E) (found := l) (rangeI_lt E.length) x hxr fun z => hxf (List.mem_append.mpr (.inr z))
          have hxl : x ∉ l := fun z => hxf (List.mem_append.mpr (.inl z))
          have tn : t.Nodup := List.nodup_iff_pairwise_ne.mpr (((rangeI_lt E.length).sublist ht).imp fun h => by omega)
          have p := take_out tn hxt
          refine ((fr_cons hE ((Rd.range ht).sub fun z hz => p.mem_iff.mp hz)).mp ((fr_perm hE (Rd.range ht) p.symm).mp hf)).2 (hsk.mono fun z hz => ?_)
          have hzx : z ≠ x ∧ z ∈ t := by
            rcases List.mem_append.mp hz with hz | hz
            · exact ⟨fun e => hxl (e ▸ hz), hlt z hz⟩
            · obtain ⟨z1, z2⟩ := List.mem_filter.mp hz
              have z2 := of_decide_eq_true z2
              have z3 : z ∈ fillS E l := (mem_fillS h).mpr (List.mem_append.mpr (.inr z1))
              rw [e2] at z3
              refine ⟨by omega, ?_⟩
              rw [e1]
              rcases List.mem_append.mp z3 with z3 | z3
              · exact List.mem_append.mpr (.inl z3)
              · rcases List.mem_cons.mp z3 with rfl | z3
                · omega
                · have := b2.1 z z3; omega
          exact List.mem_filter.mpr ⟨hzx.2, by simp [hzx.1]⟩
  exact key t (fillS E l) [] rfl rfl
/-- what fills an unbroken lot is unbroken -/
theorem fill_un (hE : Ends n E) {l : List Int} (hl : l.Sublist (rangeI E.length)) (u : UnP n E l) : UnP n E (fillS E l) := by
  have h := Rd.range hl
  have nd : l.Nodup := List.nodup_iff_pairwise_ne.mpr (((rangeI_lt E.length).sublist hl).imp fun h => by omega)
  have sn : (fillS E l).Nodup := List.nodup_iff_pairwise_ne.mpr (((rangeI_lt E.length).sublist fillS_sub).imp fun h => by omega)
  have p := fillS_perm h nd
  have fS : Fr n E (fillS E l) := (fr_perm hE (fill_rd h) p.symm).mp (fill_free hE h u.1)
  refine ⟨fS, fun r h0 h1 hr hc => ?_⟩
  have hrf : r ∉ fillL E l := fun z => hr ((mem_fillS h).mpr z)
  have hsk := gr_skip (E := E) (found := l) (rangeI_lt E.length) r (mem_rangeI.mpr ⟨h0, h1⟩) fun z => hrf (List.mem_append.mpr (.inr z))
  have m := cn_meet hE (Rd.range fillS_sub) sn fS (B := l ++ (gr E l (rangeI E.length)).filter fun y => decide (y < r)) (fun x hx => (mem_fillS h).mpr (by
    rcases List.mem_append.mp hx with hx | hx
    · exact List.mem_append.mpr (.inl hx)
    · exact List.mem_append.mpr (.inr (List.mem_filter.mp hx).1))) hsk _ ((fillS E l).filter fun y => decide (y > r)) (Nat.le_refl _) (fun x hx => (List.mem_filter.mp hx).1) hc
  refine u.2 r h0 h1 (fun z => hrf (List.mem_append.mpr (.inl z))) (cR.mono m fun x hx => ?_)
  obtain ⟨x1, x2⟩ := List.mem_filter.mp hx
  have x3 := of_decide_eq_true (List.mem_filter.mp x1).2
  rcases List.mem_append.mp (of_decide_eq_true x2) with x4 | x4
  · exact List.mem_filter.mpr ⟨x4, decide_eq_true x3⟩
  · have := of_decide_eq_true (List.mem_filter.mp x4).2
    omega
end
end K24


/-! k25: heads, pieces, by the program and by the law. -/
namespace K24
open PySem L2 DL NT
def edD (e : Ed) : DL.D := .tuple [.int e.1, .int e.2]
def frameD (n : Nat) (E : List Ed) : DL.D := .tuple [.int n, .tuple (E.map edD)]
def hsD (n : Nat) (f : Nat → Nat) : List DL.D := (List.range n).map fun c => .int (f c)
theorem hsD_len (n : Nat) (f : Nat → Nat) : (hsD n f).length = n := by unfold hsD; rw [List.length_map, List.length_range]
theorem hsD_at {n : Nat} {f : Nat → Nat} {c : Nat} (h : c < n) : atI (hsD n f) (c : Int) = some (.int (f c)) := by
  refine atI_nn ?_
  unfold hsD
  rw [List.getElem?_map, List.getElem?_range h]; rfl
theorem edD_at {E : List Ed} {r : Int} (h : 0 ≤ r ∧ r < (E.length : Int)) : atI (E.map edD) r = some (edD (en E r)) := by
  have e : r = ((r.toNat : Nat) : Int) := by omega
  rw [e]
  refine atI_nn ?_
  have h2 : r.toNat < E.length := by omega
  rw [List.getElem?_map, List.getElem?_eq_getElem h2]
  unfold en
  rw [show ((r.toNat : Nat) : Int).toNat = r.toNat by omega, List.getD_eq_getElem?_getD, List.getElem?_eq_getElem h2]; rfl
theorem rangeD_I (m : Nat) : rangeD 0 m = (rangeI m).map .int := by
  unfold rangeI
  rw [rangeD0, List.map_map]; rfl
/-- heads that are the least of their pieces -/
structure HdL (n : Nat) (es : List Ed) (f : Nat → Nat) : Prop where
  hd : Hd n es f
  le : ∀ c, c < n → f c ≤ c
theorem HdL.mrg {n : Nat} {es : List Ed} {f : Nat → Nat} (h : HdL n es f) {a b : Nat} (ha : a < n) (hb : b < n) {lo hi : Nat} (ho : (lo = f a ∧ hi = f b) ∨ (lo = f b ∧ hi = f a)) (hle : lo ≤ hi) : HdL n (es ++ [(a, b)]) (mrgF f lo hi) := by
  refine ⟨(h.hd.mrg ha hb ho).perm (List.perm_append_singleton _ _).symm, fun c hc => ?_⟩
  unfold mrgF
  by_cases e : f c = hi
  · rw [if_pos e]
    have := h.le c hc
    omega
  · rw [if_neg e]; exact h.le c hc
section
variable {P : Program} {w : World} {K : PySem.W.Frag} {mg : Str → Option Value} {base : Heap}
theorem scall_roads : FnScope ["frame"] ["frame"] (defScope (topS 1)) := ⟨rfl, rfl, rfl, by decide +kernel, rfl, by decide +kernel, by decide +kernel⟩
theorem scheads_by : FnScope ["frame", "lot", "heads", "road", "low", "high", "crossing", "head"] ["frame", "lot"] (defScope (topS 2)) := ⟨rfl, rfl, rfl, by decide +kernel, rfl, by decide +kernel, by decide +kernel⟩
theorem scpieces_by : FnScope ["frame", "lot", "heads", "found", "first", "crossing"] ["frame", "lot"] (defScope (topS 3)) := ⟨rfl, rfl, rfl, by decide +kernel, rfl, by decide +kernel, by decide +kernel⟩
theorem scpiece_count : FnScope ["frame", "lot"] ["frame", "lot"] (defScope (topS 4)) := ⟨rfl, rfl, rfl, by decide +kernel, rfl, by decide +kernel, by decide +kernel⟩
theorem sc_law_heads : FnScope ["frame", "lot", "heads", "road", "one", "other", "head"] ["frame", "lot"] (defScope (topS 31)) := ⟨rfl, rfl, rfl, by decide +kernel, rfl, by decide +kernel, by decide +kernel⟩
theorem sc_law_pieces : FnScope ["frame", "lot", "head"] ["frame", "lot"] (defScope (topS 32)) := ⟨rfl, rfl, rfl, by decide +kernel, rfl, by decide +kernel, by decide +kernel⟩
/-! ### roads -/
def φRoads : List Ar → (DL.D → Prop) → Prop := fun as Kd => ∃ (n : Nat) (E : List Ed), as = [.d (frameD n E)] ∧ E.length ≤ 1000 ∧ Kd (tupI (rangeI E.length))
theorem ok_roads {f : Addr} {fd : FuncData} (F : Fun K "all_roads" "all_roads" (topS 1) f fd) (T : Txt mg) : FnOk P w K mg base CX0 1 f fd ["frame"] (SpD φRoads) := by
  refine fn_D F scall_roads (fun as Kd h => ?_) (fun as Kd r cdv A outer s H E hr h => ?_)
  · obtain ⟨n, E, rfl, _⟩ := h
    rfl
  · obtain ⟨n, es, rfl, hl, k⟩ := h
    have nd := scall_roads.nd
    refine jret <| jtupRg T.tup T.ran <| jlen T.len <| jix ix_tup <| jv 0 <| je_int <| od_ixT (d := .tuple (es.map edD)) rfl ⟨es.map edD, .inr rfl, es.length, by rw [List.length_map], by omega, ?_⟩
    rw [rangeD_I]; exact k
/-! ### heads, by the program -/
def φHeads : List Ar → (DL.D → Prop) → Prop := fun as Kd => ∃ (n : Nat) (E : List Ed) (l : List Int), as = [.d (frameD n E), .d (tupI l)] ∧ n ≤ 1000 ∧ Ends n E ∧ Rd E l ∧ ∀ f, HdL n (ed E l) f → Kd (.list (hsD n f))
theorem two_sorted {x y : Int} {ns : List Int} (hp : ns.Perm [x, y]) (hs : ns.Pairwise (· ≤ ·)) : ∃ lo hi, ns = [lo, hi] ∧ lo ≤ hi ∧ ((lo = x ∧ hi = y) ∨ (lo = y ∧ hi = x)) := by
  match ns, hp, hs with
  | [a, b], hp, hs =>
    have h1 := (List.pairwise_cons.mp hs).1 b List.mem_cons_self
    refine ⟨a, b, rfl, h1, ?_⟩
    have ha : a = x ∨ a = y := by simpa using hp.subset List.mem_cons_self
    rcases ha with rfl | rfl
    · left
      have := (List.perm_cons a).mp hp
      exact ⟨rfl, by simpa using this.subset List.mem_cons_self⟩
    · right
      have := (List.perm_cons a).mp (hp.trans (List.Perm.swap _ _ _))
      exact ⟨rfl, by simpa using this.subset List.mem_cons_self⟩
  | [], hp, _ => have := hp.length_eq; cases this
  | [_], hp, _ => have := hp.length_eq; cases this
  | _ :: _ :: _ :: _, hp, _ => have := hp.length_eq; simp at this
theorem ok_heads {f : Addr} {fd : FuncData} (F : Fun K "heads_by" "heads_by" (topS 2) f fd) (T : Txt mg) (T3 : Txd mg) : FnOk P w K mg base CX0 1 f fd ["frame", "lot"] (SpD φHeads) := by
  refine fn_D F scheads_by (fun as Kd h => ?_) (fun as Kd r cdv A outer s H E hr h => ?_)
  · obtain ⟨n, E, l, rfl, _⟩ := h
    rfl
  · obtain ⟨n, es, l, rfl, hn, hE, hl, k⟩ := h
    have nd := scheads_by.nd
    refine jsetN 2 <| jlistRg T.lst T.ran <| jix ix_tup <| jv 0 <| je_int <| od_ixT (d := .int (n : Int)) rfl ⟨n, rfl, by omega, ?_⟩
    refine jss_frz 2 rfl ?_
    refine jfor [3] (jiT <| jv 1 ⟨l.map .int, rfl, fun i S' => ∃ (g : Nat → Nat) (o3 o4 o5 : Option DL.D), HdL n (ed es (l.take i)) g ∧ S' = [.val (frameD n es), .val (tupI l), .val (.list (hsD n g)), vS o3, vS o4, vS o5, .emp, .emp], ⟨id, none, none, none, ⟨hd_id n, fun c _ => Nat.le_refl c⟩, ?_⟩, ?_, ?_⟩)
    · show _ = [Sl.val (frameD n es), .val (tupI l), .val (.list (hsD n id)), .emp, .emp, .emp, .emp, .emp]
      rw [rangeD0]; rfl
    · rintro i d S' hd ⟨g, o3, o4, o5, hg, rfl⟩
      obtain ⟨x, hx, hxi, rfl⟩ := get_map hd
      have hxr := hl x hx
      have he := hE _ (en_mem hxr)
      have tk : ed es (l.take (i + 1)) = ed es (l.take i) ++ [en es x] := by
        unfold ed
        rw [List.take_succ, hxi, List.map_append]; rfl
      refine jg 3 ?_
      refine jasg [4, 5] <| JN.je <| jsortI hr T3.srt <| JN.je <| jlc [("crossing", 6)] [6] <| jiT <| jix ix_tup <| jix ix_tup <| jv 0 <| je_int <| od_ixT (d := .tuple (es.map edD)) rfl <| jv 3 <| od_ixT (edD_at hxr) ⟨[.int (en es x).1, .int (en es x).2], rfl, lcL [(en es x).1, (en es x).2] (fun (c : Nat) => .int (c : Int)) (fun _ => true) (fun c => .int (g c : Int)) (fun c hc => lp0 6 ?_) ?_ (by show 2 ≤ 1000000; decide) (by cases o4 <;> cases o5 <;> rfl)⟩
      · intro _ _ _ _ _
        have hc : c < n := by
          simp only [List.mem_cons, List.not_mem_nil, or_false] at hc
          rcases hc with rfl | rfl
          · exact he.1
          · exact he.2
        exact jix ix_list <| jv 2 <| jv 6 <| od_ixL (hsD_at hc) ⟨rfl, by cases o4 <;> cases o5 <;> rfl⟩
      rw [filter_true]
      refine ⟨[(g (en es x).1 : Int), (g (en es x).2 : Int)], rfl, fun ns hp hs => ?_⟩
      obtain ⟨lo, hi, rfl, hle, ho⟩ := two_sorted hp hs
      refine jgL (jgs (jg 4 (jgs (jg 5 (jgs_nil ?_)))))
      obtain ⟨lo', hi', rfl, rfl, ho'⟩ : ∃ lo' hi' : Nat, lo = lo' ∧ hi = hi' ∧ ((lo' = g (en es x).1 ∧ hi' = g (en es x).2) ∨ (lo' = g (en es x).2 ∧ hi' = g (en es x).1)) := by
        rcases ho with ⟨rfl, rfl⟩ | ⟨rfl, rfl⟩
        · exact ⟨_, _, rfl, rfl, .inl ⟨rfl, rfl⟩⟩
        · exact ⟨_, _, rfl, rfl, .inr ⟨rfl, rfl⟩⟩
      refine jsetN 2 <| jlc [("head", 7)] [7] <| jiL <| jv 2 ⟨hsD n g, rfl, lcL (List.range n) (fun c => .int (g c)) (fun _ => true) (fun c => .int (mrgF g lo' hi' c)) (fun c hc => lp0 7 ?_) ?_ (by rw [List.length_range]; omega)⟩
      · intro _ _ _ _ _
        refine je_ife <| jtcmp op_eqD <| jv 7 <| jv 5 <| od_eq (α := Int) hr (by decide) ⟨_, rfl, ?_⟩
        unfold mrgF
        by_cases e : g c = hi'
        · rw [if_pos e]
          exact ift (decide_eq_true (by rw [e])) <| jv 4 ⟨rfl, rfl⟩
        · rw [if_neg e]
          exact iff' (decide_eq_false (by omega)) <| jv 7 ⟨rfl, rfl⟩
      rw [filter_true]
      refine jss_frz 2 rfl <| jss_nil ⟨mrgF g lo' hi', some (.int x), some (.int lo'), some (.int hi'), ?_, rfl⟩
      rw [tk]
      exact hg.mrg he.1 he.2 ho' (by omega)
    · rintro S' ⟨g, o3, o4, o5, hg, rfl⟩
      rw [List.length_map, List.take_length] at hg
      exact jret <| jv 2 (k g hg)
/-! ### pieces -/
def φPieces : List Ar → (DL.D → Prop) → Prop := fun as Kd => ∃ (n : Nat) (E : List Ed) (l : List Int), as = [.d (frameD n E), .d (tupI l)] ∧ n ≤ 1000 ∧ Ends n E ∧ Rd E l ∧ ∀ ds : List DL.D, ds.length = pc n (ed E l) → Kd (.tuple ds)
theorem ok_pieces {f fH : Addr} {fd fdH : FuncData} (F : Fun K "pieces_by" "pieces_by" (topS 3) f fd) (T : Txt mg) (T3 : Txd mg) (NH : Dn K mg "heads_by" (topS 2) ["frame", "lot"] fH fdH) : FnOk P w K mg base CX0 2 f fd ["frame", "lot"] (SpD φPieces) := by
  refine fn_D F scpieces_by (fun as Kd h => ?_) (fun as Kd r cdv A outer s H E hr h => ?_)
  · obtain ⟨n, E, l, rfl, _⟩ := h
    rfl
  · obtain ⟨n, es, l, rfl, hn, hE, hl, k⟩ := h
    have nd := scpieces_by.nd
    have hz : sizeLine = 16777216 := sizeLine_eq
    refine jasgVL 2 3 <| jcall hr NH (ok_heads NH.F T T3) <| jA2 <| jv 0 <| jv 1 ⟨n, es, l, rfl, hn, hE, hl, fun g hg => ⟨by show 2 < 6; decide, ?_⟩⟩
    refine jfor [4] (jrange1 T.ran <| jix ix_tup <| jv 0 <| je_int <| od_ixT (d := .int (n : Int)) rfl ⟨(n : Int), rfl, by omega, by omega, fun i S' => ∃ (ds : List DL.D) (o4 : Option DL.D), ds.length = ((List.range i).filter fun c => decide (g c = c)).length ∧ S' = [.val (frameD n es), .val (tupI l), .val (.list (hsD n g)), .own ds, vS o4, .emp], ⟨[], none, rfl, rfl⟩, ?_, ?_⟩)
    · rintro i d S' hd ⟨ds, o4, hds, rfl⟩
      have hi : i < n := by
        have := (List.getElem?_eq_some_iff.mp hd).1
        rw [rangeD_length] at this; omega
      rw [rangeD_get (by omega), Int.zero_add] at hd
      obtain rfl := (Option.some.inj hd).symm
      have hle := List.length_filter_le (fun c => decide (g c = c)) (List.range i)
      rw [List.length_range] at hle
      refine jg 4 ?_
      have rs : ((List.range (i + 1)).filter fun c => decide (g c = c)).length = ((List.range i).filter fun c => decide (g c = c)).length + if g i = i then 1 else 0 := by
        rw [List.range_succ, List.filter_append, List.length_append]
        congr 1
        by_cases e : g i = i
        · rw [if_pos e, List.filter_cons_of_pos (by simpa using e)]; rfl
        · rw [if_neg e, List.filter_cons_of_neg (by simpa using e)]; rfl
      refine jif <| jtcmp op_eqD <| jix ix_list <| jv 2 <| jv 4 <| od_ixL (hsD_at hi) <| jv 4 <| od_eq (α := Int) hr (by decide) ⟨_, rfl, ifb (fun e => ?_) (fun e => jss_nil <| jss_nil ⟨ds, some (.int (i : Int)), ?_, rfl⟩)⟩
      · have e : g i = i := by have := of_decide_eq_true e; omega
        refine jappend 3 _ <| jtupN T.tup <| jlc [("crossing", 5)] [5] <| jrange1 T.ran <| jix ix_tup <| jv 0 <| je_int <| od_ixT (d := .int (n : Int)) rfl ⟨(n : Int), rfl, by omega, by omega, lcR (m := n) (fun c => decide (g c = i)) (fun (c : Nat) => .int (c : Int)) (fun c hc => lp1 5 ?_) ?_⟩
        · intro _ _ _ _ _
          refine jtcmp op_eqD <| jix ix_list <| jv 2 <| jv 5 <| od_ixL (hsD_at hc) <| jv 4 <| od_eq (α := Int) hr (by decide) ⟨_, rfl, ?_, fun _ => rfl, fun _ _ _ _ _ _ => jv 5 ⟨rfl, rfl⟩⟩
          show decide ((g c : Int) = (i : Int)) = decide (g c = i)
          rw [Bool.eq_iff_iff, decide_eq_true_eq, decide_eq_true_eq]; omega
        · refine ⟨ds, rfl, by omega, jss_nil <| jss_nil ⟨_, some (.int (i : Int)), ?_, rfl⟩⟩
          rw [List.length_append, rs, if_pos e, hds]; rfl
      · have e : g i ≠ i := fun z => by
          have := of_decide_eq_false e
          exact this (by rw [z])
        rw [rs, if_neg e]; omega
    · rintro S' ⟨ds, o4, hds, rfl⟩
      rw [rangeD_length, show ((n : Int)).toNat = n by omega] at hds
      refine jret <| jtuple T.tup <| jo 3 ⟨_, rfl, k ds ?_⟩
      rw [hds]
      show cnt n g = _
      rw [hg.hd.cnt, hg.hd.pc (ends_ed hE hl)]
def φCount : List Ar → (DL.D → Prop) → Prop := fun as Kd => ∃ (n : Nat) (E : List Ed) (l : List Int), as = [.d (frameD n E), .d (tupI l)] ∧ n ≤ 1000 ∧ Ends n E ∧ Rd E l ∧ Kd (.int (pc n (ed E l) : Nat))
theorem ok_count {f fP fH : Addr} {fd fdP fdH : FuncData} (F : Fun K "piece_count" "piece_count" (topS 4) f fd) (T : Txt mg) (T3 : Txd mg) (NP : Dn K mg "pieces_by" (topS 3) ["frame", "lot"] fP fdP) (NH : Dn K mg "heads_by" (topS 2) ["frame", "lot"] fH fdH) : FnOk P w K mg base CX0 3 f fd ["frame", "lot"] (SpD φCount) := by
  refine fn_D F scpiece_count (fun as Kd h => ?_) (fun as Kd r cdv A outer s H E hr h => ?_)
  · obtain ⟨n, E, l, rfl, _⟩ := h
    rfl
  · obtain ⟨n, es, l, rfl, hn, hE, hl, k⟩ := h
    have nd := scpiece_count.nd
    refine jret <| jlen T.len <| jcall hr NP (ok_pieces NP.F T T3 NH) <| jA2 <| jv 0 <| jv 1 ⟨n, es, l, rfl, hn, hE, hl, fun ds hd => ⟨ds, .inr rfl, ?_⟩⟩
    rw [hd]; exact k
/-! ### heads, by the law -/
theorem mrg_same (f : Nat → Nat) (a : Nat) : mrgF f a a = f := by
  funext c
  unfold mrgF
  split
  · rename_i e; exact e.symm
  · rfl
abbrev slotsH : List Str := ["frame", "lot", "heads", "road", "one", "other", "head"]
theorem lheads_body {f : Addr} {cdv : Value} {A : Around} {outer : List PySem.Env} {s : Shared} {H : Hp} {E : XK} {k : Nat} (T : Txt mg) (hr : Room k (A.deeper (PyProof.Rows.envOfC "_law_heads" (defScope (topS 31)) s.heap.objs.size f cdv))) (r : SR) (s1 : Sl) (hs1 : ∀ xs, s1 ≠ .ob xs) {n : Nat} {es : List Ed} {l : List Int} {Kd : DL.D → Prop} (hn : n ≤ 1000) (hE : Ends n es) (hl : Rd es l)
    (hji : ∀ {tg : Expr} {px : Pos} {S : List Sl} {K' : List DL.D → List Sl → Prop}, S[1]? = some s1 → K' (l.map .int) S → JI (cxOf CX0 P w K mg base slotsH "_law_heads" (defScope (topS 31)) f cdv A outer s H E).nox r tg (.Name "lot" px) S K')
    (kk : ∀ f, Hd n (ed es l) f → Kd (.list (hsD n f))) : JSs (cxOf CX0 P w K mg base slotsH "_law_heads" (defScope (topS 31)) f cdv A outer s H E).nox r (defBody (topS 31)) [.val (frameD n es), s1, .emp, .emp, .emp, .emp, .emp] { nx := fun _ => Kd .none, rt := Kd } := by
  have nd := sc_law_heads.nd
  have no6 : ∀ (o3 o4 o5 : Option DL.D) (g : Nat → Nat), noOwn [6] [.val (frameD n es), s1, .val (.list (hsD n g)), vS o3, vS o4, vS o5, .emp] = true := fun _ _ _ _ => rfl
  refine jsetN 2 <| jlistRg T.lst T.ran <| jix ix_tup <| jv 0 <| je_int <| od_ixT (d := .int (n : Int)) rfl ⟨n, rfl, by omega, ?_⟩
  refine jss_frz 2 rfl ?_
  refine jfor [3] (hji rfl ⟨fun i S' => ∃ (g : Nat → Nat) (o3 o4 o5 : Option DL.D), Hd n (ed es (l.take i)) g ∧ S' = [.val (frameD n es), s1, .val (.list (hsD n g)), vS o3, vS o4, vS o5, .emp], ⟨id, none, none, none, hd_id n, ?_⟩, ?_, ?_⟩)
  · show _ = [Sl.val (frameD n es), s1, .val (.list (hsD n id)), .emp, .emp, .emp, .emp]
    rw [rangeD0]; rfl
  · rintro i d S' hd ⟨g, o3, o4, o5, hg, rfl⟩
    obtain ⟨x, hx, hxi, rfl⟩ := get_map hd
    have hxr := hl x hx
    have he := hE _ (en_mem hxr)
    have tk : ed es (l.take (i + 1)) = ed es (l.take i) ++ [en es x] := by
      unfold ed
      rw [List.take_succ, hxi, List.map_append]; rfl
    have hm := (hg.mrg he.1 he.2 (.inl ⟨rfl, rfl⟩)).perm (List.perm_append_singleton (en es x) _).symm
    rw [← tk] at hm
    refine jg 3 ?_
    refine jasg [4, 5] <| jtup2 <| jix ix_list <| jv 2 <| jix ix_tup <| jix ix_tup <| jix ix_tup <| jv 0 <| je_int <| od_ixT (d := .tuple (es.map edD)) rfl <| jv 3 <| od_ixT (edD_at hxr) <| je_int <| od_ixT (d := .int ((en es x).1 : Int)) rfl <| od_ixL (hsD_at he.1) ?_
    refine jix ix_list <| jv 2 <| jix ix_tup <| jix ix_tup <| jix ix_tup <| jv 0 <| je_int <| od_ixT (d := .tuple (es.map edD)) rfl <| jv 3 <| od_ixT (edD_at hxr) <| je_int <| od_ixT (d := .int ((en es x).2 : Int)) rfl <| od_ixL (hsD_at he.2) ?_
    refine jgT (jgs (jg 4 (jgs (jg 5 (jgs_nil ?_)))))
    refine jif <| jtcmp op_neD <| jv 4 <| jv 5 <| od_ne (α := Int) hr (by decide) ⟨_, rfl, ifb (fun hne => ?_) (fun heq => jss_nil <| jss_nil ⟨g, some (.int x), some (.int (g (en es x).1)), some (.int (g (en es x).2)), ?_, rfl⟩)⟩
    · refine jsetLc 2 [("head", 6)] [6] <| jiL <| jv 2 ⟨hsD n g, rfl, lcL (List.range n) (fun c => .int (g c)) (fun _ => true) (fun c => .int (mrgF g (g (en es x).1) (g (en es x).2) c)) (fun c hc => lp0 6 ?_) ?_ (by rw [List.length_range]; omega)⟩
      · intro _ _ _ _ _
        refine je_ife <| jtcmp op_eqD <| jv 6 <| jv 5 <| od_eq (α := Int) hr (by decide) ⟨_, rfl, ?_⟩
        unfold mrgF
        by_cases e : g c = g (en es x).2
        · rw [if_pos e]
          exact ift (decide_eq_true (by rw [e])) <| jv 4 ⟨rfl, rfl⟩
        · rw [if_neg e]
          exact iff' (decide_eq_false (by omega)) <| jv 6 ⟨rfl, rfl⟩
      rw [filter_true]
      exact jss_frz 2 rfl <| jss_nil <| jss_nil ⟨_, some (.int x), some (.int (g (en es x).1)), some (.int (g (en es x).2)), hm, rfl⟩
    · have e : g (en es x).1 = g (en es x).2 := by
        have : ¬ ((g (en es x).1 : Int) ≠ (g (en es x).2 : Int)) := by
          intro z
          simp [z] at heq
        omega
      rw [e, mrg_same] at hm
      exact hm
  · rintro S' ⟨g, o3, o4, o5, hg, rfl⟩
    rw [List.length_map, List.take_length] at hg
    exact jret <| jv 2 (kk g hg)
def φLHeads : List Ar → (DL.D → Prop) → Prop := fun as Kd => ∃ (n : Nat) (E : List Ed) (l : List Int) (d : DL.D), as = [.d (frameD n E), .d d] ∧ (d = .tuple (l.map .int) ∨ d = .list (l.map .int)) ∧ n ≤ 1000 ∧ Ends n E ∧ Rd E l ∧ ∀ f, Hd n (ed E l) f → Kd (.list (hsD n f))
theorem ok_lheads {f : Addr} {fd : FuncData} (F : Fun K "_law_heads" "_law_heads" (topS 31) f fd) (T : Txt mg) : FnOk P w K mg base CX0 1 f fd ["frame", "lot"] (SpD φLHeads) := by
  refine fn_D F sc_law_heads (fun as Kd h => ?_) (fun as Kd r cdv A outer s H E hr h => ?_)
  · obtain ⟨n, E, l, d, rfl, _⟩ := h
    rfl
  · obtain ⟨n, es, l, d, rfl, hdl, hn, hE, hl, k⟩ := h
    exact lheads_body T hr r (.val d) (fun _ e => nomatch e) hn hE hl (fun e q => jiV 1 hdl q e) k
def φLHeadsB : DL.D → List DL.D → (DL.D → Prop) → Prop := fun d0 ds Kd => ∃ (n : Nat) (E : List Ed) (l : List Int), d0 = frameD n E ∧ ds = l.map .int ∧ n ≤ 1000 ∧ Ends n E ∧ Rd E l ∧ ∀ f, Hd n (ed E l) f → Kd (.list (hsD n f))
theorem ok_lheadsB {f : Addr} {fd : FuncData} (F : Fun K "_law_heads" "_law_heads" (topS 31) f fd) (T : Txt mg) : FnOk P w K mg base CX0 1 f fd ["frame", "lot"] (SpB φLHeadsB) := by
  refine fn_B F sc_law_heads rfl (fun d0 a ys ds Kd c0 cdv A outer s H E ha ry hr h => ?_)
  obtain ⟨n, es, l, rfl, rfl, hn, hE, hl, k⟩ := h
  exact lheads_body T hr (srL c0) (.rf a) (fun _ e => nomatch e) hn hE hl (fun e q => jiR 1 ha ry e q) k
/-! ### pieces, by the law -/
theorem uni_vals {n : Nat} {es : List Ed} {g : Nat → Nat} (h : Hd n es g) : (uni [] ((List.range n).map fun c => (g c : Int))).length = firsts n g := by
  rw [← vals_firsts]
  have p : (uni [] ((List.range n).map fun c => (g c : Int))).Perm ((vals g n).map Int.ofNat) := by
    refine (List.perm_ext_iff_of_nodup (nodup_uni _ [] List.nodup_nil) (List.nodup_iff_pairwise_ne.mpr ?_)).mpr fun x => ?_
    · exact List.Pairwise.map _ (fun a b hab e => hab (by injection e)) (List.nodup_iff_pairwise_ne.mp (vals_nodup n))
    · rw [mem_uni]
      simp only [List.not_mem_nil, false_or, List.mem_map, mem_vals, List.mem_range]
      constructor
      · rintro ⟨c, hc, rfl⟩
        exact ⟨g c, ⟨c, hc, rfl⟩, rfl⟩
      · rintro ⟨y, ⟨c, hc, rfl⟩, rfl⟩
        exact ⟨c, hc, rfl⟩
  rw [p.length_eq, List.length_map]
def φLPieces : List Ar → (DL.D → Prop) → Prop := fun as Kd => ∃ (n : Nat) (E : List Ed) (l : List Int) (d : DL.D), as = [.d (frameD n E), .d d] ∧ (d = .tuple (l.map .int) ∨ d = .list (l.map .int)) ∧ n ≤ 1000 ∧ Ends n E ∧ Rd E l ∧ Kd (.int (pc n (ed E l) : Nat))
theorem ok_lpieces {f fH : Addr} {fd fdH : FuncData} (F : Fun K "_law_pieces" "_law_pieces" (topS 32) f fd) (T : Txt mg) (T3 : Txd mg) (NH : Dn K mg "_law_heads" (topS 31) ["frame", "lot"] fH fdH) : FnOk P w K mg base CX0 2 f fd ["frame", "lot"] (SpD φLPieces) := by
  refine fn_D F sc_law_pieces (fun as Kd h => ?_) (fun as Kd r cdv A outer s H E hr h => ?_)
  · obtain ⟨n, E, l, d, rfl, _⟩ := h
    rfl
  · obtain ⟨n, es, l, d, rfl, hdl, hn, hE, hl, k⟩ := h
    have nd := sc_law_pieces.nd
    refine jret <| jlenDI T.len T3.dct <| JN.je <| jlc [("head", 2)] [2] <| jiL <| jcall hr NH (ok_lheads NH.F T) <| jA2 <| jv 0 <| jv 1 ⟨n, es, l, d, rfl, hdl, hn, hE, hl, fun g hg => ⟨hsD n g, rfl, lcL (List.range n) (fun c => .int (g c)) (fun _ => true) (fun c => .tuple [.int (g c), .int 0]) (fun c hc => lp0 2 ?_) ?_ (by rw [List.length_range]; omega)⟩⟩
    · intro _ _ _ _ _
      exact jtup2 <| jv 2 <| je_int ⟨rfl, rfl⟩
    rw [filter_true]
    refine ⟨(List.range n).map fun c => (g c : Int), fun _ => .int 0, by rw [List.map_map]; rfl, ?_⟩
    rw [uni_vals hg, hg.pc (ends_ed hE hl)]
    exact k
end
end K24


/-! k25: free lots, closers, unbroken lots, by the program. -/
namespace K24
open PySem L2 DL NT
section
variable {X : Cx} {r : SR} {S : List Sl}
/-- (x, *ys) -/
theorem jstarH {K : D → List Sl → Prop} {a b : Expr} {x1 : Nat} {p pos : Pos} (h : JE X r a S fun d S1 => JE X r b S1 fun d2 S2 => ∃ ys, (d2 = .tuple ys ∨ d2 = .list ys) ∧ ys.length < sizeLine ∧ K (.tuple (d :: ys)) S2)
    (s1 : starEach [a, .Starred b p] X.env = (false, eval a X.env) :: starEach [.Starred b p] X.env := by rfl) (s2 : starEach [.Starred b p] X.env = (true, eval b X.env) :: starEach [] X.env := by rfl) : JE X r (.Tuple [a, .Starred b p] x1 pos) S K :=
  je_tup <| jA (h.mono fun d S1 h1 => jA_star (JE.mono h1 fun d2 S2 ⟨ys, e, hl, k⟩ => ⟨ys, e, jA0 ⟨d :: ys, by
    rw [List.append_nil]
    show Option.map _ (dats (ys.map Ar.d)) = _
    rw [dats_map]; rfl, by rw [List.length_cons]; omega, k⟩⟩) s2) s1
/-- (*xs, y) -/
theorem jstarT {K : D → List Sl → Prop} {a b : Expr} {x1 : Nat} {p pos : Pos} (h : JE X r a S fun d S1 => ∃ xs, (d = .tuple xs ∨ d = .list xs) ∧ JE X r b S1 fun d2 S2 => xs.length < sizeLine ∧ K (.tuple (xs ++ [d2])) S2)
    (s1 : starEach [.Starred a p, b] X.env = (true, eval a X.env) :: starEach [b] X.env := by rfl) (s2 : starEach [b] X.env = (false, eval b X.env) :: starEach [] X.env := by rfl) : JE X r (.Tuple [.Starred a p, b] x1 pos) S K :=
  je_tup <| jA_star (h.mono fun d S1 ⟨xs, e, h1⟩ => ⟨xs, e, ja1 (JE.mono h1 fun d2 S2 ⟨hl, k⟩ => ⟨xs ++ [d2], by
    have := dats_map (xs ++ [d2])
    rw [List.map_append] at this
    exact this, by rw [List.length_append, List.length_singleton]; omega, k⟩) s2⟩) s1
end
/-! ### plain -/
def FrB (n : Nat) (E : List Ed) (l : List Int) : Bool := decide (pc n (ed E l) + l.length = n)
theorem FrB_iff {n : Nat} {E : List Ed} {l : List Int} : FrB n E l = true ↔ Fr n E l := by
  unfold FrB Fr Free ed
  rw [decide_eq_true_eq, List.length_map]
def laterL (l : List Int) (r : Int) : List Int := l.filter fun y => decide (y > r)
def closeB (n : Nat) (E : List Ed) (l : List Int) (r : Int) : Bool := decide (pc n (ed E (r :: laterL l r)) = pc n (ed E (laterL l r)))
theorem closeB_iff {n : Nat} {E : List Ed} {l : List Int} {r : Int} (hE : Ends n E) (hl : Rd E l) (hr : 0 ≤ r ∧ r < (E.length : Int)) : closeB n E l r = true ↔ cR E (laterL l r) r := by
  have h1 : Rd E (r :: laterL l r) := fun x hx => by
    rcases List.mem_cons.mp hx with rfl | hx
    · exact hr
    · exact hl x (List.mem_filter.mp hx).1
  have he : Ends n (en E r :: ed E (laterL l r)) := ends_ed hE h1
  unfold closeB
  rw [decide_eq_true_eq]
  constructor
  · intro e
    refine Classical.byContradiction fun nc => ?_
    have := pc_less he nc
    have e : pc n (en E r :: ed E (laterL l r)) = pc n (ed E (laterL l r)) := e
    omega
  · intro c
    exact pc_same he c
def closersL (n : Nat) (E : List Ed) (l : List Int) : List Int := (rangeI E.length).filter fun r => !decide (r ∈ l) && closeB n E l r
def UnB (n : Nat) (E : List Ed) (l : List Int) : Bool := FrB n E l && (closersL n E l).isEmpty
theorem UnB_iff {n : Nat} {E : List Ed} {l : List Int} (hE : Ends n E) (hl : Rd E l) : UnB n E l = true ↔ UnP n E l := by
  unfold UnB UnP
  rw [Bool.and_eq_true, FrB_iff, List.isEmpty_iff]
  refine and_congr Iff.rfl ?_
  unfold closersL
  rw [List.filter_eq_nil_iff]
  constructor
  · intro h r h0 h1 hr hc
    refine h r (mem_rangeI.mpr ⟨h0, h1⟩) ?_
    rw [decide_eq_false hr, (closeB_iff hE hl ⟨h0, h1⟩).mpr hc]; rfl
  · intro h r hr hb
    have hr := mem_rangeI.mp hr
    rw [Bool.and_eq_true, Bool.not_eq_true', decide_eq_false_iff_not] at hb
    exact h r hr.1 hr.2 hb.1 ((closeB_iff hE hl hr).mp hb.2)
/-- all free lots -/
def frL (n : Nat) (E : List Ed) : Nat → List (List Int)
  | 0 => [[]]
  | k + 1 => frL n E k ++ ((frL n E k).filter fun l => FrB n E (l ++ [(k : Int)])).map fun l => l ++ [(k : Int)]
theorem frL_len (n : Nat) (E : List Ed) : ∀ k, (frL n E k).length ≤ 2 ^ k
  | 0 => Nat.le_refl _
  | k + 1 => by
    have ih := frL_len n E k
    have := List.length_filter_le (fun l => FrB n E (l ++ [(k : Int)])) (frL n E k)
    show (frL n E k ++ _).length ≤ _
    rw [List.length_append, List.length_map, Nat.pow_succ]; omega
theorem mem_frL {n : Nat} {E : List Ed} (hE : Ends n E) : ∀ {k : Nat}, k ≤ E.length → ∀ {l : List Int}, l ∈ frL n E k ↔ l.Sublist (rangeI k) ∧ FrB n E l = true
  | 0, _, l => by
    have e : rangeI 0 = [] := rfl
    rw [e]
    show l ∈ [[]] ↔ _
    rw [List.mem_singleton]
    constructor
    · rintro rfl
      exact ⟨List.Sublist.refl _, FrB_iff.mpr fr_nil⟩
    · intro h
      exact List.sublist_nil.mp h.1
  | k + 1, hk, l => by
    have ih := @mem_frL n E hE k (by omega)
    have hrd : Rd E (rangeI (k + 1)) := fun x hx => by
      have := mem_rangeI.mp hx
      omega
    show l ∈ frL n E k ++ _ ↔ _
    rw [List.mem_append, List.mem_map, ih, rangeI_succ]
    constructor
    · rintro (⟨h1, h2⟩ | ⟨q, hq, rfl⟩)
      · exact ⟨h1.trans (List.sublist_append_left _ _), h2⟩
      · obtain ⟨q1, q2⟩ := List.mem_filter.mp hq
        exact ⟨((ih.mp q1).1).append (List.Sublist.refl _), q2⟩
    · rintro ⟨h1, h2⟩
      obtain ⟨a, b, rfl, ha, hb⟩ := List.sublist_append_iff.mp h1
      have hb2 : b = [] ∨ b = [(k : Int)] := by
        cases hb with
        | cons _ h => exact .inl (List.sublist_nil.mp h)
        | cons_cons _ h => exact .inr (by rw [List.sublist_nil.mp h])
      rcases hb2 with rfl | rfl
      · left; rw [List.append_nil] at h2 ⊢; exact ⟨ha, h2⟩
      · right
        refine ⟨a, List.mem_filter.mpr ⟨ih.mpr ⟨ha, ?_⟩, h2⟩, rfl⟩
        refine FrB_iff.mpr ((FrB_iff.mp h2).sub hE (hrd.sub fun x hx => ?_) (List.sublist_append_left _ _))
        rw [rangeI_succ]; exact h1.subset hx
theorem frL_nodup {n : Nat} {E : List Ed} (hE : Ends n E) : ∀ {k : Nat}, k ≤ E.length → (frL n E k).Nodup
  | 0, _ => by simp [frL]
  | k + 1, hk => by
    have ih := frL_nodup hE (k := k) (by omega)
    refine List.nodup_append.mpr ⟨ih, ?_, fun a ha b hb e => ?_⟩
    · exact List.Pairwise.map _ (fun a b hab e => hab (List.append_cancel_right e)) (ih.sublist List.filter_sublist)
    · subst e
      obtain ⟨q, _, rfl⟩ := List.mem_map.mp hb
      have := ((mem_frL hE (by omega)).mp ha).1.subset (List.mem_append.mpr (.inr List.mem_cons_self))
      have := mem_rangeI.mp this
      omega
def unL (n : Nat) (E : List Ed) : List (List Int) := (allL E.length).filter fun l => UnB n E l
theorem unL_sort {n : Nat} {E : List Ed} (hE : Ends n E) : sortL ((frL n E E.length).filter fun l => UnB n E l) = unL n E := by
  refine sorted_one (sortL_lt ((frL_nodup hE (Nat.le_refl _)).sublist List.filter_sublist)) ((allL_lt _).sublist List.filter_sublist) fun l => ?_
  unfold unL
  rw [(sortL_perm _).mem_iff, List.mem_filter, List.mem_filter, mem_frL hE (Nat.le_refl _), mem_allL]
  constructor
  · rintro ⟨⟨h1, _⟩, h2⟩; exact ⟨h1, h2⟩
  · rintro ⟨h1, h2⟩
    refine ⟨⟨h1, ?_⟩, h2⟩
    unfold UnB at h2
    rw [Bool.and_eq_true] at h2
    exact h2.1
section
variable {P : Program} {w : World} {K : PySem.W.Frag} {mg : Str → Option Value} {base : Heap}
theorem scis_ringless : FnScope ["frame", "lot"] ["frame", "lot"] (defScope (topS 19)) := ⟨rfl, rfl, rfl, by decide +kernel, rfl, by decide +kernel, by decide +kernel⟩
theorem scclosers : FnScope ["frame", "lot", "found", "road"] ["frame", "lot"] (defScope (topS 20)) := ⟨rfl, rfl, rfl, by decide +kernel, rfl, by decide +kernel, by decide +kernel⟩
theorem scis_unbroken : FnScope ["frame", "lot"] ["frame", "lot"] (defScope (topS 21)) := ⟨rfl, rfl, rfl, by decide +kernel, rfl, by decide +kernel, by decide +kernel⟩
theorem scunbroken_lots : FnScope ["frame", "found", "road", "lot"] ["frame"] (defScope (topS 22)) := ⟨rfl, rfl, rfl, by decide +kernel, rfl, by decide +kernel, by decide +kernel⟩
theorem scunbroken_trees : FnScope ["frame", "lot"] ["frame"] (defScope (topS 23)) := ⟨rfl, rfl, rfl, by decide +kernel, rfl, by decide +kernel, by decide +kernel⟩
theorem sccloses_with : FnScope ["frame", "lot", "road", "later", "one"] ["frame", "lot", "road"] (defScope (topS 24)) := ⟨rfl, rfl, rfl, by decide +kernel, rfl, by decide +kernel, by decide +kernel⟩
/-- where the defs of the pieces stand -/
structure DnP (K : PySem.W.Frag) (mg : Str → Option Value) where
  {aR aH aP aC : Addr}
  {fR fH fP fC : FuncData}
  r : Dn K mg "all_roads" (topS 1) ["frame"] aR fR
  h : Dn K mg "heads_by" (topS 2) ["frame", "lot"] aH fH
  p : Dn K mg "pieces_by" (topS 3) ["frame", "lot"] aP fP
  c : Dn K mg "piece_count" (topS 4) ["frame", "lot"] aC fC
def φBool (b : Nat → List Ed → List Int → Bool) : List Ar → (DL.D → Prop) → Prop := fun as Kd => ∃ (n : Nat) (E : List Ed) (l : List Int), as = [.d (frameD n E), .d (tupI l)] ∧ n ≤ 1000 ∧ E.length ≤ 1000 ∧ l.length ≤ 1000 ∧ Ends n E ∧ Rd E l ∧ Kd (.bool (b n E l))
theorem ok_ringless {f : Addr} {fd : FuncData} (F : Fun K "is_ringless" "is_ringless" (topS 19) f fd) (T : Txt mg) (T3 : Txd mg) (N : DnP K mg) : FnOk P w K mg base CX0 4 f fd ["frame", "lot"] (SpD (φBool FrB)) := by
  refine fn_D F scis_ringless (fun as Kd h => ?_) (fun as Kd r cdv A outer s H E hr h => ?_)
  · obtain ⟨n, E, l, rfl, _⟩ := h
    rfl
  · obtain ⟨n, es, l, rfl, hn, hm, hll, hE, hl, k⟩ := h
    have nd := scis_ringless.nd
    refine jret <| jcmp op_eqD <| jcall hr N.c (ok_count N.c.F T T3 N.p N.h) <| jA2 <| jv 0 <| jv 1 ⟨n, es, l, rfl, hn, hE, hl, je_op op_sub <| jix ix_tup <| jv 0 <| je_int <| od_ixT (d := .int (n : Int)) rfl <| jlen T.len <| jv 1 ⟨l.map .int, .inr rfl, od_I0 <| od_eq (α := Int) hr (by decide) ?_⟩⟩
    have e : decide ((pc n (ed es l) : Int) = (n : Int) - ((l.map PyData.int).length : Int)) = FrB n es l := by
      unfold FrB
      rw [Bool.eq_iff_iff, decide_eq_true_eq, decide_eq_true_eq, List.length_map]; omega
    rw [e]; exact k
def φCloses : List Ar → (DL.D → Prop) → Prop := fun as Kd => ∃ (n : Nat) (E : List Ed) (l : List Int) (r : Int), as = [.d (frameD n E), .d (tupI l), .d (.int r)] ∧ n ≤ 1000 ∧ l.length ≤ 1000 ∧ Ends n E ∧ Rd E l ∧ (0 ≤ r ∧ r < (E.length : Int)) ∧ Kd (.bool (closeB n E l r))
theorem ok_closes {f : Addr} {fd : FuncData} (F : Fun K "closes_with" "closes_with" (topS 24) f fd) (T : Txt mg) (T3 : Txd mg) (N : DnP K mg) : FnOk P w K mg base CX0 4 f fd ["frame", "lot", "road"] (SpD φCloses) := by
  refine fn_D F sccloses_with (fun as Kd h => ?_) (fun as Kd r cdv A outer s H E hr h => ?_)
  · obtain ⟨n, E, l, x, rfl, _⟩ := h
    rfl
  · obtain ⟨n, es, l, x, rfl, hn, hll, hE, hl, hx, k⟩ := h
    have nd := sccloses_with.nd
    have hz : sizeLine = 16777216 := sizeLine_eq
    have GC := ok_count (P := P) (w := w) (base := base) N.c.F T T3 N.p N.h
    have hlr : Rd es (laterL l x) := fun y hy => hl y (List.mem_filter.mp hy).1
    have hlen : (laterL l x).length ≤ l.length := List.length_filter_le _ _
    refine jset 3 <| jtupN T.tup <| jlc [("one", 4)] [4] <| jiT <| jv 1 ⟨l.map .int, rfl, lcL l .int (fun y => decide (y > x)) .int (fun y hy => lp1 4 ?_) ?_⟩
    · intro _ _ _ _ _
      exact jtcmp op_gt <| jv 4 <| jv 2 <| od_B0 ⟨_, rfl, rfl, fun _ => rfl, fun _ _ _ _ _ _ => jv 4 ⟨rfl, rfl⟩⟩
    unfold closeB at k
    show JSs _ r _ [Sl.val (frameD n es), .val (tupI l), .val (.int x), .val (tupI (laterL l x)), .emp] _
    generalize laterL l x = lt at *
    refine jret <| jcmp op_eqD <| jcall hr N.c GC <| jA2 <| jv 0 <| jstarH <| jv 2 <| jv 3 ⟨lt.map .int, .inl rfl, by rw [List.length_map]; omega, n, es, x :: lt, rfl, hn, hE, ?_, jcall hr N.c GC <| jA2 <| jv 0 <| jv 3 ⟨n, es, lt, rfl, hn, hE, hlr, od_eq (α := Int) hr (by decide) ?_⟩⟩
    · intro y hy
      rcases List.mem_cons.mp hy with rfl | hy
      · exact hx
      · exact hlr y hy
    · rw [show decide ((pc n (ed es (x :: lt)) : Int) = (pc n (ed es lt) : Int)) = decide (pc n (ed es (x :: lt)) = pc n (ed es lt)) by rw [Bool.eq_iff_iff, decide_eq_true_eq, decide_eq_true_eq]; omega]
      exact k
def φClosers : List Ar → (DL.D → Prop) → Prop := fun as Kd => ∃ (n : Nat) (E : List Ed) (l : List Int), as = [.d (frameD n E), .d (tupI l)] ∧ n ≤ 1000 ∧ E.length ≤ 1000 ∧ l.length ≤ 1000 ∧ Ends n E ∧ Rd E l ∧ Kd (tupI (closersL n E l))
theorem ok_closers {f fW : Addr} {fd fdW : FuncData} (F : Fun K "closers" "closers" (topS 20) f fd) (T : Txt mg) (T3 : Txd mg) (N : DnP K mg) (NW : Dn K mg "closes_with" (topS 24) ["frame", "lot", "road"] fW fdW) : FnOk P w K mg base CX0 5 f fd ["frame", "lot"] (SpD φClosers) := by
  refine fn_D F scclosers (fun as Kd h => ?_) (fun as Kd r cdv A outer s H E hr h => ?_)
  · obtain ⟨n, E, l, rfl, _⟩ := h
    rfl
  · obtain ⟨n, es, l, rfl, hn, hm, hll, hE, hl, k⟩ := h
    have nd := scclosers.nd
    have hz : sizeLine = 16777216 := sizeLine_eq
    refine jsetN 2 <| jn_lst (jA0 ⟨[], rfl, Nat.zero_le _, ?_⟩)
    refine jfor [3] (jiT <| jcall hr N.r (ok_roads N.r.F T) <| ja1 <| jv 0 ⟨n, es, rfl, hm, (rangeI es.length).map .int, rfl, fun i S' => ∃ o3 : Option DL.D, S' = [.val (frameD n es), .val (tupI l), .own ((((rangeI es.length).take i).filter fun r => !decide (r ∈ l) && closeB n es l r).map .int), vS o3], ⟨none, rfl⟩, ?_, ?_⟩)
    · rintro i d S' hd ⟨o3, rfl⟩
      obtain ⟨x, hx, hxi, rfl⟩ := get_map hd
      have hxr := mem_rangeI.mp hx
      have tk : ((rangeI es.length).take (i + 1)).filter (fun r => !decide (r ∈ l) && closeB n es l r) = ((rangeI es.length).take i).filter (fun r => !decide (r ∈ l) && closeB n es l r) ++ if (!decide (x ∈ l) && closeB n es l x) = true then [x] else [] := by
        rw [List.take_succ, hxi, List.filter_append]
        congr 1
        by_cases e : (!decide (x ∈ l) && closeB n es l x) = true
        · rw [if_pos e]; exact List.filter_cons_of_pos e
        · rw [if_neg e]; exact List.filter_cons_of_neg e
      have hfl := List.length_filter_le (fun r => !decide (r ∈ l) && closeB n es l r) ((rangeI es.length).take i)
      rw [List.length_take, rangeI_len] at hfl
      generalize ((rangeI es.length).take i).filter (fun r => !decide (r ∈ l) && closeB n es l r) = fs at *
      refine jg 3 ?_
      refine jif <| JT.keep (!decide (x ∈ l) && closeB n es l x) ?_ ?_
      · refine JW.jt <| jw_and <| jtcmp op_notInD <| jv 3 <| jv 1 <| od_niT (α := Int) hr (by decide) ⟨_, rfl, ifb (fun e => ?_) (fun e => ⟨rfl, by rw [e]; rfl⟩)⟩
        refine jw_and1 <| jtval <| jcall hr NW (ok_closes NW.F T T3 N) <| jA <| jv 0 <| jA2 <| jv 1 <| jv 3 ⟨n, es, l, x, rfl, hn, hll, hE, hl, hxr, _, rfl, rfl, ?_⟩
        rw [e, Bool.true_and]
      · by_cases e : (!decide (x ∈ l) && closeB n es l x) = true
        · rw [if_pos e] at tk ⊢
          refine jappend 2 _ <| jv 3 ⟨fs.map .int, rfl, by rw [List.length_map]; omega, jss_nil <| jss_nil ⟨some (.int x), ?_⟩⟩
          rw [tk, List.map_append]; rfl
        · rw [if_neg e] at tk ⊢
          rw [List.append_nil] at tk
          exact jss_nil <| jss_nil ⟨some (.int x), by rw [tk]; rfl⟩
    · rintro S' ⟨o3, rfl⟩
      rw [List.length_map, List.take_length]
      exact jret <| jtuple T.tup <| jo 2 ⟨_, rfl, k⟩
theorem ok_isun {f fG fC fW : Addr} {fd fdG fdC fdW : FuncData} (F : Fun K "is_unbroken" "is_unbroken" (topS 21) f fd) (T : Txt mg) (T3 : Txd mg) (N : DnP K mg) (NG : Dn K mg "is_ringless" (topS 19) ["frame", "lot"] fG fdG) (NC : Dn K mg "closers" (topS 20) ["frame", "lot"] fC fdC) (NW : Dn K mg "closes_with" (topS 24) ["frame", "lot", "road"] fW fdW) : FnOk P w K mg base CX0 6 f fd ["frame", "lot"] (SpD (φBool UnB)) := by
  refine fn_D F scis_unbroken (fun as Kd h => ?_) (fun as Kd r cdv A outer s H E hr h => ?_)
  · obtain ⟨n, E, l, rfl, _⟩ := h
    rfl
  · obtain ⟨n, es, l, rfl, hn, hm, hll, hE, hl, k⟩ := h
    have nd := scis_unbroken.nd
    unfold UnB at k
    refine jret <| je_and <| jcall hr NG (ok_ringless NG.F T T3 N) <| jA2 <| jv 0 <| jv 1 ⟨n, es, l, rfl, hn, hm, hll, hE, hl, _, rfl, ifb (fun e => ?_) (fun e => ?_)⟩
    · rw [e, Bool.true_and] at k
      refine je_one <| jcmp op_eqT0 <| jcall hr NC (ok_closers NC.F T T3 N NW) <| jA2 <| jv 0 <| jv 1 ⟨n, es, l, rfl, hn, hm, hll, hE, hl, jtup0 <| od_eqT0 hr ?_⟩
      rw [isEmpty_map]; exact k
    · rw [e, Bool.false_and] at k
      exact k
def φUnL : List Ar → (DL.D → Prop) → Prop := fun as Kd => ∃ (n : Nat) (E : List Ed), as = [.d (frameD n E)] ∧ n ≤ 1000 ∧ E.length ≤ 10 ∧ Ends n E ∧ Kd (.list ((unL n E).map tupI))
theorem ok_unlots {f fG fC fW fU : Addr} {fd fdG fdC fdW fdU : FuncData} (F : Fun K "unbroken_lots" "unbroken_lots" (topS 22) f fd) (T : Txt mg) (T3 : Txd mg) (N : DnP K mg) (NG : Dn K mg "is_ringless" (topS 19) ["frame", "lot"] fG fdG) (NC : Dn K mg "closers" (topS 20) ["frame", "lot"] fC fdC) (NW : Dn K mg "closes_with" (topS 24) ["frame", "lot", "road"] fW fdW) (NU : Dn K mg "is_unbroken" (topS 21) ["frame", "lot"] fU fdU) : FnOk P w K mg base CX0 7 f fd ["frame"] (SpD φUnL) := by
  refine fn_D F scunbroken_lots (fun as Kd h => ?_) (fun as Kd r cdv A outer s H E hr h => ?_)
  · obtain ⟨n, E, rfl, _⟩ := h
    rfl
  · obtain ⟨n, es, rfl, hn, hm, hE, k⟩ := h
    have nd := scunbroken_lots.nd
    have hz : sizeLine = 16777216 := sizeLine_eq
    have GG := ok_ringless (P := P) (w := w) (base := base) NG.F T T3 N
    have hpow : ∀ i, i ≤ es.length → 2 ^ i ≤ 1024 := fun i hi => Nat.pow_le_pow_right (by decide) (show i ≤ 10 by omega)
    refine jsetN 1 <| jlst1 <| jtup0 ?_
    refine jfor [2] (jiT <| jcall hr N.r (ok_roads N.r.F T) <| ja1 <| jv 0 ⟨n, es, rfl, by omega, (rangeI es.length).map .int, rfl, fun i S' => ∃ o2 : Option DL.D, S' = [.val (frameD n es), .own ((frL n es i).map tupI), vS o2, .emp], ⟨none, rfl⟩, ?_, ?_⟩)
    · rintro i d S' hd ⟨o2, rfl⟩
      obtain ⟨x, hx, hxi, rfl⟩ := get_map hd
      have hi : i < es.length := by
        have := (List.getElem?_eq_some_iff.mp hxi).1
        rwa [rangeI_len] at this
      have hxe : x = (i : Int) := by
        unfold rangeI at hxi
        rw [List.getElem?_map, List.getElem?_range hi] at hxi
        exact (Option.some.inj hxi).symm
      subst hxe
      have hfl := frL_len n es i
      have hp2 := hpow i (by omega)
      have e1 : frL n es (i + 1) = frL n es i ++ ((frL n es i).filter fun l => FrB n es (l ++ [(i : Int)])).map fun l => l ++ [(i : Int)] := rfl
      have hsb : ∀ l ∈ frL n es i, l.Sublist (rangeI i) := fun l h => ((mem_frL hE (by omega)).mp h).1
      have hll : ∀ l ∈ frL n es i, l.length ≤ 10 ∧ Rd es (l ++ [(i : Int)]) := fun l h => by
        have h1 := (hsb l h).length_le
        rw [rangeI_len] at h1
        refine ⟨by omega, fun y hy => ?_⟩
        rcases List.mem_append.mp hy with hy | hy
        · have := mem_rangeI.mp ((hsb l h).subset hy); omega
        · rw [List.mem_singleton.mp hy]; omega
      generalize frL n es i = fs at *
      refine jg 2 ?_
      refine jextend 1 _ <| JN.je <| jlcO 1 [("lot", 3)] [3] ⟨noOwn_of rfl, ?_⟩
      have tl : ∀ l : List Int, PyData.tuple (l.map .int ++ [.int (i : Int)]) = tupI (l ++ [(i : Int)]) := fun l => by unfold tupI; rw [List.map_append]; rfl
      refine (lcL (X := _) (r := r) fs tupI (fun l => FrB n es (l ++ [(i : Int)])) (fun l => tupI (l ++ [(i : Int)])) (fun l hl => lp1 3 ?_) ?_ (by omega) rfl).2
      · intro _ _ _ _ _
        refine jtval <| jcall hr NG GG <| jA2 <| jv 0 <| jstarT <| jv 3 ⟨l.map .int, .inl rfl, jv 2 ⟨by have := (hll l hl).1; rw [List.length_map]; omega, ?_⟩⟩
        rw [tl]
        refine ⟨n, es, l ++ [(i : Int)], rfl, hn, by omega, by rw [List.length_append, List.length_singleton]; have := (hll l hl).1; omega, hE, (hll l hl).2, _, rfl, rfl, fun _ => rfl, fun _ _ _ _ _ _ => ?_⟩
        refine jstarT <| jv 3 ⟨l.map .int, .inl rfl, jv 2 ⟨by have := (hll l hl).1; rw [List.length_map]; omega, ?_⟩⟩
        rw [tl]
        exact ⟨rfl, rfl⟩
      · have hfl2 := List.length_filter_le (fun l => FrB n es (l ++ [(i : Int)])) fs
        refine ⟨_, fs.map tupI, rfl, rfl, by rw [List.length_map, List.length_map]; omega, jss_nil ⟨some (.int (i : Int)), ?_⟩⟩
        rw [e1, List.map_append, List.map_map]; rfl
    · rintro S' ⟨o2, rfl⟩
      rw [List.length_map, rangeI_len]
      have hfl := frL_len n es es.length
      have hp2 := hpow es.length (Nat.le_refl _)
      have hmm := @mem_frL n es hE es.length (Nat.le_refl _)
      refine jret <| JN.je <| jsortL hr T3.srt <| JN.je <| jlcO 1 [("lot", 3)] [3] ⟨noOwn_of rfl, ?_⟩
      refine (lcL (X := _) (r := r) (frL n es es.length) tupI (fun l => UnB n es l) tupI (fun l hl => lp1 3 ?_) ?_ (by omega) rfl).2
      · intro _ _ _ _ _
        have hs := (hmm.mp hl).1
        have hlen := hs.length_le
        rw [rangeI_len] at hlen
        exact jtval <| jcall hr NU (ok_isun NU.F T T3 N NG NC NW) <| jA2 <| jv 0 <| jv 3 ⟨n, es, l, rfl, hn, by omega, by omega, hE, Rd.range hs, _, rfl, rfl, fun _ => rfl, fun _ _ _ _ _ _ => jv 3 ⟨rfl, rfl⟩⟩
      · refine ⟨_, rfl, ?_⟩
        rw [unL_sort hE]; exact k
end
end K24


/-! k25: filled up, by the program and by the law; lots, rings, trees by the law. -/
namespace K24
open PySem L2 DL NT
/-! ### plain -/
theorem asc_perm : ∀ {a b : List Int}, a.Perm b → a.Pairwise (· ≤ ·) → b.Pairwise (· ≤ ·) → a = b
  | [], b, p, _, _ => (List.length_eq_zero_iff.mp p.length_eq.symm).symm
  | x :: a, [], p, _, _ => by cases p.length_eq
  | x :: a, y :: b, p, h1, h2 => by
    have a1 := List.pairwise_cons.mp h1
    have b1 := List.pairwise_cons.mp h2
    have hx : x = y := by
      have i1 : x ∈ y :: b := p.subset List.mem_cons_self
      have i2 : y ∈ x :: a := p.symm.subset List.mem_cons_self
      rcases List.mem_cons.mp i1 with e | i1
      · exact e
      · rcases List.mem_cons.mp i2 with e | i2
        · exact e.symm
        · have := a1.1 y i2
          have := b1.1 x i1
          omega
    subst hx
    rw [asc_perm ((List.perm_cons x).mp p) a1.2 b1.2]
theorem sorted_fill {E : List Ed} {l ns : List Int} (h : Rd E l) (nd : l.Nodup) (hp : ns.Perm (fillL E l)) (hs : ns.Pairwise (· ≤ ·)) : ns = fillS E l :=
  asc_perm (hp.trans (fillS_perm h nd).symm) hs (((rangeI_lt E.length).sublist fillS_sub).imp fun h => by omega)
theorem join_iff {n : Nat} {E : List Ed} (hE : Ends n E) {l : List Int} (hl : Rd E l) {r : Int} (hr : 0 ≤ r ∧ r < (E.length : Int)) : pc n (ed E (l ++ [r])) < pc n (ed E l) ↔ ¬ cR E l r := by
  have h1 : Rd E (r :: l) := fun x hx => by
    rcases List.mem_cons.mp hx with rfl | hx
    · exact hr
    · exact hl x hx
  have he : Ends n (en E r :: ed E l) := ends_ed hE h1
  have p : (ed E (l ++ [r])).Perm (en E r :: ed E l) := by
    unfold ed
    rw [List.map_append]
    exact List.perm_append_singleton _ _
  rw [pc_perm (fun a b => cn_perm p) (fun e h => he e (p.mem_iff.mp h)) he]
  constructor
  · intro h c
    rw [pc_same he c] at h
    omega
  · intro nc
    have := pc_less he nc
    omega
theorem gr_snoc {E : List Ed} : ∀ {rs found : List Int} {r : Int}, gr E found (rs ++ [r]) = gr E found rs ++ gr E (found ++ gr E found rs) [r]
  | [], found, r => by
    rw [show gr E found [] = [] from rfl, List.append_nil]; rfl
  | s :: rs, found, r => by
    by_cases h : cR E found s
    · rw [gr_yes h, List.cons_append, gr_yes h]; exact gr_snoc
    · rw [gr_no h, List.cons_append, gr_no h, gr_snoc (rs := rs), List.append_assoc]; rfl
def RingB (n : Nat) (E : List Ed) (l : List Int) : Bool := !FrB n E l && (List.range l.length).all fun k => FrB n E (l.eraseIdx k)
theorem RingB_iff {n : Nat} {E : List Ed} {l : List Int} : RingB n E l = true ↔ Ring n E l := by
  unfold RingB Ring
  rw [Bool.and_eq_true, Bool.not_eq_true', List.all_eq_true]
  refine and_congr ?_ ?_
  · rw [← FrB_iff]; simp
  · exact ⟨fun h k hk => FrB_iff.mp (h k (List.mem_range.mpr hk)), fun h k hk => FrB_iff.mpr (h k (List.mem_range.mp hk))⟩
def ringsL (n : Nat) (E : List Ed) : List (List Int) := (allL E.length).filter fun l => !l.isEmpty && RingB n E l
def withinB (some lot : List Int) : Bool := some.all fun x => decide (x ∈ lot)
theorem withinB_iff {a b : List Int} : withinB a b = true ↔ ∀ x ∈ a, x ∈ b := by
  unfold withinB
  rw [List.all_eq_true]
  exact ⟨fun h x hx => of_decide_eq_true (h x hx), fun h x hx => decide_eq_true (h x hx)⟩
def brokenL (n : Nat) (E : List Ed) : List (List Int) := (ringsL n E).map List.tail
def UnLB (n : Nat) (E : List Ed) (l : List Int) : Bool := (brokenL n E).all fun b => !withinB b l
theorem UnLB_iff {n : Nat} {E : List Ed} {l : List Int} : UnLB n E l = true ↔ UnL n E l := by
  unfold UnLB UnL brokenL ringsL
  rw [List.all_eq_true]
  constructor
  · intro h C h1 h2 h3
    have := h C.tail (List.mem_map.mpr ⟨C, List.mem_filter.mpr ⟨mem_allL.mpr h1, by
      rw [RingB_iff.mpr h2, Bool.and_true]
      have := h2.ne
      cases C with
      | nil => exact (this rfl).elim
      | cons _ _ => rfl⟩, rfl⟩)
    rw [withinB_iff.mpr h3] at this; cases this
  · intro h b hb
    obtain ⟨C, hC, rfl⟩ := List.mem_map.mp hb
    obtain ⟨h1, h2⟩ := List.mem_filter.mp hC
    rw [Bool.and_eq_true] at h2
    have := h C (mem_allL.mp h1) (RingB_iff.mp h2.2)
    rw [← withinB_iff] at this
    simpa using this
/-- both looks at unbroken lots -/
theorem un_both {n : Nat} {E : List Ed} (hE : Ends n E) {l : List Int} (hl : l.Sublist (rangeI E.length)) : UnLB n E l = UnB n E l := by
  rw [Bool.eq_iff_iff, UnLB_iff, un_iff hE hl, UnB_iff hE (Rd.range hl)]
def sizedL (n : Nat) (E : List Ed) : List (List Int) := (allL E.length).filter fun l => decide (l.length + 1 = n)
def treesL (n : Nat) (E : List Ed) : List (List Int) := (sizedL n E).filter fun l => FrB n E l
def goodL (n : Nat) (E : List Ed) : List (List Int) := (treesL n E).filter fun t => (closersL n E t).isEmpty
theorem good_un {n : Nat} {E : List Ed} : (unL n E).filter (fun l => decide (l.length + 1 = n)) = goodL n E := by
  unfold unL goodL treesL sizedL UnB
  rw [List.filter_filter, List.filter_filter, List.filter_filter]
  refine List.filter_congr fun l _ => ?_
  cases decide (l.length + 1 = n) <;> cases FrB n E l <;> cases (closersL n E l).isEmpty <;> rfl
section
variable {P : Program} {w : World} {K : PySem.W.Frag} {mg : Str → Option Value} {base : Heap}
theorem sc_law_lots : FnScope ["many", "found", "one", "lot"] ["many"] (defScope (topS 33)) := ⟨rfl, rfl, rfl, by decide +kernel, rfl, by decide +kernel, by decide +kernel⟩
theorem sc_law_is_free : FnScope ["frame", "lot"] ["frame", "lot"] (defScope (topS 34)) := ⟨rfl, rfl, rfl, by decide +kernel, rfl, by decide +kernel, by decide +kernel⟩
theorem sc_law_is_ring : FnScope ["frame", "lot", "k"] ["frame", "lot"] (defScope (topS 35)) := ⟨rfl, rfl, rfl, by decide +kernel, rfl, by decide +kernel, by decide +kernel⟩
theorem sc_law_rings : FnScope ["frame", "lot"] ["frame"] (defScope (topS 36)) := ⟨rfl, rfl, rfl, by decide +kernel, rfl, by decide +kernel, by decide +kernel⟩
theorem sc_law_within : FnScope ["some", "lot", "one"] ["some", "lot"] (defScope (topS 37)) := ⟨rfl, rfl, rfl, by decide +kernel, rfl, by decide +kernel, by decide +kernel⟩
theorem sc_law_unbroken : FnScope ["frame", "broken", "ring", "lot", "one"] ["frame"] (defScope (topS 38)) := ⟨rfl, rfl, rfl, by decide +kernel, rfl, by decide +kernel, by decide +kernel⟩
theorem sc_law_busy : FnScope ["frame", "tree", "found", "road", "heads", "one"] ["frame", "tree"] (defScope (topS 39)) := ⟨rfl, rfl, rfl, by decide +kernel, rfl, by decide +kernel, by decide +kernel⟩
theorem sc_law_trees : FnScope ["frame", "some", "lot"] ["frame"] (defScope (topS 40)) := ⟨rfl, rfl, rfl, by decide +kernel, rfl, by decide +kernel, by decide +kernel⟩
/-! ### trees, filled up, by the program -/
def φTreesU : List Ar → (DL.D → Prop) → Prop := fun as Kd => ∃ (n : Nat) (E : List Ed), as = [.d (frameD n E)] ∧ n ≤ 1000 ∧ E.length ≤ 10 ∧ Ends n E ∧ Kd (.list ((goodL n E).map tupI))
theorem ok_untrees {f fG fC fW fU fL : Addr} {fd fdG fdC fdW fdU fdL : FuncData} (F : Fun K "unbroken_trees" "unbroken_trees" (topS 23) f fd) (T : Txt mg) (T3 : Txd mg) (N : DnP K mg) (NG : Dn K mg "is_ringless" (topS 19) ["frame", "lot"] fG fdG) (NC : Dn K mg "closers" (topS 20) ["frame", "lot"] fC fdC) (NW : Dn K mg "closes_with" (topS 24) ["frame", "lot", "road"] fW fdW) (NU : Dn K mg "is_unbroken" (topS 21) ["frame", "lot"] fU fdU) (NL : Dn K mg "unbroken_lots" (topS 22) ["frame"] fL fdL) : FnOk P w K mg base CX0 8 f fd ["frame"] (SpD φTreesU) := by
  refine fn_D F scunbroken_trees (fun as Kd h => ?_) (fun as Kd r cdv A outer s H E hr h => ?_)
  · obtain ⟨n, E, rfl, _⟩ := h
    rfl
  · obtain ⟨n, es, rfl, hn, hm, hE, k⟩ := h
    have nd := scunbroken_trees.nd
    have hlen : (unL n es).length ≤ 1024 := Nat.le_trans (List.length_filter_le _ _) (by rw [allL_len]; exact Nat.pow_le_pow_right (by decide) hm)
    refine jret <| JN.je <| jlc [("lot", 1)] [1] <| jiL <| jcall hr NL (ok_unlots NL.F T T3 N NG NC NW NU) <| ja1 <| jv 0 ⟨n, es, rfl, hn, hm, hE, (unL n es).map tupI, rfl, lcL (unL n es) tupI (fun l => decide (l.length + 1 = n)) tupI (fun l hl => lp1 1 ?_) ?_⟩
    · intro _ _ _ _ _
      refine jtcmp op_eqD <| jlen T.len <| jv 1 ⟨l.map .int, .inr rfl, je_op op_sub <| jix ix_tup <| jv 0 <| je_int <| od_ixT (d := .int (n : Int)) rfl <| je_int <| od_I0 <| od_eq (α := Int) hr (by decide) ⟨_, rfl, ?_, fun _ => rfl, fun _ _ _ _ _ _ => jv 1 ⟨rfl, rfl⟩⟩⟩
      rw [Bool.eq_iff_iff, decide_eq_true_eq, decide_eq_true_eq, List.length_map]; omega
    · rw [good_un]; exact k
def φFill : List Ar → (DL.D → Prop) → Prop := fun as Kd => ∃ (n : Nat) (E : List Ed) (l : List Int), as = [.d (frameD n E), .d (tupI l)] ∧ 0 < n ∧ n ≤ 1000 ∧ E.length ≤ 1000 ∧ Ends n E ∧ Whole n E ∧ l.Sublist (rangeI E.length) ∧ Fr n E l ∧ Kd (tupI (fillS E l))
theorem asc_nodup {m : Nat} {l : List Int} (h : l.Sublist (rangeI m)) : l.Nodup := List.nodup_iff_pairwise_ne.mpr (((rangeI_lt m).sublist h).imp fun h => by omega)
/-! ### filled up, by the law -/
end
end K24


/-! k25: the law's lots, rings, trees. -/
namespace K24
open PySem L2 DL NT
theorem erase_cut (l : List Int) (k : Nat) : l.take k ++ l.drop (k + 1) = l.eraseIdx k := (List.eraseIdx_eq_take_drop_succ l k).symm
section
variable {P : Program} {w : World} {K : PySem.W.Frag} {mg : Str → Option Value} {base : Heap}
structure DnQ (K : PySem.W.Frag) (mg : Str → Option Value) where
  {aH aP aF : Addr}
  {fH fP fF : FuncData}
  h : Dn K mg "_law_heads" (topS 31) ["frame", "lot"] aH fH
  p : Dn K mg "_law_pieces" (topS 32) ["frame", "lot"] aP fP
  f : Dn K mg "_law_is_free" (topS 34) ["frame", "lot"] aF fF
/-! ### all lots -/
def φLLots : List Ar → (DL.D → Prop) → Prop := fun as Kd => ∃ m : Nat, as = [.d (.int m)] ∧ m ≤ 12 ∧ Kd (.list ((allL m).map tupI))
theorem ok_llots {f : Addr} {fd : FuncData} (F : Fun K "_law_lots" "_law_lots" (topS 33) f fd) (T : Txt mg) (T3 : Txd mg) : FnOk P w K mg base CX0 1 f fd ["many"] (SpD φLLots) := by
  refine fn_D F sc_law_lots (fun as Kd h => ?_) (fun as Kd r cdv A outer s H E hr h => ?_)
  · obtain ⟨m, rfl, _⟩ := h
    rfl
  · obtain ⟨m, rfl, hm, k⟩ := h
    have nd := sc_law_lots.nd
    have hz : sizeLine = 16777216 := sizeLine_eq
    refine jset 1 <| JN.je <| jlst1 <| jtup0 ?_
    refine jfor [2] (jrange1 T.ran <| jv 0 ⟨(m : Int), rfl, by omega, by omega, ?_⟩)
    rw [show ((m : Nat) : Int).toNat = m by omega, rangeD_I]
    refine ⟨fun i S' => ∃ o, S' = [.val (.int m), .val (.list ((partsL ((rangeI m).take i)).map tupI)), o, .emp], ⟨.emp, rfl⟩, ?_, ?_⟩
    · rintro i d S' hd ⟨o, rfl⟩
      obtain ⟨x, hx, hxi, rfl⟩ := get_map hd
      refine jg 2 ?_
      have hm2 : ∀ p ∈ partsL ((rangeI m).take i), p.length ≤ 12 := fun p hp => Nat.le_trans (mem_partsL.mp hp).length_le (by rw [List.length_take, rangeI_len]; omega)
      have hpl : (partsL ((rangeI m).take i)).length ≤ 4096 := by
        rw [partsL_len]
        exact Nat.pow_le_pow_right (by decide) (show _ ≤ 12 by rw [List.length_take, rangeI_len]; omega)
      have e0 : partsL ((rangeI m).take (i + 1)) = partsS (partsL ((rangeI m).take i)) x := by rw [show (rangeI m).take (i + 1) = (rangeI m).take i ++ [x] by rw [List.take_succ, hxi]; rfl, partsL_snoc]
      generalize partsL ((rangeI m).take i) = fs at *
      refine jset 1 <| JN.je <| jn_cat <| jv 1 <| JN.je <| jlc [("lot", 3)] [3] <| jiL <| jv 1 ⟨fs.map tupI, rfl, lcL fs tupI (fun _ => true) (fun p => tupI (p ++ [x])) (fun p hpm => lp0 3 ?_) ?_⟩
      · intro _ _ _ _ _
        refine je_op op_catA <| jv 3 <| jtup1 <| jv 2 <| od_catT ?_ ⟨?_, rfl⟩
        · rw [List.length_map, List.length_singleton]
          have := hm2 p hpm
          omega
        · show PyData.tuple (p.map .int ++ [.int x]) = tupI (p ++ [x])
          unfold tupI; rw [List.map_append]; rfl
      · rw [filter_true]
        refine ⟨fs.map tupI, fs.map fun p => tupI (p ++ [x]), rfl, rfl, ?_, jss_nil ⟨.val (.int x), ?_⟩⟩
        · rw [List.length_map, List.length_map]; omega
        · have e : (partsS fs x).map tupI = fs.map tupI ++ fs.map fun p => tupI (p ++ [x]) := by
            unfold partsS; rw [List.map_append, List.map_map]; rfl
          rw [e0, e]; rfl
    · rintro S' ⟨o, rfl⟩
      rw [List.length_map, List.take_length]
      exact jret <| JN.je <| jsortL hr T3.srt <| jv 1 ⟨_, rfl, k⟩
/-! ### free lots, rings -/
theorem ok_lfree {f : Addr} {fd : FuncData} (F : Fun K "_law_is_free" "_law_is_free" (topS 34) f fd) (T : Txt mg) (T3 : Txd mg) {aH aP : Addr} {fH fP : FuncData} (NH : Dn K mg "_law_heads" (topS 31) ["frame", "lot"] aH fH) (NP : Dn K mg "_law_pieces" (topS 32) ["frame", "lot"] aP fP) : FnOk P w K mg base CX0 3 f fd ["frame", "lot"] (SpD (φBool FrB)) := by
  refine fn_D F sc_law_is_free (fun as Kd h => ?_) (fun as Kd r cdv A outer s H E hr h => ?_)
  · obtain ⟨n, E, l, rfl, _⟩ := h
    rfl
  · obtain ⟨n, es, l, rfl, hn, hm, hll, hE, hl, k⟩ := h
    have nd := sc_law_is_free.nd
    refine jret <| jcmp op_eqD <| jcall hr NP (ok_lpieces NP.F T T3 NH) <| jA2 <| jv 0 <| jv 1 ⟨n, es, l, tupI l, rfl, .inl rfl, hn, hE, hl, je_op op_sub <| jix ix_tup <| jv 0 <| je_int <| od_ixT (d := .int (n : Int)) rfl <| jlen T.len <| jv 1 ⟨l.map .int, .inr rfl, od_I0 <| od_eq (α := Int) hr (by decide) ?_⟩⟩
    have e : decide ((pc n (ed es l) : Int) = (n : Int) - ((l.map PyData.int).length : Int)) = FrB n es l := by
      unfold FrB
      rw [Bool.eq_iff_iff, decide_eq_true_eq, decide_eq_true_eq, List.length_map]; omega
    rw [e]; exact k
theorem ok_lring {f : Addr} {fd : FuncData} (F : Fun K "_law_is_ring" "_law_is_ring" (topS 35) f fd) (T : Txt mg) (T3 : Txd mg) (Q : DnQ K mg) : FnOk P w K mg base CX0 4 f fd ["frame", "lot"] (SpD (φBool RingB)) := by
  refine fn_D F sc_law_is_ring (fun as Kd h => ?_) (fun as Kd r cdv A outer s H E hr h => ?_)
  · obtain ⟨n, E, l, rfl, _⟩ := h
    rfl
  · obtain ⟨n, es, l, rfl, hn, hm, hll, hE, hl, k⟩ := h
    have nd := sc_law_is_ring.nd
    have hz : sizeLine = 16777216 := sizeLine_eq
    have GF := ok_lfree (P := P) (w := w) (base := base) Q.f.F T T3 Q.h Q.p
    unfold RingB at k
    refine jif <| jtval <| jcall hr Q.f GF <| jA2 <| jv 0 <| jv 1 ⟨n, es, l, rfl, hn, hm, hll, hE, hl, _, rfl, ifb (fun e => ?_) (fun e => jss_nil ?_)⟩
    · rw [e] at k
      exact jret <| je_bl k
    · rw [e] at k
      refine jret <| jcmp op_eqL0 <| JN.je <| jlc [("k", 2)] [2] <| jrange1 T.ran <| jlen T.len <| jv 1 ⟨l.map .int, .inr rfl, (l.length : Nat), by rw [List.length_map], by omega, by omega, lcR (m := l.length) (fun k => !FrB n es (l.eraseIdx k)) (fun (k : Nat) => .int (k : Int)) (fun j hj => lp1 2 ?_) ?_ (by omega) (by omega)⟩
      · intro _ _ _ _ _
        refine jt_not <| jtval <| jcall hr Q.f GF <| jA2 <| jv 0 <| je_op op_catA <| je_cutTo <| jv 1 <| jv 2 ⟨l.map .int, j, rfl, rfl, je_cutFrom <| jv 1 <| je_op op_add <| jv 2 <| je_int <| od_I0 ⟨l.map .int, j + 1, rfl, rfl, od_catT ?_ ?_⟩⟩
        · rw [List.length_take, List.length_drop, List.length_map]; omega
        · rw [← List.map_take, ← List.map_drop, ← List.map_append, erase_cut]
          exact ⟨n, es, l.eraseIdx j, rfl, hn, hm, Nat.le_trans (List.length_eraseIdx_le _ _) hll, hE, hl.sub fun x hx => (List.eraseIdx_sublist _ _).subset hx, _, rfl, rfl, fun _ => rfl, fun _ _ _ _ _ _ => jv 2 ⟨rfl, rfl⟩⟩
      · refine JN.je (jn_lst (jA0 ⟨[], rfl, Nat.zero_le _, od_eqL0 hr ?_⟩))
        rw [if_neg Bool.false_ne_true, isEmpty_map, isEmpty_filter_not]
        exact k
def φLRings : List Ar → (DL.D → Prop) → Prop := fun as Kd => ∃ (n : Nat) (E : List Ed), as = [.d (frameD n E)] ∧ n ≤ 1000 ∧ E.length ≤ 10 ∧ Ends n E ∧ Kd (.list ((ringsL n E).map tupI))
theorem all_small {m : Nat} (hm : m ≤ 10) : (allL m).length ≤ 1024 := by rw [allL_len]; exact Nat.pow_le_pow_right (by decide) hm
theorem ok_lrings {f fL fR : Addr} {fd fdL fdR : FuncData} (F : Fun K "_law_rings" "_law_rings" (topS 36) f fd) (T : Txt mg) (T3 : Txd mg) (Q : DnQ K mg) (NL : Dn K mg "_law_lots" (topS 33) ["many"] fL fdL) (NR : Dn K mg "_law_is_ring" (topS 35) ["frame", "lot"] fR fdR) : FnOk P w K mg base CX0 5 f fd ["frame"] (SpD φLRings) := by
  refine fn_D F sc_law_rings (fun as Kd h => ?_) (fun as Kd r cdv A outer s H E hr h => ?_)
  · obtain ⟨n, E, rfl, _⟩ := h
    rfl
  · obtain ⟨n, es, rfl, hn, hm, hE, k⟩ := h
    have nd := sc_law_rings.nd
    have hal := all_small hm
    refine jret <| JN.je <| jlc [("lot", 1)] [1] <| jiL <| jcall hr NL (ok_llots NL.F T T3) <| ja1 <| jlen T.len <| jix ix_tup <| jv 0 <| je_int <| od_ixT (d := .tuple (es.map edD)) rfl ⟨es.map edD, .inr rfl, es.length, by rw [List.length_map], by omega, (allL es.length).map tupI, rfl, lcL (allL es.length) tupI (fun l => !l.isEmpty && RingB n es l) tupI (fun l hl => lp1 1 ?_) k⟩
    intro _ _ _ _ _
    have hs := mem_allL.mp hl
    have hll := hs.length_le
    rw [rangeI_len] at hll
    refine JT.keep (!l.isEmpty && RingB n es l) ?_ ⟨rfl, fun _ => rfl, fun _ _ _ _ _ _ => jv 1 ⟨rfl, rfl⟩⟩
    refine JW.jt <| jw_and <| jtcmp op_neD <| jv 1 <| jtup0 <| od_neG hr (nice_tupI _) (nice_tup (n := 49) nice_nil) ⟨_, rfl, ?_⟩
    have e : (!PyData.eqv (tupI l) (.tuple [])) = !l.isEmpty := by
      rw [show (PyData.tuple [] : DL.D) = tupI [] from rfl, eqv_tupI]
      cases l <;> simp
    rw [e]
    refine ifb (fun e => ?_) (fun e => ⟨rfl, by rw [e]; rfl⟩)
    exact jw_and1 <| jtval <| jcall hr NR (ok_lring NR.F T T3 Q) <| jA2 <| jv 0 <| jv 1 ⟨n, es, l, rfl, hn, by omega, by omega, hE, Rd.range hs, _, rfl, rfl, by rw [e, Bool.true_and]⟩
/-! ### unbroken lots -/
def φWithin : List Ar → (DL.D → Prop) → Prop := fun as Kd => ∃ a b : List Int, as = [.d (tupI a), .d (tupI b)] ∧ a.length ≤ 1000 ∧ Kd (.bool (withinB a b))
theorem ok_within {f : Addr} {fd : FuncData} (F : Fun K "_law_within" "_law_within" (topS 37) f fd) : FnOk P w K mg base CX0 1 f fd ["some", "lot"] (SpD φWithin) := by
  refine fn_D F sc_law_within (fun as Kd h => ?_) (fun as Kd r cdv A outer s H E hr h => ?_)
  · obtain ⟨a, b, rfl, _⟩ := h
    rfl
  · obtain ⟨a, b, rfl, hl, k⟩ := h
    have nd := sc_law_within.nd
    refine jret <| jcmp op_eqL0 <| JN.je <| jlc [("one", 2)] [2] <| jiT <| jv 0 ⟨a.map .int, rfl, lcL a .int (fun x => !decide (x ∈ b)) .int (fun x hx => lp1 2 ?_) ?_⟩
    · intro _ _ _ _ _
      exact jtcmp op_notInD <| jv 2 <| jv 1 <| od_niT (α := Int) hr (by decide) ⟨_, rfl, rfl, fun _ => rfl, fun _ _ _ _ _ _ => jv 2 ⟨rfl, rfl⟩⟩
    · refine JN.je (jn_lst (jA0 ⟨[], rfl, Nat.zero_le _, od_eqL0 hr ?_⟩))
      rw [if_neg Bool.false_ne_true, isEmpty_map, isEmpty_filter_not]
      exact k
theorem un_filter {n : Nat} {E : List Ed} (hE : Ends n E) : (allL E.length).filter (fun l => UnLB n E l) = unL n E := List.filter_congr fun l hl => un_both hE (mem_allL.mp hl)
theorem ok_lun {f fL fR fG fW : Addr} {fd fdL fdR fdG fdW : FuncData} (F : Fun K "_law_unbroken" "_law_unbroken" (topS 38) f fd) (T : Txt mg) (T3 : Txd mg) (Q : DnQ K mg) (NL : Dn K mg "_law_lots" (topS 33) ["many"] fL fdL) (NR : Dn K mg "_law_is_ring" (topS 35) ["frame", "lot"] fR fdR) (NG : Dn K mg "_law_rings" (topS 36) ["frame"] fG fdG) (NW : Dn K mg "_law_within" (topS 37) ["some", "lot"] fW fdW) : FnOk P w K mg base CX0 6 f fd ["frame"] (SpD φUnL) := by
  refine fn_D F sc_law_unbroken (fun as Kd h => ?_) (fun as Kd r cdv A outer s H E hr h => ?_)
  · obtain ⟨n, E, rfl, _⟩ := h
    rfl
  · obtain ⟨n, es, rfl, hn, hm, hE, k⟩ := h
    have nd := sc_law_unbroken.nd
    have hal := all_small hm
    have hrl : (ringsL n es).length ≤ 1024 := Nat.le_trans (List.length_filter_le _ _) hal
    have hbl : ∀ b ∈ brokenL n es, b.length ≤ 10 := fun b hb => by
      obtain ⟨C, hC, rfl⟩ := List.mem_map.mp hb
      have h1 := (mem_allL.mp (List.mem_filter.mp hC).1).length_le
      rw [rangeI_len] at h1
      rw [List.length_tail]; omega
    refine jsetN 1 <| jlc [("ring", 2)] [2] <| jiL <| jcall hr NG (ok_lrings NG.F T T3 Q NL NR) <| ja1 <| jv 0 ⟨n, es, rfl, hn, hm, hE, (ringsL n es).map tupI, rfl, lcL (ringsL n es) tupI (fun _ => true) (fun l => tupI l.tail) (fun l hl => lp0 2 ?_) ?_⟩
    · intro _ _ _ _ _
      refine je_cutFrom <| jv 2 <| je_int ⟨l.map .int, 1, rfl, rfl, ?_, rfl⟩
      rw [← List.map_drop, List.drop_one]; rfl
    rw [filter_true, show (ringsL n es).map (fun l => tupI l.tail) = (brokenL n es).map tupI by unfold brokenL; rw [List.map_map]; rfl]
    have hbn : (brokenL n es).length ≤ 1024 := by unfold brokenL; rw [List.length_map]; exact hrl
    refine jss_frz 1 rfl ?_
    refine jret <| JN.je <| jlc [("lot", 3)] [3] <| jiL <| jcall hr NL (ok_llots NL.F T T3) <| ja1 <| jlen T.len <| jix ix_tup <| jv 0 <| je_int <| od_ixT (d := .tuple (es.map edD)) rfl ⟨es.map edD, .inr rfl, es.length, by rw [List.length_map], by omega, (allL es.length).map tupI, rfl, lcL (allL es.length) tupI (fun l => UnLB n es l) tupI (fun l hl => lp1 3 ?_) ?_⟩
    · intro _ _ _ _ _
      refine jtcmp op_eqL0 <| JN.je <| jlc [("one", 4)] [4] <| jiL <| jv 1 ⟨(brokenL n es).map tupI, rfl, lcL (brokenL n es) tupI (fun b => withinB b l) tupI (fun b hb => lp1 4 ?_) ?_⟩
      · intro _ _ _ _ _
        exact jtval <| jcall hr NW (ok_within NW.F) <| jA2 <| jv 4 <| jv 3 ⟨b, l, rfl, by have := hbl b hb; omega, _, rfl, rfl, fun _ => rfl, fun _ _ _ _ _ _ => jv 4 ⟨rfl, rfl⟩⟩
      · refine JN.je (jn_lst (jA0 ⟨[], rfl, Nat.zero_le _, od_eqL0 hr ⟨_, rfl, ?_, fun _ => rfl, fun _ _ _ _ _ _ => jv 3 ⟨rfl, rfl⟩⟩⟩))
        rw [if_neg Bool.false_ne_true, isEmpty_map]
        unfold UnLB
        have := isEmpty_filter_not (l := brokenL n es) (p := fun b => !withinB b l)
        simp only [Bool.not_not] at this
        exact this
    · rw [un_filter hE]; exact k
/-! ### busy roads, trees -/
def φBusy : List Ar → (DL.D → Prop) → Prop := fun as Kd => ∃ (n : Nat) (E : List Ed) (l : List Int), as = [.d (frameD n E), .d (tupI l)] ∧ n ≤ 1000 ∧ E.length ≤ 1000 ∧ l.length ≤ 1000 ∧ Ends n E ∧ Rd E l ∧ Kd (.list ((closersL n E l).map .int))
theorem ok_lbusy {f fH : Addr} {fd fdH : FuncData} (F : Fun K "_law_busy" "_law_busy" (topS 39) f fd) (T : Txt mg) (NH : Dn K mg "_law_heads" (topS 31) ["frame", "lot"] fH fdH) : FnOk P w K mg base CX0 2 f fd ["frame", "tree"] (SpD φBusy) := by
  refine fn_D F sc_law_busy (fun as Kd h => ?_) (fun as Kd r cdv A outer s H E hr h => ?_)
  · obtain ⟨n, E, l, rfl, _⟩ := h
    rfl
  · obtain ⟨n, es, l, rfl, hn, hm, hll, hE, hl, k⟩ := h
    have nd := sc_law_busy.nd
    have hz : sizeLine = 16777216 := sizeLine_eq
    refine jsetN 2 <| jn_lst (jA0 ⟨[], rfl, Nat.zero_le _, ?_⟩)
    refine jfor [3] (jrange1 T.ran <| jlen T.len <| jix ix_tup <| jv 0 <| je_int <| od_ixT (d := .tuple (es.map edD)) rfl ⟨es.map edD, .inr rfl, (es.length : Nat), by rw [List.length_map], by omega, by omega, ?_⟩)
    rw [show ((es.length : Nat) : Int).toNat = es.length by omega, rangeD_I]
    refine ⟨fun i S' => ∃ (o3 : Option DL.D) (s4 : Sl), S' = [.val (frameD n es), .val (tupI l), .own ((((rangeI es.length).take i).filter fun r => !decide (r ∈ l) && closeB n es l r).map .int), vS o3, s4, .emp], ⟨none, .emp, rfl⟩, ?_, ?_⟩
    · rintro i d S' hd ⟨o3, s4, rfl⟩
      obtain ⟨x, hx, hxi, rfl⟩ := get_map hd
      have hxr := mem_rangeI.mp hx
      have he := hE _ (en_mem hxr)
      have tk : ((rangeI es.length).take (i + 1)).filter (fun r => !decide (r ∈ l) && closeB n es l r) = ((rangeI es.length).take i).filter (fun r => !decide (r ∈ l) && closeB n es l r) ++ if (!decide (x ∈ l) && closeB n es l x) = true then [x] else [] := by
        rw [List.take_succ, hxi, List.filter_append]
        congr 1
        by_cases e : (!decide (x ∈ l) && closeB n es l x) = true
        · rw [if_pos e]; exact List.filter_cons_of_pos e
        · rw [if_neg e]; exact List.filter_cons_of_neg e
      have hfl := List.length_filter_le (fun r => !decide (r ∈ l) && closeB n es l r) ((rangeI es.length).take i)
      rw [List.length_take, rangeI_len] at hfl
      generalize ((rangeI es.length).take i).filter (fun r => !decide (r ∈ l) && closeB n es l r) = fs at *
      refine jg 3 ?_
      refine jif <| jtcmp op_notInD <| jv 3 <| jv 1 <| od_niT (α := Int) hr (by decide) ⟨_, rfl, ifb (fun e => ?_) (fun e => jss_nil <| jss_nil ⟨some (.int x), s4, ?_⟩)⟩
      · rw [e, Bool.true_and] at tk
        have hlr : Rd es (laterL l x) := fun y hy => hl y (List.mem_filter.mp hy).1
        have hcl := closeB_iff hE hl hxr
        have hlen : (laterL l x).length ≤ l.length := List.length_filter_le _ _
        refine jset 4 <| jcall hr NH (ok_lheads NH.F T) <| jA2 <| jv 0 <| JN.je <| jlc [("one", 5)] [5] <| jiT <| jv 1 ⟨l.map .int, rfl, lcL l .int (fun y => decide (y > x)) .int (fun y hy => lp1 5 ?_) ?_⟩
        · intro _ _ _ _ _
          exact jtcmp op_gt <| jv 5 <| jv 3 <| od_B0 ⟨_, rfl, rfl, fun _ => rfl, fun _ _ _ _ _ _ => jv 5 ⟨rfl, rfl⟩⟩
        refine ⟨n, es, laterL l x, _, rfl, .inr rfl, hn, hE, hlr, fun g hg => ?_⟩
        have hker := hg.ker _ _ he.1 he.2
        refine jif <| jtcmp op_eqD <| jix ix_list <| jv 4 <| jix ix_tup <| jix ix_tup <| jix ix_tup <| jv 0 <| je_int <| od_ixT (d := .tuple (es.map edD)) rfl <| jv 3 <| od_ixT (edD_at hxr) <| je_int <| od_ixT (d := .int ((en es x).1 : Int)) rfl <| od_ixL (hsD_at he.1) ?_
        refine jix ix_list <| jv 4 <| jix ix_tup <| jix ix_tup <| jix ix_tup <| jv 0 <| je_int <| od_ixT (d := .tuple (es.map edD)) rfl <| jv 3 <| od_ixT (edD_at hxr) <| je_int <| od_ixT (d := .int ((en es x).2 : Int)) rfl <| od_ixL (hsD_at he.2) <| od_eq (α := Int) hr (by decide) ⟨_, rfl, ?_⟩
        by_cases c : g (en es x).1 = g (en es x).2
        · rw [if_pos (hcl.mpr (hker.mp c))] at tk
          refine ift (decide_eq_true (by rw [c])) ?_
          refine jappend 2 _ <| jv 3 ⟨fs.map .int, rfl, by rw [List.length_map]; omega, jss_nil <| jss_nil <| jss_nil ⟨some (.int x), .val (.list (hsD n g)), ?_⟩⟩
          rw [tk, List.map_append]; rfl
        · rw [if_neg fun z => c (hker.mpr (hcl.mp z)), List.append_nil] at tk
          refine iff' (decide_eq_false (by omega)) <| jss_nil <| jss_nil <| jss_nil ⟨some (.int x), .val (.list (hsD n g)), ?_⟩
          rw [tk]; rfl
      · rw [e, Bool.false_and, if_neg Bool.false_ne_true, List.append_nil] at tk
        rw [tk]; rfl
    · rintro S' ⟨o3, s4, rfl⟩
      rw [List.length_map, List.take_length]
      exact jret <| jo 2 k
def φLTrees : List Ar → (DL.D → Prop) → Prop := fun as Kd => ∃ (n : Nat) (E : List Ed), as = [.d (frameD n E)] ∧ n ≤ 1000 ∧ E.length ≤ 10 ∧ Ends n E ∧ Kd (.list ((treesL n E).map tupI))
theorem ok_ltrees {f fL : Addr} {fd fdL : FuncData} (F : Fun K "_law_trees" "_law_trees" (topS 40) f fd) (T : Txt mg) (T3 : Txd mg) (Q : DnQ K mg) (NL : Dn K mg "_law_lots" (topS 33) ["many"] fL fdL) : FnOk P w K mg base CX0 4 f fd ["frame"] (SpD φLTrees) := by
  refine fn_D F sc_law_trees (fun as Kd h => ?_) (fun as Kd r cdv A outer s H E hr h => ?_)
  · obtain ⟨n, E, rfl, _⟩ := h
    rfl
  · obtain ⟨n, es, rfl, hn, hm, hE, k⟩ := h
    have nd := sc_law_trees.nd
    have hal := all_small hm
    refine jsetLc 1 [("lot", 2)] [2] <| jiL <| jcall hr NL (ok_llots NL.F T T3) <| ja1 <| jlen T.len <| jix ix_tup <| jv 0 <| je_int <| od_ixT (d := .tuple (es.map edD)) rfl ⟨es.map edD, .inr rfl, es.length, by rw [List.length_map], by omega, (allL es.length).map tupI, rfl, lcL (allL es.length) tupI (fun l => decide (l.length + 1 = n)) tupI (fun l hl => lp1 2 ?_) ?_⟩
    · intro _ _ _ _ _
      refine jtcmp op_eqD <| jlen T.len <| jv 2 ⟨l.map .int, .inr rfl, je_op op_sub <| jix ix_tup <| jv 0 <| je_int <| od_ixT (d := .int (n : Int)) rfl <| je_int <| od_I0 <| od_eq (α := Int) hr (by decide) ⟨_, rfl, ?_, fun _ => rfl, fun _ _ _ _ _ _ => jv 2 ⟨rfl, rfl⟩⟩⟩
      rw [Bool.eq_iff_iff, decide_eq_true_eq, decide_eq_true_eq, List.length_map]; omega
    rw [show ((allL es.length).filter fun l => decide (l.length + 1 = n)) = sizedL n es from rfl]
    have hsl : (sizedL n es).length ≤ 1024 := Nat.le_trans (List.length_filter_le _ _) hal
    refine jss_frz 1 rfl ?_
    refine jret <| JN.je <| jlc [("lot", 2)] [2] <| jiL <| jv 1 ⟨(sizedL n es).map tupI, rfl, lcL (sizedL n es) tupI (fun l => FrB n es l) tupI (fun l hl => lp1 2 ?_) k⟩
    intro _ _ _ _ _
    have hs := mem_allL.mp (List.mem_filter.mp hl).1
    have hll := hs.length_le
    rw [rangeI_len] at hll
    exact jtval <| jcall hr Q.f (ok_lfree Q.f.F T T3 Q.h Q.p) <| jA2 <| jv 0 <| jv 2 ⟨n, es, l, rfl, hn, by omega, by omega, hE, Rd.range hs, _, rfl, rfl, fun _ => rfl, fun _ _ _ _ _ _ => jv 2 ⟨rfl, rfl⟩⟩
end
end K24


/-! k25: drawn frames. -/
namespace K24
open PySem L2 DL NT
section
variable {X : Cx} {r : SR} {S : List Sl}
/-- [e for x in ..], draws and all: the slots as before, each item as its place lets -/
theorem jn_lcD {elt tg iter : Expr} {scope : Scope} {pos : Pos} (own : List (Str × Nat)) (ts : List Nat) {K : List D → List Sl → Prop} (h : JI X r tg iter S fun ds S1 => ∃ P : Nat → D → Prop, noOwn (own.map (·.2)) S1 = true ∧ ds.length ≤ 1000000 ∧ (∀ i d, ds[i]? = some d → Blk X scope fun Y => JG Y r tg ts d (wipeS S1 (own.map (·.2))) fun S2 => Blk X scope fun Y => JE Y r elt S2 fun y S4 => P i y ∧ mrg (own.map (·.2)) S1 S4 = S1) ∧ ∀ zs : List D, zs.length = ds.length → (∀ i z, zs[i]? = some z → P i z) → K zs S1)
    (hc : X.calm = true := by rfl) (hN : X.N.Nodup := by assumption) (ok : BlkOk X.N X.env.scope scope own := by exact blkOk_by rfl) (hs : ∀ x, foldedSetIterable iter X.env x = pure x := by intro _; rfl) (hts : ∀ j ∈ ts, j ∈ own.map (·.2) := by decide) : JN X r (.ListComp elt [⟨tg, iter, [], 0⟩] scope pos) S K :=
  jn_lc own ts hc hN ok hs hts (h.mono fun ds S1 ⟨P, ho, hl, ht, hk⟩ => ⟨fun i acc S' => S' = S1 ∧ acc.length = i ∧ ∀ j z, acc[j]? = some z → P j z, ⟨rfl, rfl, fun j z hz => nomatch hz⟩, fun i acc S' ⟨e, ha, _⟩ hi => by
    subst e
    refine ⟨?_, noOwn_of ho⟩
    have hz : sizeLine = 16777216 := sizeLine_eq
    omega, fun i d acc S' hd ⟨e, ha, hp⟩ => by
    subst e
    intro s1 H1 C1 cl1 fp1
    refine (ht i d hd s1 H1 C1 cl1 fp1).mono fun S2 h2 => ?_
    intro s2 H2 C2 cl2 fp2
    refine jts_nil ?_
    rw [if_pos rfl]
    intro s3 H3 C3 cl3 fp3
    refine (h2 s3 H3 C3 cl3 fp3).mono fun y S4 ⟨hy, hm⟩ => ⟨hm, by rw [List.length_append, ha]; rfl, fun j z hz => ?_⟩
    by_cases hj : j < acc.length
    · rw [List.getElem?_append_left hj] at hz
      exact hp j z hz
    · rw [List.getElem?_append_right (by omega)] at hz
      have : j - acc.length = 0 := by
        cases hk : j - acc.length with
        | zero => rfl
        | succ k => rw [hk] at hz; simp at hz
      rw [this] at hz
      obtain rfl : y = z := by simpa using hz
      rw [show j = i by omega]; exact hy, fun acc S' ⟨e, ha, hp⟩ => by subst e; exact hk acc ha hp⟩)
/-- y = [..] so, y a plain local name -/
theorem jsetLcD {y : Str} {py : Pos} {elt tg iter : Expr} {scope : Scope} {pos spos : Pos} {rest : List Stmt} {E : DE} (i : Nat) (own : List (Str × Nat)) (ts : List Nat)
    (h : JI X r tg iter S fun ds S1 => ∃ P : Nat → D → Prop, noOwn (own.map (·.2)) S1 = true ∧ ds.length ≤ 1000000 ∧ (∀ i d, ds[i]? = some d → Blk X scope fun Y => JG Y r tg ts d (wipeS S1 (own.map (·.2))) fun S2 => Blk X scope fun Y => JE Y r elt S2 fun y S4 => P i y ∧ mrg (own.map (·.2)) S1 S4 = S1) ∧ ∀ zs : List D, zs.length = ds.length → (∀ i z, zs[i]? = some z → P i z) → JSs X r rest (S1.set i (.own zs)) E)
    (hc : X.calm = true := by rfl) (hN : X.N.Nodup := by assumption) (hy : X.N[i]? = some y := by rfl) (hyl : X.env.scope.names.lookup y = some .local := by rfl) (hsw : swapsWith (.ListComp elt [⟨tg, iter, [], 0⟩] scope pos) (some (.Name y py)) spos.line X.env = pure true := by exact sw_true rfl rfl rfl (by decide +kernel))
    (ok : BlkOk X.N X.env.scope scope own := by exact blkOk_by rfl) (hs : ∀ x, foldedSetIterable iter X.env x = pure x := by intro _; rfl) (hts : ∀ j ∈ ts, j ∈ own.map (·.2) := by decide) : JSs X r (.Assign [.Name y py] (.ListComp elt [⟨tg, iter, [], 0⟩] scope pos) spos :: rest) S E :=
  jss_cons (js_setP i (ps_setLc hc hN hy hyl hsw pi_tI ok pg_tGb pts_tTsb pe_tEb hs) (lc_run (K := fun zs S' => JSs X r rest (S'.set i (.own zs)) E) ts hts (h.mono fun ds S1 ⟨P, ho, hl, ht, hk⟩ => ⟨fun i acc S' => S' = S1 ∧ acc.length = i ∧ ∀ j z, acc[j]? = some z → P j z, ⟨rfl, rfl, fun j z hz => nomatch hz⟩, fun i acc S' ⟨e, ha, _⟩ hi => by
    subst e
    refine ⟨?_, noOwn_of ho⟩
    have hz : sizeLine = 16777216 := sizeLine_eq
    omega, fun i d acc S' hd ⟨e, ha, hp⟩ => by
    subst e
    intro s1 H1 C1 cl1 fp1
    refine (ht i d hd s1 H1 C1 cl1 fp1).mono fun S2 h2 => ?_
    intro s2 H2 C2 cl2 fp2
    refine jts_nil ?_
    rw [if_pos rfl]
    intro s3 H3 C3 cl3 fp3
    refine (h2 s3 H3 C3 cl3 fp3).mono fun y S4 ⟨hy, hm⟩ => ⟨hm, by rw [List.length_append, ha]; rfl, fun j z hz => ?_⟩
    by_cases hj : j < acc.length
    · rw [List.getElem?_append_left hj] at hz
      exact hp j z hz
    · rw [List.getElem?_append_right (by omega)] at hz
      have : j - acc.length = 0 := by
        cases hk : j - acc.length with
        | zero => rfl
        | succ k => rw [hk] at hz; simp at hz
      rw [this] at hz
      obtain rfl : y = z := by simpa using hz
      rw [show j = i by omega]; exact hy, fun acc S' ⟨e, ha, hp⟩ => by subst e; exact hk acc ha hp⟩)))
end
/-! ### plain -/
/-- each crossing but 0 is tied to a lesser one -/
structure Tied (n k : Nat) (E : List Ed) : Prop where
  ends : Ends n E
  nl : ∀ e ∈ E, e.1 ≠ e.2
  tie : ∀ b, 1 ≤ b → b < k → ∃ a, a < b ∧ ((a, b) ∈ E ∨ (b, a) ∈ E)
theorem Tied.add {n k : Nat} {E : List Ed} (h : Tied n k E) {a b : Nat} (ha : a < n) (hb : b < n) (hab : a ≠ b) : Tied n k (E ++ [(a, b)]) := ⟨fun e he => by
  rcases List.mem_append.mp he with he | he
  · exact h.ends e he
  · rw [List.mem_singleton.mp he]; exact ⟨ha, hb⟩, fun e he => by
  rcases List.mem_append.mp he with he | he
  · exact h.nl e he
  · rw [List.mem_singleton.mp he]; exact hab, fun c h1 h2 => by
  obtain ⟨x, h3, h4⟩ := h.tie c h1 h2
  exact ⟨x, h3, h4.imp (fun z => List.mem_append.mpr (.inl z)) fun z => List.mem_append.mpr (.inl z)⟩⟩
theorem Tied.next {n k : Nat} {E : List Ed} (h : Tied n k E) {a : Nat} (ha : a < k) (hk : k < n) : Tied n (k + 1) (E ++ [(a, k)]) := ⟨(h.add (by omega) hk (by omega)).ends, (h.add (by omega) hk (by omega)).nl, fun c h1 h2 => by
  by_cases e : c = k
  · subst e
    exact ⟨a, ha, .inl (List.mem_append.mpr (.inr List.mem_cons_self))⟩
  · exact (h.add (by omega) hk (by omega)).tie c h1 (by omega)⟩
theorem Tied.perm {n k : Nat} {E F : List Ed} (h : Tied n k E) (p : F.Perm E) : Tied n k F := ⟨fun e he => h.ends e (p.mem_iff.mp he), fun e he => h.nl e (p.mem_iff.mp he), fun b h1 h2 => by
  obtain ⟨a, h3, h4⟩ := h.tie b h1 h2
  exact ⟨a, h3, h4.imp p.mem_iff.mpr p.mem_iff.mpr⟩⟩
/-- turned about, road by road -/
theorem Tied.turn {n k : Nat} {E F : List Ed} (h : Tied n k E) (hl : F.length = E.length) (t : ∀ (i : Nat) (e f : Ed), E[i]? = some e → F[i]? = some f → f = e ∨ f = (e.2, e.1)) : Tied n k F := by
  have get : ∀ i, i < E.length → ∃ e f, E[i]? = some e ∧ F[i]? = some f ∧ (f = e ∨ f = (e.2, e.1)) := fun i hi => by
    have h1 := List.getElem?_eq_getElem hi
    have h2 := List.getElem?_eq_getElem (l := F) (i := i) (by omega)
    exact ⟨_, _, h1, h2, t i _ _ h1 h2⟩
  refine ⟨fun f hf => ?_, fun f hf => ?_, fun b h1 h2 => ?_⟩
  · obtain ⟨i, hi, rfl⟩ := List.getElem_of_mem hf
    obtain ⟨e, f, e1, e2, e3⟩ := get i (by omega)
    rw [List.getElem?_eq_getElem hi] at e2
    have := h.ends e (List.mem_of_getElem? e1)
    rw [Option.some.inj e2]
    rcases e3 with rfl | rfl
    · exact this
    · exact ⟨this.2, this.1⟩
  · obtain ⟨i, hi, rfl⟩ := List.getElem_of_mem hf
    obtain ⟨e, f, e1, e2, e3⟩ := get i (by omega)
    rw [List.getElem?_eq_getElem hi] at e2
    have := h.nl e (List.mem_of_getElem? e1)
    rw [Option.some.inj e2]
    rcases e3 with rfl | rfl
    · exact this
    · exact fun z => this z.symm
  · obtain ⟨a, h3, h4⟩ := h.tie b h1 h2
    refine ⟨a, h3, ?_⟩
    rcases h4 with h4 | h4
    all_goals
      obtain ⟨i, hi, ei⟩ := List.getElem_of_mem h4
      obtain ⟨e, f, e1, e2, e3⟩ := get i hi
      rw [List.getElem?_eq_getElem hi, ei] at e1
      obtain rfl := Option.some.inj e1
      have hm := List.mem_of_getElem? e2
      rcases e3 with rfl | rfl
      · first | exact .inl hm | exact .inr hm
      · first | exact .inr hm | exact .inl hm
/-- called otherwise, it hangs together -/
theorem tied_whole {n : Nat} {E : List Ed} (h : Tied n n E) {σ : List Nat} (hσ : σ.Perm (List.range n)) : Ends n (E.map fun e => (σ.getD e.1 0, σ.getD e.2 0)) ∧ Whole n (E.map fun e => (σ.getD e.1 0, σ.getD e.2 0)) ∧ ∀ e ∈ E.map (fun e => (σ.getD e.1 0, σ.getD e.2 0)), e.1 ≠ e.2 := by
  have hlen : σ.length = n := by rw [hσ.length_eq, List.length_range]
  have hlt : ∀ c, c < n → σ.getD c 0 < n := fun c hc => by
    have hc' : c < σ.length := by omega
    rw [List.getD_eq_getElem?_getD, List.getElem?_eq_getElem hc']
    exact List.mem_range.mp (hσ.mem_iff.mp (List.getElem_mem hc'))
  have hnd : σ.Nodup := hσ.nodup_iff.mpr List.nodup_range
  refine ⟨fun f hf => ?_, fun x y hx hy => ?_, fun f hf => ?_⟩
  · obtain ⟨e, he, rfl⟩ := List.mem_map.mp hf
    exact ⟨hlt _ (h.ends e he).1, hlt _ (h.ends e he).2⟩
  rotate_left
  · obtain ⟨e, he, rfl⟩ := List.mem_map.mp hf
    have h1 : e.1 < σ.length := by have := (h.ends e he).1; omega
    have h2 : e.2 < σ.length := by have := (h.ends e he).2; omega
    show σ.getD e.1 0 ≠ σ.getD e.2 0
    rw [List.getD_eq_getElem?_getD, List.getD_eq_getElem?_getD, List.getElem?_eq_getElem h1, List.getElem?_eq_getElem h2]
    intro z
    have z : σ[e.1] = σ[e.2] := z
    exact h.nl e he ((List.getElem_inj hnd).mp z)
  · have zero : ∀ c, c < n → Cn (E.map fun e => (σ.getD e.1 0, σ.getD e.2 0)) (σ.getD c 0) (σ.getD 0 0) := by
      intro c
      induction c using Nat.strongRecOn with
      | ind c ih =>
        intro hc
        by_cases e : c = 0
        · rw [e]; exact .refl _
        · obtain ⟨a, h1, h2⟩ := h.tie c (by omega) hc
          refine Cn.step (b := σ.getD a 0) ?_ (ih a h1 (by omega))
          rcases h2 with h2 | h2
          · exact .inr (List.mem_map.mpr ⟨_, h2, rfl⟩)
          · exact .inl (List.mem_map.mpr ⟨_, h2, rfl⟩)
    have ex : ∀ x, x < n → ∃ c, c < n ∧ σ.getD c 0 = x := fun x hx => by
      have hm : x ∈ σ := hσ.mem_iff.mpr (List.mem_range.mpr hx)
      obtain ⟨i, hi, e⟩ := List.getElem_of_mem hm
      exact ⟨i, by omega, by rw [List.getD_eq_getElem?_getD, List.getElem?_eq_getElem hi]; exact e⟩
    obtain ⟨c, hc, rfl⟩ := ex x hx
    obtain ⟨d, hd, rfl⟩ := ex y hy
    exact (zero c hc).trans (zero d hd).symm
/-- a drawn frame -/
structure NetP (n m : Nat) (E : List Ed) : Prop where
  pos : 0 < n
  ends : Ends n E
  whole : Whole n E
  len : E.length ≤ m
  nl : ∀ e ∈ E, e.1 ≠ e.2
  few : n ≤ E.length + 1
section
variable {P : Program} {w : World} {K : PySem.W.Frag} {mg : Str → Option Value} {base : Heap}
theorem sc_law_frame : FnScope ["source", "least", "most", "more", "n", "roads", "b", "lap", "a", "names", "pair"] ["source", "least", "most", "more"] (defScope (topS 30)) := ⟨rfl, rfl, rfl, by decide +kernel, rfl, by decide +kernel, by decide +kernel⟩
def φFrame : List Ar → (DL.D → Prop) → Prop := fun as Kd => ∃ least most more : Nat, as = [.src, .d (.int least), .d (.int most), .d (.int more)] ∧ 1 ≤ least ∧ least ≤ most ∧ most ≤ 100 ∧ more ≤ 100 ∧ ∀ n E, least ≤ n → n ≤ most → NetP n (n - 1 + more) E → Kd (frameD n E)
theorem ok_frame {f fP fX : Addr} {fd fdP fdX : FuncData} (F : Fun K "_law_frame" "_law_frame" (topS 30) f fd) (T : Txt mg) (T2 : Txs mg) (NP : Dn K mg "_law_pick" (topS 27) ["source", "many"] fP fdP) (NX : Dn K mg "_law_mixed" (topS 29) ["source", "things"] fX fdX) : FnOk P w K mg base CX0 3 f fd ["source", "least", "most", "more"] (SpD φFrame) := by
  refine fn_D F sc_law_frame (fun as Kd h => ?_) (fun as Kd r cdv A outer s H E hr h => ?_)
  · obtain ⟨least, most, more, rfl, _⟩ := h
    rfl
  · obtain ⟨least, most, more, rfl, h1, h2, h3, h4, k⟩ := h
    have nd := sc_law_frame.nd
    have hz : sizeLine = 16777216 := sizeLine_eq
    have GP := ok_pick (P := P) (w := w) (base := base) NP.F T2
    have GX := ok_mixed (P := P) (w := w) (base := base) NX.F T T2 NP
    refine jpar2N 4 5 <| je_op op_add <| jv 1 <| jcall hr NP GP <| jAs 0 <| ja1 <| je_op op_add <| je_op op_sub <| jv 2 <| jv 1 <| od_I0 <| je_int <| od_I0 ⟨(most : Int) - least + 1, rfl, by omega, fun v v0 v1 => od_I0 ?_⟩
    obtain ⟨n, hn, hn1, hn2⟩ : ∃ n : Nat, (least : Int) + v = n ∧ least ≤ n ∧ n ≤ most := ⟨(least + v).toNat, by omega, by omega, by split at v1 <;> omega⟩
    rw [hn]
    clear hn v0 v1
    refine jn_lst (jA0 ⟨[], rfl, Nat.zero_le _, rfl, ?_⟩)
    -- a tree
    refine jfor [6] (jrange2 T.ran <| je_int <| jv 4 ⟨1, (n : Int), rfl, rfl, ⟨by omega, by omega, by omega, by omega⟩, fun i S' => ∃ (E0 : List Ed) (o6 : Option DL.D), E0.length = i ∧ Tied n (1 + i) E0 ∧ S' = [.src, .val (.int least), .val (.int most), .val (.int more), .val (.int n), .own (E0.map edD), vS o6, .emp, .emp, .emp, .emp], ⟨[], none, rfl, ⟨(fun e he => nomatch he), (fun e he => nomatch he), fun b h1 h2 => by omega⟩, rfl⟩, ?_, ?_⟩)
    · rintro i d S' hd ⟨E0, o6, hl, ht, rfl⟩
      have hi : i < n - 1 := by
        have := (List.getElem?_eq_some_iff.mp hd).1
        rw [rangeD_length] at this; omega
      rw [rangeD_get (by omega)] at hd
      obtain rfl := (Option.some.inj hd).symm
      refine jg 6 ?_
      refine jappend 5 _ <| jtup2 <| jcall hr NP GP <| jAs 0 <| ja1 <| jv 6 ⟨1 + (i : Int), rfl, by omega, fun v v0 v1 => ?_⟩
      obtain ⟨a, rfl, ha⟩ : ∃ a : Nat, v = a ∧ a < 1 + i := ⟨v.toNat, by omega, by split at v1 <;> omega⟩
      refine jv 6 ⟨E0.map edD, rfl, by rw [List.length_map]; omega, jss_nil ⟨E0 ++ [(a, 1 + i)], some (.int (1 + (i : Int))), by rw [List.length_append, hl]; rfl, ?_, ?_⟩⟩
      · rw [show 1 + (i + 1) = (1 + i) + 1 by omega]
        exact ht.next ha (by omega)
      · rw [List.map_append]
        show _ = [Sl.src, .val (.int least), .val (.int most), .val (.int more), .val (.int n), .own (E0.map edD ++ [.tuple [.int a, .int ((1 + i : Nat) : Int)]]), .val (.int (1 + (i : Int))), .emp, .emp, .emp, .emp]
        rw [show (((1 + i : Nat) : Int)) = 1 + (i : Int) by omega]; rfl
    rintro S' ⟨E0, o6, hl, ht, rfl⟩
    rw [rangeD_length] at hl ht
    have ht : Tied n n E0 := by
      rw [show 1 + ((n : Int) - 1).toNat = n by omega] at ht; exact ht
    -- more roads
    refine jfor [7] (jrange1 T.ran <| JE.mono (K := fun d S' => (∃ v : Nat, d = .int v ∧ v ≤ more ∧ (v = 0 ∨ 1 < n)) ∧ S' = [.src, .val (.int least), .val (.int most), .val (.int more), .val (.int n), .own (E0.map edD), vS o6, .emp, .emp, .emp, .emp]) ?_ ?_)
    · refine je_ife <| jtcmp op_gt <| jv 4 <| je_int <| od_B0 ⟨_, rfl, ifb (fun e => ?_) (fun _ => je_int ⟨⟨0, rfl, Nat.zero_le _, .inl rfl⟩, rfl⟩)⟩
      have e := of_decide_eq_true e
      refine jcall hr NP GP <| jAs 0 <| ja1 <| je_op op_add <| jv 3 <| je_int <| od_I0 ⟨(more : Int) + 1, rfl, by omega, fun v v0 v1 => ⟨⟨v.toNat, by rw [show ((v.toNat : Nat) : Int) = v by omega], by split at v1 <;> omega, .inr (by omega)⟩, rfl⟩⟩
    rintro d S' ⟨⟨v, rfl, hv, hv1⟩, rfl⟩
    refine ⟨(v : Int), rfl, by omega, by omega, fun i S' => ∃ (E1 : List Ed) (o7 o8 : Option DL.D), E1.length = n - 1 + i ∧ Tied n n E1 ∧ S' = [.src, .val (.int least), .val (.int most), .val (.int more), .val (.int n), .own (E1.map edD), vS o6, vS o7, vS o8, .emp, .emp], ⟨E0, none, none, by omega, ht, rfl⟩, ?_, ?_⟩
    · rintro i d S' hd ⟨E1, o7, o8, hl1, ht1, rfl⟩
      have hi : i < v := by
        have := (List.getElem?_eq_some_iff.mp hd).1
        rw [rangeD_length] at this; omega
      have hn1' : 1 < n := by omega
      refine jg 7 ?_
      refine jset 8 <| jcall hr NP GP <| jAs 0 <| ja1 <| jv 4 ⟨(n : Int), rfl, by omega, fun u u0 u1 => ?_⟩
      obtain ⟨a, rfl, ha⟩ : ∃ a : Nat, u = a ∧ a < n := ⟨u.toNat, by omega, by split at u1 <;> omega⟩
      refine jappend 5 _ <| jtup2 <| jv 8 <| je_op op_mod <| jint T2.int <| je_op op_add <| je_op op_add <| jv 8 <| je_int <| od_I0 <| jcall hr NP GP <| jAs 0 <| ja1 <| je_op op_sub <| jv 4 <| je_int <| od_I0 ⟨(n : Int) - 1, rfl, by omega, fun x x0 x1 => od_I0 ⟨_, rfl, jv 4 <| od_I (by show (0 : Int) < (n : Int); omega) ?_⟩⟩
      obtain ⟨b, hb, hbn⟩ : ∃ b : Nat, ((a : Int) + 1 + x) % (n : Int) = b ∧ b < n := ⟨(((a : Int) + 1 + x) % (n : Int)).toNat, by have := Int.emod_nonneg ((a : Int) + 1 + x) (b := (n : Int)) (by omega); omega, by have := Int.emod_lt_of_pos ((a : Int) + 1 + x) (b := (n : Int)) (by omega); have := Int.emod_nonneg ((a : Int) + 1 + x) (b := (n : Int)) (by omega); omega⟩
      have hab : a ≠ b := fun z => by
        have hx1 : 0 ≤ x ∧ x < (n : Int) - 1 := ⟨x0, by split at x1 <;> omega⟩
        have hq := Int.emod_add_mul_ediv ((a : Int) + 1 + x) (n : Int)
        rw [hb] at hq
        generalize ((a : Int) + 1 + x) / (n : Int) = qq at hq
        have hq2 : (n : Int) * qq = 1 + x := by omega
        by_cases hqp : qq ≤ 0
        · have := Int.mul_le_mul_of_nonneg_left hqp (show (0 : Int) ≤ n by omega)
          rw [Int.mul_zero] at this
          omega
        · have := Int.mul_le_mul_of_nonneg_left (show (1 : Int) ≤ qq by omega) (show (0 : Int) ≤ n by omega)
          rw [Int.mul_one] at this
          omega
      rw [hb]
      refine ⟨E1.map edD, rfl, by rw [List.length_map]; omega, jss_nil ⟨E1 ++ [(a, b)], some d, some (.int a), by rw [List.length_append, hl1]; rfl, ht1.add ha hbn hab, ?_⟩⟩
      rw [List.map_append]; rfl
    rintro S' ⟨E1, o7, o8, hl1, ht1, rfl⟩
    rw [rangeD_length, show ((v : Nat) : Int).toNat = v by omega] at hl1
    skip
    -- mixed, turned about
    refine jsetLcD 5 [("pair", 10)] [10] <| jiL <| jcall hr NX GX <| jAs 0 <| ja1 <| jo 5 ⟨E1.map edD, rfl, by rw [List.length_map]; omega, fun es hes => ?_⟩
    obtain ⟨E2, rfl, hE2⟩ := perm_map hes
    have hl2 : E2.length = E1.length := hE2.length_eq
    have ht2 := ht1.perm hE2
    refine ⟨E2.map edD, rfl, fun i y => ∃ e f : Ed, E2[i]? = some e ∧ y = edD f ∧ (f = e ∨ f = (e.2, e.1)), by cases o6 <;> cases o7 <;> cases o8 <;> rfl, by rw [List.length_map]; omega, fun i d hd => ?_, fun zs hzl hzm => ?_⟩
    · intro _ _ _ _ _
      obtain ⟨e, he, hei, rfl⟩ := get_map hd
      refine jg 10 ?_
      intro _ _ _ _ _
      refine je_ife <| jtcmp op_eqD <| jcall hr NP GP <| jAs 0 <| ja1 <| je_int ⟨2, rfl, by decide, fun v _ _ => je_int <| od_eq (α := Int) hr (by decide) ⟨_, rfl, ifb (fun _ => je_revT <| jv 10 ⟨[.int e.1, .int e.2], rfl, ⟨e, (e.2, e.1), hei, rfl, .inr rfl⟩, ?_⟩) (fun _ => jv 10 ⟨⟨e, e, hei, rfl, .inl rfl⟩, ?_⟩)⟩⟩
      · cases o6 <;> cases o7 <;> cases o8 <;> rfl
      · cases o6 <;> cases o7 <;> cases o8 <;> rfl
    rw [List.length_map] at hzl
    obtain ⟨E3, rfl, hE3⟩ : ∃ E3 : List Ed, zs = E3.map edD ∧ ∀ (i : Nat) (e f : Ed), E2[i]? = some e → E3[i]? = some f → f = e ∨ f = (e.2, e.1) := by
      have inj : ∀ a b : Ed, edD a = edD b → a = b := fun a b e => by
        unfold edD at e
        injection e with e
        injection e with e1 e2
        injection e1 with e1
        injection e2 with e2 _
        injection e2 with e2
        exact Prod.ext (by omega) (by omega)
      have gz : ∀ z ∈ zs, ∃ f : Ed, z = edD f := fun z hz => by
        obtain ⟨i, hi, e⟩ := List.getElem_of_mem hz
        obtain ⟨_, f, _, h2, _⟩ := hzm i z (by rw [List.getElem?_eq_getElem hi, e])
        exact ⟨f, h2⟩
      have : ∃ E3 : List Ed, zs = E3.map edD := by
        clear hzm hzl
        induction zs with
        | nil => exact ⟨[], rfl⟩
        | cons z zs ih =>
          obtain ⟨f, rfl⟩ := gz z List.mem_cons_self
          obtain ⟨F, rfl⟩ := ih fun y hy => gz y (List.mem_cons_of_mem _ hy)
          exact ⟨f :: F, rfl⟩
      obtain ⟨E3, rfl⟩ := this
      refine ⟨E3, rfl, fun i e f he hf => ?_⟩
      obtain ⟨e', f', h1', h2', h3'⟩ := hzm i (edD f) (by rw [List.getElem?_map, hf]; rfl)
      rw [he] at h1'
      obtain rfl := Option.some.inj h1'
      rw [inj _ _ h2']; exact h3'
    rw [List.length_map] at hzl
    have ht3 := ht2.turn hzl hE3
    clear hzm hE3 ht2 ht1
    refine jss_frz 5 rfl ?_
    -- called otherwise
    refine jset 9 <| jcall hr NX GX <| jAs 0 <| ja1 <| JN.je <| jlistRg T.lst T.ran <| jv 4 ⟨n, rfl, by omega, rangeD 0 n, rfl, by rw [rangeD_length]; omega, fun es hes => ?_⟩
    rw [rangeD0] at hes
    obtain ⟨σ, rfl, hσ⟩ := perm_map (f := fun (i : Nat) => PyData.int (i : Int)) hes
    have hσl : σ.length = n := by rw [hσ.length_eq, List.length_range]
    have at_σ : ∀ c, c < n → atI (σ.map fun (i : Nat) => PyData.int (i : Int)) (c : Int) = some (.int ((σ.getD c 0 : Nat) : Int)) := fun c hc => by
      have hc' : c < σ.length := by omega
      refine atI_nn ?_
      rw [List.getElem?_map, List.getElem?_eq_getElem hc', List.getD_eq_getElem?_getD, List.getElem?_eq_getElem hc']; rfl
    obtain ⟨w1, w2, w3⟩ := tied_whole ht3 hσ
    refine jret <| jtup2 <| jv 4 <| jtupN T.tup <| jlc [("a", 8), ("b", 6)] [8, 6] <| jiL <| jv 5 ⟨E3.map edD, rfl, lcL E3 edD (fun _ => true) (fun e => edD (σ.getD e.1 0, σ.getD e.2 0)) (fun e he => lp0P 8 6 ?_) ?_ (by omega) (by cases o6 <;> cases o8 <;> rfl)⟩
    · intro _ _ _ _ _
      have hee := ht3.ends e he
      refine jtup2 <| jix ix_list <| jv 9 <| jv 8 <| od_ixL (at_σ _ hee.1) <| jix ix_list <| jv 9 <| jv 6 <| od_ixL (at_σ _ hee.2) ⟨rfl, ?_⟩
      cases o6 <;> cases o8 <;> rfl
    rw [filter_true]
    have := k n (E3.map fun e => (σ.getD e.1 0, σ.getD e.2 0)) hn1 hn2 ⟨by omega, w1, w2, by rw [List.length_map]; omega, w3, by rw [List.length_map]; omega⟩
    unfold frameD at this
    rw [List.map_map] at this
    exact this
end
end K24


/-! k25: the plain law. -/
namespace K24
open PySem L2 DL NT
theorem first_least {x : List Int} : ∀ {l : List (List Int)}, (l.Pairwise fun a b => ltL a b = true) → x ∈ l → (∀ y ∈ l, ltL y x = false) → ∃ t, l = x :: t
  | y :: t, asc, hx, h => by
    rcases List.mem_cons.mp hx with rfl | hx
    · exact ⟨t, rfl⟩
    · have h1 := (List.pairwise_cons.mp asc).1 x hx
      rw [h y List.mem_cons_self] at h1; cases h1
section
variable {n : Nat} {E : List Ed}
theorem mem_treesL {t : List Int} : t ∈ treesL n E ↔ Tree n E t := by
  unfold treesL sizedL Tree
  rw [List.mem_filter, List.mem_filter, mem_allL, decide_eq_true_eq, FrB_iff]
  exact ⟨fun ⟨⟨a, b⟩, c⟩ => ⟨a, c, b⟩, fun ⟨a, c, b⟩ => ⟨⟨a, b⟩, c⟩⟩
theorem treesL_lt : (treesL n E).Pairwise fun a b => ltL a b = true := ((allL_lt _).sublist List.filter_sublist).sublist List.filter_sublist
theorem mem_unL {l : List Int} : l ∈ unL n E ↔ l.Sublist (rangeI E.length) ∧ UnB n E l = true := by
  unfold unL
  rw [List.mem_filter, mem_allL]
theorem mem_goodL (hE : Ends n E) {t : List Int} : t ∈ goodL n E ↔ Tree n E t ∧ UnP n E t := by
  rw [← good_un, List.mem_filter, mem_unL, decide_eq_true_eq]
  constructor
  · rintro ⟨⟨h1, h2⟩, h3⟩
    have h4 := (UnB_iff hE (Rd.range h1)).mp h2
    exact ⟨⟨h1, h4.1, h3⟩, h4⟩
  · rintro ⟨⟨h1, _, h3⟩, h4⟩
    exact ⟨⟨h1, (UnB_iff hE (Rd.range h1)).mpr h4⟩, h3⟩
variable {m : Nat} (N : NetP n m E) {l : List Int} (hl : l.Sublist (rangeI E.length)) (hf : Fr n E l)
include N hl hf
theorem fill_tree : Tree n E (fillS E l) := fillS_tree N.ends N.whole N.pos (Rd.range hl) (asc_nodup hl) hf
theorem fill_has : ∀ x ∈ l, x ∈ fillS E l := fun x hx => (mem_fillS (Rd.range hl)).mpr (List.mem_append.mpr (.inl hx))
theorem tree_first : ∃ t, (treesL n E).filter (fun t => withinB l t) = fillS E l :: t := by
  refine first_least (treesL_lt.sublist List.filter_sublist) (List.mem_filter.mpr ⟨mem_treesL.mpr (fill_tree N hl hf), withinB_iff.mpr (fill_has N hl hf)⟩) fun y hy => ?_
  obtain ⟨h1, h2⟩ := List.mem_filter.mp hy
  obtain ⟨a, b, c⟩ := mem_treesL.mp h1
  exact fill_least N.ends (Rd.range hl) (asc_nodup hl) hf a b (withinB_iff.mp h2) (by have := (fill_tree N hl hf).2.2; omega)
theorem fill_good (hu : UnB n E l = true) : UnB n E (fillS E l) = true ∧ fillS E l ∈ goodL n E := by
  have u := fill_un N.ends hl ((UnB_iff N.ends (Rd.range hl)).mp hu)
  exact ⟨(UnB_iff N.ends (Rd.range fillS_sub)).mpr u, (mem_goodL N.ends).mpr ⟨fill_tree N hl hf, u⟩⟩
omit hf in
theorem good_has {t : List Int} (ht : t ∈ goodL n E) (h : ∀ x ∈ l, x ∈ t) : UnB n E l = true := by
  obtain ⟨a, b⟩ := (mem_goodL N.ends).mp ht
  exact (UnB_iff N.ends (Rd.range hl)).mpr ((un_iff N.ends hl).mp (((un_iff N.ends a.1).mpr b).sub h))
theorem every_good : decide (l ∈ unL n E) = !((goodL n E).filter fun t => withinB l t).isEmpty := by
  rw [Bool.eq_iff_iff, decide_eq_true_eq, Bool.not_eq_true', mem_unL]
  constructor
  · rintro ⟨_, hu⟩
    have := (fill_good N hl hf hu).2
    cases he : (goodL n E).filter fun t => withinB l t with
    | nil => exact (List.filter_eq_nil_iff.mp he _ this (withinB_iff.mpr (fill_has N hl hf))).elim
    | cons _ _ => rfl
  · intro h
    cases he : (goodL n E).filter fun t => withinB l t with
    | nil => rw [he] at h; cases h
    | cons t ts =>
      have ht : t ∈ (goodL n E).filter fun t => withinB l t := by rw [he]; exact List.mem_cons_self
      obtain ⟨h1, h2⟩ := List.mem_filter.mp ht
      exact ⟨hl, good_has N hl h1 (withinB_iff.mp h2)⟩
end
theorem every_parts {n m : Nat} {E : List Ed} (N : NetP n m E) {s : List Int} : s ∈ unL n E ↔ ∃ t ∈ goodL n E, s.Sublist t := by
  rw [mem_unL]
  constructor
  · rintro ⟨h1, h2⟩
    have hf : Fr n E s := ((UnB_iff N.ends (Rd.range h1)).mp h2).1
    exact ⟨fillS E s, (fill_good N h1 hf h2).2, sub_of_sorted ((rangeI_lt _).sublist h1) ((rangeI_lt _).sublist fillS_sub) (fill_has N h1 hf)⟩
  · rintro ⟨t, ht, hs⟩
    have h1 := hs.trans ((mem_goodL N.ends).mp ht).1.1
    exact ⟨h1, good_has N h1 ht fun x hx => hs.subset hx⟩
/-! ### parts by places -/
def pickL (t q : List Int) : List Int := q.map fun k => t.getD k.toNat 0
theorem pick_all (t : List Int) : pickL t (rangeI t.length) = t := by
  unfold pickL rangeI
  rw [List.map_map]
  refine List.ext_getElem (by simp) fun i h1 h2 => ?_
  simp [h2]
theorem pick_iff {t s : List Int} : (∃ q ∈ allL t.length, s = pickL t q) ↔ s.Sublist t := by
  constructor
  · rintro ⟨q, hq, rfl⟩
    have := (mem_allL.mp hq).map fun k => t.getD k.toNat 0
    rw [show (rangeI t.length).map (fun k => t.getD k.toNat 0) = t from pick_all t] at this
    exact this
  · intro h
    rw [← pick_all t] at h
    obtain ⟨q, h1, h2⟩ := List.sublist_map_iff.mp h
    exact ⟨q, mem_allL.mpr h1, h2⟩
/-! ### the last one -/
def lastE : List Ed := [(0, 1), (0, 2), (1, 2)]
theorem lastE_ends : Ends 3 lastE := by unfold NT.Ends; decide
theorem lastE_whole : Whole 3 lastE := fun a b ha hb => ((headF_hd lastE_ends).ker a b ha hb).mp (by
  have : ∀ a, a < 3 → ∀ b, b < 3 → headF lastE a = headF lastE b := by decide
  exact this a ha b hb)
theorem last_free : Fr 3 lastE [2] := by unfold Fr Free; decide
theorem last_fill : fillS lastE [2] = [0, 2] := by
  have e1 : Ends 3 [((1 : Nat), (2 : Nat))] := by unfold NT.Ends; decide
  have e2 : Ends 3 [((1 : Nat), (2 : Nat)), (0, 1)] := by unfold NT.Ends; decide
  have c0 : ¬ cR lastE [2] 0 := fun h => by
    have h : Cn [((1 : Nat), (2 : Nat))] 0 1 := h
    have := ((headF_hd e1).ker 0 1 (by decide) (by decide)).mpr h
    revert this
    decide
  have c1 : cR lastE ([2] ++ [0]) 1 := by
    show Cn [((1 : Nat), (2 : Nat)), (0, 1)] 0 2
    exact ((headF_hd e2).ker 0 2 (by decide) (by decide)).mp (by decide)
  have c2 : cR lastE ([2] ++ [0]) 2 := cR.self (by simp)
  have g : gr lastE [2] (rangeI lastE.length) = [0] := by
    show gr lastE [2] [0, 1, 2] = [0]
    rw [gr_no c0, gr_yes c1, gr_yes c2]; rfl
  unfold fillS fillL
  rw [g]
  decide
end K24


/-! k24: simple rings, found way by way, plain. -/
namespace K24
open PySem L2 DL NT
theorem nodup_le {α : Type} [DecidableEq α] : ∀ {l m : List α}, l.Nodup → (∀ x ∈ l, x ∈ m) → l.length ≤ m.length
  | [], _, _, _ => Nat.zero_le _
  | x :: l, m, nd, h => by
    obtain ⟨h1, h2⟩ := List.nodup_cons.mp nd
    have hm := h x List.mem_cons_self
    have := nodup_le (l := l) (m := m.erase x) h2 fun y hy => (List.mem_erase_of_ne (fun e => h1 (by rw [← e]; exact hy))).mpr (h y (List.mem_cons_of_mem _ hy))
    rw [List.length_erase_of_mem hm] at this
    have : 0 < m.length := List.length_pos_of_mem hm
    rw [List.length_cons]; omega
theorem deg_app (a b : List Ed) (x : Nat) : deg (a ++ b) x = deg a x + deg b x := by
  unfold deg endsL
  rw [List.flatMap_append, List.count_append]
theorem ringE_iff {n : Nat} {E : List Ed} {l : List Int} : RingE n (ed E l) ↔ Ring n E l := by
  unfold RingE Ring
  refine and_congr Iff.rfl ?_
  have e : ∀ k, ed E (l.eraseIdx k) = (ed E l).eraseIdx k := fun k => by
    unfold ed
    rw [List.eraseIdx_eq_take_drop_succ, List.eraseIdx_eq_take_drop_succ, List.map_append, List.map_take, List.map_drop]
  unfold Fr
  rw [show (ed E l).length = l.length from List.length_map _]
  exact forall_congr' fun k => by rw [e]
/-! ### steps -/
abbrev Step := Int × Int × Nat
abbrev Way := List Int × Nat × List Nat
def stepAt (E : List Ed) (c : Nat) (r : Int) : List Step := (if (en E r).1 = c then [(r, 1, (en E r).2)] else []) ++ (if (en E r).2 = c then [(r, -1, (en E r).1)] else [])
def stepsF (E : List Ed) (c : Nat) : List Step := (rangeI E.length).flatMap (stepAt E c)
theorem mem_steps {E : List Ed} {c : Nat} {st : Step} : st ∈ stepsF E c ↔ (0 ≤ st.1 ∧ st.1 < (E.length : Int)) ∧ ((st.2.1 = 1 ∧ en E st.1 = (c, st.2.2)) ∨ (st.2.1 = -1 ∧ en E st.1 = (st.2.2, c))) := by
  obtain ⟨r, s, t⟩ := st
  unfold stepsF stepAt
  rw [List.mem_flatMap]
  constructor
  · rintro ⟨q, hq, h⟩
    have hq := mem_rangeI.mp hq
    rcases List.mem_append.mp h with h | h
    · split at h
      · rename_i e
        have h := List.mem_singleton.mp h
        injection h with h1 h2
        injection h2 with h3 h4
        subst h1 h3 h4 e
        exact ⟨hq, .inl ⟨rfl, rfl⟩⟩
      · cases h
    · split at h
      · rename_i e
        have h := List.mem_singleton.mp h
        injection h with h1 h2
        injection h2 with h3 h4
        subst h1 h3 h4 e
        exact ⟨hq, .inr ⟨rfl, rfl⟩⟩
      · cases h
  · rintro ⟨hr, ⟨hs, he⟩ | ⟨hs, he⟩⟩
    · have hs : s = 1 := hs
      have he : en E r = (c, t) := he
      refine ⟨r, mem_rangeI.mpr hr, List.mem_append.mpr (.inl ?_)⟩
      rw [he, hs, if_pos rfl]; exact List.mem_cons_self
    · have hs : s = -1 := hs
      have he : en E r = (t, c) := he
      refine ⟨r, mem_rangeI.mpr hr, List.mem_append.mpr (.inr ?_)⟩
      rw [he, hs, if_pos rfl]; exact List.mem_cons_self
theorem step_roads {E : List Ed} (nl : ∀ e ∈ E, e.1 ≠ e.2) (c : Nat) : ((stepsF E c).map (·.1)).Nodup := by
  have : ∀ l : List Int, (∀ r ∈ l, 0 ≤ r ∧ r < (E.length : Int)) → ((l.flatMap (stepAt E c)).map (·.1)).Sublist l := by
    intro l
    induction l with
    | nil => intro _; exact List.Sublist.refl _
    | cons r l ih =>
      intro h
      have ih := ih fun x hx => h x (List.mem_cons_of_mem _ hx)
      have hn := nl _ (en_mem (h r List.mem_cons_self))
      rw [List.flatMap_cons, List.map_append]
      unfold stepAt
      by_cases e1 : (en E r).1 = c
      · have e2 : (en E r).2 ≠ c := fun z => hn (e1.trans z.symm)
        rw [if_pos e1, if_neg e2]
        exact ih.cons_cons r
      · rw [if_neg e1]
        by_cases e2 : (en E r).2 = c
        · rw [if_pos e2]
          exact ih.cons_cons r
        · rw [if_neg e2]
          exact ih.cons r
  exact (asc_nodup (List.Sublist.refl _)).sublist (this (rangeI E.length) fun r hr => mem_rangeI.mp hr)
/-! ### ways -/
def setR (row : List Int) (r s : Int) : List Int := (List.range row.length).map fun (i : Nat) => if (i : Int) = r then s else row.getD i 0
theorem setR_len (row : List Int) (r s : Int) : (setR row r s).length = row.length := by unfold setR; rw [List.length_map, List.length_range]
theorem setR_get {row : List Int} {r s : Int} {i : Nat} (h : i < row.length) : (setR row r s).getD i 0 = if (i : Int) = r then s else row.getD i 0 := by
  unfold setR
  rw [List.getD_eq_getElem?_getD, List.getElem?_map, List.getElem?_range h]; rfl
def okSt (c : Int) (met : List Nat) (st : Step) : Bool := decide (st.1 > c) && !decide (st.2.2 ∈ met)
def onW (E : List Ed) (c : Int) (w : Way) : List Step := (stepsF E w.2.1).filter (okSt c w.2.2)
def foundW (E : List Ed) (c : Int) (a : Nat) (w : Way) : List (List Int) := ((onW E c w).filter fun st => decide (st.2.2 = a)).map fun st => setR w.1 st.1 st.2.1
def lateW (E : List Ed) (c : Int) (a : Nat) (w : Way) : List Way := ((onW E c w).filter fun st => !decide (st.2.2 = a)).map fun st => (setR w.1 st.1 st.2.1, st.2.2, w.2.2 ++ [st.2.2])
def row0 (m : Nat) (c : Int) : List Int := (List.range m).map fun (i : Nat) => if (i : Int) = c then 1 else 0
def laps (E : List Ed) (c : Int) : Nat → List (List Int) × List Way
  | 0 => ([], [(row0 E.length c, (en E c).2, [(en E c).2])])
  | k + 1 => ((laps E c k).1 ++ (laps E c k).2.flatMap (foundW E c (en E c).1), (laps E c k).2.flatMap (lateW E c (en E c).1))
structure PathI (n : Nat) (E : List Ed) (c : Int) (k : Nat) (w : Way) (us : List Int) : Prop where
  len : us.length = k
  nd : us.Nodup
  up : ∀ r ∈ us, c < r ∧ r < (E.length : Int)
  mnd : w.2.2.Nodup
  mlen : w.2.2.length = k + 1
  mlt : ∀ x ∈ w.2.2, x < n ∧ x ≠ (en E c).1
  here : w.2.1 ∈ w.2.2
  ends : ∀ r ∈ us, (en E r).1 ∈ w.2.2 ∧ (en E r).2 ∈ w.2.2
  rlen : w.1.length = E.length
  row : ∀ i : Nat, i < E.length → (w.1.getD i 0 ≠ 0 ↔ ((i : Int) = c ∨ (i : Int) ∈ us))
  deg : ∀ x, NT.deg (ed E (c :: us)) x = (if x = (en E c).1 then 1 else 0) + (if x ∈ w.2.2 then (if x = w.2.1 then 1 else 2) else 0)
  cn : ∀ x ∈ w.2.2, Cn (ed E (c :: us)) (en E c).1 x
structure FoundI (n : Nat) (E : List Ed) (c : Int) (row : List Int) (us : List Int) : Prop where
  nd : us.Nodup
  up : ∀ r ∈ us, c < r ∧ r < (E.length : Int)
  rlen : row.length = E.length
  row : ∀ i : Nat, i < E.length → (row.getD i 0 ≠ 0 ↔ ((i : Int) = c ∨ (i : Int) ∈ us))
  two : ∀ x, NT.deg (ed E (c :: us)) x = 0 ∨ NT.deg (ed E (c :: us)) x = 2
  cn : ∀ x, NT.deg (ed E (c :: us)) x ≠ 0 → Cn (ed E (c :: us)) (en E c).1 x
section
variable {n : Nat} {E : List Ed} (hE : Ends n E) (nl : ∀ e ∈ E, e.1 ≠ e.2) {c : Int} (hc : 0 ≤ c ∧ c < (E.length : Int))
include hE nl hc
theorem path0 : PathI n E c 0 (row0 E.length c, (en E c).2, [(en E c).2]) [] := by
  have hn := nl _ (en_mem hc)
  have he := hE _ (en_mem hc)
  refine ⟨rfl, List.nodup_nil, (fun r hr => by cases hr), List.nodup_cons.mpr ⟨List.not_mem_nil, List.nodup_nil⟩, rfl, fun x hx => ?_, List.mem_cons_self, (fun r hr => by cases hr), ?_, fun i hi => ?_, fun x => ?_, fun x hx => ?_⟩
  · rw [List.mem_singleton.mp hx]; exact ⟨he.2, Ne.symm hn⟩
  · show (row0 E.length c).length = _
    unfold row0; rw [List.length_map, List.length_range]
  · show (row0 E.length c).getD i 0 ≠ 0 ↔ _
    unfold row0
    rw [List.getD_eq_getElem?_getD, List.getElem?_map, List.getElem?_range hi]
    show (if (i : Int) = c then (1 : Int) else 0) ≠ 0 ↔ _
    by_cases e : (i : Int) = c
    · rw [if_pos e]; simp [e]
    · rw [if_neg e]; simp [e]
  · show NT.deg [en E c] x = _
    rw [deg_cons, show NT.deg [] x = 0 from rfl]
    simp only [List.mem_singleton]
    by_cases e1 : (en E c).1 = x
    · have f1 : x = (en E c).1 := e1.symm
      have f2 : ¬ (en E c).2 = x := fun z => hn (e1.trans z.symm)
      have f3 : ¬ x = (en E c).2 := fun z => f2 z.symm
      simp only [if_pos e1, if_pos f1, if_neg f2, if_neg f3]
    · have f1 : ¬ x = (en E c).1 := fun z => e1 z.symm
      by_cases e2 : (en E c).2 = x
      · have f3 : x = (en E c).2 := e2.symm
        simp only [if_neg e1, if_neg f1, if_pos e2, if_pos f3]
      · have f3 : ¬ x = (en E c).2 := fun z => e2 z.symm
        simp only [if_neg e1, if_neg f1, if_neg e2, if_neg f3]
  · rw [List.mem_singleton.mp hx]
    exact Cn.one (show ((en E c).1, (en E c).2) ∈ [en E c] from List.mem_cons_self)
/-- one step on: what is alike whether it ends or goes on -/
theorem step_on {k : Nat} {w : Way} {us : List Int} (I : PathI n E c k w us) {st : Step} (hs : st ∈ onW E c w) :
    (c < st.1 ∧ st.1 < (E.length : Int)) ∧ st.2.2 ∉ w.2.2 ∧ st.2.2 < n ∧ st.1 ∉ us ∧ (us ++ [st.1]).Nodup ∧ (∀ i : Nat, i < E.length → ((setR w.1 st.1 st.2.1).getD i 0 ≠ 0 ↔ ((i : Int) = c ∨ (i : Int) ∈ us ++ [st.1]))) ∧
    (∀ x, NT.deg (ed E (c :: (us ++ [st.1]))) x = NT.deg (ed E (c :: us)) x + (if x = w.2.1 then 1 else 0) + (if x = st.2.2 then 1 else 0)) ∧ Cn (ed E (c :: (us ++ [st.1]))) (en E c).1 st.2.2 ∧ (∀ x ∈ w.2.2, Cn (ed E (c :: (us ++ [st.1]))) (en E c).1 x) ∧ ((en E st.1 = (w.2.1, st.2.2)) ∨ en E st.1 = (st.2.2, w.2.1)) := by
  obtain ⟨r, s, t⟩ := st
  obtain ⟨h1, h2⟩ := List.mem_filter.mp hs
  obtain ⟨hr, hst⟩ := mem_steps.mp h1
  unfold okSt at h2
  rw [Bool.and_eq_true, Bool.not_eq_true', decide_eq_true_eq, decide_eq_false_iff_not] at h2
  have hcr : c < r := h2.1
  have htm : t ∉ w.2.2 := h2.2
  have hr : 0 ≤ r ∧ r < (E.length : Int) := hr
  have hs0 : s ≠ 0 := by
    rcases hst with ⟨e, _⟩ | ⟨e, _⟩
    · have e : s = 1 := e
      omega
    · have e : s = -1 := e
      omega
  have hen : en E r = (w.2.1, t) ∨ en E r = (t, w.2.1) := by
    rcases hst with ⟨_, e⟩ | ⟨_, e⟩
    · exact .inl e
    · exact .inr e
  have htn : t < n := by
    have := hE _ (en_mem hr)
    rcases hen with e | e
    · rw [e] at this; exact this.2
    · rw [e] at this; exact this.1
  have hru : r ∉ us := fun h => by
    have := I.ends r h
    rcases hen with e | e
    · rw [e] at this; exact htm this.2
    · rw [e] at this; exact htm this.1
  have hsub : ∀ e ∈ ed E (c :: us), e ∈ ed E (c :: (us ++ [r])) := fun e he => by
    obtain ⟨q, hq, rfl⟩ := List.mem_map.mp he
    refine List.mem_map.mpr ⟨q, ?_, rfl⟩
    rcases List.mem_cons.mp hq with rfl | hq
    · exact List.mem_cons_self
    · exact List.mem_cons_of_mem _ (List.mem_append.mpr (.inl hq))
  have hcn : ∀ x ∈ w.2.2, Cn (ed E (c :: (us ++ [r]))) (en E c).1 x := fun x hx => (I.cn x hx).mono hsub
  have hrm : en E r ∈ ed E (c :: (us ++ [r])) := List.mem_map.mpr ⟨r, List.mem_cons_of_mem _ (List.mem_append.mpr (.inr List.mem_cons_self)), rfl⟩
  refine ⟨⟨hcr, hr.2⟩, htm, htn, hru, ?_, fun i hi => ?_, fun x => ?_, ?_, hcn, hen⟩
  · refine List.nodup_append.mpr ⟨I.nd, by simp, fun a ha b hb e => ?_⟩
    rw [List.mem_singleton.mp hb] at e
    have e : a = r := e
    exact hru (by rw [← e]; exact ha)
  · rw [setR_get (by rw [I.rlen]; exact hi)]
    show (if (i : Int) = r then s else _) ≠ 0 ↔ (i : Int) = c ∨ (i : Int) ∈ us ++ [r]
    rw [List.mem_append, List.mem_singleton]
    by_cases e : (i : Int) = r
    · rw [if_pos e]
      exact ⟨fun _ => .inr (.inr e), fun _ => hs0⟩
    · rw [if_neg e, I.row i hi]
      constructor
      · rintro (h | h)
        · exact .inl h
        · exact .inr (.inl h)
      · rintro (h | h | h)
        · exact .inl h
        · exact .inr h
        · exact (e h).elim
  · show NT.deg (ed E (c :: (us ++ [r]))) x = _
    have e1 : ed E (c :: (us ++ [r])) = ed E (c :: us) ++ [en E r] := by
      unfold ed
      rw [show c :: (us ++ [r]) = (c :: us) ++ [r] from rfl, List.map_append]; rfl
    rw [e1, deg_app, deg_cons, show NT.deg [] x = 0 from rfl]
    show _ = NT.deg (ed E (c :: us)) x + (if x = w.2.1 then 1 else 0) + (if x = t then 1 else 0)
    have sw : ∀ y : Nat, (if y = x then 1 else 0 : Nat) = if x = y then 1 else 0 := fun y => by
      by_cases e : y = x
      · rw [if_pos e, if_pos e.symm]
      · rw [if_neg e, if_neg (Ne.symm e)]
    rcases hen with e | e
    · rw [e]
      show _ + (0 + (if t = x then 1 else 0) + (if w.2.1 = x then 1 else 0)) = _
      rw [sw, sw]; omega
    · rw [e]
      show _ + (0 + (if w.2.1 = x then 1 else 0) + (if t = x then 1 else 0)) = _
      rw [sw, sw]; omega
  · refine (hcn _ I.here).trans ?_
    rcases hen with e | e
    · rw [e] at hrm; exact Cn.one hrm
    · rw [e] at hrm; exact (Cn.one hrm).symm
theorem step_found {k : Nat} {w : Way} {us : List Int} (I : PathI n E c k w us) {st : Step} (hs : st ∈ onW E c w) (ha : st.2.2 = (en E c).1) : FoundI n E c (setR w.1 st.1 st.2.1) (us ++ [st.1]) := by
  obtain ⟨h1, h2, h3, h4, h5, h6, h7, h8, h9, h10⟩ := step_on hE nl hc I hs
  have hd : ∀ x, NT.deg (ed E (c :: (us ++ [st.1]))) x = if x = (en E c).1 ∨ x ∈ w.2.2 then 2 else 0 := fun x => by
    rw [h7, I.deg, ha]
    have hma : (en E c).1 ∉ w.2.2 := ha ▸ h2
    by_cases e1 : x = (en E c).1
    · have e2 : x ∉ w.2.2 := fun z => hma (e1 ▸ z)
      have e3 : x ≠ w.2.1 := fun z => e2 (z ▸ I.here)
      have e5 : x = (en E c).1 ∨ x ∈ w.2.2 := .inl e1
      simp only [if_pos e1, if_neg e2, if_neg e3, if_pos e5]
    · by_cases e2 : x ∈ w.2.2
      · have e5 : x = (en E c).1 ∨ x ∈ w.2.2 := .inr e2
        by_cases e3 : x = w.2.1
        · simp only [if_neg e1, if_pos e2, if_pos e3, if_pos e5]
        · simp only [if_neg e1, if_pos e2, if_neg e3, if_pos e5]
      · have e3 : x ≠ w.2.1 := fun z => e2 (z ▸ I.here)
        have e5 : ¬ (x = (en E c).1 ∨ x ∈ w.2.2) := by rintro (z | z); exact e1 z; exact e2 z
        simp only [if_neg e1, if_neg e2, if_neg e3, if_neg e5]
  refine ⟨h5, fun r hr => ?_, by rw [setR_len, I.rlen], h6, fun x => ?_, fun x hx => ?_⟩
  · rcases List.mem_append.mp hr with hr | hr
    · exact I.up r hr
    · rw [List.mem_singleton.mp hr]; exact h1
  · rw [hd]
    split
    · exact .inr rfl
    · exact .inl rfl
  · rw [hd] at hx
    by_cases e : x = (en E c).1 ∨ x ∈ w.2.2
    · rcases e with rfl | e
      · exact .refl _
      · exact h9 x e
    · rw [if_neg e] at hx; exact (hx rfl).elim
theorem step_late {k : Nat} {w : Way} {us : List Int} (I : PathI n E c k w us) {st : Step} (hs : st ∈ onW E c w) (ha : st.2.2 ≠ (en E c).1) : PathI n E c (k + 1) (setR w.1 st.1 st.2.1, st.2.2, w.2.2 ++ [st.2.2]) (us ++ [st.1]) := by
  obtain ⟨h1, h2, h3, h4, h5, h6, h7, h8, h9, h10⟩ := step_on hE nl hc I hs
  refine ⟨by rw [List.length_append, I.len]; rfl, h5, fun r hr => ?_, ?_, ?_, fun x hx => ?_, List.mem_append.mpr (.inr List.mem_cons_self), fun r hr => ?_, by show (setR _ _ _).length = _; rw [setR_len, I.rlen], h6, fun x => ?_, fun x hx => ?_⟩
  · rcases List.mem_append.mp hr with hr | hr
    · exact I.up r hr
    · rw [List.mem_singleton.mp hr]; exact h1
  · refine List.nodup_append.mpr ⟨I.mnd, by simp, fun a ha b hb e => ?_⟩
    rw [List.mem_singleton.mp hb] at e
    exact h2 (e ▸ ha)
  · show (w.2.2 ++ [st.2.2]).length = _
    rw [List.length_append, I.mlen]; rfl
  · have hx : x ∈ w.2.2 ++ [st.2.2] := hx
    rcases List.mem_append.mp hx with hx | hx
    · exact I.mlt x hx
    · rw [List.mem_singleton.mp hx]; exact ⟨h3, ha⟩
  · show (en E r).1 ∈ w.2.2 ++ [st.2.2] ∧ (en E r).2 ∈ w.2.2 ++ [st.2.2]
    rcases List.mem_append.mp hr with hr | hr
    · exact ⟨List.mem_append.mpr (.inl (I.ends r hr).1), List.mem_append.mpr (.inl (I.ends r hr).2)⟩
    · rw [List.mem_singleton.mp hr]
      have i1 : w.2.1 ∈ w.2.2 ++ [st.2.2] := List.mem_append.mpr (.inl I.here)
      have i2 : st.2.2 ∈ w.2.2 ++ [st.2.2] := List.mem_append.mpr (.inr List.mem_cons_self)
      rcases h10 with e | e <;> rw [e]
      · exact ⟨i1, i2⟩
      · exact ⟨i2, i1⟩
  · rw [h7, I.deg]
    show _ = (if x = (en E c).1 then 1 else 0) + (if x ∈ w.2.2 ++ [st.2.2] then (if x = st.2.2 then 1 else 2) else 0)
    generalize (if x = (en E c).1 then 1 else 0 : Nat) = A
    by_cases e2 : x ∈ w.2.2
    · have e4 : x ≠ st.2.2 := fun z => h2 (z ▸ e2)
      have e5 : x ∈ w.2.2 ++ [st.2.2] := List.mem_append.mpr (.inl e2)
      by_cases e3 : x = w.2.1
      · simp only [if_pos e2, if_pos e5, if_neg e4, if_pos e3]
      · simp only [if_pos e2, if_pos e5, if_neg e4, if_neg e3]
    · have e3 : x ≠ w.2.1 := fun z => e2 (z ▸ I.here)
      by_cases e4 : x = st.2.2
      · have e5 : x ∈ w.2.2 ++ [st.2.2] := by rw [e4]; exact List.mem_append.mpr (.inr List.mem_cons_self)
        simp only [if_neg e2, if_neg e3, if_pos e4, if_pos e5]
      · have e5 : x ∉ w.2.2 ++ [st.2.2] := fun z => (List.mem_append.mp z).elim e2 fun z => e4 (List.mem_singleton.mp z)
        simp only [if_neg e2, if_neg e3, if_neg e4, if_neg e5]
  · have hx : x ∈ w.2.2 ++ [st.2.2] := hx
    rcases List.mem_append.mp hx with hx | hx
    · exact h9 x hx
    · rw [List.mem_singleton.mp hx]; exact h8
/-- what laps hold -/
theorem laps_inv : ∀ k, (∀ w ∈ (laps E c k).2, ∃ us, PathI n E c k w us) ∧ ∀ row ∈ (laps E c k).1, ∃ us, FoundI n E c row us
  | 0 => ⟨fun w hw => ⟨[], by rw [List.mem_singleton.mp hw]; exact path0 hE nl hc⟩, fun row hr => nomatch hr⟩
  | k + 1 => by
    obtain ⟨i1, i2⟩ := laps_inv k
    refine ⟨fun w hw => ?_, fun row hr => ?_⟩
    · obtain ⟨v, hv, hw⟩ := List.mem_flatMap.mp (show w ∈ (laps E c k).2.flatMap (lateW E c (en E c).1) from hw)
      obtain ⟨st, hst, rfl⟩ := List.mem_map.mp hw
      obtain ⟨s1, s2⟩ := List.mem_filter.mp hst
      obtain ⟨us, I⟩ := i1 v hv
      exact ⟨_, step_late hE nl hc I s1 (by simpa using s2)⟩
    · rcases List.mem_append.mp (show row ∈ (laps E c k).1 ++ (laps E c k).2.flatMap (foundW E c (en E c).1) from hr) with hr | hr
      · exact i2 row hr
      · obtain ⟨v, hv, hr⟩ := List.mem_flatMap.mp hr
        obtain ⟨st, hst, rfl⟩ := List.mem_map.mp hr
        obtain ⟨s1, s2⟩ := List.mem_filter.mp hst
        obtain ⟨us, I⟩ := i1 v hv
        exact ⟨_, step_found hE nl hc I s1 (by simpa using s2)⟩
theorem laps_end {k : Nat} (hk : n ≤ k) : (laps E c k).2 = [] := by
  cases h : (laps E c k).2 with
  | nil => rfl
  | cons w ws =>
    obtain ⟨us, I⟩ := (laps_inv hE nl hc k).1 w (by rw [h]; exact List.mem_cons_self)
    have := nodup_le (m := List.range n) I.mnd fun x hx => List.mem_range.mpr (I.mlt x hx).1
    rw [I.mlen, List.length_range] at this
    omega
omit hE nl hc in
theorem laps_stop {k : Nat} (h : (laps E c k).2 = []) : ∀ j, (laps E c (k + j)).1 = (laps E c k).1 ∧ (laps E c (k + j)).2 = []
  | 0 => ⟨rfl, h⟩
  | j + 1 => by
    obtain ⟨h1, h2⟩ := laps_stop h j
    show (laps E c (k + j)).1 ++ (laps E c (k + j)).2.flatMap _ = _ ∧ (laps E c (k + j)).2.flatMap _ = _
    rw [h2, h1]
    exact ⟨List.append_nil _, rfl⟩
end
end K24

/-! k24: what is found are the rings; how many there are. -/
namespace K24
open PySem L2 DL NT
def roadsR (row : List Int) : List Int := (rangeI row.length).filter fun i => !decide (row.getD i.toNat 0 = 0)
theorem roadsR_sub {row : List Int} {m : Nat} (h : row.length = m) : (roadsR row).Sublist (rangeI m) := by
  unfold roadsR; rw [h]; exact List.filter_sublist
theorem mem_roadsR {row : List Int} {x : Int} : x ∈ roadsR row ↔ (0 ≤ x ∧ x < (row.length : Int)) ∧ row.getD x.toNat 0 ≠ 0 := by
  unfold roadsR
  rw [List.mem_filter, mem_rangeI]
  simp
theorem one_of {α : Type} {l : List α} {z : α} (nd : l.Nodup) (h : ∀ y ∈ l, y = z) (hz : z ∈ l) : l.length = 1 := by
  match l, nd, h, hz with
  | [], _, _, hz => cases hz
  | [_], _, _, _ => rfl
  | x :: y :: t, nd, h, _ =>
    have e1 := h x List.mem_cons_self
    have e2 := h y (List.mem_cons_of_mem _ List.mem_cons_self)
    exact ((List.nodup_cons.mp nd).1 (by rw [e1, e2]; exact List.mem_cons_self)).elim
section
variable {n : Nat} {E : List Ed} (hE : Ends n E) (nl : ∀ e ∈ E, e.1 ≠ e.2) {c : Int} (hc : 0 ≤ c ∧ c < (E.length : Int))
include hE nl hc
theorem found_perm {row us : List Int} (I : FoundI n E c row us) : (c :: us).Perm (roadsR row) := by
  have hcu : c ∉ us := fun h => by have := (I.up c h).1; omega
  refine (List.perm_ext_iff_of_nodup (List.nodup_cons.mpr ⟨hcu, I.nd⟩) (asc_nodup (roadsR_sub rfl))).mpr fun x => ?_
  rw [mem_roadsR, I.rlen, List.mem_cons]
  constructor
  · intro h
    have hx : 0 ≤ x ∧ x < (E.length : Int) := by
      rcases h with rfl | h
      · exact hc
      · have := I.up x h; omega
    refine ⟨hx, (I.row x.toNat (by omega)).mpr ?_⟩
    rw [Int.toNat_of_nonneg hx.1]; exact h
  · rintro ⟨hx, h⟩
    have := (I.row x.toNat (by omega)).mp h
    rwa [Int.toNat_of_nonneg hx.1] at this
theorem found_ring {row us : List Int} (I : FoundI n E c row us) : Ring n E (roadsR row) := by
  have p := found_perm hE nl hc I
  have hsub := roadsR_sub (row := row) I.rlen
  have hrd := Rd.range hsub
  generalize roadsR row = l at *
  have pe : (ed E (c :: us)).Perm (ed E l) := p.map _
  have he := ends_ed hE hrd
  have hd := headF_hd he
  have hnl : ∀ e ∈ ed E l, e.1 ≠ e.2 := fun e h => by
    obtain ⟨x, hx, rfl⟩ := List.mem_map.mp h
    exact nl _ (en_mem (hrd x hx))
  have two : ∀ x, NT.deg (ed E l) x = 0 ∨ NT.deg (ed E l) x = 2 := fun x => by
    rw [← deg_perm pe]; exact I.two x
  have cn : ∀ x, NT.deg (ed E l) x ≠ 0 → Cn (ed E l) (en E c).1 x := fun x h => by
    rw [← deg_perm pe] at h
    exact (cn_perm pe).mp (I.cn x h)
  have hcl : c ∈ l := p.subset List.mem_cons_self
  have hce : en E c ∈ ed E l := List.mem_map.mpr ⟨c, hcl, rfl⟩
  have ha := (hE _ (en_mem hc)).1
  have ham : (en E c).1 ∈ endsL (ed E l) := mem_endsL.mpr ⟨_, hce, .inl rfl⟩
  generalize (en E c).1 = a at *
  refine ringE_iff.mp ((ring_loop he hnl hd).mpr ⟨(fun e => by rw [e] at hce; cases hce), fun x hx => ?_, ?_⟩)
  · have := deg_pos.mpr hx
    rcases two x with h | h
    · omega
    · exact h
  · generalize headF (ed E l) = f at *
    have hfa := hd.lt a ha
    have hff := hd.idem a ha
    refine one_of (z := f a) ((List.nodup_range).sublist List.filter_sublist) (fun y hy => ?_) (List.mem_filter.mpr ⟨List.mem_range.mpr hfa, ?_⟩)
    · obtain ⟨h1, h2⟩ := List.mem_filter.mp hy
      rw [Bool.and_eq_true, decide_eq_true_eq] at h2
      have hym : y ∈ endsL (ed E l) := of_decide_eq_true h2.2
      have := (hd.ker a y ha (List.mem_range.mp h1)).mpr (cn y (by have := deg_pos.mpr hym; omega))
      rw [this, h2.1]
    · rw [hff, decide_eq_true rfl, Bool.true_and]
      refine decide_eq_true ?_
      refine Classical.byContradiction fun hn => ?_
      have h3 := (hd.ker (f a) a hfa ha).mp hff
      have := cn_alone h3 hn
      rw [this] at hn
      exact hn ham
theorem ring_in_laps {C : List Int} (hC : (c :: C).Sublist (rangeI E.length)) (h : Ring n E (c :: C)) : ∀ k,
    (∃ row ∈ (laps E c k).1, ∃ us, FoundI n E c row us ∧ ∀ r ∈ us, r ∈ C) ∨ ∃ w ∈ (laps E c k).2, ∃ us, PathI n E c k w us ∧ ∀ r ∈ us, r ∈ C
  | 0 => .inr ⟨_, List.mem_cons_self, [], path0 hE nl hc, fun r hr => nomatch hr⟩
  | k + 1 => by
    rcases ring_in_laps hC h k with ⟨row, hr, us, I, hu⟩ | ⟨w, hw, us, I, hu⟩
    · exact .inl ⟨row, List.mem_append.mpr (.inl hr), us, I, hu⟩
    have hrd := Rd.range hC
    have hnl : ∀ e ∈ ed E (c :: C), e.1 ≠ e.2 := fun e h => by
      obtain ⟨x, hx, rfl⟩ := List.mem_map.mp h
      exact nl _ (en_mem (hrd x hx))
    have he := ends_ed hE hrd
    have L := (ring_loop he hnl (headF_hd he)).mp (ringE_iff.mpr h)
    have hasc := (rangeI_lt E.length).sublist hC
    have hcu : c ∉ us := fun h => by have := (I.up c h).1; omega
    have hnd := asc_nodup hC
    -- the ring's other roads
    have pr : (c :: C).Perm ((c :: us) ++ C.filter fun r => !decide (r ∈ us)) := by
      refine (List.perm_ext_iff_of_nodup hnd ?_).mpr fun x => ?_
      · refine List.nodup_append.mpr ⟨List.nodup_cons.mpr ⟨hcu, I.nd⟩, (List.nodup_cons.mp hnd).2.sublist List.filter_sublist, fun a ha b hb e => ?_⟩
        subst e
        obtain ⟨b1, b2⟩ := List.mem_filter.mp hb
        rcases List.mem_cons.mp ha with rfl | ha
        · exact (List.nodup_cons.mp hnd).1 b1
        · simp [ha] at b2
      · rw [List.mem_append, List.mem_cons, List.mem_cons, List.mem_filter]
        constructor
        · rintro (h | h)
          · exact .inl (.inl h)
          · by_cases e : x ∈ us
            · exact .inl (.inr e)
            · exact .inr ⟨h, by simp [e]⟩
        · rintro ((h | h) | h)
          · exact .inl h
          · exact .inr (hu x h)
          · exact .inr h.1
    have hdg : ∀ x, NT.deg (ed E (c :: C)) x = NT.deg (ed E (c :: us)) x + NT.deg (ed E (C.filter fun r => !decide (r ∈ us))) x := fun x => by
      have pm : (ed E (c :: C)).Perm (ed E (c :: us) ++ ed E (C.filter fun r => !decide (r ∈ us))) := by
        have := pr.map (en E)
        rw [List.map_append] at this
        exact this
      rw [deg_perm pm x, deg_app]
    have htwo : ∀ x, NT.deg (ed E (c :: C)) x ≤ 2 := fun x => by
      by_cases e : x ∈ endsL (ed E (c :: C))
      · rw [L.two x e]; exact Nat.le_refl 2
      · have : NT.deg (ed E (c :: C)) x = 0 := by
          have := mt deg_pos.mp e
          omega
        omega
    have hmt := (I.mlt _ I.here).2
    have hd1 : NT.deg (ed E (c :: us)) w.2.1 = 1 := by rw [I.deg, if_neg hmt, if_pos I.here, if_pos rfl]
    have hin : w.2.1 ∈ endsL (ed E (c :: C)) := deg_pos.mp (by rw [hdg, hd1]; omega)
    have hd2 := hdg w.2.1
    rw [L.two _ hin, hd1] at hd2
    obtain ⟨e, hem, hee⟩ := mem_endsL.mp (deg_pos.mp (show 0 < NT.deg (ed E (C.filter fun r => !decide (r ∈ us))) w.2.1 by omega))
    obtain ⟨r, hr, rfl⟩ := List.mem_map.mp hem
    obtain ⟨hrC, hru⟩ := List.mem_filter.mp hr
    have hru : r ∉ us := by simpa using hru
    have hcr : c < r := (List.pairwise_cons.mp hasc).1 r hrC
    have hrr := hrd r (List.mem_cons_of_mem _ hrC)
    have hrn := nl _ (en_mem hrr)
    obtain ⟨s, t, hst, hte⟩ : ∃ (s : Int) (t : Nat), (r, s, t) ∈ stepsF E w.2.1 ∧ ((en E r).1 = t ∨ (en E r).2 = t) ∧ t ≠ w.2.1 := by
      rcases hee with e | e
      · exact ⟨1, (en E r).2, mem_steps.mpr ⟨hrr, .inl ⟨rfl, by rw [← e]⟩⟩, .inr rfl, fun z => hrn (e.trans z.symm)⟩
      · exact ⟨-1, (en E r).1, mem_steps.mpr ⟨hrr, .inr ⟨rfl, by rw [← e]⟩⟩, .inl rfl, fun z => hrn (z.trans e.symm)⟩
    have htm : t ∉ w.2.2 := fun hm => by
      have h1 := hdg t
      have h2 : NT.deg (ed E (c :: us)) t = 2 := by rw [I.deg, if_neg (I.mlt t hm).2, if_pos hm, if_neg hte.2]
      have h3 : 0 < NT.deg (ed E (C.filter fun r => !decide (r ∈ us))) t := deg_pos.mpr (mem_endsL.mpr ⟨_, hem, hte.1⟩)
      have := htwo t
      omega
    have hon : (r, s, t) ∈ onW E c w := List.mem_filter.mpr ⟨hst, by
      unfold okSt
      rw [Bool.and_eq_true, Bool.not_eq_true', decide_eq_true_eq, decide_eq_false_iff_not]
      exact ⟨hcr, htm⟩⟩
    have hu2 : ∀ x ∈ us ++ [r], x ∈ C := fun x hx => by
      rcases List.mem_append.mp hx with hx | hx
      · exact hu x hx
      · rw [List.mem_singleton.mp hx]; exact hrC
    by_cases ea : t = (en E c).1
    · exact .inl ⟨_, List.mem_append.mpr (.inr (List.mem_flatMap.mpr ⟨w, hw, List.mem_map.mpr ⟨(r, s, t), List.mem_filter.mpr ⟨hon, decide_eq_true ea⟩, rfl⟩⟩)), _, step_found hE nl hc I hon ea, hu2⟩
    · exact .inr ⟨_, List.mem_flatMap.mpr ⟨w, hw, List.mem_map.mpr ⟨(r, s, t), List.mem_filter.mpr ⟨hon, by simp [ea]⟩, rfl⟩⟩, _, step_late hE nl hc I hon ea, hu2⟩
end
theorem ring_same {n : Nat} {E : List Ed} (hE : Ends n E) {A B : List Int} (hA : A.Sublist (rangeI E.length)) (hB : B.Sublist (rangeI E.length)) (rA : Ring n E A) (rB : Ring n E B) (h : ∀ x ∈ A, x ∈ B) : A = B := by
  have hs : A.Sublist B := sub_of_sorted ((rangeI_lt _).sublist hA) ((rangeI_lt _).sublist hB) h
  by_cases hb : ∀ x ∈ B, x ∈ A
  · have h2 : B.Sublist A := sub_of_sorted ((rangeI_lt _).sublist hB) ((rangeI_lt _).sublist hA) hb
    exact hs.eq_of_length_le h2.length_le
  · obtain ⟨x, hx⟩ := Classical.not_forall.mp hb
    obtain ⟨hxB, hxA⟩ := Classical.not_imp.mp hx
    obtain ⟨k, hk, rfl⟩ := List.getElem_of_mem hxB
    refine (rA.1 ?_).elim
    have ndB := asc_nodup hB
    have hrB := Rd.range hB
    refine (rB.2 k hk).sub hE (hrB.sub fun y hy => (List.eraseIdx_sublist _ _).subset hy) (sub_of_sorted ((rangeI_lt _).sublist hA) ((rangeI_lt _).sublist ((List.eraseIdx_sublist B k).trans hB)) fun y hy => ?_)
    have p := erase_perm hk
    rcases List.mem_cons.mp (p.symm.subset (h y hy)) with e | e
    · exact (hxA (e ▸ hy)).elim
    · exact e
/-- the rows found, all roads taken as the least one -/
def rowsOf (n : Nat) (E : List Ed) (c : Int) : List (List Int) := (laps E c n).1
theorem rings_all {n : Nat} {E : List Ed} (hE : Ends n E) (nl : ∀ e ∈ E, e.1 ≠ e.2) {l : List Int} : (∃ c ∈ rangeI E.length, ∃ row ∈ rowsOf n E c, roadsR row = l) ↔ l.Sublist (rangeI E.length) ∧ Ring n E l := by
  constructor
  · rintro ⟨c, hc, row, hr, rfl⟩
    have hc := mem_rangeI.mp hc
    obtain ⟨us, I⟩ := (laps_inv hE nl hc n).2 row hr
    exact ⟨roadsR_sub I.rlen, found_ring hE nl hc I⟩
  · rintro ⟨h1, h2⟩
    cases l with
    | nil => exact (h2.ne rfl).elim
    | cons c C =>
      have hc := h1.subset List.mem_cons_self
      have hc' := mem_rangeI.mp hc
      rcases ring_in_laps hE nl hc' h1 h2 n with ⟨row, hr, us, I, hu⟩ | ⟨w, hw, _⟩
      · refine ⟨c, hc, row, hr, ring_same hE (roadsR_sub I.rlen) h1 (found_ring hE nl hc' I) h2 fun x hx => ?_⟩
        rcases List.mem_cons.mp ((found_perm hE nl hc' I).symm.subset hx) with rfl | hx
        · exact List.mem_cons_self
        · exact List.mem_cons_of_mem _ (hu x hx)
      · rw [laps_end hE nl hc' (Nat.le_refl n)] at hw; cases hw
/-! ### how many -/
def fct : Nat → Nat
  | 0 => 1
  | k + 1 => (k + 1) * fct k
theorem fct_pos : ∀ k, 1 ≤ fct k
  | 0 => Nat.le_refl 1
  | k + 1 => Nat.le_trans (fct_pos k) (Nat.le_mul_of_pos_left _ (Nat.succ_pos k))
theorem filter_both {α : Type} (p : α → Bool) (l : List α) : (l.filter p).length + (l.filter fun x => !p x).length = l.length := by
  induction l with
  | nil => rfl
  | cons x l ih =>
    cases h : p x <;> simp [h] <;> omega
theorem flat_sum {α : Type} {f g : Way → List α} {h : Way → List Way} {F G : Nat} : ∀ {ws : List Way}, (∀ w ∈ ws, (f w).length + (h w).length * F ≤ G) → (ws.flatMap f).length + (ws.flatMap h).length * F ≤ ws.length * G
  | [], _ => by simp
  | w :: ws, hh => by
    have ih := flat_sum (g := g) (f := f) (h := h) (F := F) (G := G) (ws := ws) fun v hv => hh v (List.mem_cons_of_mem _ hv)
    have h0 := hh w List.mem_cons_self
    rw [List.flatMap_cons, List.flatMap_cons, List.length_append, List.length_append, List.length_cons, Nat.add_mul, Nat.succ_mul]
    omega
section
variable {n : Nat} {E : List Ed} (hE : Ends n E) (nl : ∀ e ∈ E, e.1 ≠ e.2) {c : Int} (hc : 0 ≤ c ∧ c < (E.length : Int))
include hE nl hc
theorem on_len {k : Nat} {w : Way} {us : List Int} (I : PathI n E c k w us) : (onW E c w).length + k ≤ E.length - 1 - c.toNat := by
  have nd : ((onW E c w).map (·.1) ++ us).Nodup := by
    refine List.nodup_append.mpr ⟨(step_roads nl w.2.1).sublist ((List.filter_sublist (l := stepsF E w.2.1)).map _), I.nd, fun a ha b hb e => ?_⟩
    obtain ⟨st, hst, rfl⟩ := List.mem_map.mp ha
    exact (step_on hE nl hc I hst).2.2.2.1 (e ▸ hb)
  have hr : ∀ x ∈ (onW E c w).map (·.1) ++ us, c < x ∧ x < (E.length : Int) := fun x hx => by
    rcases List.mem_append.mp hx with hx | hx
    · obtain ⟨st, hst, rfl⟩ := List.mem_map.mp hx
      exact (step_on hE nl hc I hst).1
    · exact I.up x hx
  have := nodup_le (m := (rangeI (E.length - 1 - c.toNat)).map fun i => i + (c + 1)) nd fun x hx => by
    obtain ⟨h1, h2⟩ := hr x hx
    exact List.mem_map.mpr ⟨x - (c + 1), mem_rangeI.mpr ⟨by omega, by omega⟩, by omega⟩
  rw [List.length_append, List.length_map, List.length_map, rangeI_len, I.len] at this
  exact this
theorem laps_count : ∀ k, (laps E c k).1.length + (laps E c k).2.length * fct (E.length - 1 - c.toNat - k) ≤ fct (E.length - 1 - c.toNat)
  | 0 => by
    show 0 + 1 * fct (E.length - 1 - c.toNat - 0) ≤ _
    rw [Nat.sub_zero]; omega
  | k + 1 => by
    have ih := laps_count k
    have key := flat_sum (f := foundW E c (en E c).1) (g := foundW E c (en E c).1) (h := lateW E c (en E c).1) (F := fct (E.length - 1 - c.toNat - (k + 1))) (G := fct (E.length - 1 - c.toNat - k)) (ws := (laps E c k).2) fun w hw => by
      obtain ⟨us, I⟩ := (laps_inv hE nl hc k).1 w hw
      have h1 := on_len hE nl hc I
      have h2 : (foundW E c (en E c).1 w).length + (lateW E c (en E c).1 w).length = (onW E c w).length := by
        unfold foundW lateW
        rw [List.length_map, List.length_map]
        exact filter_both _ _
      generalize (foundW E c (en E c).1 w).length = y at *
      generalize (lateW E c (en E c).1 w).length = x at *
      cases hM : E.length - 1 - c.toNat - k with
      | zero =>
        have e1 : x = 0 := by omega
        have e2 : y = 0 := by omega
        rw [e1, e2]; simp
      | succ j =>
        rw [show E.length - 1 - c.toNat - (k + 1) = j by omega]
        have := fct_pos j
        have h3 : x + y ≤ j + 1 := by omega
        have h4 : (x + y) * fct j ≤ (j + 1) * fct j := Nat.mul_le_mul_right _ h3
        rw [Nat.add_mul] at h4
        have h5 : y ≤ y * fct j := Nat.le_mul_of_pos_right _ this
        show y + x * fct j ≤ (j + 1) * fct j
        omega
    show ((laps E c k).1 ++ _).length + _ ≤ _
    rw [List.length_append]
    have e : (laps E c (k + 1)).2 = (laps E c k).2.flatMap (lateW E c (en E c).1) := rfl
    rw [e]
    omega
theorem laps_small (k : Nat) : (laps E c k).1.length + (laps E c k).2.length ≤ fct (E.length - 1 - c.toNat) := by
  have h1 := laps_count hE nl hc k
  have h2 : (laps E c k).2.length ≤ (laps E c k).2.length * fct (E.length - 1 - c.toNat - k) := Nat.le_mul_of_pos_right _ (fct_pos _)
  omega
end
theorem fct_720 {k : Nat} (h : k ≤ 6) : fct k ≤ 720 := by
  have : k = 0 ∨ k = 1 ∨ k = 2 ∨ k = 3 ∨ k = 4 ∨ k = 5 ∨ k = 6 := by omega
  rcases this with rfl | rfl | rfl | rfl | rfl | rfl | rfl <;> decide
def allRows (n : Nat) (E : List Ed) (r : Nat) : List (List Int) := ((rangeI E.length).take r).flatMap (rowsOf n E)
def fctS (m r : Nat) : Nat := ((List.range r).map fun i => fct (m - 1 - i)).sum
theorem fctS_small : ∀ m, m ≤ 7 → ∀ r, r ≤ m → fctS m r ≤ 2000 := by decide
theorem allRows_succ {n : Nat} {E : List Ed} {r : Nat} {x : Int} (h : (rangeI E.length)[r]? = some x) : allRows n E (r + 1) = allRows n E r ++ rowsOf n E x := by
  unfold allRows
  rw [List.take_succ, h, List.flatMap_append]
  simp
theorem allRows_len {n : Nat} {E : List Ed} (hE : Ends n E) (nl : ∀ e ∈ E, e.1 ≠ e.2) : ∀ r, r ≤ E.length → (allRows n E r).length ≤ fctS E.length r
  | 0, _ => Nat.zero_le _
  | r + 1, hr => by
    have ih := allRows_len hE nl r (by omega)
    have hx : (rangeI E.length)[r]? = some (r : Int) := by
      unfold rangeI
      rw [List.getElem?_map, List.getElem?_range (by omega)]; rfl
    rw [allRows_succ hx, List.length_append]
    have h1 := laps_small hE nl (c := (r : Int)) ⟨by omega, by omega⟩ n
    rw [show ((r : Int)).toNat = r by omega] at h1
    unfold fctS at ih ⊢
    rw [List.range_succ, List.map_append, List.sum_append]
    show _ + (laps E (r : Int) n).1.length ≤ _ + (fct (E.length - 1 - r) + 0)
    omega
end K24

/-! k24: simple rings, by the program. -/
namespace K24
open PySem L2 DL NT
section
variable {X : Cx} {r : SR} {S : List Sl}
/-- if, and both ways meet, the test known -/
theorem jifN {N : List Sl → Prop} {t : Expr} {a b rest : List Stmt} {pos : Pos} {E : DE} (h : JT X r t S fun k S1 => if k = true then JSs X r a S1 { E with nx := N } else JSs X r b S1 { E with nx := N }) (h3 : ∀ S2, N S2 → JSs X r rest S2 E) : JSs X r (.If t a b pos :: rest) S E :=
  jif (h.mono fun k S' e => by
    cases k with
    | true => rw [if_pos rfl] at e ⊢; exact e.mono h3 (fun _ z => z) (fun _ z => z) (fun _ z => z)
    | false => rw [if_neg Bool.false_ne_true] at e ⊢; exact e.mono h3 (fun _ z => z) (fun _ z => z) (fun _ z => z))
end
/-! ### plain -/
theorem enumD_row (row : List Int) : enumD (row.map .int) = (List.range row.length).map fun (i : Nat) => .tuple [.int (i : Int), .int (row.getD i 0)] := by
  unfold enumD
  rw [List.length_map]
  refine List.map_congr_left fun i hi => ?_
  have hi := List.mem_range.mp hi
  rw [List.getD_eq_getElem?_getD, List.getElem?_map, List.getD_eq_getElem?_getD, List.getElem?_eq_getElem hi]; rfl
theorem roadsR_map (row : List Int) : ((List.range row.length).filter fun i => !decide (row.getD i 0 = 0)).map (fun (i : Nat) => PyData.int (i : Int)) = (roadsR row).map .int := by
  unfold roadsR rangeI
  rw [List.filter_map, List.map_map]
  rfl
def turnR (row : List Int) : List Int := row.map fun x => -x
theorem turnR_roads (row : List Int) : roadsR (turnR row) = roadsR row := by
  unfold roadsR turnR
  rw [List.length_map]
  refine List.filter_congr fun x hx => ?_
  have hx := mem_rangeI.mp hx
  have h : x.toNat < row.length := by omega
  rw [List.getD_eq_getElem?_getD, List.getElem?_map, List.getD_eq_getElem?_getD, List.getElem?_eq_getElem h]
  show (!decide (-(row[x.toNat]) = 0)) = !decide (row[x.toNat] = 0)
  congr 1
  rw [Bool.eq_iff_iff, decide_eq_true_eq, decide_eq_true_eq]; omega
def metL (met : List Nat) : List Int := met.map fun (x : Nat) => (x : Int)
theorem mem_metL {met : List Nat} {t : Nat} : decide ((t : Int) ∈ metL met) = decide (t ∈ met) := by
  unfold metL
  rw [Bool.eq_iff_iff, decide_eq_true_eq, decide_eq_true_eq, List.mem_map]
  constructor
  · rintro ⟨y, hy, e⟩
    rw [show t = y by omega]; exact hy
  · exact fun h => ⟨t, h, rfl⟩
theorem metL_app (a : List Nat) (t : Nat) : metL (a ++ [t]) = metL a ++ [(t : Int)] := by unfold metL; rw [List.map_append]; rfl
def stepD (st : Step) : DL.D := .tuple [.int st.1, .int st.2.1, .int (st.2.2 : Int)]
def wayD (w : Way) : DL.D := .tuple [tupI w.1, .int (w.2.1 : Int), tupI (metL w.2.2)]
theorem tupI_snoc (l : List Int) (x : Int) : tupI (l ++ [x]) = .tuple (l.map .int ++ [.int x]) := by unfold tupI; rw [List.map_append]; rfl
/-- all rows, both ways -/
def ringRows (n : Nat) (E : List Ed) : List (List Int) := sortL (allRows n E E.length ++ (allRows n E E.length).map turnR)
theorem mem_allRows {n : Nat} {E : List Ed} {row : List Int} : row ∈ allRows n E E.length ↔ ∃ c ∈ rangeI E.length, row ∈ rowsOf n E c := by
  unfold allRows
  rw [List.take_of_length_le (by rw [rangeI_len]; exact Nat.le_refl _), List.mem_flatMap]
theorem mem_rr {n : Nat} {E : List Ed} (hE : Ends n E) (nl : ∀ e ∈ E, e.1 ≠ e.2) {l : List Int} : l ∈ (ringRows n E).map roadsR ↔ l.Sublist (rangeI E.length) ∧ Ring n E l := by
  rw [← rings_all hE nl, List.mem_map]
  unfold ringRows
  constructor
  · rintro ⟨row, hr, rfl⟩
    rcases List.mem_append.mp ((sortL_perm _).mem_iff.mp hr) with h | h
    · obtain ⟨c, hc, h⟩ := mem_allRows.mp h
      exact ⟨c, hc, row, h, rfl⟩
    · obtain ⟨row2, h2, rfl⟩ := List.mem_map.mp h
      obtain ⟨c, hc, h3⟩ := mem_allRows.mp h2
      exact ⟨c, hc, row2, h3, (turnR_roads _).symm⟩
  · rintro ⟨c, hc, row, h, rfl⟩
    exact ⟨row, (sortL_perm _).mem_iff.mpr (List.mem_append.mpr (.inl (mem_allRows.mpr ⟨c, hc, h⟩))), rfl⟩
theorem mem_ringsL {n : Nat} {E : List Ed} {l : List Int} : l ∈ ringsL n E ↔ l.Sublist (rangeI E.length) ∧ Ring n E l := by
  unfold ringsL
  rw [List.mem_filter, mem_allL, Bool.and_eq_true, RingB_iff]
  refine ⟨fun h => ⟨h.1, h.2.2⟩, fun h => ⟨h.1, ?_, h.2⟩⟩
  have := h.2.ne
  cases l with
  | nil => exact (this rfl).elim
  | cons _ _ => rfl
def brokenS (n : Nat) (E : List Ed) : List (List Int) := sortL (uni [] (brokenL n E))
theorem keys_one {A B : List (List Int)} (v : DL.D) (hB : B.Pairwise fun a b => ltL a b = true) (h : ∀ x, x ∈ A ↔ x ∈ B) : sortL ((mergeD [] (A.map fun l => (l, v))).map (·.1)) = B := by
  have nd : (keyL (mergeD [] (A.map fun l => (l, v)))).Nodup := nodup_merge _ (kvs := []) List.nodup_nil
  refine sorted_one (sortL_lt nd) hB fun x => ?_
  rw [(sortL_perm _).mem_iff, ← h]
  have := @mem_keys_merge x (A.map fun l => (l, v)) []
  unfold keyL at this
  rw [this]
  simp only [List.map_nil, List.not_mem_nil, false_or, List.map_map]
  rw [List.mem_map]
  constructor
  · rintro ⟨y, hy, rfl⟩; exact hy
  · exact fun hx => ⟨x, hx, rfl⟩
theorem brokenS_lt (n : Nat) (E : List Ed) : (brokenS n E).Pairwise fun a b => ltL a b = true := sortL_lt (nodup_uni _ [] List.nodup_nil)
theorem mem_brokenS {n : Nat} {E : List Ed} {x : List Int} : x ∈ brokenL n E ↔ x ∈ brokenS n E := by
  unfold brokenS
  rw [(sortL_perm _).mem_iff, mem_uni]; simp
theorem take_flat {α β : Type} {f : α → List β} {l : List α} {i : Nat} {x : α} (h : l[i]? = some x) : (l.take (i + 1)).flatMap f = (l.take i).flatMap f ++ f x := by
  rw [List.take_succ, h, List.flatMap_append]; simp
theorem take_flat_le {α β : Type} (f : α → List β) (l : List α) (i : Nat) : ((l.take i).flatMap f).length ≤ (l.flatMap f).length := by
  have : l.flatMap f = (l.take i).flatMap f ++ (l.drop i).flatMap f := by rw [← List.flatMap_append, List.take_append_drop]
  rw [this, List.length_append]; omega
section
variable {P : Program} {w : World} {K : PySem.W.Frag} {mg : Str → Option Value} {base : Heap}
theorem scroads_of_row : FnScope ["row", "road", "number"] ["row"] (defScope (topS 9)) := ⟨rfl, rfl, rfl, by decide +kernel, rfl, by decide +kernel, by decide +kernel⟩
theorem scturned_row : FnScope ["row", "number"] ["row"] (defScope (topS 12)) := ⟨rfl, rfl, rfl, by decide +kernel, rfl, by decide +kernel, by decide +kernel⟩
theorem scsteps_on : FnScope ["frame", "crossing", "found", "road", "a", "b"] ["frame", "crossing"] (defScope (topS 13)) := ⟨rfl, rfl, rfl, by decide +kernel, rfl, by decide +kernel, by decide +kernel⟩
theorem scrings_from : FnScope ["frame", "first", "a", "b", "row", "found", "ways", "late", "here", "met", "road", "sign", "there", "more", "one", "number"] ["frame", "first"] (defScope (topS 14)) := ⟨rfl, rfl, rfl, by decide +kernel, rfl, by decide +kernel, by decide +kernel⟩
theorem sc_simple_ring_rows : FnScope ["frame", "found", "road", "row"] ["frame"] (defScope (topS 15)) := ⟨rfl, rfl, rfl, by decide +kernel, rfl, by decide +kernel, by decide +kernel⟩
theorem scring_lots : FnScope ["frame", "row"] ["frame"] (defScope (topS 17)) := ⟨rfl, rfl, rfl, by decide +kernel, rfl, by decide +kernel, by decide +kernel⟩
theorem scbroken_rings : FnScope ["frame", "ring"] ["frame"] (defScope (topS 18)) := ⟨rfl, rfl, rfl, by decide +kernel, rfl, by decide +kernel, by decide +kernel⟩
/-! ### rows -/
def φRoadsR : List Ar → (DL.D → Prop) → Prop := fun as Kd => ∃ row : List Int, as = [.d (tupI row)] ∧ row.length ≤ 1000 ∧ Kd (tupI (roadsR row))
theorem ok_roadsR {f : Addr} {fd : FuncData} (F : Fun K "roads_of_row" "roads_of_row" (topS 9) f fd) (T : Txt mg) : FnOk P w K mg base CX0 1 f fd ["row"] (SpD φRoadsR) := by
  refine fn_D F scroads_of_row (fun as Kd h => ?_) (fun as Kd r cdv A outer s H E hr h => ?_)
  · obtain ⟨row, rfl, _⟩ := h
    rfl
  · obtain ⟨row, rfl, hl, k⟩ := h
    have nd := scroads_of_row.nd
    refine jret <| jtupN T.tup <| jlc [("road", 1), ("number", 2)] [1, 2] <| jenumT T.enu <| jv 0 ⟨row.map .int, rfl, ?_⟩
    rw [enumD_row]
    refine lcL (List.range row.length) (fun (i : Nat) => .tuple [.int (i : Int), .int (row.getD i 0)]) (fun i => !decide (row.getD i 0 = 0)) (fun (i : Nat) => .int (i : Int)) (fun i hi => lp1P 1 2 ?_) ?_ (by rw [List.length_range]; omega)
    · intro _ _ _ _ _
      exact jtcmp op_neD <| jv 2 <| je_int <| od_ne (α := Int) hr (by decide) ⟨_, rfl, rfl, fun _ => rfl, fun _ _ _ _ _ _ => jv 1 ⟨rfl, rfl⟩⟩
    · rw [roadsR_map]; exact k
def φTurnR : List Ar → (DL.D → Prop) → Prop := fun as Kd => ∃ row : List Int, as = [.d (tupI row)] ∧ row.length ≤ 1000 ∧ Kd (tupI (turnR row))
theorem ok_turnR {f : Addr} {fd : FuncData} (F : Fun K "turned_row" "turned_row" (topS 12) f fd) (T : Txt mg) : FnOk P w K mg base CX0 1 f fd ["row"] (SpD φTurnR) := by
  refine fn_D F scturned_row (fun as Kd h => ?_) (fun as Kd r cdv A outer s H E hr h => ?_)
  · obtain ⟨row, rfl, _⟩ := h
    rfl
  · obtain ⟨row, rfl, hl, k⟩ := h
    have nd := scturned_row.nd
    refine jret <| jtupN T.tup <| jlc [("number", 1)] [1] <| jiT <| jv 0 ⟨row.map .int, rfl, lcL row .int (fun _ => true) (fun x => .int (-x)) (fun x hx => lp0 1 ?_) ?_⟩
    · intro _ _ _ _ _
      exact je_un un_neg <| jv 1 <| ud_neg ⟨rfl, rfl⟩
    · rw [filter_true]
      have : row.map (fun x => PyData.int (-x)) = (turnR row).map .int := by unfold turnR; rw [List.map_map]; rfl
      rw [this]; exact k
/-! ### steps -/
def φSteps : List Ar → (DL.D → Prop) → Prop := fun as Kd => ∃ (n : Nat) (E : List Ed) (c : Nat), as = [.d (frameD n E), .d (.int (c : Int))] ∧ E.length ≤ 1000 ∧ Kd (.list ((stepsF E c).map stepD))
theorem ok_steps {f : Addr} {fd : FuncData} (F : Fun K "steps_on" "steps_on" (topS 13) f fd) (T : Txt mg) : FnOk P w K mg base CX0 1 f fd ["frame", "crossing"] (SpD φSteps) := by
  refine fn_D F scsteps_on (fun as Kd h => ?_) (fun as Kd r cdv A outer s H E hr h => ?_)
  · obtain ⟨n, E, c, rfl, _⟩ := h
    rfl
  · obtain ⟨n, es, c, rfl, hm, k⟩ := h
    have nd := scsteps_on.nd
    have hz : sizeLine = 16777216 := sizeLine_eq
    refine jsetN 2 <| jn_lst (jA0 ⟨[], rfl, Nat.zero_le _, ?_⟩)
    refine jfor [3, 4, 5] (jenumT T.enu <| jix ix_tup <| jv 0 <| je_int <| od_ixT (d := .tuple (es.map edD)) rfl ⟨es.map edD, rfl, fun i S' => ∃ (L : List Step) (o3 o4 o5 : Option DL.D), L = ((rangeI es.length).take i).flatMap (stepAt es c) ∧ L.length ≤ 2 * i ∧ S' = [.val (frameD n es), .val (.int (c : Int)), .own (L.map stepD), vS o3, vS o4, vS o5], ⟨[], none, none, none, rfl, Nat.zero_le _, rfl⟩, ?_, ?_⟩)
    · rintro i d S' hd ⟨L, o3, o4, o5, hL, hLl, rfl⟩
      have hi : i < es.length := by
        have := (List.getElem?_eq_some_iff.mp hd).1
        unfold enumD at this
        rwa [List.length_map, List.length_range, List.length_map] at this
      have hxi : (rangeI es.length)[i]? = some (i : Int) := by
        unfold rangeI
        rw [List.getElem?_map, List.getElem?_range hi]; rfl
      have hde : d = .tuple [.int (i : Int), .tuple [.int ((en es (i : Int)).1 : Int), .int ((en es (i : Int)).2 : Int)]] := by
        unfold enumD at hd
        rw [List.getElem?_map, List.getElem?_range (by rw [List.length_map]; exact hi)] at hd
        have := (Option.some.inj hd).symm
        rw [this]
        show PyData.tuple [.int (i : Int), (es.map edD).getD i .none] = _
        rw [List.getD_eq_getElem?_getD, List.getElem?_map, List.getElem?_eq_getElem hi]
        unfold en
        rw [show ((i : Int)).toNat = i by omega, List.getD_eq_getElem?_getD, List.getElem?_eq_getElem hi]; rfl
      subst hde
      have tk := take_flat (f := stepAt es c) hxi
      have hsl : ∀ x, (stepAt es c x).length ≤ 2 := fun x => by
        unfold stepAt
        rw [List.length_append]
        split <;> split <;> simp
      have hsi := hsl (i : Int)
      refine jgT <| jgs <| jg 3 <| jgs <| jgT <| jgs <| jg 4 <| jgs <| jg 5 <| jgs_nil <| jgs_nil ?_
      have se : stepAt es c (i : Int) = (if (en es (i : Int)).1 = c then [((i : Int), (1 : Int), (en es (i : Int)).2)] else []) ++ (if (en es (i : Int)).2 = c then [((i : Int), (-1 : Int), (en es (i : Int)).1)] else []) := rfl
      rw [se, ← List.append_assoc, ← hL] at tk
      clear se hsi
      generalize en es (i : Int) = e at *
      refine jifN (N := fun S2 => S2 = [.val (frameD n es), .val (.int (c : Int)), .own ((L ++ if e.1 = c then [((i : Int), (1 : Int), e.2)] else []).map stepD), .val (.int (i : Int)), .val (.int (e.1 : Int)), .val (.int (e.2 : Int))]) ?_ ?_
      · refine jtcmp op_eqD <| jv 4 <| jv 1 <| od_eq (α := Int) hr (by decide) ⟨_, rfl, ifb (fun h => ?_) (fun h => jss_nil ?_)⟩
        · rw [if_pos (show e.1 = c by have := of_decide_eq_true h; omega)]
          refine jappend 2 _ <| je_tup <| jA <| jv 3 <| jA <| je_int <| ja1 <| jv 5 ⟨_, rfl, by show 3 ≤ sizeLine; omega, L.map stepD, rfl, by rw [List.length_map]; omega, jss_nil ?_⟩
          rw [List.map_append]; rfl
        · rw [if_neg (show ¬ e.1 = c from fun z => by have := of_decide_eq_false h; exact this (by rw [z])), List.append_nil]; rfl
      rintro S2 rfl
      have hL1 : (L ++ if e.1 = c then [((i : Int), (1 : Int), e.2)] else []).length ≤ L.length + 1 := by
        rw [List.length_append]
        split <;> simp
      generalize (L ++ if e.1 = c then [((i : Int), (1 : Int), e.2)] else []) = L1 at *
      refine jif <| jtcmp op_eqD <| jv 5 <| jv 1 <| od_eq (α := Int) hr (by decide) ⟨_, rfl, ifb (fun h => ?_) (fun h => jss_nil <| jss_nil ?_)⟩
      · rw [if_pos (show e.2 = c by have := of_decide_eq_true h; omega)] at tk
        refine jappend 2 _ <| je_tup <| jA <| jv 3 <| jA <| je_un un_neg <| je_int <| ud_neg <| ja1 <| jv 4 ⟨_, rfl, by show 3 ≤ sizeLine; omega, L1.map stepD, rfl, by rw [List.length_map]; omega, jss_nil <| jss_nil ⟨L1 ++ [((i : Int), (-1 : Int), e.1)], some (.int (i : Int)), some (.int (e.1 : Int)), some (.int (e.2 : Int)), tk.symm, ?_, ?_⟩⟩
        · rw [← tk]
          have := take_flat_le (stepAt es c) (rangeI es.length) (i + 1)
          have hh : ∀ l : List Int, (l.flatMap (stepAt es c)).length ≤ 2 * l.length := fun l => by
            induction l with
            | nil => exact Nat.zero_le _
            | cons x l ih => rw [List.flatMap_cons, List.length_append, List.length_cons]; have := hsl x; omega
          have := hh ((rangeI es.length).take (i + 1))
          rw [List.length_take] at this
          omega
        · rw [List.map_append]; rfl
      · rw [if_neg (show ¬ e.2 = c from fun z => by have := of_decide_eq_false h; exact this (by rw [z])), List.append_nil] at tk
        refine ⟨L1, some (.int (i : Int)), some (.int (e.1 : Int)), some (.int (e.2 : Int)), tk.symm, by omega, rfl⟩
    · rintro S' ⟨L, o3, o4, o5, hL, _, rfl⟩
      have hle : (enumD (es.map edD)).length = es.length := by unfold enumD; rw [List.length_map, List.length_range, List.length_map]
      rw [hle, List.take_of_length_le (by rw [rangeI_len]; exact Nat.le_refl _)] at hL
      rw [hL]
      exact jret <| jo 2 k
end
end K24

/-! k24: rings from a road, all of them, by the program. -/
namespace K24
open PySem L2 DL NT
theorem setR_map (row : List Int) (r s : Int) : (List.range row.length).map (fun (i : Nat) => PyData.int (if (i : Int) = r then s else row.getD i 0)) = (setR row r s).map .int := by
  unfold setR
  rw [List.map_map]; rfl
theorem row0_map (m : Nat) (c : Int) : (List.range m).map (fun (i : Nat) => PyData.int (if decide ((i : Int) = c) = true then 1 else 0)) = (row0 m c).map .int := by
  unfold row0
  rw [List.map_map]
  refine List.map_congr_left fun i _ => ?_
  show _ = PyData.int (if (i : Int) = c then 1 else 0)
  by_cases e : (i : Int) = c
  · rw [decide_eq_true e, if_pos rfl, if_pos e]
  · rw [decide_eq_false e, if_neg Bool.false_ne_true, if_neg e]
def foundS (c : Int) (a : Nat) (w : Way) (ss : List Step) : List (List Int) := ((ss.filter (okSt c w.2.2)).filter fun st => decide (st.2.2 = a)).map fun st => setR w.1 st.1 st.2.1
def lateS (c : Int) (a : Nat) (w : Way) (ss : List Step) : List Way := ((ss.filter (okSt c w.2.2)).filter fun st => !decide (st.2.2 = a)).map fun st => (setR w.1 st.1 st.2.1, st.2.2, w.2.2 ++ [st.2.2])
theorem foundS_app {c : Int} {a : Nat} {w : Way} {ss : List Step} {st : Step} : foundS c a w (ss ++ [st]) = foundS c a w ss ++ if okSt c w.2.2 st = true ∧ st.2.2 = a then [setR w.1 st.1 st.2.1] else [] := by
  unfold foundS
  rw [List.filter_append, List.filter_append, List.map_append]
  congr 1
  by_cases h : okSt c w.2.2 st = true
  · rw [List.filter_cons_of_pos (p := okSt c w.2.2) h]
    by_cases e : st.2.2 = a
    · rw [if_pos ⟨h, e⟩]; simp [e]
    · rw [if_neg fun z => e z.2]; simp [e]
  · rw [List.filter_cons_of_neg (p := okSt c w.2.2) h, if_neg fun z => h z.1]; rfl
theorem lateS_app {c : Int} {a : Nat} {w : Way} {ss : List Step} {st : Step} : lateS c a w (ss ++ [st]) = lateS c a w ss ++ if okSt c w.2.2 st = true ∧ st.2.2 ≠ a then [(setR w.1 st.1 st.2.1, st.2.2, w.2.2 ++ [st.2.2])] else [] := by
  unfold lateS
  rw [List.filter_append, List.filter_append, List.map_append]
  congr 1
  by_cases h : okSt c w.2.2 st = true
  · rw [List.filter_cons_of_pos (p := okSt c w.2.2) h]
    by_cases e : st.2.2 = a
    · rw [if_neg fun z => z.2 e]; simp [e]
    · rw [if_pos ⟨h, e⟩]; simp [e]
  · rw [List.filter_cons_of_neg (p := okSt c w.2.2) h, if_neg fun z => h z.1]; rfl
theorem foundS_len {c : Int} {a : Nat} {w : Way} {ss : List Step} : (foundS c a w ss).length ≤ ss.length := by
  unfold foundS
  rw [List.length_map]
  exact Nat.le_trans (List.length_filter_le _ _) (List.length_filter_le _ _)
theorem lateS_len {c : Int} {a : Nat} {w : Way} {ss : List Step} : (lateS c a w ss).length ≤ ss.length := by
  unfold lateS
  rw [List.length_map]
  exact Nat.le_trans (List.length_filter_le _ _) (List.length_filter_le _ _)
theorem steps_len (E : List Ed) (c : Nat) : (stepsF E c).length ≤ 2 * E.length := by
  have hsl : ∀ x, (stepAt E c x).length ≤ 2 := fun x => by
    unfold stepAt
    rw [List.length_append]
    split <;> split <;> simp
  have hh : ∀ l : List Int, (l.flatMap (stepAt E c)).length ≤ 2 * l.length := fun l => by
    induction l with
    | nil => exact Nat.zero_le _
    | cons x l ih => rw [List.flatMap_cons, List.length_append, List.length_cons]; have := hsl x; omega
  have := hh (rangeI E.length)
  rw [rangeI_len] at this
  exact this
section
variable {P : Program} {w : World} {K : PySem.W.Frag} {mg : Str → Option Value} {base : Heap}
def φRings : List Ar → (DL.D → Prop) → Prop := fun as Kd => ∃ (n : Nat) (E : List Ed) (c : Int), as = [.d (frameD n E), .d (.int c)] ∧ n ≤ 1000 ∧ E.length ≤ 7 ∧ Ends n E ∧ (∀ e ∈ E, e.1 ≠ e.2) ∧ (0 ≤ c ∧ c < (E.length : Int)) ∧ Kd (.list ((rowsOf n E c).map tupI))
theorem ok_ringsfrom {f fS : Addr} {fd fdS : FuncData} {tM : Tok} (F : Fun K "rings_from" "rings_from" (topS 14) f fd) (T : Txt mg) (T2 : Txs mg) (hM : mg "MOST_ROWS" = some (.int 2000 tM)) (NS : Dn K mg "steps_on" (topS 13) ["frame", "crossing"] fS fdS) : FnOk P w K mg base CX0 2 f fd ["frame", "first"] (SpD φRings) := by
  refine fn_D F scrings_from (fun as Kd h => ?_) (fun as Kd r cdv A outer s H E hr h => ?_)
  · obtain ⟨n, E, c, rfl, _⟩ := h
    rfl
  · obtain ⟨n, es, c, rfl, hn, hm, hE, nl, hc, k⟩ := h
    have nd := scrings_from.nd
    have hz : sizeLine = 16777216 := sizeLine_eq
    have GS := ok_steps (P := P) (w := w) (base := base) NS.F T
    have hen := nl _ (en_mem hc)
    have hsmall := laps_small hE nl hc
    have hfc : fct (es.length - 1 - c.toNat) ≤ 720 := fct_720 (by omega)
    have hend := fun k => @laps_end n es hE nl c hc k
    have hstop := fun k => @laps_stop es c k
    have hl0 : laps es c 0 = ([], [(row0 es.length c, (en es c).2, [(en es c).2])]) := rfl
    have hlS : ∀ k, laps es c (k + 1) = ((laps es c k).1 ++ (laps es c k).2.flatMap (foundW es c (en es c).1), (laps es c k).2.flatMap (lateW es c (en es c).1)) := fun k => rfl
    have hfW : ∀ v : Way, foundW es c (en es c).1 v = foundS c (en es c).1 v (stepsF es v.2.1) := fun v => rfl
    have hlW : ∀ v : Way, lateW es c (en es c).1 v = lateS c (en es c).1 v (stepsF es v.2.1) := fun v => rfl
    have hrl : ∀ k, ∀ v ∈ (laps es c k).2, v.1.length = es.length ∧ v.2.2.length ≤ 1001 := fun k v hv => by
      obtain ⟨us, I⟩ := (laps_inv hE nl hc k).1 v hv
      have := nodup_le (m := List.range n) I.mnd fun x hx => List.mem_range.mpr (I.mlt x hx).1
      rw [List.length_range] at this
      exact ⟨I.rlen, by omega⟩
    unfold rowsOf at k
    refine jasg [2, 3] <| jix ix_tup <| jix ix_tup <| jv 0 <| je_int <| od_ixT (d := .tuple (es.map edD)) rfl <| jv 1 <| od_ixT (edD_at hc) ?_
    unfold edD
    refine jgT (jgs (jg 2 (jgs (jg 3 (jgs_nil ?_)))))
    generalize en es c = e0 at *
    obtain ⟨a, b⟩ := e0
    have hen : a ≠ b := hen
    refine jset 4 <| jtupN T.tup <| jlc [("road", 10)] [10] <| jrange1 T.ran <| jlen T.len <| jix ix_tup <| jv 0 <| je_int <| od_ixT (d := .tuple (es.map edD)) rfl ⟨es.map edD, .inr rfl, (es.length : Nat), by rw [List.length_map], by omega, by omega, lcR (m := es.length) (fun _ => true) (fun (i : Nat) => .int (if decide ((i : Int) = c) = true then 1 else 0)) (fun i hi => lp0 10 ?_) ?_⟩
    · intro _ _ _ _ _
      exact jintB T2.int <| jcmp op_eqD <| jv 10 <| jv 1 <| od_eq (α := Int) hr (by decide) ⟨_, rfl, rfl, rfl⟩
    rw [filter_true, row0_map]
    have hab : decide ((a : Int) = (b : Int)) = false := decide_eq_false (by omega)
    refine jif <| jtcmp op_eqD <| jv 2 <| jv 3 <| od_eq (α := Int) hr (by decide) ⟨_, rfl, iff' hab <| jss_nil ?_⟩
    refine jpar2LV 5 6 <| JN.je <| jlst1 <| je_tup <| jA <| jv 4 <| jA <| jv 3 <| ja1 <| jtup1 <| jv 3 ⟨_, rfl, by show 3 ≤ sizeLine; omega, ?_⟩
    refine jwhile (fun m S' => ∃ (kk : Nat) (s4 s7 s8 s9 : Sl) (o10 o11 o12 : Option DL.D) (s13 : Sl) , kk ≤ n ∧ m = n - kk ∧ S' = [.val (frameD n es), .val (.int c), .val (.int (a : Int)), .val (.int (b : Int)), s4, .own ((laps es c kk).1.map tupI), .val (.list ((laps es c kk).2.map wayD)), s7, s8, s9, vS o10, vS o11, vS o12, s13, .emp, .emp]) n ⟨0, _, .emp, .emp, .emp, none, none, none, .emp, Nat.zero_le _, rfl, by rw [hl0]; rfl⟩ ?_
    rintro m S' ⟨kk, s4, s7, s8, s9, o10, o11, o12, s13, hk, rfl, rfl⟩
    have hsm := hsmall kk
    have hend' := hend kk
    have hstop' := hstop kk
    have hlS' := hlS kk
    have hsm' := hsmall (kk + 1)
    have hrl' := hrl kk
    refine jtcmp op_neL0 <| jv 6 <| JN.je (jn_lst (jA0 ⟨[], rfl, Nat.zero_le _, od_eqL0 hr ⟨_, rfl, ?_⟩⟩))
    rw [if_pos rfl, isEmpty_map]
    generalize hLk : laps es c kk = Lk at *
    obtain ⟨FK, WK⟩ := Lk
    have hsm : FK.length + WK.length ≤ fct (es.length - 1 - c.toNat) := hsm
    have hlS' : laps es c (kk + 1) = (FK ++ WK.flatMap (foundW es c a), WK.flatMap (lateW es c a)) := hlS'
    rw [hlS'] at hsm'
    have hsm' : (FK ++ WK.flatMap (foundW es c a)).length + (WK.flatMap (lateW es c a)).length ≤ fct (es.length - 1 - c.toNat) := hsm'
    rw [List.length_append] at hsm'
    cases hwe : WK.isEmpty with
    | true =>
      obtain rfl := List.isEmpty_iff.mp hwe
      have h2 := (hstop' rfl (n - kk)).1
      rw [show kk + (n - kk) = n by omega] at h2
      rw [h2] at k
      exact iff' rfl <| jret <| jo 5 k
    | false =>
      have hkn : kk < n := Nat.lt_of_not_le fun z => by
        have : WK = [] := hend' z
        rw [this] at hwe; cases hwe
      refine ift rfl ?_
      refine jsetN 7 <| jn_lst (jA0 ⟨[], rfl, Nat.zero_le _, ?_⟩)
      refine jfor [4, 8, 9] (jiL <| jv 6 ⟨WK.map wayD, rfl, fun i S' => ∃ (s4 s8 s9 : Sl) (o10 o11 o12 : Option DL.D) (s13 : Sl), S' = [.val (frameD n es), .val (.int c), .val (.int (a : Int)), .val (.int (b : Int)), s4, .own ((FK ++ (WK.take i).flatMap (foundW es c a)).map tupI), .val (.list (WK.map wayD)), .own (((WK.take i).flatMap (lateW es c a)).map wayD), s8, s9, vS o10, vS o11, vS o12, s13, .emp, .emp], ⟨s4, s8, s9, o10, o11, o12, s13, by rw [List.take_zero, List.flatMap_nil, List.flatMap_nil, List.append_nil]; rfl⟩, ?_, ?_⟩)
      · clear s4 s7 s8 s9 o10 o11 o12 s13
        rintro i d S' hd ⟨s4, s8, s9, o10, o11, o12, s13, rfl⟩
        obtain ⟨v, hv, hvi, rfl⟩ := get_map hd
        have tkF := take_flat (f := foundW es c a) hvi
        have tkL := take_flat (f := lateW es c a) hvi
        have hbF := take_flat_le (foundW es c a) WK i
        have hbL := take_flat_le (lateW es c a) WK i
        rw [hfW v] at tkF
        rw [hlW v] at tkL
        obtain ⟨hvl, hvm⟩ := hrl' v hv
        obtain ⟨row, here, met⟩ := v
        have hvl : row.length = es.length := hvl
        have hvm : met.length ≤ 1001 := hvm
        have tkF : (WK.take (i + 1)).flatMap (foundW es c a) = (WK.take i).flatMap (foundW es c a) ++ foundS c a (row, here, met) (stepsF es here) := tkF
        have tkL : (WK.take (i + 1)).flatMap (lateW es c a) = (WK.take i).flatMap (lateW es c a) ++ lateS c a (row, here, met) (stepsF es here) := tkL
        have hsl := steps_len es here
        unfold wayD
        refine jgT (jgs (jg 4 (jgs (jg 8 (jgs (jg 9 (jgs_nil ?_)))))))
        generalize (WK.take i).flatMap (foundW es c a) = F0 at *
        generalize (WK.take i).flatMap (lateW es c a) = L0 at *
        refine jfor [10, 11, 12] (jiL <| jcall hr NS GS <| jA2 <| jv 0 <| jv 8 ⟨n, es, here, rfl, by omega, (stepsF es here).map stepD, rfl, fun j S' => ∃ (o10 o11 o12 : Option DL.D) (s13 : Sl), S' = [.val (frameD n es), .val (.int c), .val (.int (a : Int)), .val (.int (b : Int)), .val (tupI row), .own ((FK ++ F0 ++ foundS c a (row, here, met) ((stepsF es here).take j)).map tupI), .val (.list (WK.map wayD)), .own ((L0 ++ lateS c a (row, here, met) ((stepsF es here).take j)).map wayD), .val (.int (here : Int)), .val (tupI (metL met)), vS o10, vS o11, vS o12, s13, .emp, .emp], ⟨o10, o11, o12, s13, ?_⟩, ?_, ?_⟩)
        · show _ = [Sl.val (frameD n es), .val (.int c), .val (.int (a : Int)), .val (.int (b : Int)), .val (tupI row), .own ((FK ++ F0 ++ []).map tupI), .val (.list (WK.map wayD)), .own ((L0 ++ []).map wayD), .val (.int (here : Int)), .val (tupI (metL met)), vS o10, vS o11, vS o12, s13, .emp, .emp]
          rw [List.append_nil, List.append_nil]; rfl
        · clear o10 o11 o12 s13
          rintro j d S' hd ⟨o10, o11, o12, s13, rfl⟩
          obtain ⟨st, hst, hsj, rfl⟩ := get_map hd
          have hj := (List.getElem?_eq_some_iff.mp hsj).1
          have tk : (stepsF es here).take (j + 1) = (stepsF es here).take j ++ [st] := by rw [List.take_succ, hsj]; rfl
          have aF := foundS_app (c := c) (a := a) (w := (row, here, met)) (ss := (stepsF es here).take j) (st := st)
          have aL := lateS_app (c := c) (a := a) (w := (row, here, met)) (ss := (stepsF es here).take j) (st := st)
          rw [← tk] at aF aL
          have lF := @foundS_len c a (row, here, met) ((stepsF es here).take j)
          have lL := @lateS_len c a (row, here, met) ((stepsF es here).take j)
          rw [List.length_take] at lF lL
          generalize foundS c a (row, here, met) ((stepsF es here).take j) = F1 at *
          generalize lateS c a (row, here, met) ((stepsF es here).take j) = L1 at *
          obtain ⟨x, sg, t⟩ := st
          have aF : foundS c a (row, here, met) ((stepsF es here).take (j + 1)) = F1 ++ if okSt c met (x, sg, t) = true ∧ t = a then [setR row x sg] else [] := aF
          have aL : lateS c a (row, here, met) ((stepsF es here).take (j + 1)) = L1 ++ if okSt c met (x, sg, t) = true ∧ t ≠ a then [(setR row x sg, t, met ++ [t])] else [] := aL
          unfold stepD
          refine jgT (jgs (jg 10 (jgs (jg 11 (jgs (jg 12 (jgs_nil ?_)))))))
          refine jif <| JT.keep (okSt c met (x, sg, t)) ?_ ?_
          · refine JW.jt <| jw_and <| jtcmp op_gt <| jv 10 <| jv 1 <| od_B0 ⟨_, rfl, ifb (fun h => ?_) (fun h => ⟨rfl, ?_⟩)⟩
            · refine jw_and1 <| jtcmp op_notInD <| jv 12 <| jv 9 <| od_niT (α := Int) hr (by decide) ⟨_, rfl, rfl, ?_⟩
              rw [mem_metL]
              show (!decide (t ∈ met)) = (decide (x > c) && !decide (t ∈ met))
              rw [show decide (x > c) = true from h, Bool.true_and]
            · show false = (decide (x > c) && !decide (t ∈ met))
              rw [show decide (x > c) = false from h, Bool.false_and]
          · cases hok : okSt c met (x, sg, t) with
            | false =>
              rw [hok, if_neg (by rintro ⟨z, _⟩; cases z), List.append_nil] at aF aL
              refine iff' rfl <| jss_nil <| jss_nil ⟨some (.int x), some (.int sg), some (.int (t : Int)), s13, ?_⟩
              rw [aF, aL]; rfl
            | true =>
              rw [hok] at aF aL
              refine ift rfl ?_
              refine jset 13 <| jtupN T.tup <| jlc [("one", 14), ("number", 15)] [14, 15] <| jenumT T.enu <| jv 4 ⟨row.map .int, rfl, ?_⟩
              rw [enumD_row]
              refine lcL (List.range row.length) (fun (i : Nat) => .tuple [.int (i : Int), .int (row.getD i 0)]) (fun _ => true) (fun (i : Nat) => .int (if (i : Int) = x then sg else row.getD i 0)) (fun i hi => lp0P 14 15 ?_) ?_ (by rw [List.length_range]; omega)
              · intro _ _ _ _ _
                refine je_ife <| jtcmp op_eqD <| jv 14 <| jv 10 <| od_eq (α := Int) hr (by decide) ⟨_, rfl, ifb (fun h => jv 11 ⟨?_, rfl⟩) (fun h => jv 15 ⟨?_, rfl⟩)⟩
                · rw [if_pos (of_decide_eq_true h)]
                · rw [if_neg (of_decide_eq_false h)]
              rw [filter_true, setR_map]
              have hsr := setR_len row x sg
              show JSs _ r _ [Sl.val (frameD n es), .val (.int c), .val (.int (a : Int)), .val (.int (b : Int)), .val (tupI row), .own ((FK ++ F0 ++ F1).map tupI), .val (.list (WK.map wayD)), .own ((L0 ++ L1).map wayD), .val (.int (here : Int)), .val (tupI (metL met)), .val (.int x), .val (.int sg), .val (.int (t : Int)), .val (tupI (setR row x sg)), .emp, .emp] _
              generalize setR row x sg = more at *
              refine jif <| jtcmp op_eqD <| jv 12 <| jv 2 <| od_eq (α := Int) hr (by decide) ⟨_, rfl, ifb (fun h => ?_) (fun h => ?_)⟩
              · have hta : t = a := by have := of_decide_eq_true h; omega
                rw [if_pos ⟨rfl, hta⟩] at aF
                rw [if_neg (by rintro ⟨_, z⟩; exact z hta), List.append_nil] at aL
                refine jappend 5 _ <| jv 13 ⟨(FK ++ F0 ++ F1).map tupI, rfl, by rw [List.length_map, List.length_append, List.length_append]; omega, jss_nil <| jss_nil <| jss_nil ⟨some (.int x), some (.int sg), some (.int (t : Int)), .val (tupI more), ?_⟩⟩
                rw [aF, aL, ← List.append_assoc, List.map_append (l₁ := FK ++ F0 ++ F1)]; rfl
              · have hta : t ≠ a := fun z => by have := of_decide_eq_false h; exact this (by rw [z])
                rw [if_neg (by rintro ⟨_, z⟩; exact hta z), List.append_nil] at aF
                rw [if_pos ⟨rfl, hta⟩] at aL
                refine jappend 7 _ <| je_tup <| jA <| jv 13 <| jA <| jv 12 <| ja1 <| jstarT <| jv 9 ⟨(metL met).map .int, .inl rfl, jv 12 ⟨by unfold metL; rw [List.length_map, List.length_map]; omega, _, rfl, by show 3 ≤ sizeLine; omega, (L0 ++ L1).map wayD, rfl, by rw [List.length_map, List.length_append]; omega, jss_nil <| jss_nil <| jss_nil ⟨some (.int x), some (.int sg), some (.int (t : Int)), .val (tupI more), ?_⟩⟩⟩
                rw [aF, aL, ← List.append_assoc, List.map_append (l₁ := L0 ++ L1)]
                have : wayD (more, t, met ++ [t]) = .tuple [tupI more, .int (t : Int), .tuple ((metL met).map .int ++ [.int (t : Int)])] := by
                  unfold wayD
                  rw [metL_app, tupI_snoc]
                show _ = [Sl.val (frameD n es), .val (.int c), .val (.int (a : Int)), .val (.int (b : Int)), .val (tupI row), .own ((FK ++ F0 ++ F1).map tupI), .val (.list (WK.map wayD)), .own ((L0 ++ L1).map wayD ++ [wayD (more, t, met ++ [t])]), .val (.int (here : Int)), .val (tupI (metL met)), .val (.int x), .val (.int sg), .val (.int (t : Int)), .val (tupI more), .emp, .emp]
                rw [this]; rfl
        · clear o10 o11 o12 s13
          rintro S' ⟨o10, o11, o12, s13, rfl⟩
          rw [List.length_map, List.take_length]
          refine jss_nil ⟨.val (tupI row), .val (.int (here : Int)), .val (tupI (metL met)), o10, o11, o12, s13, ?_⟩
          rw [tkF, tkL, List.append_assoc]; rfl
      · clear s4 s7 s8 s9 o10 o11 o12 s13
        rintro S' ⟨s4, s8, s9, o10, o11, o12, s13, rfl⟩
        rw [List.length_map, List.take_length]
        refine jss_frz 7 rfl ?_
        refine jset 6 <| jv 7 ?_
        have e1 : (laps es c (kk + 1)).1 = FK ++ WK.flatMap (foundW es c a) := by rw [hlS']
        have e2 : (laps es c (kk + 1)).2 = WK.flatMap (lateW es c a) := by rw [hlS']
        generalize hF1 : FK ++ WK.flatMap (foundW es c a) = F1 at *
        have hF1l : F1.length = FK.length + (WK.flatMap (foundW es c a)).length := by rw [← hF1, List.length_append]
        generalize WK.flatMap (lateW es c a) = W1 at *
        refine jif <| jtcmp op_gt <| je_op op_add <| je_lenO 5 T.len <| jlen T.len <| jv 6 ⟨W1.map wayD, .inl rfl, od_I0 <| je_gint hM <| od_B0 ⟨_, rfl, iff' (decide_eq_false ?_) <| jss_nil <| jss_nil ⟨n - (kk + 1), by omega, kk + 1, s4, .val (.list (W1.map wayD)), s8, s9, o10, o11, o12, s13, hkn, rfl, ?_⟩⟩⟩
        · rw [List.length_map, List.length_map]; omega
        · rw [e1, e2]; rfl
end
end K24

/-! k24: all ring rows, ring lots, broken rings, by the program. -/
namespace K24
open PySem L2 DL NT
section
variable {P : Program} {w : World} {K : PySem.W.Frag} {mg : Str → Option Value} {base : Heap}
theorem rows_len {n : Nat} {E : List Ed} (hE : Ends n E) (nl : ∀ e ∈ E, e.1 ≠ e.2) {row : List Int} {c : Int} (hc : 0 ≤ c ∧ c < (E.length : Int)) (h : row ∈ rowsOf n E c) : row.length = E.length := by
  obtain ⟨us, I⟩ := (laps_inv hE nl hc n).2 row h
  exact I.rlen
theorem allrows_len {n : Nat} {E : List Ed} (hE : Ends n E) (nl : ∀ e ∈ E, e.1 ≠ e.2) {row : List Int} (h : row ∈ allRows n E E.length) : row.length = E.length := by
  obtain ⟨c, hc, h⟩ := mem_allRows.mp h
  exact rows_len hE nl (mem_rangeI.mp hc) h
theorem ringrows_len {n : Nat} {E : List Ed} (hE : Ends n E) (nl : ∀ e ∈ E, e.1 ≠ e.2) {row : List Int} (h : row ∈ ringRows n E) : row.length = E.length := by
  unfold ringRows at h
  rcases List.mem_append.mp ((sortL_perm _).mem_iff.mp h) with h | h
  · exact allrows_len hE nl h
  · obtain ⟨row2, h2, rfl⟩ := List.mem_map.mp h
    unfold turnR
    rw [List.length_map]
    exact allrows_len hE nl h2
def φRows : List Ar → (DL.D → Prop) → Prop := fun as Kd => ∃ (n : Nat) (E : List Ed), as = [.d (frameD n E)] ∧ n ≤ 1000 ∧ E.length ≤ 7 ∧ Ends n E ∧ (∀ e ∈ E, e.1 ≠ e.2) ∧ Kd (.tuple ((ringRows n E).map tupI))
theorem ok_rows {f fF fS fT : Addr} {fd fdF fdS fdT : FuncData} {tM : Tok} (F : Fun K "simple_ring_rows" "simple_ring_rows" (topS 15) f fd) (T : Txt mg) (T2 : Txs mg) (T3 : Txd mg) (hM : mg "MOST_ROWS" = some (.int 2000 tM)) (NF : Dn K mg "rings_from" (topS 14) ["frame", "first"] fF fdF) (NS : Dn K mg "steps_on" (topS 13) ["frame", "crossing"] fS fdS) (NT : Dn K mg "turned_row" (topS 12) ["row"] fT fdT) : FnOk P w K mg base CX0 3 f fd ["frame"] (SpD φRows) := by
  refine fn_D F sc_simple_ring_rows (fun as Kd h => ?_) (fun as Kd r cdv A outer s H E hr h => ?_)
  · obtain ⟨n, E, rfl, _⟩ := h
    rfl
  · obtain ⟨n, es, rfl, hn, hm, hE, nl, k⟩ := h
    have nd := sc_simple_ring_rows.nd
    have hz : sizeLine = 16777216 := sizeLine_eq
    have hcount := fun i => allRows_len hE nl i
    have hfs := fun i => fctS_small es.length hm i
    have hlen := fun row h => @allrows_len n es hE nl row h
    unfold ringRows at k
    refine jsetN 1 <| jn_lst (jA0 ⟨[], rfl, Nat.zero_le _, ?_⟩)
    refine jfor [2] (jrange1 T.ran <| jlen T.len <| jix ix_tup <| jv 0 <| je_int <| od_ixT (d := .tuple (es.map edD)) rfl ⟨es.map edD, .inr rfl, (es.length : Nat), by rw [List.length_map], by omega, by omega, ?_⟩)
    rw [show ((es.length : Nat) : Int).toNat = es.length by omega, rangeD_I]
    refine ⟨fun i S' => ∃ o2 : Option DL.D, S' = [.val (frameD n es), .own ((allRows n es i).map tupI), vS o2, .emp], ⟨none, rfl⟩, ?_, ?_⟩
    · rintro i d S' hd ⟨o2, rfl⟩
      obtain ⟨x, hx, hxi, rfl⟩ := get_map hd
      have hxr := mem_rangeI.mp hx
      have hi := (List.getElem?_eq_some_iff.mp hxi).1
      rw [rangeI_len] at hi
      have h1 := hcount i (by omega)
      have h2 := hfs i (by omega)
      have h3 := hcount (i + 1) hi
      have h4 := hfs (i + 1) hi
      have tk := allRows_succ (n := n) hxi
      have hrr := laps_small hE nl hxr n
      have hfc : fct (es.length - 1 - x.toNat) ≤ 720 := fct_720 (by omega)
      have hro : (rowsOf n es x).length ≤ 720 := by unfold rowsOf; omega
      generalize allRows n es i = R0 at *
      refine jg 2 ?_
      refine jextend 1 _ <| jcall hr NF (ok_ringsfrom NF.F T T2 hM NS) <| jA2 <| jv 0 <| jv 2 ⟨n, es, x, rfl, hn, hm, hE, nl, hxr, (rowsOf n es x).map tupI, R0.map tupI, rfl, rfl, by rw [List.length_map, List.length_map]; omega, ?_⟩
      show JSs _ r _ [Sl.val (frameD n es), .own (R0.map tupI ++ (rowsOf n es x).map tupI), .val (.int x), .emp] _
      rw [← List.map_append, ← tk]
      generalize hR1 : allRows n es (i + 1) = R1 at *
      refine jif <| jtcmp op_gt <| je_lenO 1 T.len <| je_gint hM <| od_B0 ⟨_, rfl, iff' (decide_eq_false ?_) <| jss_nil <| jss_nil ⟨some (.int x), by rw [hR1]; rfl⟩⟩
      rw [List.length_map]; omega
    · rintro S' ⟨o2, rfl⟩
      rw [List.length_map, rangeI_len]
      have h1 := hcount es.length (Nat.le_refl _)
      have h2 := hfs es.length (Nat.le_refl _)
      generalize allRows n es es.length = R at *
      refine jss_frz 1 rfl ?_
      refine jret <| jtupN T.tup <| jsortL hr T3.srt <| JN.je <| jn_cat <| jv 1 <| JN.je <| jlc [("row", 3)] [3] <| jiL <| jv 1 ⟨R.map tupI, rfl, lcL R tupI (fun _ => true) (fun row => tupI (turnR row)) (fun row hrow => lp0 3 ?_) ?_ (by omega) (by cases o2 <;> rfl)⟩
      · intro _ _ _ _ _
        exact jcall hr NT (ok_turnR NT.F T) <| ja1 <| jv 3 ⟨row, rfl, by have := hlen row hrow; omega, rfl, by cases o2 <;> rfl⟩
      · rw [filter_true]
        refine ⟨R.map tupI, (R.map turnR).map tupI, rfl, by rw [List.map_map]; rfl, by rw [List.length_map, List.length_map, List.length_map]; omega, R ++ R.map turnR, by rw [List.map_append], k⟩
def φLots2 : List Ar → (DL.D → Prop) → Prop := fun as Kd => ∃ (n : Nat) (E : List Ed), as = [.d (frameD n E)] ∧ n ≤ 1000 ∧ E.length ≤ 7 ∧ Ends n E ∧ (∀ e ∈ E, e.1 ≠ e.2) ∧ Kd (.tuple ((ringsL n E).map tupI))
theorem ringsL_lt (n : Nat) (E : List Ed) : (ringsL n E).Pairwise fun a b => ltL a b = true := (allL_lt _).sublist List.filter_sublist
theorem ok_ringlots {f fR fO fF fS fT : Addr} {fd fdR fdO fdF fdS fdT : FuncData} {tM : Tok} (F : Fun K "ring_lots" "ring_lots" (topS 17) f fd) (T : Txt mg) (T2 : Txs mg) (T3 : Txd mg) (hM : mg "MOST_ROWS" = some (.int 2000 tM)) (NR : Dn K mg "simple_ring_rows" (topS 15) ["frame"] fR fdR) (NO : Dn K mg "roads_of_row" (topS 9) ["row"] fO fdO) (NF : Dn K mg "rings_from" (topS 14) ["frame", "first"] fF fdF) (NS : Dn K mg "steps_on" (topS 13) ["frame", "crossing"] fS fdS) (NT : Dn K mg "turned_row" (topS 12) ["row"] fT fdT) : FnOk P w K mg base CX0 4 f fd ["frame"] (SpD φLots2) := by
  refine fn_D F scring_lots (fun as Kd h => ?_) (fun as Kd r cdv A outer s H E hr h => ?_)
  · obtain ⟨n, E, rfl, _⟩ := h
    rfl
  · obtain ⟨n, es, rfl, hn, hm, hE, nl, k⟩ := h
    have nd := scring_lots.nd
    have hz : sizeLine = 16777216 := sizeLine_eq
    have hlen := fun row h => @ringrows_len n es hE nl row h
    have hkeys := keys_one (.bool true) (ringsL_lt n es) fun x => (mem_rr hE nl (l := x)).trans mem_ringsL.symm
    have hcnt : (ringRows n es).length ≤ 4000 := by
      unfold ringRows
      rw [(sortL_perm _).length_eq, List.length_append, List.length_map]
      have h1 := allRows_len hE nl es.length (Nat.le_refl _)
      have h2 := fctS_small es.length hm es.length (Nat.le_refl _)
      omega
    refine jret <| jtupN T.tup <| jsortK hr rfl T3.srt <| JO.je <| jdict hr T3.dct <| JN.je <| jlc [("row", 1)] [1] <| jiT <| jcall hr NR (ok_rows NR.F T T2 T3 hM NF NS NT) <| ja1 <| jv 0 ⟨n, es, rfl, hn, hm, hE, nl, (ringRows n es).map tupI, rfl, lcL (ringRows n es) tupI (fun _ => true) (fun row => .tuple [tupI (roadsR row), .bool true]) (fun row hrow => lp0 1 ?_) ?_⟩
    · intro _ _ _ _ _
      exact jtup2 <| jcall hr NO (ok_roadsR NO.F T) <| ja1 <| jv 1 ⟨row, rfl, by have := hlen row hrow; omega, je_bl ⟨rfl, rfl⟩⟩
    · rw [filter_true]
      refine ⟨((ringRows n es).map roadsR).map fun l => (l, .bool true), by rw [List.map_map, List.map_map]; rfl, _, rfl, ?_⟩
      rw [hkeys]; exact k
def φBroken : List Ar → (DL.D → Prop) → Prop := fun as Kd => ∃ (n : Nat) (E : List Ed), as = [.d (frameD n E)] ∧ n ≤ 1000 ∧ E.length ≤ 7 ∧ Ends n E ∧ (∀ e ∈ E, e.1 ≠ e.2) ∧ Kd (.tuple ((brokenS n E).map tupI))
theorem ok_broken {f fL fR fO fF fS fT : Addr} {fd fdL fdR fdO fdF fdS fdT : FuncData} {tM : Tok} (F : Fun K "broken_rings" "broken_rings" (topS 18) f fd) (T : Txt mg) (T2 : Txs mg) (T3 : Txd mg) (hM : mg "MOST_ROWS" = some (.int 2000 tM)) (NL : Dn K mg "ring_lots" (topS 17) ["frame"] fL fdL) (NR : Dn K mg "simple_ring_rows" (topS 15) ["frame"] fR fdR) (NO : Dn K mg "roads_of_row" (topS 9) ["row"] fO fdO) (NF : Dn K mg "rings_from" (topS 14) ["frame", "first"] fF fdF) (NS : Dn K mg "steps_on" (topS 13) ["frame", "crossing"] fS fdS) (NT : Dn K mg "turned_row" (topS 12) ["row"] fT fdT) : FnOk P w K mg base CX0 5 f fd ["frame"] (SpD φBroken) := by
  refine fn_D F scbroken_rings (fun as Kd h => ?_) (fun as Kd r cdv A outer s H E hr h => ?_)
  · obtain ⟨n, E, rfl, _⟩ := h
    rfl
  · obtain ⟨n, es, rfl, hn, hm, hE, nl, k⟩ := h
    have nd := scbroken_rings.nd
    have hz : sizeLine = 16777216 := sizeLine_eq
    have hkeys := keys_one (.bool true) (brokenS_lt n es) fun x => mem_brokenS (n := n) (E := es) (x := x)
    have hcnt : (ringsL n es).length ≤ 1024 := Nat.le_trans (List.length_filter_le _ _) (all_small (by omega))
    refine jret <| jtupN T.tup <| jsortK hr rfl T3.srt <| JO.je <| jdict hr T3.dct <| JN.je <| jlc [("ring", 1)] [1] <| jiT <| jcall hr NL (ok_ringlots NL.F T T2 T3 hM NR NO NF NS NT) <| ja1 <| jv 0 ⟨n, es, rfl, hn, hm, hE, nl, (ringsL n es).map tupI, rfl, lcL (ringsL n es) tupI (fun _ => true) (fun l => .tuple [tupI l.tail, .bool true]) (fun l hl => lp0 1 ?_) ?_⟩
    · intro _ _ _ _ _
      refine jtup2 <| je_cutFrom <| jv 1 <| je_int ⟨l.map .int, 1, rfl, rfl, je_bl ⟨?_, rfl⟩⟩
      rw [← List.map_drop, List.drop_one]; rfl
    · rw [filter_true]
      refine ⟨(brokenL n es).map fun l => (l, .bool true), by unfold brokenL; rw [List.map_map, List.map_map]; rfl, _, rfl, ?_⟩
      rw [hkeys]; exact k
end
end K24

/-! k24: closers by rings, plain. -/
namespace K24
open PySem L2 DL NT
def ringAt (l : List Int) (x : Int) (ring : List Int) : Bool := decide (ring.headD 0 = x) && withinB ring.tail l
theorem closer_rings {n : Nat} {E : List Ed} (hE : Ends n E) {l : List Int} (hl : l.Sublist (rangeI E.length)) {x : Int} (hx : 0 ≤ x ∧ x < (E.length : Int)) :
    (!((ringsL n E).filter (ringAt l x)).isEmpty) = closeB n E l x := by
  have hlr := Rd.range hl
  have hla := (rangeI_lt E.length).sublist hl
  rw [Bool.eq_iff_iff, Bool.not_eq_true']
  have hcl := closeB_iff hE hlr hx
  have hlate : (laterL l x).Sublist l := List.filter_sublist
  constructor
  · intro h
    cases hf : (ringsL n E).filter (ringAt l x) with
    | nil => rw [hf] at h; cases h
    | cons C t =>
      have hC : C ∈ (ringsL n E).filter (ringAt l x) := by rw [hf]; exact List.mem_cons_self
      obtain ⟨h1, h2⟩ := List.mem_filter.mp hC
      obtain ⟨hs, hr⟩ := mem_ringsL.mp h1
      unfold ringAt at h2
      rw [Bool.and_eq_true, decide_eq_true_eq] at h2
      cases C with
      | nil => exact (hr.ne rfl).elim
      | cons c C =>
        have hc : c = x := h2.1
        subst hc
        have hin := withinB_iff.mp h2.2
        have hca := List.pairwise_cons.mp ((rangeI_lt _).sublist hs)
        refine hcl.mpr ((hr.tail hE (Rd.range hs)).2.mono fun y hy => List.mem_filter.mpr ⟨hin y hy, decide_eq_true (hca.1 y hy)⟩)
  · intro h
    have hc := hcl.mp h
    have hLr : Rd E (laterL l x) := hlr.sub fun y hy => hlate.subset hy
    have gf := gr_free hE (found := []) (rs := laterL l x) (fun y hy => by cases hy) hLr fr_nil
    have gs := @gr_span E (laterL l x) []
    have gb := @gr_sub E (laterL l x) []
    rw [List.nil_append] at gf
    generalize gr E [] (laterL l x) = G at *
    have hGr : Rd E G := hLr.sub fun y hy => gb.subset hy
    have cG : cR E G x := by
      refine Cn.flat (es := ed E (laterL l x)) (fun e he => ?_) hc
      obtain ⟨y, hy, rfl⟩ := List.mem_map.mp he
      exact gs y hy
    have hD : (x :: G).Pairwise (· < ·) := List.pairwise_cons.mpr ⟨fun y hy => of_decide_eq_true (List.mem_filter.mp (gb.subset hy)).2, hla.sublist (gb.trans hlate)⟩
    have hDr : Rd E (x :: G) := fun z hz => by
      rcases List.mem_cons.mp hz with rfl | hz
      · exact hx
      · exact hGr z hz
    obtain ⟨C, c1, c2⟩ := ring_in (l := x :: G) fun f => ((fr_cons hE hDr).mp f).2 cG
    have hCa := hD.sublist c1
    have hxC : x ∈ C := Classical.byContradiction fun hn => c2.1 (gf.sub hE hGr (sub_of_sorted hCa (List.pairwise_cons.mp hD).2 fun y hy => by
      rcases List.mem_cons.mp (c1.subset hy) with rfl | h
      · exact (hn hy).elim
      · exact h))
    cases C with
    | nil => cases hxC
    | cons c C =>
      have hca := List.pairwise_cons.mp hCa
      have hcx : c = x := by
        rcases List.mem_cons.mp hxC with h | h
        · exact h.symm
        · have h1 := hca.1 x h
          rcases List.mem_cons.mp (c1.subset List.mem_cons_self) with h2 | h2
          · exact h2
          · have := (List.pairwise_cons.mp hD).1 c h2
            omega
      subst hcx
      have hm : (c :: C) ∈ (ringsL n E).filter (ringAt l c) := List.mem_filter.mpr ⟨mem_ringsL.mpr ⟨sub_of_sorted hCa (rangeI_lt _) fun y hy => mem_rangeI.mpr (hDr y (c1.subset hy)), c2⟩, by
        unfold ringAt
        rw [Bool.and_eq_true]
        refine ⟨decide_eq_true rfl, withinB_iff.mpr fun y hy => ?_⟩
        have hy : y ∈ C := hy
        have h1 := hca.1 y hy
        rcases List.mem_cons.mp (c1.subset (List.mem_cons_of_mem _ hy)) with h2 | h2
        · omega
        · exact hlate.subset (gb.subset h2)⟩
      cases hf : (ringsL n E).filter (ringAt l c) with
      | nil => rw [hf] at hm; cases hm
      | cons _ _ => rfl
theorem un_erase {n : Nat} {E : List Ed} (hE : Ends n E) {l : List Int} (hl : l.Sublist (rangeI E.length)) (h : UnB n E l = true) (k : Nat) : UnB n E (l.eraseIdx k) = true := by
  have he := (List.eraseIdx_sublist l k).trans hl
  exact (UnB_iff hE (Rd.range he)).mpr ((un_iff hE he).mp (((un_iff hE hl).mpr ((UnB_iff hE (Rd.range hl)).mp h)).sub fun x hx => (List.eraseIdx_sublist _ _).subset hx))
theorem lastE_nl : ∀ e ∈ lastE, e.1 ≠ e.2 := by decide
theorem last_rings : ringsL 3 lastE = [[0, 1, 2]] := by
  have h : ((partsL (rangeI 3)).filter fun l => !l.isEmpty && RingB 3 lastE l) = [[0, 1, 2]] := by decide +kernel
  refine sorted_one (ringsL_lt _ _) (List.pairwise_singleton _ _) fun x => ?_
  rw [← h]
  unfold ringsL
  rw [List.mem_filter, List.mem_filter, mem_allL, mem_partsL]; rfl
theorem last_broken : brokenS 3 lastE = [[1, 2]] := by
  refine sorted_one (brokenS_lt _ _) (List.pairwise_singleton _ _) fun x => ?_
  rw [← mem_brokenS]
  unfold brokenL
  rw [last_rings]; rfl
end K24

/-! k24: the law. -/
namespace K24
open PySem L2 DL NT
/-- where all defs stand -/
structure AllD (K : PySem.W.Frag) (mg : Str → Option Value) where
  b_tuple : mg "tuple" = none
  b_range : mg "range" = none
  b_len : mg "len" = none
  b_list : mg "list" = none
  b_sorted : mg "sorted" = none
  b_enumerate : mg "enumerate" = none
  b_int : mg "int" = none
  b_dict : mg "dict" = none
  b_abs : mg "abs" = none
  b_max : mg "max" = none
  b_repr : mg "repr" = none
  b_isinstance : mg "isinstance" = none
  b_bool : mg "bool" = none
  b_all : mg "all" = none
  b_str : mg "str" = none
  b_sum : mg "sum" = none
  b_zip : mg "zip" = none
  b_min : mg "min" = none
  {tMOST_ROWS : Tok}
  c_MOST_ROWS : mg "MOST_ROWS" = some (.int 2000 tMOST_ROWS)
  {a1 a2 a3 a4 a9 a12 a13 a14 a15 a17 a18 a19 a20 a21 a22 a23 a24 a26 a27 a29 a30 a31 a32 a33 a34 a35 a36 a37 a38 a39 a40 : Addr}
  {f1 f2 f3 f4 f9 f12 f13 f14 f15 f17 f18 f19 f20 f21 f22 f23 f24 f26 f27 f29 f30 f31 f32 f33 f34 f35 f36 f37 f38 f39 f40 : FuncData}
  n1 : Dn K mg "all_roads" (topS 1) ["frame"] a1 f1
  n2 : Dn K mg "heads_by" (topS 2) ["frame", "lot"] a2 f2
  n3 : Dn K mg "pieces_by" (topS 3) ["frame", "lot"] a3 f3
  n4 : Dn K mg "piece_count" (topS 4) ["frame", "lot"] a4 f4
  n9 : Dn K mg "roads_of_row" (topS 9) ["row"] a9 f9
  n12 : Dn K mg "turned_row" (topS 12) ["row"] a12 f12
  n13 : Dn K mg "steps_on" (topS 13) ["frame", "crossing"] a13 f13
  n14 : Dn K mg "rings_from" (topS 14) ["frame", "first"] a14 f14
  n15 : Dn K mg "simple_ring_rows" (topS 15) ["frame"] a15 f15
  n17 : Dn K mg "ring_lots" (topS 17) ["frame"] a17 f17
  n18 : Dn K mg "broken_rings" (topS 18) ["frame"] a18 f18
  n19 : Dn K mg "is_ringless" (topS 19) ["frame", "lot"] a19 f19
  n20 : Dn K mg "closers" (topS 20) ["frame", "lot"] a20 f20
  n21 : Dn K mg "is_unbroken" (topS 21) ["frame", "lot"] a21 f21
  n22 : Dn K mg "unbroken_lots" (topS 22) ["frame"] a22 f22
  n23 : Dn K mg "unbroken_trees" (topS 23) ["frame"] a23 f23
  n24 : Dn K mg "closes_with" (topS 24) ["frame", "lot", "road"] a24 f24
  n26 : Dn K mg "_law_source" (topS 26) ["script"] a26 f26
  n27 : Dn K mg "_law_pick" (topS 27) ["source", "many"] a27 f27
  n29 : Dn K mg "_law_mixed" (topS 29) ["source", "things"] a29 f29
  n30 : Dn K mg "_law_frame" (topS 30) ["source", "least", "most", "more"] a30 f30
  n31 : Dn K mg "_law_heads" (topS 31) ["frame", "lot"] a31 f31
  n32 : Dn K mg "_law_pieces" (topS 32) ["frame", "lot"] a32 f32
  n33 : Dn K mg "_law_lots" (topS 33) ["many"] a33 f33
  n34 : Dn K mg "_law_is_free" (topS 34) ["frame", "lot"] a34 f34
  n35 : Dn K mg "_law_is_ring" (topS 35) ["frame", "lot"] a35 f35
  n36 : Dn K mg "_law_rings" (topS 36) ["frame"] a36 f36
  n37 : Dn K mg "_law_within" (topS 37) ["some", "lot"] a37 f37
  n38 : Dn K mg "_law_unbroken" (topS 38) ["frame"] a38 f38
  n39 : Dn K mg "_law_busy" (topS 39) ["frame", "tree"] a39 f39
  n40 : Dn K mg "_law_trees" (topS 40) ["frame"] a40 f40
theorem sclaw : FnScope ["script", "source", "lap", "frame", "m", "kept", "rings", "broken", "every", "trees", "lot", "due", "road", "some", "ring", "tree", "k"] ["script"] (defScope (topS 43)) := ⟨rfl, rfl, rfl, by decide +kernel, rfl, by decide +kernel, by decide +kernel⟩
abbrev slotsN : List Str := ["script", "source", "lap", "frame", "m", "kept", "rings", "broken", "every", "trees", "lot", "due", "road", "some", "ring", "tree", "k"]
theorem okW_lots {ls : List (List Int)} (hl : ls.length ≤ 128) (h : ∀ l ∈ ls, l.Sublist (rangeI 7)) : okW 1000 [128, 7] (.list (ls.map tupI)) = true := okW_list (by rw [List.length_map]; exact hl) fun d hd => by
  obtain ⟨l, hl, rfl⟩ := List.mem_map.mp hd
  have h1 := (h l hl).length_le
  rw [rangeI_len] at h1
  exact okW_lot h1 fun x hx => by have := mem_rangeI.mp ((h l hl).subset hx); omega
theorem okW_lotsT {ls : List (List Int)} (hl : ls.length ≤ 128) (h : ∀ l ∈ ls, l.Sublist (rangeI 7)) : okW 1000 [128, 7] (.tuple (ls.map tupI)) = true := okW_tup (by rw [List.length_map]; exact hl) fun d hd => by
  obtain ⟨l, hl, rfl⟩ := List.mem_map.mp hd
  have h1 := (h l hl).length_le
  rw [rangeI_len] at h1
  exact okW_lot h1 fun x hx => by have := mem_rangeI.mp ((h l hl).subset hx); omega
theorem range_sub {a b : Nat} (h : a ≤ b) : (rangeI a).Sublist (rangeI b) := sub_of_sorted (rangeI_lt a) (rangeI_lt b) fun x hx => mem_rangeI.mpr (by have := mem_rangeI.mp hx; omega)
theorem brokenS_len (n : Nat) (E : List Ed) : (brokenS n E).length ≤ (ringsL n E).length := by
  unfold brokenS brokenL
  rw [(sortL_perm _).length_eq]
  have := uni_len ((ringsL n E).map List.tail) ([] : List (List Int))
  rw [List.length_map] at this
  simpa using this
theorem brokenS_sub {n : Nat} {E : List Ed} {l : List Int} (h : l ∈ brokenS n E) : l.Sublist (rangeI E.length) := by
  obtain ⟨C, hC, rfl⟩ := List.mem_map.mp (show l ∈ (ringsL n E).map List.tail from mem_brokenS.mpr h)
  exact (List.tail_sublist C).trans (mem_ringsL.mp hC).1
section
variable {P : Program} {w : World} {K : PySem.W.Frag} {mg : Str → Option Value} {base : Heap}
theorem ok_law {f : Addr} {fd : FuncData} (F : Fun K "law" "law" (topS 43) f fd) (D : AllD K mg) : FnG P w K mg base 10 f fd ["script"] (spLaw K) := by
  have nd := sclaw.nd
  have T : Txt mg := ⟨D.b_range, D.b_tuple, D.b_all, D.b_len, D.b_list, D.b_enumerate⟩
  have T2 : Txs mg := ⟨D.b_len, D.b_max, D.b_int, D.b_abs⟩
  have T3 : Txd mg := ⟨D.b_dict, D.b_sorted⟩
  have hM := D.c_MOST_ROWS
  refine fnG_of F sclaw (fun vs H Q E h => ?_) (fun cdv A outer s H vs Q E hg hr h => ?_)
  · obtain ⟨a, ns, rfl, _⟩ := h
    rfl
  obtain ⟨a, ns, rfl, hS, hns, q⟩ := h
  refine ⟨_, pss_cons (ps_set (i := 1) nd rfl (.inl rfl) (pe_call (ok_source (P := P) (w := w) (base := base) D.n26.F T2) (hr.mono (by decide)) rfl D.n26.g D.n26.F.kp D.n26.b .nil pass0 (pa_cons (pv 0) pa_nil))) pss_tSs, ?_⟩
  refine ⟨.ref a, rfl, a, ns, rfl, hS, by omega, fun H' p sm n1 n2 ok => ?_⟩
  have Ev := ev_src (H := H) (H' := H') (p := p) (m := 17) (j := 1) (σ := [some (.ref a), some (.ref p.1)] ++ List.replicate 15 none) rfl rfl sm n1 n2 ok
  suffices J : JSs (cxOf CX0 P w K mg base slotsN "law" (defScope (topS 43)) f cdv A outer s H E).nox (srL ⟨H, fun _ => none, some p⟩) ((defBody (topS 43)).drop 1)
      ((List.replicate 17 .emp).set 1 .src) { nx := fun _ => False, rt := fun d => d = .bool true } from
    J ⟨H, fun _ => none, some p⟩ (fun _ => none) _ H' (srL_refl _) Ev _ ⟨fun _ _ _ _ z => z.elim, fun v d F' H2 e fn rp => (by subst e; cases rp; exact q H2), fun _ _ _ _ z => z.elim, fun _ _ _ _ z => z.elim⟩
  clear Ev ok n1 n2 sm q hS hns
  have hgd : (A.deeper (PyProof.Rows.envOfC "law" (defScope (topS 43)) s.heap.objs.size f cdv)).guards = some [] := hg
  have NP : DnP K mg := ⟨D.n1, D.n2, D.n3, D.n4⟩
  have NQ : DnQ K mg := ⟨D.n31, D.n32, D.n34⟩
  have GX := ok_mixed (P := P) (w := w) (base := base) D.n29.F T T2 D.n27
  have GFr := ok_frame (P := P) (w := w) (base := base) D.n30.F T T2 D.n27 D.n29
  have GU := ok_lun (P := P) (w := w) (base := base) D.n38.F T T3 NQ D.n33 D.n35 D.n36 D.n37
  have GTr := ok_ltrees (P := P) (w := w) (base := base) D.n40.F T T3 NQ D.n33
  have GRi := ok_lrings (P := P) (w := w) (base := base) D.n36.F T T3 NQ D.n33 D.n35
  have GB := ok_lbusy (P := P) (w := w) (base := base) D.n39.F T D.n31
  have GLL := ok_llots (P := P) (w := w) (base := base) D.n33.F T T3
  have GF := ok_lfree (P := P) (w := w) (base := base) D.n34.F T T3 D.n31 D.n32
  have GW := ok_within (P := P) (w := w) (mg := mg) (base := base) D.n37.F
  have GIU := ok_isun (P := P) (w := w) (base := base) D.n21.F T T3 NP D.n19 D.n20 D.n24
  have GCl := ok_closers (P := P) (w := w) (base := base) D.n20.F T T3 NP D.n24
  have GUL := ok_unlots (P := P) (w := w) (base := base) D.n22.F T T3 NP D.n19 D.n20 D.n24 D.n21
  have GUT := ok_untrees (P := P) (w := w) (base := base) D.n23.F T T3 NP D.n19 D.n20 D.n24 D.n21 D.n22
  have GRL := ok_ringlots (P := P) (w := w) (base := base) D.n17.F T T2 T3 hM D.n15 D.n9 D.n14 D.n13 D.n12
  have GBr := ok_broken (P := P) (w := w) (base := base) D.n18.F T T2 T3 hM D.n17 D.n15 D.n9 D.n14 D.n13 D.n12
  have hz : sizeLine = 16777216 := sizeLine_eq
  have nL : ∀ ls : List (List Int), Nice 50 (.list (ls.map tupI)) := fun ls => nice_list (n := 49) (nice_map fun l => nice_tupI l)
  have nT : ∀ ls : List (List Int), Nice 50 (.tuple (ls.map tupI)) := fun ls => nice_tup (n := 49) (nice_map fun l => nice_tupI l)
  refine jfor [2] (jrange1 T.ran (je_int ⟨3, rfl, by decide, by decide, ?_⟩))
  refine ⟨fun i S' => ∃ (s2 s3 s4 s5 s6 s7 s8 s9 s11 s12 s13 : Sl) (o10 : Option DL.D), S' = [.emp, .src, s2, s3, s4, s5, s6, s7, s8, s9, vS o10, s11, s12, s13, .emp, .emp, .emp], ⟨.emp, .emp, .emp, .emp, .emp, .emp, .emp, .emp, .emp, .emp, .emp, none, rfl⟩, ?_, ?_⟩
  · rintro lap d S' hd ⟨s2, s3, s4, s5, s6, s7, s8, s9, s11, s12, s13, o10, rfl⟩
    have hlap : lap < 3 := by
      have := (List.getElem?_eq_some_iff.mp hd).1
      rw [rangeD_length] at this; exact this
    rw [show (3 : Int).toNat = 3 from rfl, rangeD_get hlap, Int.zero_add] at hd
    cases hd
    refine jg 2 ?_
    obtain ⟨mo, hat, hm1, hm2⟩ : ∃ mo : Nat, atI [PyData.int 3, .int 4, .int 5] (lap : Int) = some (.int (mo : Int)) ∧ 1 ≤ mo ∧ mo ≤ 5 := by
      have : lap = 0 ∨ lap = 1 ∨ lap = 2 := by omega
      rcases this with rfl | rfl | rfl
      · exact ⟨3, rfl, by decide, by decide⟩
      · exact ⟨4, rfl, by decide, by decide⟩
      · exact ⟨5, rfl, by decide, by decide⟩
    refine jset 3 <| jcall hr D.n30 GFr <| jAs 1 <| jA <| je_int <| jA <| jix ix_list ?_
    refine JN.je ?_
    refine jn_lst ?_
    refine jA <| je_int <| jA <| je_int <| ja1 <| je_int ⟨_, rfl, by show 3 ≤ sizeLine; omega, jv 2 <| od_ixL hat ?_⟩
    refine ja1 <| je_int ⟨1, mo, 3, rfl, by decide, hm1, by omega, by decide, fun n es hn1 hn2 N => ?_⟩
    have hn5 : n ≤ 5 := by omega
    have hE := N.ends
    have hnl := N.nl
    have hes : es.length ≤ 7 := by have := N.len; omega
    clear hat hm1 hm2 hn1 hn2
    have hal := all_small (m := es.length) (by omega)
    have hal128 : (allL es.length).length ≤ 128 := by rw [allL_len]; exact Nat.pow_le_pow_right (n := 2) (by decide) hes
    have sub7 : ∀ l : List Int, l.Sublist (rangeI es.length) → l.Sublist (rangeI 7) := fun l h => h.trans (range_sub hes)
    have soF : ShW (frameD n es) := okW_sh (B := 1000) (ws := [2, 7, 2]) (okW_tup (by show 2 ≤ 2; decide) fun d hd => by
      simp only [List.mem_cons, List.not_mem_nil, or_false] at hd
      rcases hd with rfl | rfl
      · exact okW_int (by omega)
      · refine okW_tup (by rw [List.length_map]; exact hes) fun d hd => ?_
        obtain ⟨e, he, rfl⟩ := List.mem_map.mp hd
        have := hE e he
        refine okW_tup (by show 2 ≤ 2; decide) fun d hd => ?_
        simp only [List.mem_cons, List.not_mem_nil, or_false] at hd
        rcases hd with rfl | rfl <;> exact okW_int (by omega)) (by decide) (by decide +kernel) (by decide)
    have htl : (treesL n es).length ≤ 128 := Nat.le_trans (List.length_filter_le _ _) (Nat.le_trans (List.length_filter_le _ _) hal128)
    have hgl : (goodL n es).length ≤ 128 := Nat.le_trans (List.length_filter_le _ _) htl
    have hul : (unL n es).length ≤ 128 := Nat.le_trans (List.length_filter_le _ _) hal128
    have hrl : (ringsL n es).length ≤ 128 := Nat.le_trans (List.length_filter_le _ _) hal128
    have hbl : (brokenS n es).length ≤ 128 := Nat.le_trans (brokenS_len n es) hrl
    have hrs : ∀ C ∈ ringsL n es, C.Sublist (rangeI es.length) ∧ C ≠ [] := fun C hC => ⟨(mem_ringsL.mp hC).1, (mem_ringsL.mp hC).2.ne⟩
    have soR : ShW (.list [.tuple ((ringsL n es).map tupI), .tuple ((brokenS n es).map tupI)]) := okW_sh (B := 1000) (ws := [2, 128, 7]) (okW_list (by show 2 ≤ 2; decide) fun d hd => by
      simp only [List.mem_cons, List.not_mem_nil, or_false] at hd
      rcases hd with rfl | rfl
      · exact okW_lotsT hrl fun l h => sub7 l (hrs l h).1
      · exact okW_lotsT hbl fun l h => sub7 l (brokenS_sub h)) (by decide) (by decide +kernel) (by decide)
    have soU : ShW (.list ((unL n es).map tupI)) := okW_sh (okW_lots hul fun l h => sub7 l (mem_unL.mp h).1) (by decide) (by decide +kernel) (by decide)
    have soG : ShW (.list ((goodL n es).map tupI)) := okW_sh (okW_lots hgl fun l h => sub7 l ((mem_goodL hE).mp h).1.1) (by decide) (by decide +kernel) (by decide)
    have htm : ∀ t ∈ treesL n es, Rd es t ∧ t.length ≤ 7 := fun t ht => by
      have h1 := (mem_treesL.mp ht).1
      have h2 := h1.length_le
      rw [rangeI_len] at h2
      exact ⟨Rd.range h1, by omega⟩
    have hkeys := keys_one (.int 0) (brokenS_lt n es) fun x => mem_brokenS (n := n) (E := es) (x := x)
    refine jpar3 4 5 6 <| jlen T.len <| jix ix_tup <| jv 3 <| je_int <| od_ixT (d := .tuple (es.map edD)) rfl ⟨es.map edD, .inr rfl, ?_⟩
    rw [List.length_map]
    refine jreprW hgd hr D.b_repr <| jv 3 ⟨soF, ?_⟩
    refine jcall hr D.n36 GRi <| ja1 <| jv 3 ⟨n, es, rfl, by omega, by omega, hE, ?_⟩
    generalize hkp : (frameD n es).shown = kp at *
    refine jpar2 7 8 <| JN.je <| jsortK hr rfl T3.srt <| JO.je <| jdict hr T3.dct <| JN.je <| jlc [("ring", 14)] [14] <| jiL <| jv 6 ⟨(ringsL n es).map tupI, rfl, lcL (ringsL n es) tupI (fun _ => true) (fun l => .tuple [tupI l.tail, .int 0]) (fun l hl => lp0 14 ?_) ?_⟩
    · intro _ _ _ _ _
      refine jtup2 <| je_cutFrom <| jv 14 <| je_int ⟨l.map .int, 1, rfl, rfl, je_int ⟨?_, rfl⟩⟩
      rw [← List.map_drop, List.drop_one]; rfl
    rw [filter_true]
    refine ⟨(brokenL n es).map fun l => (l, .int 0), by unfold brokenL; rw [List.map_map, List.map_map]; rfl, _, rfl, ?_⟩
    rw [hkeys]
    refine jcall hr D.n38 GU <| ja1 <| jv 3 ⟨n, es, rfl, by omega, by omega, hE, ?_⟩
    refine jifF (jtcmp op_neD <| jreprW hgd hr D.b_repr <| JN.je <| jlst2 <| jcall hr D.n17 GRL <| ja1 <| jv 3 ⟨n, es, rfl, by omega, hes, hE, hnl, jcall hr D.n18 GBr <| ja1 <| jv 3 ⟨n, es, rfl, by omega, hes, hE, hnl, soR, jreprW hgd hr D.b_repr <| JN.je <| jlst2 <| jtuple T.tup <| jv 6 ⟨_, rfl, jtuple T.tup <| jv 7 ⟨_, rfl, soR, od_ne (α := Str) hr (by decide) ⟨_, rfl, ne_self _, rfl⟩⟩⟩⟩⟩) <| jss_nil ?_
    refine jifF (jtcmp op_neD <| jreprW hgd hr D.b_repr <| jcall hr D.n22 GUL <| ja1 <| jv 3 ⟨n, es, rfl, by omega, by omega, hE, soU, jreprW hgd hr D.b_repr <| jv 8 ⟨soU, od_ne (α := Str) hr (by decide) ⟨_, rfl, ne_self _, rfl⟩⟩⟩) <| jss_nil ?_
    refine jsetLc 9 [("tree", 15)] [15] <| jiL <| jcall hr D.n40 GTr <| ja1 <| jv 3 ⟨n, es, rfl, by omega, by omega, hE, (treesL n es).map tupI, rfl, lcL (treesL n es) tupI (fun t => (closersL n es t).isEmpty) tupI (fun t ht => lp1 15 ?_) ?_ (by omega)⟩
    · intro _ _ _ _ _
      obtain ⟨h1, h2⟩ := htm t ht
      refine jtcmp op_eqL0 <| jcall hr D.n39 GB <| jA2 <| jv 3 <| jv 15 ⟨n, es, t, rfl, by omega, by omega, by omega, hE, h1, JN.je (jn_lst (jA0 ⟨[], rfl, Nat.zero_le _, od_eqL0 hr ⟨_, rfl, ?_, fun _ => rfl, fun _ _ _ _ _ _ => jv 15 ⟨rfl, rfl⟩⟩⟩))⟩
      rw [if_neg Bool.false_ne_true, isEmpty_map]
    rw [show ((treesL n es).filter fun t => (closersL n es t).isEmpty) = goodL n es from rfl]
    refine jss_frz 9 rfl ?_
    refine jifF (JW.jt <| jw_or <| jtcmp op_neD <| jreprW hgd hr D.b_repr <| jcall hr D.n23 GUT <| ja1 <| jv 3 ⟨n, es, rfl, by omega, by omega, hE, soG, jreprW hgd hr D.b_repr <| jv 9 ⟨soG, od_ne (α := Str) hr (by decide) ⟨_, rfl, iff' (ne_self _) <| jw_or1 <| jtcmp op_neD <| JN.je <| jlc [("lot", 10)] [10] <| jiL <| jv 8 ⟨(unL n es).map tupI, rfl, lcL (unL n es) tupI (fun l => decide (l.length + 1 = n)) tupI (fun l hl => lp1 10 ?_) ?_ (by omega) (by cases o10 <;> rfl)⟩⟩⟩⟩) <| jss_nil ?_
    · intro _ _ _ _ _
      refine jtcmp op_eqD <| jlen T.len <| jv 10 ⟨l.map .int, .inr rfl, je_op op_sub <| jix ix_tup <| jv 3 <| je_int <| od_ixT (d := .int (n : Int)) rfl <| je_int <| od_I0 <| od_eq (α := Int) hr (by decide) ⟨_, rfl, ?_, fun _ => by cases o10 <;> rfl, fun _ _ _ _ _ _ => jv 10 ⟨rfl, by cases o10 <;> rfl⟩⟩⟩
      rw [Bool.eq_iff_iff, decide_eq_true_eq, decide_eq_true_eq, List.length_map]; omega
    · rw [good_un]
      exact jv 9 <| od_neG hr (nL _) (nL _) ⟨_, rfl, neqv_self (nL _), rfl⟩
    -- lots
    refine jfor [10] (jiN <| jn_cutTo <| jcall hr D.n29 GX <| jAs 1 <| ja1 <| jcall hr D.n33 GLL <| ja1 <| jv 4 ⟨es.length, rfl, by omega, ?_⟩)
    refine ⟨(allL es.length).map tupI, rfl, by rw [List.length_map]; omega, fun es2 he2 => ?_⟩
    obtain ⟨ms, rfl, hms⟩ := perm_map he2
    refine je_int ⟨ms.map tupI, 12, rfl, rfl, ?_⟩
    rw [← List.map_take]
    have hfr : ∀ l ∈ ms.take 12, l.Sublist (rangeI es.length) := fun l hl => mem_allL.mp (hms.mem_iff.mp (List.mem_of_mem_take hl))
    generalize ms.take 12 = fl at *
    clear he2 hms ms
    refine ⟨fun i S' => ∃ (s11 s12 s13 : Sl) (o10 : Option DL.D), S' = [.emp, .src, .val (.int (lap : Int)), .val (frameD n es), .val (.int (es.length : Nat)), .val (.str kp), .val (.list ((ringsL n es).map tupI)), .val (.list ((brokenS n es).map tupI)), .val (.list ((unL n es).map tupI)), .val (.list ((goodL n es).map tupI)), vS o10, s11, s12, s13, .emp, .emp, .emp], ⟨s11, s12, s13, o10, rfl⟩, ?_, ?_⟩
    · clear s11 s12 s13 o10
      rintro i d S' hd ⟨s11, s12, s13, o10, rfl⟩
      obtain ⟨l, hlm, hli, rfl⟩ := get_map hd
      have hl := hfr l hlm
      have hll := hl.length_le
      rw [rangeI_len] at hll
      have hlr := Rd.range hl
      have hev : decide (l ∈ unL n es) = UnB n es l := by
        rw [Bool.eq_iff_iff, decide_eq_true_eq, mem_unL]
        exact ⟨fun h => h.2, fun h => ⟨hl, h⟩⟩
      have hUF : UnB n es l = (FrB n es l && (closersL n es l).isEmpty) := rfl
      have hcs : (closersL n es l).Sublist (rangeI es.length) := List.filter_sublist
      have soC : ShW (tupI (closersL n es l)) := okW_sh (B := 1000) (ws := [7]) (by
        have h1 := (sub7 _ hcs).length_le
        rw [rangeI_len] at h1
        exact okW_lot h1 fun x hx => by have := mem_rangeI.mp (hcs.subset hx); omega) (by decide) (by decide +kernel) (by decide)
      have soB : ShW (.bool (UnB n es l)) := okW_sh (B := 1) (ws := []) (okW_bool _) (by decide) (by decide) (by decide)
      refine jg 10 ?_
      refine jset 11 <| JN.je <| jn_lst (jA0 ⟨[], rfl, Nat.zero_le _, ?_⟩)
      refine jfor [12] (jrange1 T.ran <| jv 4 ⟨(es.length : Nat), rfl, by omega, by omega, ?_⟩)
      rw [show ((es.length : Nat) : Int).toNat = es.length by omega, rangeD_I]
      refine ⟨fun j S' => ∃ (s12 s13 : Sl), S' = [.emp, .src, .val (.int (lap : Int)), .val (frameD n es), .val (.int (es.length : Nat)), .val (.str kp), .val (.list ((ringsL n es).map tupI)), .val (.list ((brokenS n es).map tupI)), .val (.list ((unL n es).map tupI)), .val (.list ((goodL n es).map tupI)), .val (tupI l), .val (.list ((((rangeI es.length).take j).filter fun r => !decide (r ∈ l) && closeB n es l r).map .int)), s12, s13, .emp, .emp, .emp], ⟨s12, s13, rfl⟩, ?_, ?_⟩
      · clear s12 s13
        rintro j d S' hd ⟨s12, s13, rfl⟩
        obtain ⟨x, hx, hxi, rfl⟩ := get_map hd
        have hxr := mem_rangeI.mp hx
        have hj := (List.getElem?_eq_some_iff.mp hxi).1
        rw [rangeI_len] at hj
        have tk : ((rangeI es.length).take (j + 1)).filter (fun r => !decide (r ∈ l) && closeB n es l r) = ((rangeI es.length).take j).filter (fun r => !decide (r ∈ l) && closeB n es l r) ++ if (!decide (x ∈ l) && closeB n es l x) = true then [x] else [] := by
          rw [List.take_succ, hxi, List.filter_append]
          congr 1
          by_cases e : (!decide (x ∈ l) && closeB n es l x) = true
          · rw [if_pos e]; exact List.filter_cons_of_pos e
          · rw [if_neg e]; exact List.filter_cons_of_neg e
        have hfl := List.length_filter_le (fun r => !decide (r ∈ l) && closeB n es l r) ((rangeI es.length).take j)
        rw [List.length_take, rangeI_len] at hfl
        have hcr := closer_rings hE hl hxr
        generalize ((rangeI es.length).take j).filter (fun r => !decide (r ∈ l) && closeB n es l r) = fs at *
        refine jg 12 ?_
        refine jsetLc 13 [("ring", 14)] [14] <| jiL <| jv 6 ⟨(ringsL n es).map tupI, rfl, lcL (ringsL n es) tupI (ringAt l x) tupI (fun C hC => lp1 14 ?_) ?_ (by omega)⟩
        · intro _ _ _ _ _
          obtain ⟨hC1, hC2⟩ := hrs C hC
          have hC3 := hC1.length_le
          rw [rangeI_len] at hC3
          obtain ⟨c0, C0, rfl⟩ := List.exists_cons_of_ne_nil hC2
          rw [List.length_cons] at hC3
          refine JT.keep (ringAt l x (c0 :: C0)) ?_ ⟨rfl, fun _ => rfl, fun _ _ _ _ _ _ => jv 14 ⟨rfl, rfl⟩⟩
          refine JW.jt <| jw_and <| jtcmp op_eqD <| jix ix_tup <| jv 14 <| je_int <| od_ixT (d := .int c0) atI0 <| jv 12 <| od_eq (α := Int) hr (by decide) ⟨_, rfl, ifb (fun h => ?_) (fun h => ⟨rfl, ?_⟩)⟩
          · refine jw_and1 <| jtval <| jcall hr D.n37 GW <| jA2 <| je_cutFrom <| jv 14 <| je_int ⟨(c0 :: C0).map .int, 1, rfl, rfl, jv 10 ⟨C0, l, rfl, by omega, _, rfl, rfl, ?_⟩⟩
            show withinB C0 l = (decide (c0 = x) && withinB C0 l)
            rw [show decide (c0 = x) = true from h, Bool.true_and]
          · show false = (decide (c0 = x) && withinB C0 l)
            rw [show decide (c0 = x) = false from h, Bool.false_and]
        have hsl := List.length_filter_le (ringAt l x) (ringsL n es)
        generalize (ringsL n es).filter (ringAt l x) = so at *
        refine jss_frz 13 rfl ?_
        refine jset 11 <| JN.je <| jn_cat <| jv 11 <| JN.je <| jn_rep <| JN.je <| jlst1 <| jv 12 <| jintB T2.int <| JE.keep (.bool (!decide (x ∈ l) && closeB n es l x)) ?_ ⟨_, rfl, ?_⟩
        · refine je_and <| jcmp op_neL0 <| jv 13 <| JN.je (jn_lst (jA0 ⟨[], rfl, Nat.zero_le _, od_eqL0 hr ⟨_, rfl, ?_⟩⟩))
          rw [if_pos rfl, isEmpty_map, hcr]
          cases closeB n es l x with
          | true => exact ift rfl <| je_one <| jcmp op_notInD <| jv 12 <| jv 10 <| od_niT (α := Int) hr (by decide) ⟨rfl, by rw [Bool.and_true]⟩
          | false => exact iff' rfl ⟨rfl, by rw [Bool.and_false]⟩
        cases hp : (!decide (x ∈ l) && closeB n es l x) with
        | true =>
          rw [hp, if_pos rfl] at tk
          refine ⟨[.int x], 1, rfl, rfl, by show 1 ≤ 1000000; decide, by decide, fs.map .int, [.int x], rfl, rfl, by rw [List.length_map]; show _ + 1 ≤ _; omega, jss_nil ⟨.val (.int x), .val (.list (so.map tupI)), ?_⟩⟩
          rw [tk, List.map_append]; rfl
        | false =>
          rw [hp, if_neg Bool.false_ne_true, List.append_nil] at tk
          refine ⟨[.int x], 0, rfl, rfl, by show 0 ≤ 1000000; decide, by decide, fs.map .int, [], rfl, rfl, by rw [List.length_map]; show _ + 0 ≤ _; omega, jss_nil ⟨.val (.int x), .val (.list (so.map tupI)), ?_⟩⟩
          rw [tk, List.append_nil]; rfl
      clear s12 s13
      rintro S' ⟨s12, s13, rfl⟩
      rw [List.length_map, List.take_length, show ((rangeI es.length).filter fun r => !decide (r ∈ l) && closeB n es l r) = closersL n es l from rfl]
      refine jifF (JW.jt <| jw_or <| jtcmp op_neD <| jreprW hgd hr D.b_repr <| jcall hr D.n20 GCl <| jA2 <| jv 3 <| jv 10 ⟨n, es, l, rfl, by omega, by omega, by omega, hE, hlr, soC, jreprW hgd hr D.b_repr <| jtuple T.tup <| jv 11 ⟨(closersL n es l).map .int, rfl, soC, od_ne (α := Str) hr (by decide) ⟨_, rfl, iff' (ne_self _) <| jw_or1 <| jtcmp op_neD <| jreprW hgd hr D.b_repr <| jcall hr D.n21 GIU <| jA2 <| jv 3 <| jv 10 ⟨n, es, l, rfl, by omega, by omega, by omega, hE, hlr, soB, jreprW hgd hr D.b_repr <| jcmp op_inD <| jv 10 <| jv 8 <| od_inLT hr ?_⟩⟩⟩⟩) <| jss_nil ?_
      · rw [hev]
        exact ⟨soB, od_ne (α := Str) hr (by decide) ⟨_, rfl, ne_self _, rfl⟩⟩
      refine jifF (JW.jt <| jw_and <| jtval <| jcall hr D.n34 GF <| jA2 <| jv 3 <| jv 10 ⟨n, es, l, rfl, by omega, by omega, by omega, hE, hlr, _, rfl, ifb (fun e => ?_) (fun _ => ⟨rfl, rfl⟩)⟩) <| jss_nil ?_
      · refine jw_and1 <| jtcmp op_neD <| jcmp op_eqL0 <| jv 11 <| JN.je (jn_lst (jA0 ⟨[], rfl, Nat.zero_le _, od_eqL0 hr ?_⟩))
        rw [if_neg Bool.false_ne_true, isEmpty_map]
        refine jcmp op_inD <| jv 10 <| jv 8 <| od_inLT hr ?_
        rw [hev, hUF, e, Bool.true_and]
        exact od_neG hr (nice_bool _) (nice_bool _) ⟨_, rfl, neqv_self (nice_bool (n := 1) _), rfl⟩
      refine jifF (JW.jt <| jw_and <| jtcmp op_inD <| jv 10 <| jv 8 <| od_inLT hr ⟨_, rfl, ifb (fun e => ?_) (fun _ => ⟨rfl, rfl⟩)⟩) <| jss_nil <| jss_nil ⟨_, _, _, some (tupI l), rfl⟩
      have hU : UnB n es l = true := by rw [← hev]; exact e
      refine jw_and1 <| jtcmp op_neL0 <| JN.je <| jlc [("k", 16)] [16] <| jrange1 T.ran <| jlen T.len <| jv 10 ⟨l.map .int, .inr rfl, (l.length : Nat), by rw [List.length_map], by omega, by omega, lcR (m := l.length) (fun _ => false) (fun (k : Nat) => .int (k : Int)) (fun j hj => lp1 16 ?_) ?_ (by omega) (by omega)⟩
      · intro _ _ _ _ _
        refine jt_not <| jtval <| jcall hr D.n21 GIU <| jA2 <| jv 3 <| je_op op_catA <| je_cutTo <| jv 10 <| jv 16 ⟨l.map .int, j, rfl, rfl, je_cutFrom <| jv 10 <| je_op op_add <| jv 16 <| je_int <| od_I0 ⟨l.map .int, j + 1, rfl, rfl, od_catT ?_ ?_⟩⟩
        · rw [List.length_take, List.length_drop, List.length_map]; omega
        · rw [← List.map_take, ← List.map_drop, ← List.map_append, erase_cut]
          refine ⟨n, es, l.eraseIdx j, rfl, by omega, by omega, Nat.le_trans (List.length_eraseIdx_le _ _) (by omega), hE, hlr.sub fun x hx => (List.eraseIdx_sublist _ _).subset hx, _, rfl, ?_, fun _ => rfl, fun z => by cases z⟩
          rw [un_erase hE hl hU]; rfl
      · refine JN.je (jn_lst (jA0 ⟨[], rfl, Nat.zero_le _, od_eqL0 hr ⟨_, rfl, ?_, rfl⟩⟩))
        rw [if_pos rfl, isEmpty_map]
        have : (List.range l.length).filter (fun _ => false) = [] := List.filter_eq_nil_iff.mpr fun _ _ z => by cases z
        rw [this]; rfl
    clear s11 s12 s13 o10
    rintro S' ⟨s11, s12, s13, o10, rfl⟩
    refine jifF (jtcmp op_neD <| jreprW hgd hr D.b_repr <| jv 3 ⟨soF, ?_⟩) <| jss_nil <| jss_nil ⟨_, _, _, _, _, _, _, _, _, _, _, o10, rfl⟩
    rw [hkp]
    exact jv 5 <| od_ne (α := Str) hr (by decide) ⟨_, rfl, ne_self _, rfl⟩
  · rintro S' ⟨s2, s3, s4, s5, s6, s7, s8, s9, s11, s12, s13, o10, rfl⟩
    refine jret ?_
    refine jcmp op_eqD ?_
    refine jcall hr D.n18 GBr ?_
    refine ja1 ?_
    refine jtup2 ?_
    refine je_int ?_
    refine je_tup ?_
    refine jA ?_
    refine jtup2 <| je_int <| je_int ?_
    refine jA ?_
    refine jtup2 <| je_int <| je_int ?_
    refine ja1 ?_
    refine jtup2 <| je_int <| je_int ⟨lastE.map edD, rfl, by show 3 ≤ sizeLine; omega, ?_⟩
    refine ⟨3, lastE, rfl, by decide, by decide, lastE_ends, lastE_nl, ?_⟩
    rw [last_broken]
    refine jtup1 ?_
    refine jtup2 <| je_int <| je_int ?_
    exact od_eqG hr (nT [[1, 2]]) (nT [[1, 2]]) (congrArg PyData.bool (eqv_self (nT [[1, 2]])))
end
end K24

namespace K24
open PySem L2 DL PySem.Spec PyProof.Rows
def all_of {K : PySem.W.Frag} {mg : Str → Option Value} (m_tuple : mg "tuple" = none) (m_range : mg "range" = none) (m_len : mg "len" = none) (m_list : mg "list" = none) (m_sorted : mg "sorted" = none) (m_enumerate : mg "enumerate" = none) (m_int : mg "int" = none) (m_dict : mg "dict" = none) (m_abs : mg "abs" = none) (m_max : mg "max" = none) (m_repr : mg "repr" = none) (m_isinstance : mg "isinstance" = none) (m_bool : mg "bool" = none) (m_all : mg "all" = none) (m_str : mg "str" = none) (m_sum : mg "sum" = none) (m_zip : mg "zip" = none) (m_min : mg "min" = none) {tMOST_ROWS : Tok} (m_MOST_ROWS : mg "MOST_ROWS" = some (.int 2000 tMOST_ROWS))  {f1 : Addr} {g1 : FuncData} (d1 : Dn K mg "all_roads" (topS 1) ["frame"] f1 g1) {f2 : Addr} {g2 : FuncData} (d2 : Dn K mg "heads_by" (topS 2) ["frame", "lot"] f2 g2) {f3 : Addr} {g3 : FuncData} (d3 : Dn K mg "pieces_by" (topS 3) ["frame", "lot"] f3 g3) {f4 : Addr} {g4 : FuncData} (d4 : Dn K mg "piece_count" (topS 4) ["frame", "lot"] f4 g4) {f9 : Addr} {g9 : FuncData} (d9 : Dn K mg "roads_of_row" (topS 9) ["row"] f9 g9) {f12 : Addr} {g12 : FuncData} (d12 : Dn K mg "turned_row" (topS 12) ["row"] f12 g12) {f13 : Addr} {g13 : FuncData} (d13 : Dn K mg "steps_on" (topS 13) ["frame", "crossing"] f13 g13) {f14 : Addr} {g14 : FuncData} (d14 : Dn K mg "rings_from" (topS 14) ["frame", "first"] f14 g14) {f15 : Addr} {g15 : FuncData} (d15 : Dn K mg "simple_ring_rows" (topS 15) ["frame"] f15 g15) {f17 : Addr} {g17 : FuncData} (d17 : Dn K mg "ring_lots" (topS 17) ["frame"] f17 g17) {f18 : Addr} {g18 : FuncData} (d18 : Dn K mg "broken_rings" (topS 18) ["frame"] f18 g18) {f19 : Addr} {g19 : FuncData} (d19 : Dn K mg "is_ringless" (topS 19) ["frame", "lot"] f19 g19) {f20 : Addr} {g20 : FuncData} (d20 : Dn K mg "closers" (topS 20) ["frame", "lot"] f20 g20) {f21 : Addr} {g21 : FuncData} (d21 : Dn K mg "is_unbroken" (topS 21) ["frame", "lot"] f21 g21) {f22 : Addr} {g22 : FuncData} (d22 : Dn K mg "unbroken_lots" (topS 22) ["frame"] f22 g22) {f23 : Addr} {g23 : FuncData} (d23 : Dn K mg "unbroken_trees" (topS 23) ["frame"] f23 g23) {f24 : Addr} {g24 : FuncData} (d24 : Dn K mg "closes_with" (topS 24) ["frame", "lot", "road"] f24 g24) {f26 : Addr} {g26 : FuncData} (d26 : Dn K mg "_law_source" (topS 26) ["script"] f26 g26) {f27 : Addr} {g27 : FuncData} (d27 : Dn K mg "_law_pick" (topS 27) ["source", "many"] f27 g27) {f29 : Addr} {g29 : FuncData} (d29 : Dn K mg "_law_mixed" (topS 29) ["source", "things"] f29 g29) {f30 : Addr} {g30 : FuncData} (d30 : Dn K mg "_law_frame" (topS 30) ["source", "least", "most", "more"] f30 g30) {f31 : Addr} {g31 : FuncData} (d31 : Dn K mg "_law_heads" (topS 31) ["frame", "lot"] f31 g31) {f32 : Addr} {g32 : FuncData} (d32 : Dn K mg "_law_pieces" (topS 32) ["frame", "lot"] f32 g32) {f33 : Addr} {g33 : FuncData} (d33 : Dn K mg "_law_lots" (topS 33) ["many"] f33 g33) {f34 : Addr} {g34 : FuncData} (d34 : Dn K mg "_law_is_free" (topS 34) ["frame", "lot"] f34 g34) {f35 : Addr} {g35 : FuncData} (d35 : Dn K mg "_law_is_ring" (topS 35) ["frame", "lot"] f35 g35) {f36 : Addr} {g36 : FuncData} (d36 : Dn K mg "_law_rings" (topS 36) ["frame"] f36 g36) {f37 : Addr} {g37 : FuncData} (d37 : Dn K mg "_law_within" (topS 37) ["some", "lot"] f37 g37) {f38 : Addr} {g38 : FuncData} (d38 : Dn K mg "_law_unbroken" (topS 38) ["frame"] f38 g38) {f39 : Addr} {g39 : FuncData} (d39 : Dn K mg "_law_busy" (topS 39) ["frame", "tree"] f39 g39) {f40 : Addr} {g40 : FuncData} (d40 : Dn K mg "_law_trees" (topS 40) ["frame"] f40 g40) : AllD K mg :=
  ⟨m_tuple, m_range, m_len, m_list, m_sorted, m_enumerate, m_int, m_dict, m_abs, m_max, m_repr, m_isinstance, m_bool, m_all, m_str, m_sum, m_zip, m_min, m_MOST_ROWS, d1, d2, d3, d4, d9, d12, d13, d14, d15, d17, d18, d19, d20, d21, d22, d23, d24, d26, d27, d29, d30, d31, d32, d33, d34, d35, d36, d37, d38, d39, d40⟩
theorem all_mk {l : PySem.W.OpenLaw} {w : World} {K : PySem.W.Frag} {h : Heap} {mg : Str → Option Value} {fa : Addr} (X : K.In h) (G : h.Ns mainGlobals mg) (hfa : mg "law" = some (.ref fa))
    {f1 f2 f3 f4 f9 f12 f13 f14 f15 f17 f18 f19 f20 f21 f22 f23 f24 f26 f27 f29 f30 f31 f32 f33 f34 f35 f36 f37 f38 f39 f40 f43 : Addr} {od1 od2 od3 od4 od9 od12 od13 od14 od15 od17 od18 od19 od20 od21 od22 od23 od24 od26 od27 od29 od30 od31 od32 od33 od34 od35 od36 od37 od38 od39 od40 od43 an1 an2 an3 an4 an9 an12 an13 an14 an15 an17 an18 an19 an20 an21 an22 an23 an24 an26 an27 an29 an30 an31 an32 an33 an34 an35 an36 an37 an38 an39 an40 an43 : Option Addr} {sl1 sl2 sl3 sl4 sl9 sl12 sl13 sl14 sl15 sl17 sl18 sl19 sl20 sl21 sl22 sl23 sl24 sl26 sl27 sl29 sl30 sl31 sl32 sl33 sl34 sl35 sl36 sl37 sl38 sl39 sl40 sl43 : Array (Option Value)} {oc1 oc2 oc3 oc4 oc9 oc12 oc13 oc14 oc15 oc17 oc18 oc19 oc20 oc21 oc22 oc23 oc24 oc26 oc27 oc29 oc30 oc31 oc32 oc33 oc34 oc35 oc36 oc37 oc38 oc39 oc40 oc43 kV1 kV2 kV3 kV4 kV9 kV12 kV13 kV14 kV15 kV17 kV18 kV19 kV20 kV21 kV22 kV23 kV24 kV26 kV27 kV29 kV30 kV31 kV32 kV33 kV34 kV35 kV36 kV37 kV38 kV39 kV40 kV43 dc1 dc2 dc3 dc4 dc9 dc12 dc13 dc14 dc15 dc17 dc18 dc19 dc20 dc21 dc22 dc23 dc24 dc26 dc27 dc29 dc30 dc31 dc32 dc33 dc34 dc35 dc36 dc37 dc38 dc39 dc40 dc43 pm1 pm2 pm3 pm4 pm9 pm12 pm13 pm14 pm15 pm17 pm18 pm19 pm20 pm21 pm22 pm23 pm24 pm26 pm27 pm29 pm30 pm31 pm32 pm33 pm34 pm35 pm36 pm37 pm38 pm39 pm40 pm43 cd1 cd2 cd3 cd4 cd9 cd12 cd13 cd14 cd15 cd17 cd18 cd19 cd20 cd21 cd22 cd23 cd24 cd26 cd27 cd29 cd30 cd31 cd32 cd33 cd34 cd35 cd36 cd37 cd38 cd39 cd40 cd43 ct1 ct2 ct3 ct4 ct9 ct12 ct13 ct14 ct15 ct17 ct18 ct19 ct20 ct21 ct22 ct23 ct24 ct26 ct27 ct29 ct30 ct31 ct32 ct33 ct34 ct35 ct36 ct37 ct38 ct39 ct40 ct43 : Value}
    (a1 : PySem.W.nsIn K mainGlobals "all_roads" = some (some (.ref f1))) (l1 : K.lookup f1 = some ⟨oc1, od1, .func (PySem.W.fnOf "all_roads" "all_roads" (defArgs (topS 1)) (defBody (topS 1)) (defScope (topS 1)) .none kV1 dc1 pm1 an1 cd1 ct1), sl1⟩) (c1 : PySem.W.codeIn K cd1 "all_roads" = true) (k1 : PySem.W.keepIn K (.ref f1) = true)
    (a2 : PySem.W.nsIn K mainGlobals "heads_by" = some (some (.ref f2))) (l2 : K.lookup f2 = some ⟨oc2, od2, .func (PySem.W.fnOf "heads_by" "heads_by" (defArgs (topS 2)) (defBody (topS 2)) (defScope (topS 2)) .none kV2 dc2 pm2 an2 cd2 ct2), sl2⟩) (c2 : PySem.W.codeIn K cd2 "heads_by" = true) (k2 : PySem.W.keepIn K (.ref f2) = true)
    (a3 : PySem.W.nsIn K mainGlobals "pieces_by" = some (some (.ref f3))) (l3 : K.lookup f3 = some ⟨oc3, od3, .func (PySem.W.fnOf "pieces_by" "pieces_by" (defArgs (topS 3)) (defBody (topS 3)) (defScope (topS 3)) .none kV3 dc3 pm3 an3 cd3 ct3), sl3⟩) (c3 : PySem.W.codeIn K cd3 "pieces_by" = true) (k3 : PySem.W.keepIn K (.ref f3) = true)
    (a4 : PySem.W.nsIn K mainGlobals "piece_count" = some (some (.ref f4))) (l4 : K.lookup f4 = some ⟨oc4, od4, .func (PySem.W.fnOf "piece_count" "piece_count" (defArgs (topS 4)) (defBody (topS 4)) (defScope (topS 4)) .none kV4 dc4 pm4 an4 cd4 ct4), sl4⟩) (c4 : PySem.W.codeIn K cd4 "piece_count" = true) (k4 : PySem.W.keepIn K (.ref f4) = true)
    (a9 : PySem.W.nsIn K mainGlobals "roads_of_row" = some (some (.ref f9))) (l9 : K.lookup f9 = some ⟨oc9, od9, .func (PySem.W.fnOf "roads_of_row" "roads_of_row" (defArgs (topS 9)) (defBody (topS 9)) (defScope (topS 9)) .none kV9 dc9 pm9 an9 cd9 ct9), sl9⟩) (c9 : PySem.W.codeIn K cd9 "roads_of_row" = true) (k9 : PySem.W.keepIn K (.ref f9) = true)
    (a12 : PySem.W.nsIn K mainGlobals "turned_row" = some (some (.ref f12))) (l12 : K.lookup f12 = some ⟨oc12, od12, .func (PySem.W.fnOf "turned_row" "turned_row" (defArgs (topS 12)) (defBody (topS 12)) (defScope (topS 12)) .none kV12 dc12 pm12 an12 cd12 ct12), sl12⟩) (c12 : PySem.W.codeIn K cd12 "turned_row" = true) (k12 : PySem.W.keepIn K (.ref f12) = true)
    (a13 : PySem.W.nsIn K mainGlobals "steps_on" = some (some (.ref f13))) (l13 : K.lookup f13 = some ⟨oc13, od13, .func (PySem.W.fnOf "steps_on" "steps_on" (defArgs (topS 13)) (defBody (topS 13)) (defScope (topS 13)) .none kV13 dc13 pm13 an13 cd13 ct13), sl13⟩) (c13 : PySem.W.codeIn K cd13 "steps_on" = true) (k13 : PySem.W.keepIn K (.ref f13) = true)
    (a14 : PySem.W.nsIn K mainGlobals "rings_from" = some (some (.ref f14))) (l14 : K.lookup f14 = some ⟨oc14, od14, .func (PySem.W.fnOf "rings_from" "rings_from" (defArgs (topS 14)) (defBody (topS 14)) (defScope (topS 14)) .none kV14 dc14 pm14 an14 cd14 ct14), sl14⟩) (c14 : PySem.W.codeIn K cd14 "rings_from" = true) (k14 : PySem.W.keepIn K (.ref f14) = true)
    (a15 : PySem.W.nsIn K mainGlobals "simple_ring_rows" = some (some (.ref f15))) (l15 : K.lookup f15 = some ⟨oc15, od15, .func (PySem.W.fnOf "simple_ring_rows" "simple_ring_rows" (defArgs (topS 15)) (defBody (topS 15)) (defScope (topS 15)) .none kV15 dc15 pm15 an15 cd15 ct15), sl15⟩) (c15 : PySem.W.codeIn K cd15 "simple_ring_rows" = true) (k15 : PySem.W.keepIn K (.ref f15) = true)
    (a17 : PySem.W.nsIn K mainGlobals "ring_lots" = some (some (.ref f17))) (l17 : K.lookup f17 = some ⟨oc17, od17, .func (PySem.W.fnOf "ring_lots" "ring_lots" (defArgs (topS 17)) (defBody (topS 17)) (defScope (topS 17)) .none kV17 dc17 pm17 an17 cd17 ct17), sl17⟩) (c17 : PySem.W.codeIn K cd17 "ring_lots" = true) (k17 : PySem.W.keepIn K (.ref f17) = true)
    (a18 : PySem.W.nsIn K mainGlobals "broken_rings" = some (some (.ref f18))) (l18 : K.lookup f18 = some ⟨oc18, od18, .func (PySem.W.fnOf "broken_rings" "broken_rings" (defArgs (topS 18)) (defBody (topS 18)) (defScope (topS 18)) .none kV18 dc18 pm18 an18 cd18 ct18), sl18⟩) (c18 : PySem.W.codeIn K cd18 "broken_rings" = true) (k18 : PySem.W.keepIn K (.ref f18) = true)
    (a19 : PySem.W.nsIn K mainGlobals "is_ringless" = some (some (.ref f19))) (l19 : K.lookup f19 = some ⟨oc19, od19, .func (PySem.W.fnOf "is_ringless" "is_ringless" (defArgs (topS 19)) (defBody (topS 19)) (defScope (topS 19)) .none kV19 dc19 pm19 an19 cd19 ct19), sl19⟩) (c19 : PySem.W.codeIn K cd19 "is_ringless" = true) (k19 : PySem.W.keepIn K (.ref f19) = true)
    (a20 : PySem.W.nsIn K mainGlobals "closers" = some (some (.ref f20))) (l20 : K.lookup f20 = some ⟨oc20, od20, .func (PySem.W.fnOf "closers" "closers" (defArgs (topS 20)) (defBody (topS 20)) (defScope (topS 20)) .none kV20 dc20 pm20 an20 cd20 ct20), sl20⟩) (c20 : PySem.W.codeIn K cd20 "closers" = true) (k20 : PySem.W.keepIn K (.ref f20) = true)
    (a21 : PySem.W.nsIn K mainGlobals "is_unbroken" = some (some (.ref f21))) (l21 : K.lookup f21 = some ⟨oc21, od21, .func (PySem.W.fnOf "is_unbroken" "is_unbroken" (defArgs (topS 21)) (defBody (topS 21)) (defScope (topS 21)) .none kV21 dc21 pm21 an21 cd21 ct21), sl21⟩) (c21 : PySem.W.codeIn K cd21 "is_unbroken" = true) (k21 : PySem.W.keepIn K (.ref f21) = true)
    (a22 : PySem.W.nsIn K mainGlobals "unbroken_lots" = some (some (.ref f22))) (l22 : K.lookup f22 = some ⟨oc22, od22, .func (PySem.W.fnOf "unbroken_lots" "unbroken_lots" (defArgs (topS 22)) (defBody (topS 22)) (defScope (topS 22)) .none kV22 dc22 pm22 an22 cd22 ct22), sl22⟩) (c22 : PySem.W.codeIn K cd22 "unbroken_lots" = true) (k22 : PySem.W.keepIn K (.ref f22) = true)
    (a23 : PySem.W.nsIn K mainGlobals "unbroken_trees" = some (some (.ref f23))) (l23 : K.lookup f23 = some ⟨oc23, od23, .func (PySem.W.fnOf "unbroken_trees" "unbroken_trees" (defArgs (topS 23)) (defBody (topS 23)) (defScope (topS 23)) .none kV23 dc23 pm23 an23 cd23 ct23), sl23⟩) (c23 : PySem.W.codeIn K cd23 "unbroken_trees" = true) (k23 : PySem.W.keepIn K (.ref f23) = true)
    (a24 : PySem.W.nsIn K mainGlobals "closes_with" = some (some (.ref f24))) (l24 : K.lookup f24 = some ⟨oc24, od24, .func (PySem.W.fnOf "closes_with" "closes_with" (defArgs (topS 24)) (defBody (topS 24)) (defScope (topS 24)) .none kV24 dc24 pm24 an24 cd24 ct24), sl24⟩) (c24 : PySem.W.codeIn K cd24 "closes_with" = true) (k24 : PySem.W.keepIn K (.ref f24) = true)
    (a26 : PySem.W.nsIn K mainGlobals "_law_source" = some (some (.ref f26))) (l26 : K.lookup f26 = some ⟨oc26, od26, .func (PySem.W.fnOf "_law_source" "_law_source" (defArgs (topS 26)) (defBody (topS 26)) (defScope (topS 26)) .none kV26 dc26 pm26 an26 cd26 ct26), sl26⟩) (c26 : PySem.W.codeIn K cd26 "_law_source" = true) (k26 : PySem.W.keepIn K (.ref f26) = true)
    (a27 : PySem.W.nsIn K mainGlobals "_law_pick" = some (some (.ref f27))) (l27 : K.lookup f27 = some ⟨oc27, od27, .func (PySem.W.fnOf "_law_pick" "_law_pick" (defArgs (topS 27)) (defBody (topS 27)) (defScope (topS 27)) .none kV27 dc27 pm27 an27 cd27 ct27), sl27⟩) (c27 : PySem.W.codeIn K cd27 "_law_pick" = true) (k27 : PySem.W.keepIn K (.ref f27) = true)
    (a29 : PySem.W.nsIn K mainGlobals "_law_mixed" = some (some (.ref f29))) (l29 : K.lookup f29 = some ⟨oc29, od29, .func (PySem.W.fnOf "_law_mixed" "_law_mixed" (defArgs (topS 29)) (defBody (topS 29)) (defScope (topS 29)) .none kV29 dc29 pm29 an29 cd29 ct29), sl29⟩) (c29 : PySem.W.codeIn K cd29 "_law_mixed" = true) (k29 : PySem.W.keepIn K (.ref f29) = true)
    (a30 : PySem.W.nsIn K mainGlobals "_law_frame" = some (some (.ref f30))) (l30 : K.lookup f30 = some ⟨oc30, od30, .func (PySem.W.fnOf "_law_frame" "_law_frame" (defArgs (topS 30)) (defBody (topS 30)) (defScope (topS 30)) .none kV30 dc30 pm30 an30 cd30 ct30), sl30⟩) (c30 : PySem.W.codeIn K cd30 "_law_frame" = true) (k30 : PySem.W.keepIn K (.ref f30) = true)
    (a31 : PySem.W.nsIn K mainGlobals "_law_heads" = some (some (.ref f31))) (l31 : K.lookup f31 = some ⟨oc31, od31, .func (PySem.W.fnOf "_law_heads" "_law_heads" (defArgs (topS 31)) (defBody (topS 31)) (defScope (topS 31)) .none kV31 dc31 pm31 an31 cd31 ct31), sl31⟩) (c31 : PySem.W.codeIn K cd31 "_law_heads" = true) (k31 : PySem.W.keepIn K (.ref f31) = true)
    (a32 : PySem.W.nsIn K mainGlobals "_law_pieces" = some (some (.ref f32))) (l32 : K.lookup f32 = some ⟨oc32, od32, .func (PySem.W.fnOf "_law_pieces" "_law_pieces" (defArgs (topS 32)) (defBody (topS 32)) (defScope (topS 32)) .none kV32 dc32 pm32 an32 cd32 ct32), sl32⟩) (c32 : PySem.W.codeIn K cd32 "_law_pieces" = true) (k32 : PySem.W.keepIn K (.ref f32) = true)
    (a33 : PySem.W.nsIn K mainGlobals "_law_lots" = some (some (.ref f33))) (l33 : K.lookup f33 = some ⟨oc33, od33, .func (PySem.W.fnOf "_law_lots" "_law_lots" (defArgs (topS 33)) (defBody (topS 33)) (defScope (topS 33)) .none kV33 dc33 pm33 an33 cd33 ct33), sl33⟩) (c33 : PySem.W.codeIn K cd33 "_law_lots" = true) (k33 : PySem.W.keepIn K (.ref f33) = true)
    (a34 : PySem.W.nsIn K mainGlobals "_law_is_free" = some (some (.ref f34))) (l34 : K.lookup f34 = some ⟨oc34, od34, .func (PySem.W.fnOf "_law_is_free" "_law_is_free" (defArgs (topS 34)) (defBody (topS 34)) (defScope (topS 34)) .none kV34 dc34 pm34 an34 cd34 ct34), sl34⟩) (c34 : PySem.W.codeIn K cd34 "_law_is_free" = true) (k34 : PySem.W.keepIn K (.ref f34) = true)
    (a35 : PySem.W.nsIn K mainGlobals "_law_is_ring" = some (some (.ref f35))) (l35 : K.lookup f35 = some ⟨oc35, od35, .func (PySem.W.fnOf "_law_is_ring" "_law_is_ring" (defArgs (topS 35)) (defBody (topS 35)) (defScope (topS 35)) .none kV35 dc35 pm35 an35 cd35 ct35), sl35⟩) (c35 : PySem.W.codeIn K cd35 "_law_is_ring" = true) (k35 : PySem.W.keepIn K (.ref f35) = true)
    (a36 : PySem.W.nsIn K mainGlobals "_law_rings" = some (some (.ref f36))) (l36 : K.lookup f36 = some ⟨oc36, od36, .func (PySem.W.fnOf "_law_rings" "_law_rings" (defArgs (topS 36)) (defBody (topS 36)) (defScope (topS 36)) .none kV36 dc36 pm36 an36 cd36 ct36), sl36⟩) (c36 : PySem.W.codeIn K cd36 "_law_rings" = true) (k36 : PySem.W.keepIn K (.ref f36) = true)
    (a37 : PySem.W.nsIn K mainGlobals "_law_within" = some (some (.ref f37))) (l37 : K.lookup f37 = some ⟨oc37, od37, .func (PySem.W.fnOf "_law_within" "_law_within" (defArgs (topS 37)) (defBody (topS 37)) (defScope (topS 37)) .none kV37 dc37 pm37 an37 cd37 ct37), sl37⟩) (c37 : PySem.W.codeIn K cd37 "_law_within" = true) (k37 : PySem.W.keepIn K (.ref f37) = true)
    (a38 : PySem.W.nsIn K mainGlobals "_law_unbroken" = some (some (.ref f38))) (l38 : K.lookup f38 = some ⟨oc38, od38, .func (PySem.W.fnOf "_law_unbroken" "_law_unbroken" (defArgs (topS 38)) (defBody (topS 38)) (defScope (topS 38)) .none kV38 dc38 pm38 an38 cd38 ct38), sl38⟩) (c38 : PySem.W.codeIn K cd38 "_law_unbroken" = true) (k38 : PySem.W.keepIn K (.ref f38) = true)
    (a39 : PySem.W.nsIn K mainGlobals "_law_busy" = some (some (.ref f39))) (l39 : K.lookup f39 = some ⟨oc39, od39, .func (PySem.W.fnOf "_law_busy" "_law_busy" (defArgs (topS 39)) (defBody (topS 39)) (defScope (topS 39)) .none kV39 dc39 pm39 an39 cd39 ct39), sl39⟩) (c39 : PySem.W.codeIn K cd39 "_law_busy" = true) (k39 : PySem.W.keepIn K (.ref f39) = true)
    (a40 : PySem.W.nsIn K mainGlobals "_law_trees" = some (some (.ref f40))) (l40 : K.lookup f40 = some ⟨oc40, od40, .func (PySem.W.fnOf "_law_trees" "_law_trees" (defArgs (topS 40)) (defBody (topS 40)) (defScope (topS 40)) .none kV40 dc40 pm40 an40 cd40 ct40), sl40⟩) (c40 : PySem.W.codeIn K cd40 "_law_trees" = true) (k40 : PySem.W.keepIn K (.ref f40) = true)
    (a43 : PySem.W.nsIn K mainGlobals "law" = some (some (.ref f43))) (l43 : K.lookup f43 = some ⟨oc43, od43, .func (PySem.W.fnOf "law" "law" (defArgs (topS 43)) (defBody (topS 43)) (defScope (topS 43)) .none kV43 dc43 pm43 an43 cd43 ct43), sl43⟩) (c43 : PySem.W.codeIn K cd43 "law" = true) (k43 : PySem.W.keepIn K (.ref f43) = true)
    {tMOST_ROWS : Tok} (y0 : PySem.W.nsIn K mainGlobals "MOST_ROWS" = some (some (.int 2000 tMOST_ROWS)))
    (z0 : PySem.W.nsIn K mainGlobals "tuple" = some none)
    (z1 : PySem.W.nsIn K mainGlobals "range" = some none)
    (z2 : PySem.W.nsIn K mainGlobals "len" = some none)
    (z3 : PySem.W.nsIn K mainGlobals "list" = some none)
    (z4 : PySem.W.nsIn K mainGlobals "sorted" = some none)
    (z5 : PySem.W.nsIn K mainGlobals "enumerate" = some none)
    (z6 : PySem.W.nsIn K mainGlobals "int" = some none)
    (z7 : PySem.W.nsIn K mainGlobals "dict" = some none)
    (z8 : PySem.W.nsIn K mainGlobals "abs" = some none)
    (z9 : PySem.W.nsIn K mainGlobals "max" = some none)
    (z10 : PySem.W.nsIn K mainGlobals "repr" = some none)
    (z11 : PySem.W.nsIn K mainGlobals "isinstance" = some none)
    (z12 : PySem.W.nsIn K mainGlobals "bool" = some none)
    (z13 : PySem.W.nsIn K mainGlobals "all" = some none)
    (z14 : PySem.W.nsIn K mainGlobals "str" = some none)
    (z15 : PySem.W.nsIn K mainGlobals "sum" = some none)
    (z16 : PySem.W.nsIn K mainGlobals "zip" = some none)
    (z17 : PySem.W.nsIn K mainGlobals "min" = some none)
    : ∃ fd : FuncData, (∀ (s : Shared) (u : Value), BindsTo s fd ⟨[u], []⟩ [("script", u)]) ∧ ∀ base : Heap, K.In base → base.Ns mainGlobals mg → FnG l.prog w K mg base 10 fa fd ["script"] (spLaw K) := by
  have e := hfa.symm.trans (PySem.W.mg_of X G a43)
  cases e
  have FL := fun_mk (st := topS 43) l43 c43 k43
  have m_MOST_ROWS := PySem.W.mg_of X G y0
  have m_tuple := PySem.W.mg_none_of X G z0
  have m_range := PySem.W.mg_none_of X G z1
  have m_len := PySem.W.mg_none_of X G z2
  have m_list := PySem.W.mg_none_of X G z3
  have m_sorted := PySem.W.mg_none_of X G z4
  have m_enumerate := PySem.W.mg_none_of X G z5
  have m_int := PySem.W.mg_none_of X G z6
  have m_dict := PySem.W.mg_none_of X G z7
  have m_abs := PySem.W.mg_none_of X G z8
  have m_max := PySem.W.mg_none_of X G z9
  have m_repr := PySem.W.mg_none_of X G z10
  have m_isinstance := PySem.W.mg_none_of X G z11
  have m_bool := PySem.W.mg_none_of X G z12
  have m_all := PySem.W.mg_none_of X G z13
  have m_str := PySem.W.mg_none_of X G z14
  have m_sum := PySem.W.mg_none_of X G z15
  have m_zip := PySem.W.mg_none_of X G z16
  have m_min := PySem.W.mg_none_of X G z17
  have d1 : Dn K mg "all_roads" (topS 1) ["frame"] f1 _ := ⟨fun_mk l1 c1 k1, PySem.W.mg_of X G a1, (fun_mk (st := topS 1) l1 c1 k1).binds (ps := ["frame"]) fun _ _ _ _ _ _ us hl => match us, hl with | [_], _ => rfl⟩
  have d2 : Dn K mg "heads_by" (topS 2) ["frame", "lot"] f2 _ := ⟨fun_mk l2 c2 k2, PySem.W.mg_of X G a2, (fun_mk (st := topS 2) l2 c2 k2).binds (ps := ["frame", "lot"]) fun _ _ _ _ _ _ us hl => match us, hl with | [_, _], _ => rfl⟩
  have d3 : Dn K mg "pieces_by" (topS 3) ["frame", "lot"] f3 _ := ⟨fun_mk l3 c3 k3, PySem.W.mg_of X G a3, (fun_mk (st := topS 3) l3 c3 k3).binds (ps := ["frame", "lot"]) fun _ _ _ _ _ _ us hl => match us, hl with | [_, _], _ => rfl⟩
  have d4 : Dn K mg "piece_count" (topS 4) ["frame", "lot"] f4 _ := ⟨fun_mk l4 c4 k4, PySem.W.mg_of X G a4, (fun_mk (st := topS 4) l4 c4 k4).binds (ps := ["frame", "lot"]) fun _ _ _ _ _ _ us hl => match us, hl with | [_, _], _ => rfl⟩
  have d9 : Dn K mg "roads_of_row" (topS 9) ["row"] f9 _ := ⟨fun_mk l9 c9 k9, PySem.W.mg_of X G a9, (fun_mk (st := topS 9) l9 c9 k9).binds (ps := ["row"]) fun _ _ _ _ _ _ us hl => match us, hl with | [_], _ => rfl⟩
  have d12 : Dn K mg "turned_row" (topS 12) ["row"] f12 _ := ⟨fun_mk l12 c12 k12, PySem.W.mg_of X G a12, (fun_mk (st := topS 12) l12 c12 k12).binds (ps := ["row"]) fun _ _ _ _ _ _ us hl => match us, hl with | [_], _ => rfl⟩
  have d13 : Dn K mg "steps_on" (topS 13) ["frame", "crossing"] f13 _ := ⟨fun_mk l13 c13 k13, PySem.W.mg_of X G a13, (fun_mk (st := topS 13) l13 c13 k13).binds (ps := ["frame", "crossing"]) fun _ _ _ _ _ _ us hl => match us, hl with | [_, _], _ => rfl⟩
  have d14 : Dn K mg "rings_from" (topS 14) ["frame", "first"] f14 _ := ⟨fun_mk l14 c14 k14, PySem.W.mg_of X G a14, (fun_mk (st := topS 14) l14 c14 k14).binds (ps := ["frame", "first"]) fun _ _ _ _ _ _ us hl => match us, hl with | [_, _], _ => rfl⟩
  have d15 : Dn K mg "simple_ring_rows" (topS 15) ["frame"] f15 _ := ⟨fun_mk l15 c15 k15, PySem.W.mg_of X G a15, (fun_mk (st := topS 15) l15 c15 k15).binds (ps := ["frame"]) fun _ _ _ _ _ _ us hl => match us, hl with | [_], _ => rfl⟩
  have d17 : Dn K mg "ring_lots" (topS 17) ["frame"] f17 _ := ⟨fun_mk l17 c17 k17, PySem.W.mg_of X G a17, (fun_mk (st := topS 17) l17 c17 k17).binds (ps := ["frame"]) fun _ _ _ _ _ _ us hl => match us, hl with | [_], _ => rfl⟩
  have d18 : Dn K mg "broken_rings" (topS 18) ["frame"] f18 _ := ⟨fun_mk l18 c18 k18, PySem.W.mg_of X G a18, (fun_mk (st := topS 18) l18 c18 k18).binds (ps := ["frame"]) fun _ _ _ _ _ _ us hl => match us, hl with | [_], _ => rfl⟩
  have d19 : Dn K mg "is_ringless" (topS 19) ["frame", "lot"] f19 _ := ⟨fun_mk l19 c19 k19, PySem.W.mg_of X G a19, (fun_mk (st := topS 19) l19 c19 k19).binds (ps := ["frame", "lot"]) fun _ _ _ _ _ _ us hl => match us, hl with | [_, _], _ => rfl⟩
  have d20 : Dn K mg "closers" (topS 20) ["frame", "lot"] f20 _ := ⟨fun_mk l20 c20 k20, PySem.W.mg_of X G a20, (fun_mk (st := topS 20) l20 c20 k20).binds (ps := ["frame", "lot"]) fun _ _ _ _ _ _ us hl => match us, hl with | [_, _], _ => rfl⟩
  have d21 : Dn K mg "is_unbroken" (topS 21) ["frame", "lot"] f21 _ := ⟨fun_mk l21 c21 k21, PySem.W.mg_of X G a21, (fun_mk (st := topS 21) l21 c21 k21).binds (ps := ["frame", "lot"]) fun _ _ _ _ _ _ us hl => match us, hl with | [_, _], _ => rfl⟩
  have d22 : Dn K mg "unbroken_lots" (topS 22) ["frame"] f22 _ := ⟨fun_mk l22 c22 k22, PySem.W.mg_of X G a22, (fun_mk (st := topS 22) l22 c22 k22).binds (ps := ["frame"]) fun _ _ _ _ _ _ us hl => match us, hl with | [_], _ => rfl⟩
  have d23 : Dn K mg "unbroken_trees" (topS 23) ["frame"] f23 _ := ⟨fun_mk l23 c23 k23, PySem.W.mg_of X G a23, (fun_mk (st := topS 23) l23 c23 k23).binds (ps := ["frame"]) fun _ _ _ _ _ _ us hl => match us, hl with | [_], _ => rfl⟩
  have d24 : Dn K mg "closes_with" (topS 24) ["frame", "lot", "road"] f24 _ := ⟨fun_mk l24 c24 k24, PySem.W.mg_of X G a24, (fun_mk (st := topS 24) l24 c24 k24).binds (ps := ["frame", "lot", "road"]) fun _ _ _ _ _ _ us hl => match us, hl with | [_, _, _], _ => rfl⟩
  have d26 : Dn K mg "_law_source" (topS 26) ["script"] f26 _ := ⟨fun_mk l26 c26 k26, PySem.W.mg_of X G a26, (fun_mk (st := topS 26) l26 c26 k26).binds (ps := ["script"]) fun _ _ _ _ _ _ us hl => match us, hl with | [_], _ => rfl⟩
  have d27 : Dn K mg "_law_pick" (topS 27) ["source", "many"] f27 _ := ⟨fun_mk l27 c27 k27, PySem.W.mg_of X G a27, (fun_mk (st := topS 27) l27 c27 k27).binds (ps := ["source", "many"]) fun _ _ _ _ _ _ us hl => match us, hl with | [_, _], _ => rfl⟩
  have d29 : Dn K mg "_law_mixed" (topS 29) ["source", "things"] f29 _ := ⟨fun_mk l29 c29 k29, PySem.W.mg_of X G a29, (fun_mk (st := topS 29) l29 c29 k29).binds (ps := ["source", "things"]) fun _ _ _ _ _ _ us hl => match us, hl with | [_, _], _ => rfl⟩
  have d30 : Dn K mg "_law_frame" (topS 30) ["source", "least", "most", "more"] f30 _ := ⟨fun_mk l30 c30 k30, PySem.W.mg_of X G a30, (fun_mk (st := topS 30) l30 c30 k30).binds (ps := ["source", "least", "most", "more"]) fun _ _ _ _ _ _ us hl => match us, hl with | [_, _, _, _], _ => rfl⟩
  have d31 : Dn K mg "_law_heads" (topS 31) ["frame", "lot"] f31 _ := ⟨fun_mk l31 c31 k31, PySem.W.mg_of X G a31, (fun_mk (st := topS 31) l31 c31 k31).binds (ps := ["frame", "lot"]) fun _ _ _ _ _ _ us hl => match us, hl with | [_, _], _ => rfl⟩
  have d32 : Dn K mg "_law_pieces" (topS 32) ["frame", "lot"] f32 _ := ⟨fun_mk l32 c32 k32, PySem.W.mg_of X G a32, (fun_mk (st := topS 32) l32 c32 k32).binds (ps := ["frame", "lot"]) fun _ _ _ _ _ _ us hl => match us, hl with | [_, _], _ => rfl⟩
  have d33 : Dn K mg "_law_lots" (topS 33) ["many"] f33 _ := ⟨fun_mk l33 c33 k33, PySem.W.mg_of X G a33, (fun_mk (st := topS 33) l33 c33 k33).binds (ps := ["many"]) fun _ _ _ _ _ _ us hl => match us, hl with | [_], _ => rfl⟩
  have d34 : Dn K mg "_law_is_free" (topS 34) ["frame", "lot"] f34 _ := ⟨fun_mk l34 c34 k34, PySem.W.mg_of X G a34, (fun_mk (st := topS 34) l34 c34 k34).binds (ps := ["frame", "lot"]) fun _ _ _ _ _ _ us hl => match us, hl with | [_, _], _ => rfl⟩
  have d35 : Dn K mg "_law_is_ring" (topS 35) ["frame", "lot"] f35 _ := ⟨fun_mk l35 c35 k35, PySem.W.mg_of X G a35, (fun_mk (st := topS 35) l35 c35 k35).binds (ps := ["frame", "lot"]) fun _ _ _ _ _ _ us hl => match us, hl with | [_, _], _ => rfl⟩
  have d36 : Dn K mg "_law_rings" (topS 36) ["frame"] f36 _ := ⟨fun_mk l36 c36 k36, PySem.W.mg_of X G a36, (fun_mk (st := topS 36) l36 c36 k36).binds (ps := ["frame"]) fun _ _ _ _ _ _ us hl => match us, hl with | [_], _ => rfl⟩
  have d37 : Dn K mg "_law_within" (topS 37) ["some", "lot"] f37 _ := ⟨fun_mk l37 c37 k37, PySem.W.mg_of X G a37, (fun_mk (st := topS 37) l37 c37 k37).binds (ps := ["some", "lot"]) fun _ _ _ _ _ _ us hl => match us, hl with | [_, _], _ => rfl⟩
  have d38 : Dn K mg "_law_unbroken" (topS 38) ["frame"] f38 _ := ⟨fun_mk l38 c38 k38, PySem.W.mg_of X G a38, (fun_mk (st := topS 38) l38 c38 k38).binds (ps := ["frame"]) fun _ _ _ _ _ _ us hl => match us, hl with | [_], _ => rfl⟩
  have d39 : Dn K mg "_law_busy" (topS 39) ["frame", "tree"] f39 _ := ⟨fun_mk l39 c39 k39, PySem.W.mg_of X G a39, (fun_mk (st := topS 39) l39 c39 k39).binds (ps := ["frame", "tree"]) fun _ _ _ _ _ _ us hl => match us, hl with | [_, _], _ => rfl⟩
  have d40 : Dn K mg "_law_trees" (topS 40) ["frame"] f40 _ := ⟨fun_mk l40 c40 k40, PySem.W.mg_of X G a40, (fun_mk (st := topS 40) l40 c40 k40).binds (ps := ["frame"]) fun _ _ _ _ _ _ us hl => match us, hl with | [_], _ => rfl⟩
  refine ⟨_, fun s v => .of_eq rfl, fun base _ _ => ok_law FL (all_of m_tuple m_range m_len m_list m_sorted m_enumerate m_int m_dict m_abs m_max m_repr m_isinstance m_bool m_all m_str m_sum m_zip m_min m_MOST_ROWS d1 d2 d3 d4 d9 d12 d13 d14 d15 d17 d18 d19 d20 d21 d22 d23 d24 d26 d27 d29 d30 d31 d32 d33 d34 d35 d36 d37 d38 d39 d40)⟩
end K24
open PySem PySem.W PyProof.Rows
theorem PySem.Challenge.cw_shelledlots_k24_whole_lots_without_broke_holds : PySem.Challenge.rw_shelledlots_k24_whole_lots_without_broke.Holds := by
  w_on; o_law; k_head; (case hw => w_witness2)
  k_fill
  refine DL.walk_G (l := PySem.Challenge.rw_shelledlots_k24_whole_lots_without_broke) (n := 63) (k := 10) (x := "script") (sp := DL.spLaw) rfl (by decide) rfl ⟨rfl, by decide, by decide⟩ (fun w h Y => PySem.W.kIn_of Y) ?F fun K H a ns hl _ hS => ⟨a, ns, rfl, hS, hl, fun _ => rfl⟩
  case F =>
    intro w mg fa h KX G hmg
    refine' K24.all_mk KX G hmg ?a1 ?l1 ?c1 ?k1 ?a2 ?l2 ?c2 ?k2 ?a3 ?l3 ?c3 ?k3 ?a4 ?l4 ?c4 ?k4 ?a9 ?l9 ?c9 ?k9 ?a12 ?l12 ?c12 ?k12 ?a13 ?l13 ?c13 ?k13 ?a14 ?l14 ?c14 ?k14 ?a15 ?l15 ?c15 ?k15 ?a17 ?l17 ?c17 ?k17 ?a18 ?l18 ?c18 ?k18 ?a19 ?l19 ?c19 ?k19 ?a20 ?l20 ?c20 ?k20 ?a21 ?l21 ?c21 ?k21 ?a22 ?l22 ?c22 ?k22 ?a23 ?l23 ?c23 ?k23 ?a24 ?l24 ?c24 ?k24 ?a26 ?l26 ?c26 ?k26 ?a27 ?l27 ?c27 ?k27 ?a29 ?l29 ?c29 ?k29 ?a30 ?l30 ?c30 ?k30 ?a31 ?l31 ?c31 ?k31 ?a32 ?l32 ?c32 ?k32 ?a33 ?l33 ?c33 ?k33 ?a34 ?l34 ?c34 ?k34 ?a35 ?l35 ?c35 ?k35 ?a36 ?l36 ?c36 ?k36 ?a37 ?l37 ?c37 ?k37 ?a38 ?l38 ?c38 ?k38 ?a39 ?l39 ?c39 ?k39 ?a40 ?l40 ?c40 ?k40 ?a43 ?l43 ?c43 ?k43 ?y0 ?z0 ?z1 ?z2 ?z3 ?z4 ?z5 ?z6 ?z7 ?z8 ?z9 ?z10 ?z11 ?z12 ?z13 ?z14 ?z15 ?z16 ?z17
    (case a1 => k_is); (case l1 => k_is); (case c1 => k_is); (case k1 => k_is)
    (case a2 => k_is); (case l2 => k_is); (case c2 => k_is); (case k2 => k_is)
    (case a3 => k_is); (case l3 => k_is); (case c3 => k_is); (case k3 => k_is)
    (case a4 => k_is); (case l4 => k_is); (case c4 => k_is); (case k4 => k_is)
    (case a9 => k_is); (case l9 => k_is); (case c9 => k_is); (case k9 => k_is)
    (case a12 => k_is); (case l12 => k_is); (case c12 => k_is); (case k12 => k_is)
    (case a13 => k_is); (case l13 => k_is); (case c13 => k_is); (case k13 => k_is)
    (case a14 => k_is); (case l14 => k_is); (case c14 => k_is); (case k14 => k_is)
    (case a15 => k_is); (case l15 => k_is); (case c15 => k_is); (case k15 => k_is)
    (case a17 => k_is); (case l17 => k_is); (case c17 => k_is); (case k17 => k_is)
    (case a18 => k_is); (case l18 => k_is); (case c18 => k_is); (case k18 => k_is)
    (case a19 => k_is); (case l19 => k_is); (case c19 => k_is); (case k19 => k_is)
    (case a20 => k_is); (case l20 => k_is); (case c20 => k_is); (case k20 => k_is)
    (case a21 => k_is); (case l21 => k_is); (case c21 => k_is); (case k21 => k_is)
    (case a22 => k_is); (case l22 => k_is); (case c22 => k_is); (case k22 => k_is)
    (case a23 => k_is); (case l23 => k_is); (case c23 => k_is); (case k23 => k_is)
    (case a24 => k_is); (case l24 => k_is); (case c24 => k_is); (case k24 => k_is)
    (case a26 => k_is); (case l26 => k_is); (case c26 => k_is); (case k26 => k_is)
    (case a27 => k_is); (case l27 => k_is); (case c27 => k_is); (case k27 => k_is)
    (case a29 => k_is); (case l29 => k_is); (case c29 => k_is); (case k29 => k_is)
    (case a30 => k_is); (case l30 => k_is); (case c30 => k_is); (case k30 => k_is)
    (case a31 => k_is); (case l31 => k_is); (case c31 => k_is); (case k31 => k_is)
    (case a32 => k_is); (case l32 => k_is); (case c32 => k_is); (case k32 => k_is)
    (case a33 => k_is); (case l33 => k_is); (case c33 => k_is); (case k33 => k_is)
    (case a34 => k_is); (case l34 => k_is); (case c34 => k_is); (case k34 => k_is)
    (case a35 => k_is); (case l35 => k_is); (case c35 => k_is); (case k35 => k_is)
    (case a36 => k_is); (case l36 => k_is); (case c36 => k_is); (case k36 => k_is)
    (case a37 => k_is); (case l37 => k_is); (case c37 => k_is); (case k37 => k_is)
    (case a38 => k_is); (case l38 => k_is); (case c38 => k_is); (case k38 => k_is)
    (case a39 => k_is); (case l39 => k_is); (case c39 => k_is); (case k39 => k_is)
    (case a40 => k_is); (case l40 => k_is); (case c40 => k_is); (case k40 => k_is)
    (case a43 => k_is); (case l43 => k_is); (case c43 => k_is); (case k43 => k_is)
    (case y0 => k_is)
    (case z0 => k_is)
    (case z1 => k_is)
    (case z2 => k_is)
    (case z3 => k_is)
    (case z4 => k_is)
    (case z5 => k_is)
    (case z6 => k_is)
    (case z7 => k_is)
    (case z8 => k_is)
    (case z9 => k_is)
    (case z10 => k_is)
    (case z11 => k_is)
    (case z12 => k_is)
    (case z13 => k_is)
    (case z14 => k_is)
    (case z15 => k_is)
    (case z16 => k_is)
    (case z17 => k_is)
#print axioms PySem.Challenge.cw_shelledlots_k24_whole_lots_without_broke_holds

