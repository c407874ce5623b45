import PyProof.Rows.All
import Wide.All
import OpenK.AllK
import Wide.FinOn
import HandS.ForMost
import HandS.IsInst
import KE.KDictKeyed
import HandS.Style
import HandS.Wide
import HandS.Zip
import KE.GoesEnum
import HandS.TupAny
import HandS.TupMul
import PyProof.ReprRoads
import PyProof.ReprReads
import PyProof.P3In
import PyProof.NeKinds
import PyProof.ReprLen
import PySem.Challenge.RW_drawnsigns_k28_worlds_judged
set_option Elab.async false
set_option linter.all false
set_option maxRecDepth 100000
set_option maxHeartbeats 1000000
namespace DL
open PySem PySem.Spec PyProof.Rows L2

abbrev Sl := L2.St
/-! ## readings of values as data -/
/-- a dict that the code owns: exactly these entries -/
def dctH (a : Addr) (es : List DictEntry) : HO :=
  .ext fun h => (a == sysModules) = false ∧ ∃ o ep, h.get? a = some o ∧ o.ExactDict ∧ o.data = .dict es.toArray ep
mutual
def nkOf : PyData → Option NestedKey
  | .int i => some (.num i)
  | .str x => some (.text x)
  | .tuple ds => (nksOf ds).map .tup
  | _ => none
def nksOf : List PyData → Option (List NestedKey)
  | [] => some []
  | d :: ds => (nkOf d).bind fun k => (nksOf ds).map (k :: ·)
end
/-- the entries' keys are told with their hashes -/
def KeyRows (w : World) : List DictEntry → List PyData → Prop :=
  Paired fun e d => ∃ k, nkOf d = some k ∧ e.hash = k.hash w ∧ k.depth ≤ 8
abbrev Kvs := List (PyData × PyData)
mutual
/-- v reads as d, for good: through tuples and frozen lists and dicts -/
inductive RF (K : PySem.W.Frag) (w : World) (H : Hp) : V → PyData → Prop
  | non : RF K w H .non .none
  | bl (b : Bool) : RF K w H (.bl b) (.bool b)
  | int (i : Int) : RF K w H (.int i) (.int i)
  | str (x : Str) : RF K w H (.str x) (.str x)
  | lst {a : Addr} {o : Obj} {xs : List V} {ds : List PyData} : H a = some (.frz o (.lst xs)) → RFs K w H xs ds → RF K w H (.ref a) (.list ds)
  | tup {a : Addr} {xs : List V} {ds : List PyData} : SqT K H a xs → RFs K w H xs ds → RF K w H (.ref a) (.tuple ds)
  | dct {a : Addr} {o : Obj} {es : List DictEntry} {ks vs : List V} {kds vds : List PyData} : H a = some (.frz o (dctH a es)) → Vals ks (es.map (·.key)) → Vals vs (es.map (·.val)) →
      RFs K w H ks kds → RFs K w H vs vds → KeyRows w es kds → kds.Nodup → RF K w H (.ref a) (.dict (kds.zip vds))
inductive RFs (K : PySem.W.Frag) (w : World) (H : Hp) : List V → List PyData → Prop
  | nil : RFs K w H [] []
  | cons {v : V} {vs : List V} {d : PyData} {ds : List PyData} : RF K w H v d → RFs K w H vs ds → RFs K w H (v :: vs) (d :: ds)
end
/-- an own list, an own dict -/
def LsA (K : PySem.W.Frag) (w : World) (H : Hp) (a : Addr) (ds : List PyData) : Prop := ∃ xs, H a = some (.lst xs) ∧ RFs K w H xs ds
def DcA (K : PySem.W.Frag) (w : World) (H : Hp) (a : Addr) (kvs : Kvs) : Prop :=
  ∃ es ks vs kds vds, H a = some (dctH a es) ∧ Vals ks (es.map (·.key)) ∧ Vals vs (es.map (·.val)) ∧ RFs K w H ks kds ∧ RFs K w H vs vds ∧ KeyRows w es kds ∧ kds.Nodup ∧ kvs = kds.zip vds

/-- what stays for good -/
def Fx : HO → Prop
  | .tup _ => True
  | .frz _ _ => True
  | _ => False
def Ext (H H' : Hp) : Prop := ∀ b o, H b = some o → Fx o → H' b = some o
theorem Ext.refl (H : Hp) : Ext H H := fun _ _ h _ => h
theorem Ext.trans {H H1 H2 : Hp} (a : Ext H H1) (b : Ext H1 H2) : Ext H H2 := fun c o h f => b c o (a c o h f) f
theorem Ext.sqt {K : PySem.W.Frag} {H H' : Hp} {a : Addr} {xs : List V} (e : Ext H H') (h : SqT K H a xs) : SqT K H' a xs := by
  rcases h with (h | ⟨o, h⟩) | h
  · exact .inl (.inl (e _ _ h trivial))
  · exact .inl (.inr ⟨o, e _ _ h trivial⟩)
  · exact .inr h
mutual
theorem RF.ext {K : PySem.W.Frag} {w : World} {H H' : Hp} (e : Ext H H') : ∀ {d : PyData} {v : V}, RF K w H v d → RF K w H' v d
  | _, _, .non => .non
  | _, _, .bl b => .bl b
  | _, _, .int i => .int i
  | _, _, .str x => .str x
  | _, _, .lst h hs => .lst (e _ _ h trivial) (RFs.ext e hs)
  | _, _, .tup h hs => .tup (e.sqt h) (RFs.ext e hs)
  | _, _, .dct h a b k v r n => .dct (e _ _ h trivial) a b (RFs.ext e k) (RFs.ext e v) r n
theorem RFs.ext {K : PySem.W.Frag} {w : World} {H H' : Hp} (e : Ext H H') : ∀ {ds : List PyData} {vs : List V}, RFs K w H vs ds → RFs K w H' vs ds
  | _, _, .nil => .nil
  | _, _, .cons h hs => .cons (RF.ext e h) (RFs.ext e hs)
end
section
variable {K : PySem.W.Frag} {w : World} {H H' : Hp}
theorem RFs.len : ∀ {vs : List V} {ds : List PyData}, RFs K w H vs ds → vs.length = ds.length
  | _, _, .nil => rfl
  | _, _, .cons _ h => by simp [RFs.len h]
theorem RFs.get : ∀ {vs : List V} {ds : List PyData}, RFs K w H vs ds → ∀ {i : Nat} {d : PyData}, ds[i]? = some d → ∃ v, vs[i]? = some v ∧ RF K w H v d
  | _, _, .nil, _, _, e => by simp at e
  | _, _, .cons h hs, 0, _, e => by simp at e; subst e; exact ⟨_, rfl, h⟩
  | _, _, .cons h hs, i + 1, d, e => by simpa using RFs.get hs (i := i) (d := d) (by simpa using e)
theorem RFs.getV : ∀ {vs : List V} {ds : List PyData}, RFs K w H vs ds → ∀ {i : Nat} {v : V}, vs[i]? = some v → ∃ d, ds[i]? = some d ∧ RF K w H v d
  | _, _, .nil, _, _, e => by simp at e
  | _, _, .cons h hs, 0, _, e => by simp at e; subst e; exact ⟨_, rfl, h⟩
  | _, _, .cons h hs, i + 1, d, e => by simpa using RFs.getV hs (i := i) (v := d) (by simpa using e)
theorem RFs.app : ∀ {vs us : List V} {ds es : List PyData}, RFs K w H vs ds → RFs K w H us es → RFs K w H (vs ++ us) (ds ++ es)
  | _, _, _, _, .nil, h => h
  | _, _, _, _, .cons a b, h => .cons a (RFs.app b h)
theorem RFs.take : ∀ {vs : List V} {ds : List PyData} (n : Nat), RFs K w H vs ds → RFs K w H (vs.take n) (ds.take n)
  | _, _, 0, _ => .nil
  | _, _, _ + 1, .nil => .nil
  | _, _, n + 1, .cons a b => .cons a (RFs.take n b)
theorem RFs.drop : ∀ {vs : List V} {ds : List PyData} (n : Nat), RFs K w H vs ds → RFs K w H (vs.drop n) (ds.drop n)
  | _, _, 0, h => h
  | _, _, _ + 1, .nil => .nil
  | _, _, n + 1, .cons a b => RFs.drop n b
theorem RFs.rev {vs : List V} {ds : List PyData} (h : RFs K w H vs ds) : RFs K w H vs.reverse ds.reverse := by
  induction vs generalizing ds with
  | nil => cases h; exact .nil
  | cons v vs ih =>
    cases h with
    | cons a b => rw [List.reverse_cons, List.reverse_cons]; exact (ih b).app (.cons a .nil)
theorem RFs.set : ∀ {vs : List V} {ds : List PyData} {x : V} {d : PyData} (i : Nat), RFs K w H vs ds → RF K w H x d → RFs K w H (vs.set i x) (ds.set i d)
  | _, _, _, _, _, .nil, _ => .nil
  | _, _, _, _, 0, .cons _ b, h => .cons h b
  | _, _, _, _, i + 1, .cons a b, h => .cons a (RFs.set i b h)
theorem RFs.one {v : V} {d : PyData} (h : RF K w H v d) : RFs K w H [v] [d] := .cons h .nil
end

/-! ## what a slot holds -/
inductive DV where
  | no | fz (d : PyData) | ol (ds : List PyData) | od (kvs : Kvs) | src
abbrev DEnv := List DV
def DV.own : DV → Bool
  | .ol _ => true
  | .od _ => true
  | _ => false
/-- the data that a slot's thing shows now -/
def DV.data : DV → Option PyData
  | .fz d => some d
  | .ol ds => some (.list ds)
  | .od kvs => some (.dict kvs)
  | _ => none
/-- where the law's source of draws stands: its dict, its list -/
structure Src where
  d : Addr
  c : Addr
def NotSrc : Option Src → Addr → Prop
  | none, _ => True
  | some s, a => a ≠ s.d ∧ a ≠ s.c
def SrcOk (H : Hp) (s : Src) : Prop := s.d ≠ s.c ∧ ∃ (cs : List Int) (l m t : Int),
  H s.d = some (.dK [(.inr "cells", .ref s.c), (.inr "left", .int l), (.inr "mixed", .int m), (.inr "turn", .int t)]) ∧ H s.c = some (.lst (cs.map V.int))
def SrcAll (H : Hp) (S : Option Src) : Prop := ∀ s, S = some s → SrcOk H s
/-- the value v holds x -/
def RV (K : PySem.W.Frag) (w : World) (S : Option Src) (H0 H : Hp) (v : V) : DV → Prop
  | .no => True
  | .fz d => RF K w H v d
  | .ol ds => ∃ a, v = .ref a ∧ H0 a = none ∧ NotSrc S a ∧ LsA K w H a ds
  | .od kvs => ∃ a, v = .ref a ∧ H0 a = none ∧ NotSrc S a ∧ DcA K w H a kvs
  | .src => ∃ s, S = some s ∧ v = .ref s.d
def OwnAt (σ : Sl) (δ : DEnv) (a : Addr) : Prop := ∃ (i : Nat) (x : DV), σ[i]? = some (some (.ref a)) ∧ δ[i]? = some x ∧ x.own = true
/-- the slots' values σ over the abstract heap H hold δ; H0: the heap at the def's entry -/
structure Rep (K : PySem.W.Frag) (w : World) (S : Option Src) (H0 : Hp) (σ : Sl) (H : Hp) (δ : DEnv) : Prop where
  len : σ.length = δ.length
  slot : ∀ (i : Nat) (x : DV), δ[i]? = some x → x ≠ .no → ∃ v, σ[i]? = some (some v) ∧ RV K w S H0 H v x
  sep : ∀ (i j : Nat) (a : Addr) (x y : DV), σ[i]? = some (some (.ref a)) → σ[j]? = some (some (.ref a)) → δ[i]? = some x → δ[j]? = some y → x.own = true → y.own = true → i = j
  keep : ∀ b o, H0 b = some o → NotSrc S b → H b = some o
  src : SrcAll H S
/-- what an evaluation leaves: what isn't owned by a slot stays, slots give up at most -/
structure Stp (S : Option Src) (σ : Sl) (δ : DEnv) (H : Hp) (δ' : DEnv) (H' : Hp) : Prop where
  keep : ∀ a o, H a = some o → NotSrc S a → ¬ OwnAt σ δ a → H' a = some o
  own : ∀ a, OwnAt σ δ' a → OwnAt σ δ a
  has : ∀ (i : Nat) (x : DV), δ[i]? = some x → x ≠ .no → ∃ y, δ'[i]? = some y ∧ y ≠ .no
  trk : ∀ a, H a ≠ none → H' a ≠ none
theorem Stp.refl (S : Option Src) (σ : Sl) (δ : DEnv) (H : Hp) : Stp S σ δ H δ H := ⟨fun _ _ h _ _ => h, fun _ h => h, fun _ x h n => ⟨x, h, n⟩, fun _ h => h⟩
theorem Stp.trans {S : Option Src} {σ : Sl} {δ δ1 δ2 : DEnv} {H H1 H2 : Hp} (a : Stp S σ δ H δ1 H1) (b : Stp S σ δ1 H1 δ2 H2) : Stp S σ δ H δ2 H2 :=
  ⟨fun c o h n z => b.keep c o (a.keep c o h n z) n fun q => z (a.own c q), fun c q => a.own c (b.own c q), fun i x h n => by
    obtain ⟨y, h1, n1⟩ := a.has i x h n
    exact b.has i y h1 n1, fun c h => b.trk c (a.trk c h)⟩
section
variable {X : Cx} {K : PySem.W.Frag} {w : World} {S : Option Src} {H0 H H' : Hp} {σ : Sl} {δ δ' : DEnv}
theorem dctH_fx {a : Addr} {es : List DictEntry} : ¬ Fx (dctH a es) := fun h => h
/-- what is fixed is nobody's own -/
theorem Rep.fx (R : Rep K w S H0 σ H δ) {a : Addr} {o : HO} (h : H a = some o) (f : Fx o) : NotSrc S a ∧ ¬ OwnAt σ δ a := by
  refine ⟨?_, fun ⟨i, x, h1, h2, h3⟩ => ?_⟩
  · cases hS : S with
    | none => trivial
    | some s =>
      obtain ⟨_, cs, l, m, t, e1, e2⟩ := R.src s hS
      refine ⟨fun e => ?_, fun e => ?_⟩
      · rw [e, e1] at h; cases h; exact f
      · rw [e, e2] at h; cases h; exact f
  · obtain ⟨v, e, r⟩ := R.slot i x h2 (fun e => by rw [e] at h3; cases h3)
    rw [h1] at e
    cases e
    cases x with
    | no => cases h3
    | fz d => cases h3
    | src => cases h3
    | ol ds =>
      obtain ⟨b, e, _, _, xs, hx, _⟩ := r
      cases e
      rw [hx] at h; cases h; exact f
    | od kvs =>
      obtain ⟨b, e, _, _, es, _, _, _, _, hx, _⟩ := r
      cases e
      rw [hx] at h; cases h; exact f
theorem Stp.ext (T : Stp S σ δ H δ' H') (R : Rep K w S H0 σ H δ) : Ext H H' := fun b o h f => T.keep b o h (R.fx h f).1 (R.fx h f).2

theorem Rep.fresh (R : Rep K w S H0 σ H δ) {a : Addr} (h : H a = none) : H0 a = none ∧ NotSrc S a ∧ ¬ OwnAt σ δ a := by
  have ns : NotSrc S a := by
    cases hS : S with
    | none => trivial
    | some s =>
      obtain ⟨_, cs, l, m, t, e1, e2⟩ := R.src s hS
      exact ⟨fun e => (by rw [e, e1] at h; cases h), fun e => (by rw [e, e2] at h; cases h)⟩
  refine ⟨?_, ns, fun ⟨i, x, h1, h2, h3⟩ => ?_⟩
  · cases q : H0 a with
    | none => rfl
    | some o => rw [R.keep a o q ns] at h; cases h
  · obtain ⟨v, e, r⟩ := R.slot i x h2 (fun e => by rw [e] at h3; cases h3)
    rw [h1] at e
    cases e
    cases x with
    | no => cases h3
    | fz d => cases h3
    | src => cases h3
    | ol ds =>
      obtain ⟨b, e, _, _, xs, hx, _⟩ := r
      cases e
      rw [hx] at h; cases h
    | od kvs =>
      obtain ⟨b, e, _, _, es, _, _, _, _, hx, _⟩ := r
      cases e
      rw [hx] at h; cases h
/-- all that is tracked stays as it is: the slots' things too -/
theorem LsA.same {K : PySem.W.Frag} {w : World} {a : Addr} {ds : List PyData} (e : Same H H') (h : LsA K w H a ds) : LsA K w H' a ds := by
  obtain ⟨xs, hx, r⟩ := h
  exact ⟨xs, e _ _ hx, r.ext fun b o q _ => e b o q⟩
theorem DcA.same {K : PySem.W.Frag} {w : World} {a : Addr} {kvs : Kvs} (e : Same H H') (h : DcA K w H a kvs) : DcA K w H' a kvs := by
  obtain ⟨es, ks, vs, kds, vds, hx, a1, a2, r1, r2, a3, a4, a5⟩ := h
  exact ⟨es, ks, vs, kds, vds, e _ _ hx, a1, a2, r1.ext fun b o q _ => e b o q, r2.ext fun b o q _ => e b o q, a3, a4, a5⟩
/-- an own thing at a, where a and what is fixed stays -/
theorem LsA.at {K : PySem.W.Frag} {w : World} {a : Addr} {ds : List PyData} (e : Ext H H') (k : ∀ o, H a = some o → H' a = some o) (h : LsA K w H a ds) : LsA K w H' a ds := by
  obtain ⟨xs, hx, r⟩ := h
  exact ⟨xs, k _ hx, r.ext e⟩
theorem DcA.at {K : PySem.W.Frag} {w : World} {a : Addr} {kvs : Kvs} (e : Ext H H') (k : ∀ o, H a = some o → H' a = some o) (h : DcA K w H a kvs) : DcA K w H' a kvs := by
  obtain ⟨es, ks, vs, kds, vds, hx, a1, a2, r1, r2, a3, a4, a5⟩ := h
  exact ⟨es, ks, vs, kds, vds, k _ hx, a1, a2, r1.ext e, r2.ext e, a3, a4, a5⟩
theorem RV.at {v : V} {x : DV} (e : Ext H H') (k : ∀ a, v = .ref a → x.own = true → ∀ o, H a = some o → H' a = some o) (h : RV K w S H0 H v x) : RV K w S H0 H' v x := by
  cases x with
  | no => trivial
  | fz d => exact RF.ext e h
  | src => exact h
  | ol ds => obtain ⟨a, e1, e2, e3, l⟩ := h; exact ⟨a, e1, e2, e3, l.at e (k a e1 rfl)⟩
  | od ds => obtain ⟨a, e1, e2, e3, l⟩ := h; exact ⟨a, e1, e2, e3, l.at e (k a e1 rfl)⟩
theorem SrcOk.at {s : Src} (h : SrcOk H s) (e1 : H' s.d = H s.d) (e2 : H' s.c = H s.c) : SrcOk H' s := by
  obtain ⟨n, cs, l, m, t, a, b⟩ := h
  exact ⟨n, cs, l, m, t, by rw [e1]; exact a, by rw [e2]; exact b⟩
theorem SrcOk.same {s : Src} (h : SrcOk H s) (e : Same H H') : SrcOk H' s := by
  obtain ⟨n, cs, l, m, t, a, b⟩ := h
  exact ⟨n, cs, l, m, t, e _ _ a, e _ _ b⟩
theorem Same.ext (e : Same H H') : Ext H H' := fun b o h _ => e b o h
theorem Rep.same (R : Rep K w S H0 σ H δ) (e : Same H H') : Rep K w S H0 σ H' δ where
  len := R.len
  slot := fun i x h n => by
    obtain ⟨v, e1, r⟩ := R.slot i x h n
    exact ⟨v, e1, r.at (Same.ext e) fun a _ _ o q => e a o q⟩
  sep := R.sep
  keep := fun b o h n => e b o (R.keep b o h n)
  src := fun s h => (R.src s h).same e
theorem Stp.same (e : Same H H') : Stp S σ δ H δ H' := ⟨fun a o h _ _ => e a o h, fun _ h => h, fun _ x h n => ⟨x, h, n⟩, fun a h z => by
  cases q : H a with
  | none => exact h q
  | some o => rw [e a o q] at z; cases z⟩
theorem same_upd {a : Addr} {o : HO} (h : H a = none) : Same H (upd H a o) := fun b u e => by rw [upd_ne (ne_of_none e h)]; exact e

/-! ## the result of an evaluation -/
inductive Rs where
  | slot (i : Nat)
  | val (x : DV)
def Rs.rd (δ : DEnv) : Rs → Option PyData
  | .slot i => (δ[i]?).bind DV.data
  | .val x => x.data
def RR (K : PySem.W.Frag) (w : World) (S : Option Src) (H0 : Hp) (σ : Sl) (H : Hp) (δ : DEnv) (v : V) : Rs → Prop
  | .slot i => σ[i]? = some (some v) ∧ ∃ x, δ[i]? = some x ∧ x ≠ .no
  | .val x => x ≠ .no ∧ RV K w S H0 H v x ∧ (x.own = true → ∀ a, v = .ref a → ¬ OwnAt σ δ a)
def Rs.Fresh (H : Hp) (v : V) : Rs → Prop
  | .slot _ => True
  | .val x => x.own = true → ∀ a, v = .ref a → H a = none
/-- a reading as it is just now -/
def RP (K : PySem.W.Frag) (w : World) (H : Hp) (v : V) (d : PyData) : Prop :=
  RF K w H v d ∨ (∃ a ds, v = .ref a ∧ d = .list ds ∧ LsA K w H a ds) ∨ (∃ a kvs, v = .ref a ∧ d = .dict kvs ∧ DcA K w H a kvs)
theorem RV.peek {v : V} {x : DV} {d : PyData} (h : RV K w S H0 H v x) (e : x.data = some d) : RP K w H v d := by
  cases x with
  | no => cases e
  | src => cases e
  | fz d' => cases e; exact .inl h
  | ol ds => cases e; obtain ⟨a, e1, _, _, l⟩ := h; exact .inr (.inl ⟨a, ds, e1, rfl, l⟩)
  | od ds => cases e; obtain ⟨a, e1, _, _, l⟩ := h; exact .inr (.inr ⟨a, ds, e1, rfl, l⟩)
theorem RR.peek {v : V} {r : Rs} {d : PyData} (R : Rep K w S H0 σ H δ) (h : RR K w S H0 σ H δ v r) (e : r.rd δ = some d) : RP K w H v d := by
  cases r with
  | val x => exact h.2.1.peek e
  | slot i =>
    obtain ⟨e1, x, e2, n⟩ := h
    obtain ⟨u, e3, q⟩ := R.slot i x e2 n
    rw [e1] at e3
    cases e3
    have e : (δ[i]?).bind DV.data = some d := e
    rw [e2] at e
    exact q.peek e
theorem RR.stp {v : V} {r : Rs} (R : Rep K w S H0 σ H δ) (T : Stp S σ δ H δ' H') (h : RR K w S H0 σ H δ v r) : RR K w S H0 σ H' δ' v r := by
  cases r with
  | slot i =>
    obtain ⟨e1, x, e2, n⟩ := h
    exact ⟨e1, T.has i x e2 n⟩
  | val x =>
    obtain ⟨n, q, f⟩ := h
    refine ⟨n, q.at (T.ext R) fun a ea ow o ho => T.keep a o ho ?_ (f ow a ea), fun ow a ea z => f ow a ea (T.own a z)⟩
    cases x with
    | no => cases ow
    | src => cases ow
    | fz d => cases ow
    | ol ds => obtain ⟨b, e1, _, e3, _⟩ := q; rw [ea] at e1; cases e1; exact e3
    | od ds => obtain ⟨b, e1, _, e3, _⟩ := q; rw [ea] at e1; cases e1; exact e3

abbrev DT := DEnv → (Rs → DEnv → Prop) → Prop
/-- an evaluation told on data, as HandS tells one -/
def lE (K : PySem.W.Frag) (w : World) (t : DT) : TE := fun σ H Q => ∃ S H0 δ P, Rep K w S H0 σ H δ ∧ t δ P ∧
  ∀ v H' r δ', P r δ' → Rep K w S H0 σ H' δ' → RR K w S H0 σ H' δ' v r → r.Fresh H v → Stp S σ δ H δ' H' → Q v H'
abbrev DE (X : Cx) (e : Expr) (t : DT) : Prop := PE X e (lE X.K X.w t)
/-- .. to a value of its own: owned and new, frozen, or the source -/
abbrev DTx := DEnv → (DV → DEnv → Prop) → Prop
def lX (K : PySem.W.Frag) (w : World) (t : DTx) : TE := fun σ H Q => ∃ S H0 δ P, Rep K w S H0 σ H δ ∧ t δ P ∧
  ∀ v H' x δ', P x δ' → Rep K w S H0 σ H' δ' → RR K w S H0 σ H' δ' v (.val x) → (Rs.val x).Fresh H v → Stp S σ δ H δ' H' → Q v H'
abbrev DX (X : Cx) (e : Expr) (t : DTx) : Prop := PE X e (lX X.K X.w t)
/-- .. to a value that stays for good: frozen, or the source -/
def lG (K : PySem.W.Frag) (w : World) (t : DTx) : TE := fun σ H Q => ∃ S H0 δ P, Rep K w S H0 σ H δ ∧ t δ P ∧
  ∀ v H' x δ', P x δ' → Rep K w S H0 σ H' δ' → x ≠ .no → x.own = false → RV K w S H0 H' v x → Stp S σ δ H δ' H' → Q v H'
abbrev DG (X : Cx) (e : Expr) (t : DTx) : Prop := PE X e (lG X.K X.w t)
theorem PE.mono {e : Expr} {t u : TE} (h : PE X e t) (m : ∀ σ H Q, u σ H Q → t σ H Q) : PE X e u := ⟨fun pins s σ H Q I q => h.run pins s σ H Q I (m σ H Q q)⟩

/-! ## freezing -/
/-- some things are frozen, where nobody sees it -/
inductive Gh (R : Hp → Prop) : Hp → Prop
  | done {H : Hp} : R H → Gh R H
  | lock {H : Hp} {a : Addr} {u : HO} : H a = some u → Mut (some u) → (∀ o, Gh R (upd H a (.frz o u))) → Gh R H
theorem gh_inv {pins : List (Addr × Obj)} {s : Shared} {R : Hp → Prop} (g : Gh R H) : Inv X pins σ H s → ∃ H', Inv X pins σ H' s ∧ R H' := by
  induction g with
  | done q => exact fun I => ⟨_, I, q⟩
  | lock e m _ ih =>
    intro I
    obtain ⟨o, J⟩ := I.lock e m
    exact ih o J
theorem pe_gh {e : Expr} {t : TE} (h : PE X e t) : PE X e (fun σ H Q => t σ H fun v H' => Gh (Q v) H') := ⟨fun pins s σ H Q I q => by
  refine thn (h.run pins s σ H _ I q) fun u s1 ⟨v, H', J, r, g⟩ => ?_
  obtain ⟨H2, J2, q2⟩ := gh_inv g J
  exact ⟨v, H2, J2, r, q2⟩⟩
theorem ps_gh {st : Stmt} {t : TS} (h : PS X st t) : PS X st (fun D σ H => Gh (fun H' => t D σ H') H) := ⟨fun pins s σ H D I q => by
  obtain ⟨H2, J2, q2⟩ := gh_inv q I
  exact h.run pins s σ H2 D J2 q2⟩
def DV.frz : DV → DV
  | .ol ds => .fz (.list ds)
  | .od kvs => .fz (.dict kvs)
  | x => x
theorem DV.frz_own (x : DV) : x.frz.own = false := by cases x <;> rfl
theorem DV.frz_ne {x : DV} (h : x ≠ .no) : x.frz ≠ .no := by cases x <;> first | (exact absurd rfl h) | (intro z; cases z)
def Rs.fz (δ : DEnv) : Rs → DEnv
  | .slot i => match δ[i]? with
    | some x => δ.set i x.frz
    | none => δ
  | .val _ => δ
def Rs.dv (δ : DEnv) : Rs → DV
  | .slot i => (δ[i]?.getD .no).frz
  | .val x => x.frz
theorem frz_rf {a : Addr} {x : DV} {o : Obj} {u : HO} (h : RV K w S H0 H (.ref a) x) (ow : x.own = true) (hu : H a = some u) (e : ∀ b p, H b = some p → Fx p → (upd H a (.frz o u)) b = some p) : RV K w S H0 (upd H a (.frz o u)) (.ref a) x.frz := by
  cases x with
  | no => cases ow
  | src => cases ow
  | fz d => cases ow
  | ol ds =>
    obtain ⟨b, e1, _, _, xs, hx, r⟩ := h
    cases e1
    rw [hx] at hu; cases hu
    exact RF.lst upd_same (r.ext e)
  | od kvs =>
    obtain ⟨b, e1, _, _, es, ks, vs, kds, vds, hx, a1, a2, r1, r2, a3, a4, rfl⟩ := h
    cases e1
    rw [hx] at hu; cases hu
    exact RF.dct upd_same a1 a2 (r1.ext e) (r2.ext e) a3 a4
theorem own_at {a : Addr} {x : DV} (h : RV K w S H0 H (.ref a) x) (ow : x.own = true) : ∃ u, H a = some u ∧ Mut (some u) ∧ ¬ Fx u ∧ H0 a = none ∧ NotSrc S a := by
  cases x with
  | no => cases ow
  | src => cases ow
  | fz d => cases ow
  | ol ds => obtain ⟨b, e1, h0, ns, xs, hx, r⟩ := h; cases e1; exact ⟨_, hx, trivial, fun z => z, h0, ns⟩
  | od kvs => obtain ⟨b, e1, h0, ns, es, ks, vs, kds, vds, hx, _⟩ := h; cases e1; exact ⟨_, hx, trivial, fun z => z, h0, ns⟩
theorem own_ref {v : V} {x : DV} (h : RV K w S H0 H v x) (ow : x.own = true) : ∃ a, v = .ref a := by
  cases x with
  | no => cases ow
  | src => cases ow
  | fz d => cases ow
  | ol ds => obtain ⟨b, e1, _⟩ := h; exact ⟨b, e1⟩
  | od ds => obtain ⟨b, e1, _⟩ := h; exact ⟨b, e1⟩
end
end DL
set_option maxHeartbeats 1000000
namespace DL
open PySem PySem.Spec PyProof.Rows L2
section
variable {X : Cx} {K : PySem.W.Frag} {w : World} {S : Option Src} {H0 H H' : Hp} {σ : Sl} {δ δ' : DEnv}
theorem ext_upd {a : Addr} {u o : HO} (hu : H a = some u) (nf : ¬ Fx u) : Ext H (upd H a o) := fun b p e f => by
  rw [upd_ne (fun z => by rw [z, hu] at e; cases e; exact nf f)]; exact e
/-- an object that no slot owns is changed -/
theorem Rep.put (R : Rep K w S H0 σ H δ) {a : Addr} {u o : HO} (hu : H a = some u) (nf : ¬ Fx u) (h0 : H0 a = none) (ns : NotSrc S a) (no : ¬ OwnAt σ δ a) : Rep K w S H0 σ (upd H a o) δ where
  len := R.len
  slot := fun i x h n => by
    obtain ⟨v, e1, r⟩ := R.slot i x h n
    refine ⟨v, e1, r.at (ext_upd hu nf) fun b eb ow p q => ?_⟩
    rw [upd_ne (fun z => no ⟨i, x, by rw [e1, eb, z], h, ow⟩)]; exact q
  sep := R.sep
  keep := fun b p h n => by
    rw [upd_ne (fun z => by rw [z, h0] at h; cases h)]
    exact R.keep b p h n
  src := fun s h => (R.src s h).at (upd_ne (fun z => by subst h; exact ns.1 z.symm)) (upd_ne (fun z => by subst h; exact ns.2 z.symm))
theorem get_set_some {α : Type} {l : List α} {i : Nat} {x y : α} (h : l[i]? = some x) : (l.set i y)[i]? = some y := List.getElem?_set_self (List.getElem?_eq_some_iff.mp h).1
/-- a slot's own thing is changed: by one that the slot holds then -/
theorem Rep.putSlot (R : Rep K w S H0 σ H δ) {i : Nat} {a : Addr} {x y : DV} {u o : HO} (hs : σ[i]? = some (some (.ref a))) (hx : δ[i]? = some x) (ow : x.own = true) (hu : H a = some u) (hy : RV K w S H0 (upd H a o) (.ref a) y) : Rep K w S H0 σ (upd H a o) (δ.set i y) := by
  obtain ⟨v, e, r⟩ := R.slot i x hx (fun e => by rw [e] at ow; cases ow)
  rw [hs] at e
  cases e
  obtain ⟨u', hu', mu, nf, h0, ns⟩ := own_at r ow
  rw [hu] at hu'
  cases hu'
  have hx2 : ∀ (j : Nat) (z : DV), (δ.set i y)[j]? = some z → (j = i ∧ z = y) ∨ (j ≠ i ∧ δ[j]? = some z) := fun j z h => by
    by_cases hj : j = i
    · rw [hj, get_set_some hx] at h; cases h; exact .inl ⟨hj, rfl⟩
    · rw [List.getElem?_set_ne (Ne.symm hj)] at h; exact .inr ⟨hj, h⟩
  refine ⟨by rw [List.length_set]; exact R.len, fun j z h n => ?_, fun j k b z t h1 h2 h3 h4 o1 o2 => ?_, fun b p h n => ?_, fun s h => ?_⟩
  · rcases hx2 j z h with ⟨rfl, rfl⟩ | ⟨hj, h⟩
    · exact ⟨_, hs, hy⟩
    · obtain ⟨w, e1, r1⟩ := R.slot j z h n
      refine ⟨w, e1, r1.at (ext_upd hu nf) fun b eb ow' p q => ?_⟩
      rw [upd_ne (fun z' => ?_)]; exact q
      rw [z'] at eb
      rw [eb] at e1
      exact hj (R.sep j i a z x e1 hs h hx ow' ow)
  · rcases hx2 j z h3 with ⟨e1, e2⟩ | ⟨hj, g3⟩ <;> rcases hx2 k t h4 with ⟨e3, e4⟩ | ⟨hk, g4⟩
    · rw [e1, e3]
    · rw [e1, hs] at h1; cases h1
      rw [e1]
      exact R.sep i k _ x t hs h2 hx g4 ow o2
    · rw [e3, hs] at h2; cases h2
      rw [e3]
      exact R.sep j i _ z x h1 hs g3 hx o1 ow
    · exact R.sep j k b z t h1 h2 g3 g4 o1 o2
  · rw [upd_ne (fun z => by rw [z, h0] at h; cases h)]
    exact R.keep b p h n
  · exact (R.src s h).at (upd_ne (fun z => by subst h; exact ns.1 z.symm)) (upd_ne (fun z => by subst h; exact ns.2 z.symm))
theorem ownAt_set {i : Nat} {y : DV} {a : Addr} (h : OwnAt σ (δ.set i y) a) (hy : y.own = true → ∃ x, δ[i]? = some x ∧ x.own = true) : OwnAt σ δ a := by
  obtain ⟨j, z, h1, h2, h3⟩ := h
  by_cases hj : j = i
  · subst hj
    by_cases hl : j < δ.length
    · rw [List.getElem?_set_self hl] at h2
      cases h2
      obtain ⟨x, e1, e2⟩ := hy h3
      exact ⟨j, x, h1, e1, e2⟩
    · rw [List.getElem?_eq_none (by rw [List.length_set]; omega)] at h2; cases h2
  · rw [List.getElem?_set_ne (Ne.symm hj)] at h2
    exact ⟨j, z, h1, h2, h3⟩
/-- .. and what that leaves -/
theorem Stp.putSlot {i : Nat} {a : Addr} {x y : DV} {o : HO} (hs : σ[i]? = some (some (.ref a))) (hx : δ[i]? = some x) (ow : x.own = true) (hy : y ≠ .no) : Stp S σ δ H (δ.set i y) (upd H a o) where
  keep := fun b p h _ n => by rw [upd_ne (fun z => n (by rw [z]; exact ⟨i, x, hs, hx, ow⟩))]; exact h
  own := fun b h => ownAt_set h fun _ => ⟨x, hx, ow⟩
  has := fun j z h n => by
    by_cases hj : j = i
    · subst hj; exact ⟨y, get_set_some hx, hy⟩
    · exact ⟨z, by rw [List.getElem?_set_ne (Ne.symm hj)]; exact h, n⟩
  trk := fun b h => by
    by_cases hb : b = a
    · rw [hb, upd_same]; exact fun z => by cases z
    · rw [upd_ne hb]; exact h
theorem Stp.putNew (T : Stp S σ δ H δ' H') {a : Addr} {o : HO} (h : H a = none) : Stp S σ δ H δ' (upd H' a o) where
  keep := fun b p q n z => by rw [upd_ne (ne_of_none q h)]; exact T.keep b p q n z
  own := T.own
  has := T.has
  trk := fun b q => by rw [upd_ne (fun z => q (by rw [z]; exact h))]; exact T.trk b q
@[simp] def gT (t : DT) : DTx := fun δ P => t δ fun r δ1 => P (r.dv δ1) (r.fz δ1)
theorem frz_id {x : DV} (h : x.own = false) : x.frz = x := by cases x <;> first | rfl | cases h
theorem set_id {α : Type} {l : List α} {i : Nat} {x : α} (h : l[i]? = some x) : l.set i x = l := by
  apply List.ext_getElem?
  intro j
  by_cases hj : i = j
  · subst hj; rw [get_set_some h, h]
  · rw [List.getElem?_set_ne hj]
theorem fz_slot {i : Nat} {x : DV} (h : δ[i]? = some x) : (Rs.slot i).fz δ = δ.set i x.frz := by
  show (match δ[i]? with | some x => δ.set i x.frz | none => δ) = _
  rw [h]
theorem dv_slot {i : Nat} {x : DV} (h : δ[i]? = some x) : (Rs.slot i).dv δ = x.frz := by
  show ((δ[i]?).getD .no).frz = _
  rw [h]; rfl
theorem DE.g {e : Expr} {t : DT} (h : DE X e t) : DG X e (gT t) := by
  refine PE.mono (pe_gh h) fun σ H Q ⟨S, H0, δ, P, R, ht, k⟩ => ⟨S, H0, δ, fun r δ1 => P (r.dv δ1) (r.fz δ1), R, ht, fun v H1 r δ1 p R1 rr fr T => ?_⟩
  cases r with
  | val x =>
    obtain ⟨n, rv, nown⟩ := rr
    cases ow : x.own with
    | false =>
      have p : P x.frz δ1 := p
      rw [frz_id ow] at p
      exact .done (k v H1 x δ1 p R1 n ow rv T)
    | true =>
      obtain ⟨a, rfl⟩ := own_ref rv ow
      obtain ⟨u, hu, mu, nf, h0, ns⟩ := own_at rv ow
      have na := nown ow a rfl
      refine .lock hu mu fun o => .done (k _ _ _ _ p (R1.put hu nf h0 ns na) (DV.frz_ne n) (DV.frz_own x) (frz_rf rv ow hu (ext_upd hu nf)) (T.putNew (fr ow a rfl)))
  | slot i =>
    obtain ⟨e1, x, e2, n⟩ := rr
    obtain ⟨w, e3, rv⟩ := R1.slot i x e2 n
    rw [e1] at e3
    cases e3
    have p : P ((Rs.slot i).dv δ1) ((Rs.slot i).fz δ1) := p
    rw [fz_slot e2, dv_slot e2] at p
    cases ow : x.own with
    | false =>
      rw [frz_id ow, set_id e2] at p
      exact .done (k v H1 x δ1 p R1 n ow rv T)
    | true =>
      obtain ⟨a, rfl⟩ := own_ref rv ow
      obtain ⟨u, hu, mu, nf, h0, ns⟩ := own_at rv ow
      refine .lock hu mu fun o => .done (k _ _ _ _ p (R1.putSlot e1 e2 ow hu (frz_rf rv ow hu (ext_upd hu nf))) (DV.frz_ne n) (DV.frz_own x) (frz_rf rv ow hu (ext_upd hu nf)) (T.trans (Stp.putSlot e1 e2 ow (DV.frz_ne n))))
def Rs.tk (δ : DEnv) : Rs → DV
  | .slot i => (δ[i]?.getD .no).frz
  | .val x => x
@[simp] def xT (t : DT) : DTx := fun δ P => t δ fun r δ1 => P (r.tk δ1) (r.fz δ1)
theorem not_own {v : V} {x : DV} (h : x.own = false) : x.own = true → ∀ a, v = .ref a → ¬ OwnAt σ δ a := fun h' => by rw [h] at h'; cases h'
theorem not_fresh {v : V} {x : DV} (h : x.own = false) : (Rs.val x).Fresh H v := fun h' => by rw [h] at h'; cases h'
theorem DE.x {e : Expr} {t : DT} (h : DE X e t) : DX X e (xT t) := by
  refine PE.mono (pe_gh h) fun σ H Q ⟨S, H0, δ, P, R, ht, k⟩ => ⟨S, H0, δ, fun r δ1 => P (r.tk δ1) (r.fz δ1), R, ht, fun v H1 r δ1 p R1 rr fr T => ?_⟩
  cases r with
  | val x => exact .done (k v H1 x δ1 p R1 rr fr T)
  | slot i =>
    obtain ⟨e1, x, e2, n⟩ := rr
    obtain ⟨w, e3, rv⟩ := R1.slot i x e2 n
    rw [e1] at e3
    cases e3
    have p : P ((Rs.slot i).dv δ1) ((Rs.slot i).fz δ1) := p
    rw [fz_slot e2, dv_slot e2] at p
    cases ow : x.own with
    | false =>
      rw [frz_id ow, set_id e2] at p
      exact .done (k v H1 x δ1 p R1 ⟨n, rv, not_own ow⟩ (not_fresh ow) T)
    | true =>
      obtain ⟨a, rfl⟩ := own_ref rv ow
      obtain ⟨u, hu, mu, nf, h0, ns⟩ := own_at rv ow
      refine .lock hu mu fun o => .done (k _ _ _ _ p (R1.putSlot e1 e2 ow hu (frz_rf rv ow hu (ext_upd hu nf))) ⟨DV.frz_ne n, frz_rf rv ow hu (ext_upd hu nf), not_own (DV.frz_own x)⟩ (not_fresh (DV.frz_own x)) (T.trans (Stp.putSlot e1 e2 ow (DV.frz_ne n))))

/-! ## names, constants -/
@[simp] def tV (i : Nat) : DT := fun δ P => (∃ x, δ[i]? = some x ∧ x ≠ .no) ∧ P (.slot i) δ
theorem de_var (i : Nat) {x : Str} {pos : Pos} (hN : X.N[i]? = some x := by rfl) (hv : Vis X.env.scope x := by first | exact Or.inl rfl | exact Or.inr (Or.inl rfl) | exact Or.inr (Or.inr rfl))
    (hd : (x == ("__debug__" : Str)) = false := by decide) (hc : (x == ("__classdict__" : Str)) = false := by decide) : DE X (.Name x pos) (tV i) :=
  PE.mono (pe_var hN hv hd hc) fun σ H Q ⟨S, H0, δ, P, R, ⟨⟨x, e, n⟩, p⟩, k⟩ => by
    obtain ⟨v, e1, rv⟩ := R.slot i x e n
    exact ⟨v, e1, k v H _ _ p R ⟨e1, x, e, n⟩ trivial (Stp.refl _ _ _ _)⟩
@[simp] def tK (d : PyData) : DT := fun δ P => P (.val (.fz d)) δ
theorem de_const {e : Expr} {c : V} {d : PyData} (h : PE X e (tC c)) (r : ∀ H, RF X.K X.w H c d) : DE X e (tK d) :=
  PE.mono h fun σ H Q ⟨S, H0, δ, P, R, p, k⟩ => k c H _ _ p R ⟨(fun z => by cases z), r H, not_own rfl⟩ (not_fresh rfl) (Stp.refl _ _ _ _)
theorem de_int {i : Int} {j : Nat} {pos : Pos} : DE X (.Constant (.int i) j pos) (tK (.int i)) := de_const pe_int fun _ => .int i
theorem de_bl {b : Bool} {j : Nat} {pos : Pos} : DE X (.Constant (.bool b) j pos) (tK (.bool b)) := de_const pe_bl fun _ => .bl b
theorem de_non {j : Nat} {pos : Pos} : DE X (.Constant .none j pos) (tK .none) := de_const pe_non fun _ => .non
theorem de_str {x : Str} {j : Nat} {pos : Pos} : DE X (.Constant (.str x) j pos) (tK (.str x)) := de_const pe_str fun _ => .str x

/-! ## operations on values -/
/-- a new value, all that was tracked as it was -/
def Rn (K : PySem.W.Frag) (w : World) (H H' : Hp) (v : V) : DV → Prop
  | .fz d => RF K w H' v d
  | .ol ds => ∃ a, v = .ref a ∧ H a = none ∧ LsA K w H' a ds
  | .od kvs => ∃ a, v = .ref a ∧ H a = none ∧ DcA K w H' a kvs
  | _ => False
theorem Rn.ne {v : V} {x : DV} (h : Rn K w H H' v x) : x ≠ .no := fun e => by rw [e] at h; exact h
theorem Rn.out (R : Rep K w S H0 σ H δ) (e : Same H H') {v : V} {x : DV} (h : Rn K w H H' v x) : RR K w S H0 σ H' δ v (.val x) ∧ (Rs.val x).Fresh H v := by
  cases x with
  | no => exact h.elim
  | src => exact h.elim
  | fz d => exact ⟨⟨h.ne, h, not_own rfl⟩, not_fresh rfl⟩
  | ol ds =>
    obtain ⟨a, rfl, hn, l⟩ := id h
    obtain ⟨f1, f2, f3⟩ := R.fresh hn
    exact ⟨⟨h.ne, ⟨a, rfl, f1, f2, l⟩, fun _ b eb => by cases eb; exact f3⟩, fun _ b eb => by cases eb; exact hn⟩
  | od kvs =>
    obtain ⟨a, rfl, hn, l⟩ := id h
    obtain ⟨f1, f2, f3⟩ := R.fresh hn
    exact ⟨⟨h.ne, ⟨a, rfl, f1, f2, l⟩, fun _ b eb => by cases eb; exact f3⟩, fun _ b eb => by cases eb; exact hn⟩
abbrev D1 := PyData → (DV → Prop) → Prop
abbrev D2 := PyData → PyData → (DV → Prop) → Prop
inductive RPs (K : PySem.W.Frag) (w : World) (H : Hp) : List V → List PyData → Prop
  | nil : RPs K w H [] []
  | cons {v : V} {vs : List V} {d : PyData} {ds : List PyData} : RP K w H v d → RPs K w H vs ds → RPs K w H (v :: vs) (d :: ds)
abbrev DL' := List PyData → (DV → Prop) → Prop
@[simp] def t2 (r : D2) (ta tb : DT) : DT := fun δ P => ta δ fun r1 δ1 => tb δ1 fun r2 δ2 => ∃ x y, r1.rd δ2 = some x ∧ r2.rd δ2 = some y ∧ r x y fun z => P (.val z) δ2
@[simp] def t1 (r : D1) (ta : DT) : DT := fun δ P => ta δ fun r1 δ1 => ∃ x, r1.rd δ1 = some x ∧ r x fun z => P (.val z) δ1
/-- what stands behind a step and an operation -/
theorem after {P : Rs → DEnv → Prop} {Q : VK} (R : Rep K w S H0 σ H δ) {H1 : Hp} {δ1 : DEnv} (R1 : Rep K w S H0 σ H1 δ1) (T : Stp S σ δ H δ1 H1)
    (k : ∀ v H' r δ', P r δ' → Rep K w S H0 σ H' δ' → RR K w S H0 σ H' δ' v r → r.Fresh H v → Stp S σ δ H δ' H' → Q v H') :
    ∀ z a H', P (.val z) δ1 → Same H1 H' → Rn K w H1 H' a z → Q a H' := fun z a H' p e rn => by
  obtain ⟨q1, q2⟩ := rn.out R1 e
  refine k a H' _ δ1 p (R1.same e) q1 (fun ow b eb => ?_) (T.trans (Stp.same e))
  have hb := q2 ow b eb
  cases q : H b with
  | none => rfl
  | some o => exact absurd hb (T.trk b (by rw [q]; exact fun z => by cases z))
end
end DL
set_option maxHeartbeats 1000000
namespace DL
open PySem PySem.Spec PyProof.Rows L2
section
variable {X : Cx} {K : PySem.W.Frag} {w : World} {S : Option Src} {H0 H H' : Hp} {σ : Sl} {δ δ' : DEnv}
/-! ## operations on values, over HandS's -/
/-- what is wanted behind a new value -/
abbrev Wn (K : PySem.W.Frag) (w : World) (H : Hp) (P : DV → Prop) (Q : VK) : Prop := ∀ z a H', P z → Same H H' → Rn K w H H' a z → Q a H'
def RO1 (K : PySem.W.Frag) (w : World) (r : D1) : V → Hp → VK → Prop := fun x H Q => ∃ d P, RP K w H x d ∧ r d P ∧ Wn K w H P Q
def RO2 (K : PySem.W.Frag) (w : World) (r : D2) : R2 := fun x y H Q => ∃ d e P, RP K w H x d ∧ RP K w H y e ∧ r d e P ∧ Wn K w H P Q
def ROL (K : PySem.W.Frag) (w : World) (r : DL') : List V → Hp → VK → Prop := fun xs H Q => ∃ ds P, RPs K w H xs ds ∧ r ds P ∧ Wn K w H P Q
theorem one_lE {r : D1} {ta : DT} {Q : VK} (h : lE X.K X.w (t1 r ta) σ H Q) : lE X.K X.w ta σ H fun x H1 => RO1 X.K X.w r x H1 Q := by
  obtain ⟨S, H0, δ, P, R, ht, k⟩ := h
  exact ⟨S, H0, δ, _, R, ht, fun v H1 r1 δ1 ⟨x, ex, q⟩ R1 rr1 f1 T1 => ⟨x, fun z => P (.val z) δ1, rr1.peek R1 ex, q, after R R1 T1 k⟩⟩
theorem two_lE {r : D2} {ta tb : DT} {Q : VK} (h : lE X.K X.w (t2 r ta tb) σ H Q) : lE X.K X.w ta σ H fun x H1 => lE X.K X.w tb σ H1 fun y H2 => RO2 X.K X.w r x y H2 Q := by
  obtain ⟨S, H0, δ, P, R, ht, k⟩ := h
  exact ⟨S, H0, δ, _, R, ht, fun v H1 r1 δ1 p R1 rr1 f1 T1 => ⟨S, H0, δ1, _, R1, p, fun u H2 r2 δ2 ⟨x, y, ex, ey, q⟩ R2 rr2 f2 T2 =>
    ⟨x, y, fun z => P (.val z) δ2, (rr1.stp R1 T2).peek R2 ex, rr2.peek R2 ey, q, after R R2 (T1.trans T2) k⟩⟩⟩
variable {a b c e : Expr} {es : List Expr} {ta tb tc : DT} {pos : Pos}
theorem de_bin {op : Operator} {r : D2} (ho : OpR X (binaryOp op) (RO2 X.K X.w r)) (ha : DE X a ta) (hb : DE X b tb) : DE X (.BinOp a op b pos) (t2 r ta tb) :=
  PE.mono (pe_op ho ha hb) fun _ _ _ h => two_lE h
theorem de_un {op : UnaryOp} {r : D1} (ho : UnR X (unaryOp op) (RO1 X.K X.w r)) (ha : DE X a ta) : DE X (.UnaryOp op a pos) (t1 r ta) :=
  PE.mono (pe_un ho ha) fun _ _ _ h => one_lE h
theorem de_cmp {op : CmpOp} {r : D2} (ho : OpR X (compareOp op) (RO2 X.K X.w r)) (ha : DE X a ta) (hb : DE X b tb) (hm : behindInMarks op b = false) : DE X (.Compare a [op] [b] pos) (t2 r ta tb) :=
  PE.mono (pe_cmpR ho ha hb hm) fun _ _ _ h => two_lE h
theorem de_ix {r : D2} (ho : IxR X (RO2 X.K X.w r)) (ha : DE X a ta) (hb : DE X b tb) (hs : PlainIx b) : DE X (.Subscript a b pos) (t2 r ta tb) :=
  PE.mono (pe_ix ho ha hb hs) fun _ _ _ h => two_lE h

/-! ## lists of arguments -/
abbrev DAt := DEnv → (List Rs → DEnv → Prop) → Prop
inductive RRs (K : PySem.W.Frag) (w : World) (S : Option Src) (H0 : Hp) (σ : Sl) (H : Hp) (δ : DEnv) : List V → List Rs → Prop
  | nil : RRs K w S H0 σ H δ [] []
  | cons {v : V} {vs : List V} {r : Rs} {rs : List Rs} : RR K w S H0 σ H δ v r → RRs K w S H0 σ H δ vs rs → RRs K w S H0 σ H δ (v :: vs) (r :: rs)
def lA (K : PySem.W.Frag) (w : World) (t : DAt) : TA := fun σ H Q => ∃ S H0 δ P, Rep K w S H0 σ H δ ∧ t δ P ∧
  ∀ vs H' rs δ', P rs δ' → Rep K w S H0 σ H' δ' → RRs K w S H0 σ H' δ' vs rs → Stp S σ δ H δ' H' → Q vs H'
@[simp] def aNil : DAt := fun δ P => P [] δ
@[simp] def aCons (t : DT) (u : DAt) : DAt := fun δ P => t δ fun r δ1 => u δ1 fun rs δ2 => P (r :: rs) δ2
theorem da_nil : PA X [] (lA X.K X.w aNil) := ⟨fun pos pins s σ H Q I h => by
  obtain ⟨S, H0, δ, P, R, p, k⟩ := h
  exact pa_nil.run pos pins s σ H Q I (k [] H [] δ p R .nil (Stp.refl _ _ _ _))⟩
theorem da_cons {u : DAt} (ha : DE X e ta) (hr : PA X es (lA X.K X.w u)) (hs : starEach (e :: es) X.env = (false, eval e X.env) :: starEach es X.env := by rfl) : PA X (e :: es) (lA X.K X.w (aCons ta u)) := ⟨fun pos pins s σ H Q I h => by
  refine (pa_cons ha hr hs).run pos pins s σ H Q I ?_
  obtain ⟨S, H0, δ, P, R, p, k⟩ := h
  exact ⟨S, H0, δ, _, R, p, fun v H1 r1 δ1 p1 R1 rr1 f1 T1 => ⟨S, H0, δ1, _, R1, p1, fun vs H2 rs δ2 p2 R2 rrs T2 => k _ _ _ _ p2 R2 (.cons (rr1.stp R1 T2) rrs) (T1.trans T2)⟩⟩⟩
/-- frozen ones -/
abbrev DGt := DEnv → (List DV → DEnv → Prop) → Prop
inductive RVs (K : PySem.W.Frag) (w : World) (S : Option Src) (H0 H : Hp) : List V → List DV → Prop
  | nil : RVs K w S H0 H [] []
  | cons {v : V} {vs : List V} {x : DV} {xs : List DV} : x ≠ .no → x.own = false → RV K w S H0 H v x → RVs K w S H0 H vs xs → RVs K w S H0 H (v :: vs) (x :: xs)
theorem RVs.ext {vs : List V} {xs : List DV} (h : RVs K w S H0 H vs xs) (e : Ext H H') : RVs K w S H0 H' vs xs := by
  induction h with
  | nil => exact .nil
  | cons n o r _ ih => exact .cons n o (r.at e fun _ _ z => by rw [o] at z; cases z) ih
def lGA (K : PySem.W.Frag) (w : World) (t : DGt) : TA := fun σ H Q => ∃ S H0 δ P, Rep K w S H0 σ H δ ∧ t δ P ∧
  ∀ vs H' xs δ', P xs δ' → Rep K w S H0 σ H' δ' → RVs K w S H0 H' vs xs → Stp S σ δ H δ' H' → Q vs H'
@[simp] def gNilA : DGt := fun δ P => P [] δ
@[simp] def gConsA (t : DTx) (u : DGt) : DGt := fun δ P => t δ fun x δ1 => u δ1 fun xs δ2 => P (x :: xs) δ2
theorem dg_nil : PA X [] (lGA X.K X.w gNilA) := ⟨fun pos pins s σ H Q I h => by
  obtain ⟨S, H0, δ, P, R, p, k⟩ := h
  exact pa_nil.run pos pins s σ H Q I (k [] H [] δ p R .nil (Stp.refl _ _ _ _))⟩
theorem dg_cons {t : DTx} {u : DGt} (ha : DG X e t) (hr : PA X es (lGA X.K X.w u)) (hs : starEach (e :: es) X.env = (false, eval e X.env) :: starEach es X.env := by rfl) : PA X (e :: es) (lGA X.K X.w (gConsA t u)) := ⟨fun pos pins s σ H Q I h => by
  refine (pa_cons ha hr hs).run pos pins s σ H Q I ?_
  obtain ⟨S, H0, δ, P, R, p, k⟩ := h
  exact ⟨S, H0, δ, _, R, p, fun v H1 x δ1 p1 R1 n1 o1 rv1 T1 => ⟨S, H0, δ1, _, R1, p1, fun vs H2 xs δ2 p2 R2 rvs T2 =>
    k _ _ _ _ p2 R2 (.cons n1 o1 (rv1.at (T2.ext R1) fun _ _ z => by rw [o1] at z; cases z) rvs) (T1.trans T2)⟩⟩⟩
@[simp] def fzs : List DV → Option (List PyData)
  | [] => some []
  | .fz d :: r => (fzs r).map (d :: ·)
  | _ => none
theorem RVs.rfs : ∀ {vs : List V} {xs : List DV} {ds : List PyData}, RVs K w S H0 H vs xs → fzs xs = some ds → RFs K w H vs ds
  | _, _, _, .nil, e => by cases e; exact .nil
  | _, _, ds, .cons (x := .fz d) (xs := xs) _ _ r h, e => by
    have e : (fzs xs).map (d :: ·) = some ds := e
    cases q : fzs xs with
    | none => rw [q] at e; cases e
    | some l => rw [q] at e; cases e; exact .cons r (RVs.rfs h q)
  | _, _, _, .cons (x := .no) n _ _ _, _ => absurd rfl n
  | _, _, _, .cons (x := .src) _ _ _ _, e => by cases e
  | _, _, _, .cons (x := .ol _) _ o _ _, _ => by cases o
  | _, _, _, .cons (x := .od _) _ o _ _, _ => by cases o
/-- a display of a tuple, of a list -/
@[simp] def tTupD (t : DGt) : DT := fun δ P => t δ fun xs δ1 => ∃ ds, fzs xs = some ds ∧ ds.length ≤ sizeLine ∧ P (.val (.fz (.tuple ds))) δ1
@[simp] def tLstD (t : DGt) : DT := fun δ P => t δ fun xs δ1 => ∃ ds, fzs xs = some ds ∧ ds.length ≤ sizeLine ∧ P (.val (.ol ds)) δ1
theorem de_tup {t : DGt} {x1} (h : PA X es (lGA X.K X.w t)) : DE X (.Tuple es x1 pos) (tTupD t) :=
  PE.mono (pe_tup h) fun σ H Q ⟨S, H0, δ, P, R, p, k⟩ => ⟨S, H0, δ, _, R, p, fun vs H1 xs δ1 ⟨ds, ed, hz, q⟩ R1 rvs T1 => by
    have rf := rvs.rfs ed
    refine ⟨by rw [rf.len]; exact hz, fun p hp => after R R1 T1 k _ _ _ q (same_upd hp) ?_⟩
    exact RF.tup (SqT.of upd_same) (rf.ext (Same.ext (same_upd hp)))⟩
theorem de_lst {t : DGt} (h : PA X es (lGA X.K X.w t)) : DE X (.List es pos) (tLstD t) :=
  PE.mono (pe_lst h) fun σ H Q ⟨S, H0, δ, P, R, p, k⟩ => ⟨S, H0, δ, _, R, p, fun vs H1 xs δ1 ⟨ds, ed, hz, q⟩ R1 rvs T1 => by
    have rf := rvs.rfs ed
    refine ⟨by rw [rf.len]; exact hz, fun p hp => after R R1 T1 k _ _ _ q (same_upd hp) ?_⟩
    exact ⟨p, rfl, hp, _, upd_same, rf.ext (Same.ext (same_upd hp))⟩⟩

/-! ## built-ins called by their names -/
@[simp] def rds (δ : DEnv) : List Rs → Option (List PyData)
  | [] => some []
  | r :: rs => (r.rd δ).bind fun d => (rds δ rs).map (d :: ·)
theorem RRs.peek (R : Rep K w S H0 σ H δ) : ∀ {vs : List V} {rs : List Rs} {ds : List PyData}, RRs K w S H0 σ H δ vs rs → rds δ rs = some ds → RPs K w H vs ds
  | _, _, _, .nil, e => by cases e; exact .nil
  | _, _, ds, .cons (r := r) (rs := rs) h hs, e => by
    have e : (r.rd δ).bind (fun d => (rds δ rs).map (d :: ·)) = some ds := e
    cases q : r.rd δ with
    | none => rw [q] at e; cases e
    | some d =>
      rw [q] at e
      cases q2 : rds δ rs with
      | none => rw [q2] at e; cases e
      | some l => rw [q2] at e; cases e; exact .cons (h.peek R q) (RRs.peek R hs q2)
@[simp] def tCb (r : DL') (t : DAt) : DT := fun δ P => t δ fun rs δ1 => ∃ ds, rds δ1 rs = some ds ∧ r ds fun z => P (.val z) δ1
theorem cb_lE {r : DL'} {t : DAt} {Q : VK} (h : lE X.K X.w (tCb r t) σ H Q) : lA X.K X.w t σ H fun xs H1 => ROL X.K X.w r xs H1 Q := by
  obtain ⟨S, H0, δ, P, R, p, k⟩ := h
  exact ⟨S, H0, δ, _, R, p, fun vs H1 rs δ1 ⟨ds, e, q⟩ R1 rrs T1 => ⟨ds, fun z => P (.val z) δ1, rrs.peek R1 e, q, after R R1 T1 k⟩⟩
theorem de_callB {x : Str} {id : String} {r : DL'} {t : DAt} {p : Pos} (hc : CallR X (.builtin id) (ROL X.K X.w r)) (hg : Gl X x) (hm : X.mg x = none) (hv : bootBuiltins x = some (.builtin id)) (ha : PA X (e :: es) (lA X.K X.w t))
    (hn : x ≠ "__name__" := by decide) (hdb : (x == ("__debug__" : Str)) = false := by decide) (he : starEach (e :: es) X.env = (false, eval e X.env) :: starEach es X.env := by rfl)
    (hpl : (backTo pos (starEach es X.env)).any (·.1) = false := by rfl) : DE X (.Call (.Name x p) (e :: es) [] pos) (tCb r t) :=
  PE.mono (pe_callB hc hg hm hv ha hn hdb he hpl) fun _ _ _ h => cb_lE h
theorem de_callTy {x : Str} {T : String} {r : DL'} {t : DAt} {p : Pos} (hc : CallR X (.type T) (ROL X.K X.w r)) (hg : Gl X x) (hm : X.mg x = none) (hv : bootBuiltins x = some (.type T)) (ha : PA X (e :: es) (lA X.K X.w t))
    (hn : x ≠ "__name__" := by decide) (hdb : (x == ("__debug__" : Str)) = false := by decide) (he : starEach (e :: es) X.env = (false, eval e X.env) :: starEach es X.env := by rfl)
    (hpl : (backTo pos (starEach es X.env)).any (·.1) = false := by rfl) : DE X (.Call (.Name x p) (e :: es) [] pos) (tCb r t) :=
  PE.mono (pe_callTy hc hg hm hv ha hn hdb he hpl) fun _ _ _ h => cb_lE h

/-! ## tests -/
abbrev DBt := DEnv → (Bool → DEnv → Prop) → Prop
def lB (K : PySem.W.Frag) (w : World) (t : DBt) : TT := fun σ H Q => ∃ S H0 δ P, Rep K w S H0 σ H δ ∧ t δ P ∧ ∀ b H' δ', P b δ' → Rep K w S H0 σ H' δ' → Stp S σ δ H δ' H' → Q b H'
abbrev DB (X : Cx) (e : Expr) (t : DBt) : Prop := PT X e (lB X.K X.w t)
abbrev DW (X : Cx) (e : Expr) (t : DBt) : Prop := PW X e (lB X.K X.w t)
@[simp] def bT (t : DT) : DBt := fun δ P => t δ fun r δ1 => ∃ b, r.rd δ1 = some (.bool b) ∧ P b δ1
theorem RP.bool {v : V} {b : Bool} (h : RP K w H v (.bool b)) : v = .bl b := by
  rcases h with h | ⟨_, _, _, e, _⟩ | ⟨_, _, _, e, _⟩
  · cases h; rfl
  · cases e
  · cases e
theorem bT_lE {t : DT} {Q : Bool → Hp → Prop} (h : lB X.K X.w (bT t) σ H Q) : lE X.K X.w t σ H fun x H1 => ∃ c, x = .bl c ∧ Q c H1 := by
  obtain ⟨S, H0, δ, P, R, p, k⟩ := h
  exact ⟨S, H0, δ, _, R, p, fun v H1 r δ1 ⟨b, e, q⟩ R1 rr f T1 => ⟨b, (rr.peek R1 e).bool, k b H1 δ1 q R1 T1⟩⟩
theorem PT.mono {t u : TT} (h : PT X e t) (m : ∀ σ H Q, u σ H Q → t σ H Q) : PT X e u := ⟨fun pins s σ H Q I q => h.run pins s σ H Q I (m σ H Q q)⟩
theorem PW.mono {t u : TT} (h : PW X e t) (m : ∀ σ H Q, u σ H Q → t σ H Q) : PW X e u := ⟨fun wh pins s σ H Q I q => h.run wh pins s σ H Q I (m σ H Q q)⟩
theorem db_val {t : DT} (h : DE X e t) (he : ∀ whole, isTrue e X.env whole = (do let v ← whole; standAt e.pos; holding [v] (truthy v)) := by intro _; rfl) : DB X e (bT t) :=
  PT.mono (pt_val h he) fun _ _ _ h => bT_lE h
theorem db_cmp {op : CmpOp} {r : D2} (ho : OpR X (compareOp op) (RO2 X.K X.w r)) (ha : DE X a ta) (hb : DE X b tb) (hm : behindInMarks op b = false) : DB X (.Compare a [op] [b] pos) (bT (t2 r ta tb)) :=
  PT.mono (pt_cmpR ho ha hb hm) fun _ _ _ h => by
    obtain ⟨S, H0, δ, P, R, p, k⟩ := h
    refine two_lE ⟨S, H0, δ, _, R, p, fun v H1 r δ1 ⟨b, e, q⟩ R1 rr f T1 => ⟨b, (rr.peek R1 e).bool, k b H1 δ1 q R1 T1⟩⟩
@[simp] def bNot (t : DBt) : DBt := fun δ P => t δ fun b δ1 => P (!b) δ1
@[simp] def bAnd (t u : DBt) : DBt := fun δ P => t δ fun b δ1 => if b = true then u δ1 P else P false δ1
@[simp] def bOr (t u : DBt) : DBt := fun δ P => t δ fun b δ1 => if b = true then P true δ1 else u δ1 P
theorem db_not {t : DBt} (h : DB X a t) : DB X (.UnaryOp .Not a pos) (bNot t) :=
  PT.mono (pt_not h) fun _ _ _ ⟨S, H0, δ, P, R, p, k⟩ => ⟨S, H0, δ, _, R, p, fun b H1 δ1 q R1 T1 => k _ H1 δ1 q R1 T1⟩
theorem dw_and1 {t : DBt} (h : DB X a t) : DW X (.BoolOp .And [a] pos) t := pw_and1 h
theorem dw_or1 {t : DBt} (h : DB X a t) : DW X (.BoolOp .Or [a] pos) t := pw_or1 h
theorem dw_and {t u : DBt} (ha : DB X a t) (hb : DW X (.BoolOp .And (b :: es) pos) u) : DW X (.BoolOp .And (a :: b :: es) pos) (bAnd t u) :=
  PW.mono (pw_and ha hb) fun _ _ Q ⟨S, H0, δ, P, R, p, k⟩ => ⟨S, H0, δ, _, R, p, fun b H1 δ1 q R1 T1 => by
    cases b with
    | false => exact k _ H1 δ1 q R1 T1
    | true => exact ⟨S, H0, δ1, P, R1, q, fun b' H2 δ2 q2 R2 T2 => k _ H2 δ2 q2 R2 (T1.trans T2)⟩⟩
theorem dw_or {t u : DBt} (ha : DB X a t) (hb : DW X (.BoolOp .Or (b :: es) pos) u) : DW X (.BoolOp .Or (a :: b :: es) pos) (bOr t u) :=
  PW.mono (pw_or ha hb) fun _ _ Q ⟨S, H0, δ, P, R, p, k⟩ => ⟨S, H0, δ, _, R, p, fun b H1 δ1 q R1 T1 => by
    cases b with
    | true => exact k _ H1 δ1 q R1 T1
    | false => exact ⟨S, H0, δ1, P, R1, q, fun b' H2 δ2 q2 R2 T2 => k _ H2 δ2 q2 R2 (T1.trans T2)⟩⟩
/-- and, or, not as values -/
@[simp] def vAnd (ta : DT) (tb : DT) : DT := fun δ P => ta δ fun r δ1 => ∃ b, r.rd δ1 = some (.bool b) ∧ if b = true then tb δ1 P else P (.val (.fz (.bool false))) δ1
@[simp] def vOr (ta : DT) (tb : DT) : DT := fun δ P => ta δ fun r δ1 => ∃ b, r.rd δ1 = some (.bool b) ∧ if b = true then P (.val (.fz (.bool true))) δ1 else tb δ1 P
@[simp] def vNot (ta : DT) : DT := fun δ P => ta δ fun r δ1 => ∃ b, r.rd δ1 = some (.bool b) ∧ P (.val (.fz (.bool (!b)))) δ1
theorem fresh_trans {H H1 : Hp} {δ1 : DEnv} (T : Stp S σ δ H δ1 H1) {r : Rs} {v : V} (f : r.Fresh H1 v) : r.Fresh H v := by
  cases r with
  | slot i => trivial
  | val x =>
    intro ow a ea
    have q := f ow a ea
    cases z : H a with
    | none => rfl
    | some o => exact absurd q (T.trk a (by rw [z]; exact fun y => by cases y))
theorem of_fz {P : Rs → DEnv → Prop} {Q : VK} {H1 : Hp} {δ1 : DEnv} (R1 : Rep K w S H0 σ H1 δ1) (T : Stp S σ δ H δ1 H1) {v : V} {d : PyData} (r : RF K w H1 v d)
    (k : ∀ v H' r δ', P r δ' → Rep K w S H0 σ H' δ' → RR K w S H0 σ H' δ' v r → r.Fresh H v → Stp S σ δ H δ' H' → Q v H') (p : P (.val (.fz d)) δ1) : Q v H1 :=
  k v H1 _ δ1 p R1 ⟨(fun z => by cases z), r, not_own rfl⟩ (not_fresh rfl) T
theorem de_and (ha : DE X a ta) (hb : DE X (.BoolOp .And (b :: es) pos) tb) : DE X (.BoolOp .And (a :: b :: es) pos) (vAnd ta tb) :=
  PE.mono (pe_and ha hb) fun σ H Q ⟨S, H0, δ, P, R, p, k⟩ => ⟨S, H0, δ, _, R, p, fun v H1 r δ1 ⟨b, e, q⟩ R1 rr f T1 => ⟨b, (rr.peek R1 e).bool, by
    cases b with
    | true => exact ⟨S, H0, δ1, P, R1, q, fun v' H2 r2 δ2 q2 R2 rr2 f2 T2 => k _ H2 _ δ2 q2 R2 rr2 (fresh_trans T1 f2) (T1.trans T2)⟩
    | false => exact of_fz R1 T1 (.bl false) k q⟩⟩
theorem de_or (ha : DE X a ta) (hb : DE X (.BoolOp .Or (b :: es) pos) tb) : DE X (.BoolOp .Or (a :: b :: es) pos) (vOr ta tb) :=
  PE.mono (pe_or ha hb) fun σ H Q ⟨S, H0, δ, P, R, p, k⟩ => ⟨S, H0, δ, _, R, p, fun v H1 r δ1 ⟨b, e, q⟩ R1 rr f T1 => ⟨b, (rr.peek R1 e).bool, by
    cases b with
    | false => exact ⟨S, H0, δ1, P, R1, q, fun v' H2 r2 δ2 q2 R2 rr2 f2 T2 => k _ H2 _ δ2 q2 R2 rr2 (fresh_trans T1 f2) (T1.trans T2)⟩
    | true => exact of_fz R1 T1 (.bl true) k q⟩⟩
theorem de_one {op : BoolOp} (ha : DE X a ta) : DE X (.BoolOp op [a] pos) ta := pe_one ha
theorem de_not (ha : DE X a ta) : DE X (.UnaryOp .Not a pos) (vNot ta) :=
  PE.mono (pe_not ha) fun σ H Q ⟨S, H0, δ, P, R, p, k⟩ => ⟨S, H0, δ, _, R, p, fun v H1 r δ1 ⟨b, e, q⟩ R1 rr f T1 => ⟨b, (rr.peek R1 e).bool, of_fz R1 T1 (.bl _) k q⟩⟩
@[simp] def tIte (t : DBt) (ta tb : DT) : DT := fun δ P => t δ fun b δ1 => if b = true then ta δ1 P else tb δ1 P
theorem de_ite {t : DBt} (hc : DB X c t) (ha : DE X a ta) (hb : DE X b tb) : DE X (.IfExp c a b pos) (tIte t ta tb) :=
  PE.mono (pe_ifExp hc ha hb) fun σ H Q ⟨S, H0, δ, P, R, p, k⟩ => ⟨S, H0, δ, _, R, p, fun b H1 δ1 q R1 T1 => by
    cases b with
    | true => exact ⟨S, H0, δ1, P, R1, q, fun v' H2 r2 δ2 q2 R2 rr2 f2 T2 => k _ H2 _ δ2 q2 R2 rr2 (fresh_trans T1 f2) (T1.trans T2)⟩
    | false => exact ⟨S, H0, δ1, P, R1, q, fun v' H2 r2 δ2 q2 R2 rr2 f2 T2 => k _ H2 _ δ2 q2 R2 rr2 (fresh_trans T1 f2) (T1.trans T2)⟩⟩
end
end DL
set_option maxHeartbeats 1000000
namespace DL
open PySem PySem.Spec PyProof.Rows L2
/-! ## statements -/
structure DEnds where
  nx : DEnv → Prop
  rt : DV → Prop
  bk : DEnv → Prop := fun _ => False
  ct : DEnv → Prop := fun _ => False
abbrev DSt := DEnds → DEnv → Prop
/-- what a return hands back -/
structure RetOk (K : PySem.W.Frag) (w : World) (S : Option Src) (H0 H : Hp) (v : V) (x : DV) : Prop where
  keep : ∀ b o, H0 b = some o → NotSrc S b → H b = some o
  src : SrcAll H S
  val : RV K w S H0 H v x
  ne : x ≠ .no
  ns : x ≠ .src
structure EndsOk (K : PySem.W.Frag) (w : World) (S : Option Src) (H0 Hs : Hp) (DD : DEnds) (D : Ends) : Prop where
  nx : ∀ σ H δ, Rep K w S H0 σ H δ → Ext Hs H → DD.nx δ → D.nx σ H
  bk : ∀ σ H δ, Rep K w S H0 σ H δ → Ext Hs H → DD.bk δ → D.bk σ H
  ct : ∀ σ H δ, Rep K w S H0 σ H δ → Ext Hs H → DD.ct δ → D.ct σ H
  rt : ∀ v H x, RetOk K w S H0 H v x → DD.rt x → D.rt v H
def lS (K : PySem.W.Frag) (w : World) (t : DSt) : TS := fun D σ H => ∃ S H0 δ DD, Rep K w S H0 σ H δ ∧ t DD δ ∧ EndsOk K w S H0 H DD D
theorem EndsOk.from {K : PySem.W.Frag} {w : World} {S : Option Src} {H0 Hs H : Hp} {DD : DEnds} {D : Ends} (E : EndsOk K w S H0 Hs DD D) (e : Ext Hs H) : EndsOk K w S H0 H DD D :=
  ⟨fun σ H δ R x q => E.nx σ H δ R (e.trans x) q, fun σ H δ R x q => E.bk σ H δ R (e.trans x) q, fun σ H δ R x q => E.ct σ H δ R (e.trans x) q, E.rt⟩
abbrev PD (X : Cx) (st : Stmt) (t : DSt) : Prop := PS X st (lS X.K X.w t)
abbrev PDs (X : Cx) (st : List Stmt) (t : DSt) : Prop := PSs X st (lS X.K X.w t)
section
variable {X : Cx} {K : PySem.W.Frag} {w : World} {S : Option Src} {H0 H H' : Hp} {σ : Sl} {δ δ' : DEnv}
variable {st : Stmt} {sts : List Stmt} {t u : DSt} {e c : Expr} {pos : Pos}
theorem PS.mono {t u : TS} (h : PS X st t) (m : ∀ D σ H, u D σ H → t D σ H) : PS X st u := ⟨fun pins s σ H D I q => h.run pins s σ H D I (m D σ H q)⟩
theorem PSs.mono {t u : TS} (h : PSs X sts t) (m : ∀ D σ H, u D σ H → t D σ H) : PSs X sts u := ⟨fun pins s σ H D I q => h.run pins s σ H D I (m D σ H q)⟩
@[simp] def sSeq (t u : DSt) : DSt := fun D δ => t { D with nx := u D } δ
@[simp] def sNil : DSt := fun D δ => D.nx δ
theorem ds_nil : PDs X [] sNil := PSs.mono pss_nil fun D σ H ⟨S, H0, δ, DD, R, p, E⟩ => E.nx σ H δ R (Ext.refl _) p
theorem ds_cons (h : PD X st t) (hs : PDs X sts u) : PDs X (st :: sts) (sSeq t u) := PSs.mono (pss_cons h hs) fun D σ H ⟨S, H0, δ, DD, R, p, E⟩ =>
  ⟨S, H0, δ, { DD with nx := u DD }, R, p, ⟨fun σ' H' δ' R' x q => ⟨S, H0, δ', DD, R', q, E.from x⟩, E.bk, E.ct, E.rt⟩⟩
theorem ds_one (h : PD X st t) : PDs X [st] t := pss_one h
@[simp] def sDrop (t : DT) : DSt := fun D δ => t δ fun _ δ1 => D.nx δ1
theorem ds_expr {t : DT} (h : DE X e t) (hs : swapsWith e none pos.line X.env = pure false := by rfl) : PD X (.Expr e pos) (sDrop t) := PS.mono (ps_expr h hs) fun D σ H ⟨S, H0, δ, DD, R, p, E⟩ =>
  ⟨S, H0, δ, _, R, p, fun v H1 r δ1 q R1 _ _ T => E.nx _ _ _ R1 (T.ext R) q⟩
@[simp] def sRet (t : DTx) : DSt := fun D δ => t δ fun x _ => x ≠ .src ∧ D.rt x
theorem ds_ret {t : DTx} (h : DX X e t) : PD X (.Return (some e) pos) (sRet t) := PS.mono (ps_ret h) fun D σ H ⟨S, H0, δ, DD, R, p, E⟩ =>
  ⟨S, H0, δ, _, R, p, fun v H1 x δ1 ⟨ns, q⟩ R1 rr _ _ => E.rt _ _ _ ⟨R1.keep, R1.src, rr.2.1, rr.1, ns⟩ q⟩
@[simp] def sIf (t : DBt) (a b : DSt) : DSt := fun D δ => t δ fun k δ1 => if k = true then a D δ1 else b D δ1
theorem ds_if {t : DBt} {p q : List Stmt} {a b : DSt} (hc : DB X c t) (ha : PDs X p a) (hb : PDs X q b) : PD X (.If c p q pos) (sIf t a b) := PS.mono (ps_if hc ha hb) fun D σ H ⟨S, H0, δ, DD, R, p, E⟩ =>
  ⟨S, H0, δ, _, R, p, fun k H1 δ1 q R1 T => by
    cases k with
    | true => exact ⟨S, H0, δ1, DD, R1, q, E.from (T.ext R)⟩
    | false => exact ⟨S, H0, δ1, DD, R1, q, E.from (T.ext R)⟩⟩
theorem ds_pass : PD X (.Pass pos) sNil := PS.mono ps_pass fun D σ H ⟨S, H0, δ, DD, R, p, E⟩ => E.nx _ _ _ R (Ext.refl _) p
theorem ds_break : PD X (.Break pos) (fun D δ => D.bk δ) := PS.mono ps_break fun D σ H ⟨S, H0, δ, DD, R, p, E⟩ => E.bk _ _ _ R (Ext.refl _) p
theorem ds_continue : PD X (.Continue pos) (fun D δ => D.ct δ) := PS.mono ps_continue fun D σ H ⟨S, H0, δ, DD, R, p, E⟩ => E.ct _ _ _ R (Ext.refl _) p
theorem ds_doc {x : Str} {j : Nat} {pos pos' : Pos} : PD X (.Expr (.Constant (.str x) j pos) pos') sNil := PS.mono ps_doc fun D σ H ⟨S, H0, δ, DD, R, p, E⟩ => E.nx _ _ _ R (Ext.refl _) p
/-- a slot is stored -/
theorem ownAt_store {i : Nat} {v : V} {x : DV} {a : Addr} (h : OwnAt (σ.set i (some v)) (δ.set i x) a) : (x.own = true ∧ v = .ref a) ∨ OwnAt σ δ a := by
  obtain ⟨j, z, h1, h2, h3⟩ := h
  by_cases hj : j = i
  · subst hj
    have l1 : j < σ.length := by
      have := (List.getElem?_eq_some_iff.mp h1).1
      simpa using this
    have l2 : j < δ.length := by
      have := (List.getElem?_eq_some_iff.mp h2).1
      simpa using this
    rw [List.getElem?_set_self l1] at h1
    rw [List.getElem?_set_self l2] at h2
    cases h1; cases h2
    exact .inl ⟨h3, rfl⟩
  · rw [List.getElem?_set_ne (Ne.symm hj)] at h1 h2
    exact .inr ⟨j, z, h1, h2, h3⟩
theorem Rep.store (R : Rep K w S H0 σ H δ) {i : Nat} {v : V} {x : DV} (hi : i < σ.length) (rv : RV K w S H0 H v x) (no : x.own = true → ∀ a, v = .ref a → ¬ OwnAt σ δ a) : Rep K w S H0 (σ.set i (some v)) H (δ.set i x) := by
  have hd : i < δ.length := by rw [← R.len]; exact hi
  have hx2 : ∀ (j : Nat) (z : DV), (δ.set i x)[j]? = some z → (j = i ∧ z = x) ∨ (j ≠ i ∧ δ[j]? = some z) := fun j z h => by
    by_cases hj : j = i
    · rw [hj, List.getElem?_set_self hd] at h; cases h; exact .inl ⟨hj, rfl⟩
    · rw [List.getElem?_set_ne (Ne.symm hj)] at h; exact .inr ⟨hj, h⟩
  refine ⟨by rw [List.length_set, List.length_set]; exact R.len, fun j z h n => ?_, fun j k b z y h1 h2 h3 h4 o1 o2 => ?_, R.keep, R.src⟩
  · rcases hx2 j z h with ⟨e1, e2⟩ | ⟨hj, h⟩
    · rw [e1, e2]; exact ⟨v, List.getElem?_set_self hi, rv⟩
    · rw [List.getElem?_set_ne (Ne.symm hj)]; exact R.slot j z h n
  · rcases hx2 j z h3 with ⟨e1, e2⟩ | ⟨hj, g3⟩ <;> rcases hx2 k y h4 with ⟨e3, e4⟩ | ⟨hk, g4⟩
    · rw [e1, e3]
    · rw [e1, List.getElem?_set_self hi] at h1
      rw [List.getElem?_set_ne (Ne.symm hk)] at h2
      cases h1
      rw [e2] at o1
      exact (no o1 b rfl ⟨k, y, h2, g4, o2⟩).elim
    · rw [e3, List.getElem?_set_self hi] at h2
      rw [List.getElem?_set_ne (Ne.symm hj)] at h1
      cases h2
      rw [e4] at o2
      exact (no o2 b rfl ⟨j, z, h1, g3, o1⟩).elim
    · rw [List.getElem?_set_ne (Ne.symm hj)] at h1
      rw [List.getElem?_set_ne (Ne.symm hk)] at h2
      exact R.sep j k b z y h1 h2 g3 g4 o1 o2
@[simp] def sSet (i : Nat) (t : DTx) : DSt := fun D δ => t δ fun x δ1 => i < δ1.length ∧ D.nx (δ1.set i x)
theorem ds_set {i : Nat} {x : Str} {t : DTx} {pos' : Pos} (hN : X.N.Nodup) (hi : X.N[i]? = some x) (hx : Loc X.env.scope x) (he : DX X e t)
    (hs : swapsWith e (some (.Name x pos')) pos.line X.env = pure false := by rfl) (hf : X.fn x = true ∨ X.env.scope.names.lookup x = some .local := by first | exact .inl rfl | exact .inr rfl) : PD X (.Assign [.Name x pos'] e pos) (sSet i t) :=
  PS.mono (ps_set hN hi hx he hs) fun D σ H ⟨S, H0, δ, DD, R, p, E⟩ => ⟨S, H0, δ, _, R, p, fun v H1 x δ1 ⟨hl, q⟩ R1 rr _ T =>
    E.nx _ _ _ (R1.store (by rw [R1.len]; exact hl) rr.2.1 rr.2.2) (T.ext R) q⟩

/-! ## targets -/
abbrev TGd := PyData → DEnv → (DEnv → Prop) → Prop
/-- what a target's store leaves: the slots tv alone are written, by what nobody owns -/
structure TgOk (tv : List Nat) (σ : Sl) (δ : DEnv) (σ' : Sl) (δ' : DEnv) : Prop where
  len : σ'.length = σ.length
  wr : ∀ i, i ∉ tv → σ'[i]? = σ[i]?
  own : ∀ a, OwnAt σ' δ' a → OwnAt σ δ a
  has : ∀ (i : Nat) (x : DV), i ∉ tv → δ[i]? = some x → x ≠ .no → ∃ y, δ'[i]? = some y ∧ y ≠ .no
theorem TgOk.refl (tv : List Nat) (σ : Sl) (δ : DEnv) : TgOk tv σ δ σ δ := ⟨rfl, fun _ _ => rfl, fun _ h => h, fun _ x _ h n => ⟨x, h, n⟩⟩
theorem TgOk.trans {tv tu : List Nat} {σ σ1 σ2 : Sl} {δ δ1 δ2 : DEnv} (a : TgOk tv σ δ σ1 δ1) (b : TgOk tu σ1 δ1 σ2 δ2) : TgOk (tv ++ tu) σ δ σ2 δ2 where
  len := b.len.trans a.len
  wr := fun i h => (b.wr i fun z => h (List.mem_append_right _ z)).trans (a.wr i fun z => h (List.mem_append_left _ z))
  own := fun c h => a.own c (b.own c h)
  has := fun i x h e n => by
    obtain ⟨y, e1, n1⟩ := a.has i x (fun z => h (List.mem_append_left _ z)) e n
    exact b.has i y (fun z => h (List.mem_append_right _ z)) e1 n1
def lGt (K : PySem.W.Frag) (w : World) (tv : List Nat) (g : TGd) : TG := fun v σ H Q => ∃ S H0 δ d P, Rep K w S H0 σ H δ ∧ RF K w H v d ∧ g d δ P ∧ ∀ σ' δ', P δ' → Rep K w S H0 σ' H δ' → TgOk tv σ δ σ' δ' → Q σ' H
abbrev TGds := List PyData → DEnv → (DEnv → Prop) → Prop
def lGts (K : PySem.W.Frag) (w : World) (tv : List Nat) (g : TGds) : TGs := fun vs σ H Q => ∃ S H0 δ ds P, Rep K w S H0 σ H δ ∧ RFs K w H vs ds ∧ g ds δ P ∧ ∀ σ' δ', P δ' → Rep K w S H0 σ' H δ' → TgOk tv σ δ σ' δ' → Q σ' H
theorem PG.mono {tg : Expr} {t u : TG} (h : PG X tg t) (m : ∀ v σ H Q, u v σ H Q → t v σ H Q) : PG X tg u := ⟨fun pins s σ H v uu Q I r q => h.run pins s σ H v uu Q I r (m v σ H Q q)⟩
theorem PGs.mono {tg : List Expr} {t u : TGs} (h : PGs X tg t) (m : ∀ v σ H Q, u v σ H Q → t v σ H Q) : PGs X tg u := ⟨fun pins s σ H v uu Q I r q => h.run pins s σ H v uu Q I r (m v σ H Q q)⟩
@[simp] def gN (i : Nat) : TGd := fun d δ P => i < δ.length ∧ P (δ.set i (.fz d))
theorem tg_store {i : Nat} {v : V} {d : PyData} : TgOk [i] σ δ (σ.set i (some v)) (δ.set i (.fz d)) where
  len := List.length_set ..
  wr := fun j h => List.getElem?_set_ne (by simpa using Ne.symm (fun z => h (by simp [z])))
  own := fun a h => (ownAt_store h).elim (fun z => by cases z.1) id
  has := fun j x h e n => ⟨x, by rw [List.getElem?_set_ne (by simpa using Ne.symm (fun z => h (by simp [z])))]; exact e, n⟩
theorem dt_name {i : Nat} {x : Str} {p : Pos} (hN : X.N.Nodup) (hi : X.N[i]? = some x) (hx : Loc X.env.scope x) (hf : X.fn x = true ∨ X.env.scope.names.lookup x = some .local := by first | exact .inl rfl | exact .inr rfl) : PG X (.Name x p) (lGt X.K X.w [i] (gN i)) :=
  PG.mono (pg_name hN hi hx hf) fun v σ H Q ⟨S, H0, δ, d, P, R, rf, ⟨hl, p⟩, k⟩ => k _ _ p (R.store (by rw [R.len]; exact hl) rf (not_own rfl)) tg_store
def gNil' : TGds := fun ds δ P => ds = [] ∧ P δ
def gCons' (g : TGd) (gs : TGds) : TGds := fun ds δ P => ∃ d r, ds = d :: r ∧ g d δ fun δ1 => gs r δ1 P
theorem dts_nil : PGs X [] (lGts X.K X.w [] gNil') := PGs.mono pgs_nil fun v σ H Q ⟨S, H0, δ, ds, P, R, rf, ⟨e, p⟩, k⟩ => by
  subst e
  cases rf
  exact ⟨rfl, k _ _ p R (TgOk.refl _ _ _)⟩
theorem dts_cons {es : List Expr} {g : TGd} {gs : TGds} {tv tu : List Nat} (h1 : PG X e (lGt X.K X.w tv g)) (h2 : PGs X es (lGts X.K X.w tu gs))
    (hs : (assignEach (e :: es) X.env).map (·.2) = assign e X.env :: (assignEach es X.env).map (·.2) := by rfl) : PGs X (e :: es) (lGts X.K X.w (tv ++ tu) (gCons' g gs)) :=
  PGs.mono (pgs_cons h1 h2 hs) fun v σ H Q ⟨S, H0, δ, ds, P, R, rf, ⟨d, r, e, p⟩, k⟩ => by
    subst e
    cases rf with
    | cons a b => exact ⟨_, _, rfl, S, H0, δ, d, _, R, a, p, fun σ1 δ1 q R1 T1 => ⟨S, H0, δ1, r, P, R1, b, q, fun σ2 δ2 q2 R2 T2 => k _ _ q2 R2 (T1.trans T2)⟩⟩
def gTp (n : Nat) (gs : TGds) : TGd := fun d δ P => ∃ ds, d = .tuple ds ∧ ds.length = n ∧ gs ds δ P
theorem dt_tup {es : List Expr} {k n : Nat} {gs : TGds} {tv : List Nat} (hx : PG X (.Tuple es k pos) (gTup X.K n (lGts X.K X.w tv gs))) : PG X (.Tuple es k pos) (lGt X.K X.w tv (gTp n gs)) :=
  PG.mono hx fun v σ H Q ⟨S, H0, δ, d, P, R, rf, ⟨ds, e, hl, p⟩, k⟩ => by
    subst e
    cases rf with
    | tup hs ha => exact ⟨_, _, rfl, hs, by rw [ha.len]; exact hl, S, H0, δ, ds, P, R, ha, p, k⟩
/-- target = e, any target -/
@[simp] def sAsg (g : TGd) (t : DTx) : DSt := fun D δ => t δ fun x δ1 => ∃ d, x = .fz d ∧ g d δ1 D.nx
theorem ds_asg {g : TGd} {t : DTx} {tv : List Nat} (hx : PS X st (tAsg (lG X.K X.w t) (lGt X.K X.w tv g))) : PD X st (sAsg g t) :=
  PS.mono hx fun D σ H ⟨S, H0, δ, DD, R, p, E⟩ => ⟨S, H0, δ, _, R, p, fun v H1 x δ1 ⟨d, e, q⟩ R1 n o rv T => by
    subst e
    exact ⟨S, H0, δ1, d, _, R1, rv, q, fun σ' δ' q' R' _ => E.nx _ _ _ R' (T.ext R) q'⟩⟩

/-! ## loops -/
/-- what is walked yields the data ds, one after another, whatever is laid meanwhile -/
def ItOk (K : PySem.W.Frag) (w : World) (J : It) (ds : List PyData) (H1 : Hp) : Prop := ∀ H, Ext H1 H →
  (∀ i, i < ds.length → J.go i H ∧ ∀ x H', J.yld i H x H' → Same H H' ∧ ∃ d, ds[i]? = some d ∧ RF K w H' x d) ∧ J.stop ds.length H
abbrev DIt := DEnv → (List PyData → DEnv → Prop) → Prop
def lI (K : PySem.W.Frag) (w : World) (t : DIt) : TI := fun σ H Q => ∃ S H0 δ P, Rep K w S H0 σ H δ ∧ t δ P ∧
  ∀ J H' ds δ', P ds δ' → Rep K w S H0 σ H' δ' → ItOk K w J ds H' → Stp S σ δ H δ' H' → Q J H'
abbrev DI (X : Cx) (tg e : Expr) (t : DIt) : Prop := PI X tg e (lI X.K X.w t)
/-- one turn after another: W by the turn -/
def Turns (ds : List PyData) (W : Nat → DEnv → Prop) (turn : Nat → PyData → DEnv → Prop) (stop : DEnv → Prop) : Prop :=
  ∀ i δ, W i δ → (∀ d, ds[i]? = some d → turn i d δ) ∧ (i = ds.length → stop δ)
def sFor (ti : DIt) (g : TGd) (tb : DSt) : DSt := fun D δ => ti δ fun ds δ1 => ∃ W : Nat → DEnv → Prop, W 0 δ1 ∧
  Turns ds W (fun i d δ => g d δ fun δ2 => tb { D with nx := W (i + 1), ct := W (i + 1), bk := D.nx } δ2) D.nx
theorem ds_for {ti : DIt} {g : TGd} {tb : DSt} {tv : List Nat} (hx : PS X st (tFor (lI X.K X.w ti) (lGt X.K X.w tv g) (lS X.K X.w tb))) : PD X st (sFor ti g tb) :=
  PS.mono hx fun D σ H ⟨S, H0, δ, DD, R, p, E⟩ => ⟨S, H0, δ, _, R, p, fun J H1 ds δ1 ⟨W, w0, turn⟩ R1 it T1 => by
    refine ⟨fun i m σ H => m = ds.length - i ∧ i ≤ ds.length ∧ Ext H1 H ∧ ∃ δ, Rep X.K X.w S H0 σ H δ ∧ W i δ, ⟨_, rfl, Nat.zero_le _, Ext.refl _, δ1, R1, w0⟩, ?_⟩
    rintro i m σ' H' ⟨rfl, hi, ex, δ', R', wi⟩
    obtain ⟨t1, t2⟩ := turn i δ' wi
    obtain ⟨go, sp⟩ := it H' ex
    by_cases hlt : i < ds.length
    · obtain ⟨g1, g2⟩ := go i hlt
      refine .inr ⟨g1, fun σ2 H2 => Ext H1 H2 ∧ ∃ δ, Rep X.K X.w S H0 σ2 H2 δ ∧ W (i + 1) δ, fun σ2 H2 ⟨e2, δ2, R2, w2⟩ => ⟨ds.length - (i + 1), by omega, rfl, hlt, e2, δ2, R2, w2⟩, fun x H2 y => ?_⟩
      obtain ⟨sm, d, hd, rf⟩ := g2 x H2 y
      have ex2 : Ext H1 H2 := ex.trans (Same.ext sm)
      have eA : Ext H H2 := (T1.ext R).trans ex2
      refine ⟨S, H0, δ', d, _, R'.same sm, rf, t1 d hd, fun σ3 δ3 q3 R3 _ => ⟨S, H0, δ3, _, R3, q3, ⟨fun σ4 H4 δ4 R4 x4 q4 => ⟨ex2.trans x4, δ4, R4, q4⟩,
        fun σ4 H4 δ4 R4 x4 q4 => E.nx _ _ _ R4 (eA.trans x4) q4, fun σ4 H4 δ4 R4 x4 q4 => ⟨ex2.trans x4, δ4, R4, q4⟩, E.rt⟩⟩⟩
    · have e : i = ds.length := by omega
      exact .inl ⟨by rw [e]; exact sp, E.nx _ _ _ R' ((T1.ext R).trans ex) (t2 e)⟩⟩
end
end DL
set_option maxHeartbeats 2000000
namespace DL
open PySem PySem.Spec PyProof.Rows L2
/-! ## what is walked -/
section
variable {X : Cx} {tg e : Expr}
theorem PI.mono {t u : TI} (h : PI X tg e t) (m : ∀ σ H Q, u σ H Q → t σ H Q) : PI X tg e u := ⟨fun pins s σ H R I q => h.run pins s σ H R I (m σ H R q)⟩
theorem PI.or {t u : TI} (h : PI X tg e t) (g : PI X tg e u) : PI X tg e (fun σ H Q => t σ H Q ∨ u σ H Q) := ⟨fun pins s σ H R I q => q.elim (h.run pins s σ H R I) (g.run pins s σ H R I)⟩
end
section
variable {X : Cx} {K : PySem.W.Frag} {w : World} {S : Option Src} {H0 H H' : Hp} {σ : Sl} {δ δ' : DEnv}
variable {tg e c : Expr} {pos : Pos}
/-- the items of a list, of a tuple -/
def seqD : DV → Option (List PyData)
  | .fz (.list ds) => some ds
  | .fz (.tuple ds) => some ds
  | _ => none
theorem itl_ok {a : Addr} {o : Obj} {xs : List V} {ds : List PyData} (h : H a = some (.frz o (.lst xs))) (r : RFs K w H xs ds) : ItOk K w (Itl K a) ds H := fun H' ex => by
  have hq : SqL K H' a xs := .inl (.inr ⟨o, ex _ _ h trivial⟩)
  refine ⟨fun i hi => ?_, xs, hq, Nat.le_of_eq r.len⟩
  obtain ⟨d, hd⟩ : ∃ d, ds[i]? = some d := ⟨ds[i], List.getElem?_eq_getElem hi⟩
  obtain ⟨v, hv, rf⟩ := r.get hd
  refine ⟨⟨xs, v, hq, hv⟩, fun x H2 ⟨e1, y⟩ => ?_⟩
  subst e1
  have := y xs hq
  rw [hv] at this
  cases this
  exact ⟨Same.refl _, d, hd, rf.ext ex⟩
theorem itt_ok {a : Addr} {xs : List V} {ds : List PyData} (h : SqT K H a xs) (r : RFs K w H xs ds) : ItOk K w (Itt K a) ds H := fun H' ex => by
  have hq : SqT K H' a xs := ex.sqt h
  refine ⟨fun i hi => ?_, xs, hq, Nat.le_of_eq r.len⟩
  obtain ⟨d, hd⟩ : ∃ d, ds[i]? = some d := ⟨ds[i], List.getElem?_eq_getElem hi⟩
  obtain ⟨v, hv, rf⟩ := r.get hd
  refine ⟨⟨xs, v, hq, hv⟩, fun x H2 ⟨e1, y⟩ => ?_⟩
  subst e1
  have := y xs hq
  rw [hv] at this
  cases this
  exact ⟨Same.refl _, d, hd, rf.ext ex⟩
@[simp] def iSeq (t : DTx) : DIt := fun δ P => t δ fun x δ1 => ∃ ds, seqD x = some ds ∧ P ds δ1
theorem di_seq {t : DTx} (h : DG X e t) : DI X tg e (iSeq t) := ⟨fun pins s σ H R I q => by
  obtain ⟨S, H0, δ, P, R0, p, k⟩ := q
  have hq : lG X.K X.w t σ H fun x H1 => (∃ a, x = .ref a ∧ (∃ xs, SqL X.K H1 a xs) ∧ R (Itl X.K a) H1) ∨ (∃ a, x = .ref a ∧ (∃ xs, SqT X.K H1 a xs) ∧ R (Itt X.K a) H1) :=
    ⟨S, H0, δ, _, R0, p, fun v H1 x δ1 ⟨ds, es, q⟩ R1 n o rv T => by
      cases x with
      | no => cases es
      | src => cases es
      | ol _ => cases o
      | od _ => cases o
      | fz d =>
        cases d with
        | list l =>
          cases es
          cases rv with
          | lst hx r => exact .inl ⟨_, rfl, ⟨_, .inl (.inr ⟨_, hx⟩)⟩, k _ _ _ _ q R1 (itl_ok hx r) T⟩
        | tuple l =>
          cases es
          cases rv with
          | tup hx r => exact .inr ⟨_, rfl, ⟨_, hx⟩, k _ _ _ _ q R1 (itt_ok hx r) T⟩
        | _ => cases es⟩
  refine thn (h.run pins s σ H _ I hq) fun u s1 ⟨x, H1, I1, r1, q1⟩ => ?_
  rcases q1 with ⟨a, ea, ⟨xs, hs⟩, q1⟩ | ⟨a, ea, ⟨xs, hs⟩, q1⟩
  · subst ea
    cases r1
    obtain ⟨its, r, p, _⟩ := I1.list hs
    refine wpAny_pyIter_list p.isList ?_
    have I2 : Inv X pins σ H1 { s1 with heap := s1.heap.push { cls := .type "list_iterator", data := .fields #[.ref a, .int 0 0] } } := I1.kept (t' := s1.toks) fun b o e => Heap.get?_push_of_some _ e
    exact ⟨_, [s1.heap.objs.size], _, _, H1, rfl, I2, turn_list a s1.heap.objs.size, ⟨_, Heap.get?_push_size _ rfl, rfl, rfl⟩, fun b hb => by
      have e' : b = s1.heap.objs.size := by simpa using hb
      rw [e']
      exact I1.fpOk (Nat.le_refl _) (I1.hok.fresh (Nat.le_refl _)), q1⟩
  · subst ea
    cases r1
    obtain ⟨its, r, p, _⟩ := I1.tuple hs
    refine wpAny_pyIter_tuple p ?_
    have I2 : Inv X pins σ H1 { s1 with heap := s1.heap.push { cls := .type "tuple_iterator", data := .fields #[.ref a, .int 0 0] } } := I1.kept (t' := s1.toks) fun b o e => Heap.get?_push_of_some _ e
    exact ⟨_, [s1.heap.objs.size], _, _, H1, rfl, I2, turn_tuple a s1.heap.objs.size, ⟨_, Heap.get?_push_size _ rfl, rfl, rfl⟩, fun b hb => by
      have e' : b = s1.heap.objs.size := by simpa using hb
      rw [e']
      exact I1.fpOk (Nat.le_refl _) (I1.hok.fresh (Nat.le_refl _)), q1⟩⟩
def rngL (lo : Int) (n : Nat) : List PyData := (List.range n).map fun i => .int (lo + (i : Nat))
theorem itr_ok (lo : Int) (n : Nat) : ItOk K w (Itr lo n) (rngL lo n) H := fun H' ex => by
  have hl : (rngL lo n).length = n := by simp [rngL]
  refine ⟨fun i hi => ⟨by rw [hl] at hi; exact hi, fun x H2 ⟨e1, e2⟩ => ?_⟩, Nat.le_of_eq hl.symm⟩
  subst e1 e2
  rw [hl] at hi
  exact ⟨Same.refl _, .int (lo + i), by simp [rngL, hi], .int _⟩
def intD : PyData → Option Int
  | .int i => some i
  | _ => none
theorem RP.int {v : V} {d : PyData} {i : Int} (h : RP K w H v d) (e : intD d = some i) : v = .int i := by
  cases d with
  | int j =>
    cases e
    rcases h with h | ⟨_, _, _, e, _⟩ | ⟨_, _, _, e, _⟩
    · cases h; rfl
    · cases e
    · cases e
  | _ => cases e
def small62 (j : Int) : Prop := -(2 ^ 62) ≤ j ∧ j < 2 ^ 62
@[simp] def iRg1 (t : DAt) : DIt := fun δ P => t δ fun rs δ1 => ∃ d j, rds δ1 rs = some [d] ∧ intD d = some j ∧ small62 j ∧ P (rngL 0 j.toNat) δ1
def iRg2 (t : DAt) : DIt := fun δ P => t δ fun rs δ1 => ∃ d d' i j, rds δ1 rs = some [d, d'] ∧ intD d = some i ∧ intD d' = some j ∧ small62 i ∧ small62 j ∧ P (rngL i (j - i).toNat) δ1
theorem di_rg1 {a : Expr} {t : DAt} {p pos : Pos} (hg : Gl X "range") (hm : X.mg "range" = none) (ha : PA X [a] (lA X.K X.w t)) (hs : starEach [a] X.env = [(false, eval a X.env)] := by rfl) : DI X tg (.Call (.Name "range" p) [a] [] pos) (iRg1 t) :=
  PI.mono (pi_range1 hg hm ha hs) fun σ H Q ⟨S, H0, δ, P, R, p, k⟩ => ⟨S, H0, δ, _, R, p, fun vs H1 rs δ1 ⟨d, j, e1, e2, hj, q⟩ R1 rr T => by
    have rp := rr.peek R1 e1
    cases rp with
    | cons h1 h2 =>
      cases h2
      have ev := h1.int e2
      subst ev
      exact ⟨j, rfl, hj.1, hj.2, k _ _ _ _ q R1 (itr_ok 0 j.toNat) T⟩⟩
theorem di_rg2 {a b : Expr} {t : DAt} {p pos : Pos} (hg : Gl X "range") (hm : X.mg "range" = none) (ha : PA X [a, b] (lA X.K X.w t)) (hs : starEach [a, b] X.env = [(false, eval a X.env), (false, eval b X.env)] := by rfl)
    (hs2 : starEach [b] X.env = [(false, eval b X.env)] := by rfl) : DI X tg (.Call (.Name "range" p) [a, b] [] pos) (iRg2 t) :=
  PI.mono (pi_range2 hg hm ha hs hs2) fun σ H Q ⟨S, H0, δ, P, R, p, k⟩ => ⟨S, H0, δ, _, R, p, fun vs H1 rs δ1 ⟨d, d', i, j, e1, e2, e3, hi, hj, q⟩ R1 rr T => by
    have rp := rr.peek R1 e1
    cases rp with
    | cons h1 h2 =>
      cases h2 with
      | cons h2 h3 =>
        cases h3
        have ev := h1.int e2
        have ev2 := h2.int e3
        subst ev ev2
        exact ⟨i, j, rfl, ⟨hi.1, hi.2, hj.1, hj.2⟩, k _ _ _ _ q R1 (itr_ok i (j - i).toNat) T⟩⟩
/-! ### zip, enumerate -/
def zipL (xs ys : List PyData) : List PyData := (xs.zip ys).map fun p => .tuple [p.1, p.2]
theorem zipL_get {xs ys : List PyData} {i : Nat} {x y : PyData} (h1 : xs[i]? = some x) (h2 : ys[i]? = some y) : (zipL xs ys)[i]? = some (.tuple [x, y]) := by
  simp [zipL, List.getElem?_zip_eq_some, h1, h2]
theorem itz_ok {a b : Addr} {o o' : Obj} {xs ys : List V} {ds es : List PyData} (h : H a = some (.frz o (.lst xs))) (h' : H b = some (.frz o' (.lst ys))) (r : RFs K w H xs ds) (r' : RFs K w H ys es) : ItOk K w (Itz K a b) (zipL ds es) H := fun H' ex => by
  have hq : SqL K H' a xs := .inl (.inr ⟨_, ex _ _ h trivial⟩)
  have hq' : SqL K H' b ys := .inl (.inr ⟨_, ex _ _ h' trivial⟩)
  have hl : (zipL ds es).length = min ds.length es.length := by simp [zipL]
  refine ⟨fun i hi => ?_, xs, ys, hq, hq', by rw [hl, r.len, r'.len]; omega⟩
  have h1 : i < ds.length := by omega
  have h2 : i < es.length := by omega
  obtain ⟨v, hv, rf⟩ := r.get (List.getElem?_eq_getElem h1)
  obtain ⟨v', hv', rf'⟩ := r'.get (List.getElem?_eq_getElem h2)
  refine ⟨⟨xs, ys, v, v', hq, hq', hv, hv'⟩, fun x H2 ⟨T, x1, x2, e1, hT, e2, y1, y2⟩ => ?_⟩
  have q1 := y1 xs hq
  have q2 := y2 ys hq'
  rw [hv] at q1
  rw [hv'] at q2
  cases q1; cases q2
  subst e1 e2
  have sm := same_upd (o := .tup [v, v']) hT
  exact ⟨sm, _, zipL_get (List.getElem?_eq_getElem h1) (List.getElem?_eq_getElem h2), RF.tup (SqT.of upd_same) (.cons ((rf.ext ex).ext (Same.ext sm)) (.cons ((rf'.ext ex).ext (Same.ext sm)) .nil))⟩
theorem itzT_ok {a b : Addr} {xs ys : List V} {ds es : List PyData} (h : SqT K H a xs) (h' : SqT K H b ys) (r : RFs K w H xs ds) (r' : RFs K w H ys es) : ItOk K w (RZ.ItzT K a b) (zipL ds es) H := fun H' ex => by
  have hq : SqT K H' a xs := ex.sqt h
  have hq' : SqT K H' b ys := ex.sqt h'
  have hl : (zipL ds es).length = min ds.length es.length := by simp [zipL]
  refine ⟨fun i hi => ?_, xs, ys, hq, hq', by rw [hl, r.len, r'.len]; omega⟩
  have h1 : i < ds.length := by omega
  have h2 : i < es.length := by omega
  obtain ⟨v, hv, rf⟩ := r.get (List.getElem?_eq_getElem h1)
  obtain ⟨v', hv', rf'⟩ := r'.get (List.getElem?_eq_getElem h2)
  refine ⟨⟨xs, ys, v, v', hq, hq', hv, hv'⟩, fun x H2 ⟨T, x1, x2, e1, hT, e2, y1, y2⟩ => ?_⟩
  have q1 := y1 xs hq
  have q2 := y2 ys hq'
  rw [hv] at q1
  rw [hv'] at q2
  cases q1; cases q2
  subst e1 e2
  have sm := same_upd (o := .tup [v, v']) hT
  exact ⟨sm, _, zipL_get (List.getElem?_eq_getElem h1) (List.getElem?_eq_getElem h2), RF.tup (SqT.of upd_same) (.cons ((rf.ext ex).ext (Same.ext sm)) (.cons ((rf'.ext ex).ext (Same.ext sm)) .nil))⟩
@[simp] def iZp (t : DGt) : DIt := fun δ P => t δ fun xs δ1 => ∃ ds es, (xs = [.fz (.list ds), .fz (.list es)] ∨ xs = [.fz (.tuple ds), .fz (.tuple es)]) ∧ P (zipL ds es) δ1
theorem di_zip {a b : Expr} {t : DGt} {p pos tpos : Pos} {elts : List Expr} {kk : Nat} (hg : Gl X "zip") (hm : X.mg "zip" = none) (ha : PA X [a, b] (lGA X.K X.w t))
    (hs : starEach [a, b] X.env = (false, eval a X.env) :: starEach [b] X.env := by rfl) (hpl : (backTo pos (starEach [b] X.env)).any (·.1) = false := by rfl) :
    DI X (.Tuple elts kk tpos) (.Call (.Name "zip" p) [a, b] [] pos) (iZp t) :=
  PI.mono (RZ.pi_zipA hg hm ha hs hpl) fun σ H Q ⟨S, H0, δ, P, R, p, k⟩ => ⟨S, H0, δ, _, R, p, fun vs H1 xs δ1 ⟨ds, es, e, q⟩ R1 rv T => by
    rcases e with e | e
    · subst e
      have rf := rv.rfs (ds := [.list ds, .list es]) rfl
      cases rf with
      | cons f1 f2 =>
        cases f2 with
        | cons f2 f3 =>
          cases f3
          cases f1 with
          | lst x1 y1 =>
            cases f2 with
            | lst x2 y2 => exact ⟨_, _, _, _, rfl, .inl ⟨.inl (.inr ⟨_, x1⟩), .inl (.inr ⟨_, x2⟩), k _ _ _ _ q R1 (itz_ok x1 x2 y1 y2) T⟩⟩
    · subst e
      have rf := rv.rfs (ds := [.tuple ds, .tuple es]) rfl
      cases rf with
      | cons f1 f2 =>
        cases f2 with
        | cons f2 f3 =>
          cases f3
          cases f1 with
          | tup x1 y1 =>
            cases f2 with
            | tup x2 y2 => exact ⟨_, _, _, _, rfl, .inr ⟨x1, x2, k _ _ _ _ q R1 (itzT_ok x1 x2 y1 y2) T⟩⟩⟩

def enumL (xs : List PyData) : List PyData := xs.zipIdx.map fun p => .tuple [.int (p.2 : Nat), p.1]
theorem enumL_get {xs : List PyData} {i : Nat} {x : PyData} (h : xs[i]? = some x) : (enumL xs)[i]? = some (.tuple [.int (i : Nat), x]) := by
  simp [enumL, h]
theorem enumL_len (xs : List PyData) : (enumL xs).length = xs.length := by simp [enumL]
theorem ite_ok {a : Addr} {o : Obj} {xs : List V} {ds : List PyData} (h : H a = some (.frz o (.lst xs))) (r : RFs K w H xs ds) : ItOk K w (Ite K a) (enumL ds) H := fun H' ex => by
  have hq : SqL K H' a xs := .inl (.inr ⟨_, ex _ _ h trivial⟩)
  refine ⟨fun i hi => ?_, xs, hq, by rw [enumL_len, r.len]; exact Nat.le_refl _⟩
  rw [enumL_len] at hi
  obtain ⟨v, hv, rf⟩ := r.get (List.getElem?_eq_getElem hi)
  refine ⟨⟨xs, v, hq, hv⟩, fun x H2 ⟨T, x1, e1, hT, e2, y1⟩ => ?_⟩
  have q1 := y1 xs hq
  rw [hv] at q1
  cases q1
  subst e1 e2
  have sm := same_upd (o := .tup [.int (i : Nat), v]) hT
  exact ⟨sm, _, enumL_get (List.getElem?_eq_getElem hi), RF.tup (SqT.of upd_same) (.cons (.int _) (.cons ((rf.ext ex).ext (Same.ext sm)) .nil))⟩
/-- the tuple at a, its items with their numbers -/
def ItET (K : PySem.W.Frag) (a : Addr) : It where
  go := fun i H => ∃ (xs : List V) (x : V), SqT K H a xs ∧ xs[i]? = some x
  yld := fun i H v H' => ∃ T x, v = .ref T ∧ H T = none ∧ H' = upd H T (.tup [.int (i : Nat), x]) ∧ ∀ xs, SqT K H a xs → xs[i]? = some x
  stop := fun i H => ∃ xs : List V, SqT K H a xs ∧ xs.length = i
theorem itET_ok {a : Addr} {xs : List V} {ds : List PyData} (h : SqT K H a xs) (r : RFs K w H xs ds) : ItOk K w (ItET K a) (enumL ds) H := fun H' ex => by
  have hq : SqT K H' a xs := ex.sqt h
  refine ⟨fun i hi => ?_, xs, hq, by rw [enumL_len, r.len]⟩
  rw [enumL_len] at hi
  obtain ⟨v, hv, rf⟩ := r.get (List.getElem?_eq_getElem hi)
  refine ⟨⟨xs, v, hq, hv⟩, fun x H2 ⟨T, x1, e1, hT, e2, y1⟩ => ?_⟩
  have q1 := y1 xs hq
  rw [hv] at q1
  cases q1
  subst e1 e2
  have sm := same_upd (o := .tup [.int (i : Nat), v]) hT
  exact ⟨sm, _, enumL_get (List.getElem?_eq_getElem hi), RF.tup (SqT.of upd_same) (.cons (.int _) (.cons ((rf.ext ex).ext (Same.ext sm)) .nil))⟩
theorem turn_ET {P : Program} {w : World} {K : PySem.W.Frag} {elts : List Expr} {kk : Nat} {tpos : Pos} (a e it : Addr) :
    Turn P w K (.Tuple elts kk tpos) (ItET K a) [e, it] e (fun i h => (∃ old, IsEnum h e it (i : Int) old) ∧ h.IsTupleIter it a i ∧ e ≠ it ∧ a ≠ it ∧ e ≠ a) where
  mem := List.mem_cons_self ..
  obj := fun i h st b hb => by
    obtain ⟨⟨old, he⟩, ⟨o, ho, hc, hd⟩, _⟩ := st
    rcases (by simpa using hb : b = e ∨ b = it) with z | z
    · rw [z]; exact ⟨_, he, fun _ q => nomatch q⟩
    · rw [z]; exact ⟨o, ho, fun _ q => by rw [hd] at q; cases q⟩
  keep := fun i h h' ⟨⟨old, he⟩, hi, n⟩ k => ⟨⟨old, k e (List.mem_cons_self ..) _ he⟩, hi.at fun o q => k it (by simp) o q, n⟩
  item := by
    intro X hP hw hK hc i pins s σ H E I hf st hg
    subst hP hw hK
    obtain ⟨⟨old, he⟩, hit, n1, n2, n3⟩ := st
    obtain ⟨xs, x, hq, hx⟩ := hg
    obtain ⟨its, rv, p, _⟩ := I.tuple hq
    obtain ⟨u, hu, ru⟩ := rv.get hx
    have hel : e < s.heap.objs.size := Heap.lt_size he
    have hil : it < s.heap.objs.size := by obtain ⟨_, q, _⟩ := hit; exact Heap.lt_size q
    have hlt : i < its.toArray.size := by
      have := (List.getElem?_eq_some_iff.mp hu).1
      simpa using this
    refine wpAny_pyNext_enum_itemD (i := i) (Draws.tuple (A := X.A.in1) (I.ok.hd hc) it a n2 its.toArray) he ⟨hit, p⟩ hlt n1 (by simp [n1, n3]) fun y h' tk hy ho hs' hT hsz hk => ?_
    have ey : y = u := by
      have hy : its.toArray[i]? = some y := hy
      rw [List.getElem?_toArray, hu] at hy
      exact (Option.some.inj hy).symm
    subst ey
    refine ⟨_, rfl, wpAny_letOwnedTupleGo_enum (s := { s with heap := h', toks := tk + 1 }) ho fun h2 he' sb => ?_⟩
    have hT2 := (sb.2 _ (Nat.ne_of_gt hel)).trans hT
    have new : ObjOk X.prog X.w (upd H s.heap.objs.size (.tup [.int (i : Nat), x])) h2 s.heap.objs.size (.tup [.int (i : Nat), x]) :=
      ⟨(by decide : 2 ≤ sizeLine), [.int i tk, y], .cons ⟨_, rfl⟩ (.cons ru .nil), _, hT2, rfl, _, rfl⟩
    have I1 := I.turnedNew (t' := tk + 1) (ch := [e, it]) (fun b ob hb q => (sb.2 b (fun z => hb (by simp [z]))).trans (hk b ob (fun z => hb (by simp [z])) (fun z => hb (by simp [z])) q)) hf (Nat.le_refl _) new
    refine ⟨.ref s.heap.objs.size, _, I1, rfl, ⟨_, x, rfl, I.hok.fresh (Nat.le_refl _), rfl, fun ys hy => by rw [I.tuple_inj hy hq]; exact hx⟩, ⟨⟨y, ?_⟩, hs'.1.at fun o q => (sb.2 it (Ne.symm n1)).trans q, n1, n2, n3⟩, fun b hb => ?_⟩
    · have e1 : ((i + 1 : Nat) : Int) = (i : Int) + 1 := by omega
      rw [e1]; exact he'
    · have hb' : b < s.heap.objs.size := by
        rcases (by simpa using hb : b = e ∨ b = it) with z | z
        · rw [z]; exact hel
        · rw [z]; exact hil
      rw [upd_ne (Nat.ne_of_lt hb')]
      exact (hf b hb).1
  done := by
    intro X hP hw hK hc i pins s σ H E I hf st hg
    subst hP hw hK
    obtain ⟨⟨old, he⟩, hit, n1, n2, n3⟩ := st
    obtain ⟨xs, hq, hx⟩ := hg
    obtain ⟨its, rv, p, _⟩ := I.tuple hq
    obtain ⟨f0, f1, f2, f3, f4, f5⟩ := hf it (by simp)
    have hl : i = its.toArray.size := by
      have := rv.length
      simp only [List.size_toArray]; omega
    subst hl
    exact wpAny_pyNext_enum_endD (Draws.tuple (A := X.A.in1) (I.ok.hd hc) it a n2 its.toArray) he ⟨hit, p⟩ fun h' eb => ⟨rfl, I.turned (t' := s.toks) (fun b o hb q => eb b o hb q) f0 f1 f3 f4 f5⟩
  self := fun A i s Q E st h => let ⟨⟨_, he⟩, _⟩ := st; wpAny_pyIter_enum he h

theorem meets_enum_tup (l : Addr) (items : Array Value) (n : Nat) (dct : Option Addr) (sl : Array (Option Value)) :
    Meets (Builtin.«enumerate.__new__» ⟨[.type "enumerate", .ref l], []⟩) (fun _ R s => s.heap.IsTuple l items ∧
      R (.ok (.ret (.ref (s.heap.push { cls := .type "tuple_iterator", data := .fields #[.ref l, .int 0 0] }).objs.size)))
        { s with heap := (s.heap.push { cls := .type "tuple_iterator", data := .fields #[.ref l, .int 0 0] }).push { cls := .type "enumerate", data := .fields #[.none, .bool false, .ref s.heap.objs.size, rawInt 0, .none, .none] } }) :=
  .of_wp fun prog w A R s h => by
    obtain ⟨hp, g, d, tk, os⟩ := s
    obtain ⟨hl, h⟩ := h
    have hsub := sub_enumerate
    have hT : Heap.IsTuple (Shared.heap ⟨hp, g, d, tk, os⟩) l items := hl
    wp_walk using wpAny_pyIter_tuple hT
    refine wpAny_stack_any fun st => wpAny_pure ?_
    split
    · rename_i c _ _ _ _ _
      cases (c == Value.type "enumerate")
      · wp_walk using wpAny_pyIter_tuple hT
        exact ⟨_, rfl, h⟩
      · wp_walk using wpAny_pyIter_tuple hT
        exact ⟨_, rfl, h⟩
    · wp_walk using wpAny_pyIter_tuple hT
      exact ⟨_, rfl, h⟩
theorem call_enum_tup {prog : Program} {w : World} {A : Around} {E : Value → Shared → Prop} {s : Shared} {l : Addr} {items : Array Value} {Q : Value → Shared → Prop} (hL : s.heap.IsTuple l items)
    (h : ∀ h', IsEnum h' (s.heap.objs.size + 1) s.heap.objs.size 0 .none → h'.IsTupleIter s.heap.objs.size l 0 → h'.objs.size = s.heap.objs.size + 2 →
      (∀ b o, s.heap.get? b = some o → h'.get? b = some o) → Q (.ref (s.heap.objs.size + 1)) { s with heap := h' }) :
    wpAny (model prog w) A (call (.type "enumerate") [.ref l]) Q E s := by
  refine callType_new F.called_enumerate (by decide) (F.typeCall_enumerate_1 _) (F.newCall_enumerate_1 _) (fun obj => F.args_object_init_2 obj _) F.entry_enumerate_new
    (meets_enum_tup l items 0 none #[]) ⟨hL, ?_⟩
  generalize eo : ({ cls := .type "tuple_iterator", data := .fields #[.ref l, .int 0 0] } : Obj) = o1
  have hz : (s.heap.push o1).objs.size = s.heap.objs.size + 1 := Heap.size_push ..
  show _ ∧ _
  rw [hz]
  generalize eo2 : ({ cls := .type "enumerate", data := .fields #[.none, .bool false, .ref s.heap.objs.size, rawInt 0, .none, .none] } : Obj) = o2
  have he : ((s.heap.push o1).push o2).get? (s.heap.objs.size + 1) = some o2 := by
    have := Heap.get?_push_size (s.heap.push o1) (o := o2) (by rw [← eo2]; rfl)
    rw [hz] at this
    exact this
  have he' : IsEnum ((s.heap.push o1).push o2) (s.heap.objs.size + 1) s.heap.objs.size 0 .none := by rw [← eo2] at he ⊢; exact he
  refine ⟨⟨_, he', rfl⟩, h _ he' ⟨o1, Heap.get?_push_of_some _ (Heap.get?_push_size _ (by rw [← eo]; rfl)), by rw [← eo], by rw [← eo]; rfl⟩ (by rw [Heap.size_push, hz]) fun b o x => Heap.get?_push_of_some _ (Heap.get?_push_of_some _ x)⟩
@[simp] def iEn (t : DTx) : DIt := fun δ P => t δ fun x δ1 => ∃ ds, seqD x = some ds ∧ P (enumL ds) δ1
theorem di_enum {X : Cx} {e : Expr} {t : DTx} {p pos tpos : Pos} {elts : List Expr} {kk : Nat} (hg : Gl X "enumerate") (hm : X.mg "enumerate" = none) (ha : DG X e t) (hs : starEach [e] X.env = [(false, eval e X.env)] := by rfl)
    (hs0 : starEach [e] X.env = (false, eval e X.env) :: starEach [] X.env := by rfl) : DI X (.Tuple elts kk tpos) (.Call (.Name "enumerate" p) [e] [] pos) (iEn t) := ⟨fun pins s σ H R I q => by
  obtain ⟨S, H0, δ, P, R0, p0, k⟩ := q
  have hq : tCons (lG X.K X.w t) tNil σ H fun vs H1 => (∃ a xs, vs = [.ref a] ∧ SqL X.K H1 a xs ∧ R (Ite X.K a) H1) ∨ (∃ a xs, vs = [.ref a] ∧ SqT X.K H1 a xs ∧ R (ItET X.K a) H1) :=
    ⟨S, H0, δ, _, R0, p0, fun v H1 x δ1 ⟨ds, es, q⟩ R1 n o rv T => by
      cases x with
      | no => cases es
      | src => cases es
      | ol _ => cases o
      | od _ => cases o
      | fz d =>
        cases d with
        | list l =>
          cases es
          cases rv with
          | lst hx r => exact .inl ⟨_, _, rfl, .inl (.inr ⟨_, hx⟩), k _ _ _ _ q R1 (ite_ok hx r) T⟩
        | tuple l =>
          cases es
          cases rv with
          | tup hx r => exact .inr ⟨_, _, rfl, hx, k _ _ _ _ q R1 (itET_ok hx r) T⟩
        | _ => cases es⟩
  refine Call_ (ld_blt I hg hm boot_enumerate (PyProof.Rows.callWith_type1 (thn ((pa_cons ha pa_nil hs0).run pos pins s σ H _ I hq) fun us s1 ⟨vs, H1, I1, r1, q1⟩ => ?_) hs rfl))
  have fr : ∀ b, b ∈ [s1.heap.objs.size + 1, s1.heap.objs.size] → FpOk X pins H1 b := fun b hb => by
    have hle : s1.heap.objs.size ≤ b := by
      rcases (by simpa using hb : b = s1.heap.objs.size + 1 ∨ b = s1.heap.objs.size) with z | z
      · rw [z]; exact Nat.le_succ _
      · rw [z]; exact Nat.le_refl _
    exact I1.fpOk hle (I1.hok.fresh hle)
  rcases q1 with ⟨a, xs, ex, hs, q1⟩ | ⟨a, xs, ex, hs, q1⟩
  · subst ex
    cases r1 with
    | cons r rr =>
      cases rr
      cases r
      obtain ⟨its, rv, p', _⟩ := I1.list hs
      refine call_enumerate_list p'.isList fun h' he hit hsz hk => wpAny_pyIter_enum he ?_
      have I2 : Inv X pins σ H1 { s1 with heap := h' } := I1.kept (t' := s1.toks) hk
      exact ⟨_, _, _, _, H1, rfl, I2, turn_enum a (s1.heap.objs.size + 1) s1.heap.objs.size, ⟨⟨.none, he⟩, hit, Nat.succ_ne_self _⟩, fr, q1⟩
  · subst ex
    cases r1 with
    | cons r rr =>
      cases rr
      cases r
      obtain ⟨its, rv, p', _⟩ := I1.tuple hs
      have hal : a < s1.heap.objs.size := by obtain ⟨o, ho, _⟩ := p'; exact Heap.lt_size ho
      refine call_enum_tup p' fun h' he hit hsz hk => wpAny_pyIter_enum he ?_
      have I2 : Inv X pins σ H1 { s1 with heap := h' } := I1.kept (t' := s1.toks) hk
      exact ⟨_, _, _, _, H1, rfl, I2, turn_ET a (s1.heap.objs.size + 1) s1.heap.objs.size, ⟨⟨.none, he⟩, hit, Nat.succ_ne_self _, Nat.ne_of_lt hal, (Nat.ne_of_lt (Nat.lt_succ_of_lt hal)).symm⟩, fr, q1⟩⟩
end
end DL
set_option maxHeartbeats 2000000
namespace DL
open PySem PySem.Spec PyProof.Rows L2
section
variable {X : Cx} {K : PySem.W.Frag} {w : World} {S : Option Src} {H0 H H' : Hp} {σ σ' : Sl} {δ δ' : DEnv}
variable {tg e c : Expr} {es : List Expr} {st : Stmt} {pos : Pos}
/-! ## comprehensions -/
def wpD (δ : DEnv) : List Nat → DEnv
  | [] => δ
  | v :: vs => (wpD δ vs).set v .no
/-- the outer slots vs again -/
def unw (δ1 δ : DEnv) : List Nat → DEnv
  | [] => δ
  | v :: vs => (unw δ1 δ vs).set v (δ1[v]?.getD .no)
theorem wpD_len (δ : DEnv) : ∀ vs, (wpD δ vs).length = δ.length
  | [] => rfl
  | v :: vs => by show ((wpD δ vs).set v .no).length = _; rw [List.length_set, wpD_len δ vs]
theorem wipe_len (σ : Sl) : ∀ vs, (wipe σ vs).length = σ.length := wipe_length σ
theorem wipe_out {i : Nat} : ∀ {vs : List Nat}, i ∉ vs → (wipe σ vs)[i]? = σ[i]?
  | [], _ => rfl
  | v :: vs, h => by
    show ((wipe σ vs).set v none)[i]? = _
    rw [List.getElem?_set_ne (fun z => h (by rw [z]; exact List.mem_cons_self ..))]
    exact wipe_out fun z => h (List.mem_cons_of_mem _ z)
theorem wipe_in {i : Nat} : ∀ {vs : List Nat}, i ∈ vs → i < σ.length → (wipe σ vs)[i]? = some none
  | [], h, _ => by cases h
  | v :: vs, h, hl => by
    show ((wipe σ vs).set v none)[i]? = _
    by_cases hv : v = i
    · subst hv; exact List.getElem?_set_self (by rw [wipe_len]; exact hl)
    · rw [List.getElem?_set_ne hv]
      exact wipe_in (by rcases List.mem_cons.mp h with z | z; exact absurd z.symm hv; exact z) hl
theorem wpD_out {i : Nat} : ∀ {vs : List Nat}, i ∉ vs → (wpD δ vs)[i]? = δ[i]?
  | [], _ => rfl
  | v :: vs, h => by
    show ((wpD δ vs).set v .no)[i]? = _
    rw [List.getElem?_set_ne (fun z => h (by rw [z]; exact List.mem_cons_self ..))]
    exact wpD_out fun z => h (List.mem_cons_of_mem _ z)
theorem wpD_in {i : Nat} : ∀ {vs : List Nat}, i ∈ vs → i < δ.length → (wpD δ vs)[i]? = some .no
  | [], h, _ => by cases h
  | v :: vs, h, hl => by
    show ((wpD δ vs).set v .no)[i]? = _
    by_cases hv : v = i
    · subst hv; exact List.getElem?_set_self (by rw [wpD_len]; exact hl)
    · rw [List.getElem?_set_ne hv]
      exact wpD_in (by rcases List.mem_cons.mp h with z | z; exact absurd z.symm hv; exact z) hl
theorem unw_len (δ1 δ : DEnv) : ∀ vs, (unw δ1 δ vs).length = δ.length
  | [] => rfl
  | v :: vs => by show ((unw δ1 δ vs).set v _).length = _; rw [List.length_set, unw_len δ1 δ vs]
theorem unw_out {δ1 : DEnv} {i : Nat} : ∀ {vs : List Nat}, i ∉ vs → (unw δ1 δ vs)[i]? = δ[i]?
  | [], _ => rfl
  | v :: vs, h => by
    show ((unw δ1 δ vs).set v _)[i]? = _
    rw [List.getElem?_set_ne (fun z => h (by rw [z]; exact List.mem_cons_self ..))]
    exact unw_out fun z => h (List.mem_cons_of_mem _ z)
theorem unw_in {δ1 : DEnv} {i : Nat} : ∀ {vs : List Nat}, i ∈ vs → i < δ.length → (unw δ1 δ vs)[i]? = some (δ1[i]?.getD .no)
  | [], h, _ => by cases h
  | v :: vs, h, hl => by
    show ((unw δ1 δ vs).set v _)[i]? = _
    by_cases hv : v = i
    · subst hv; exact List.getElem?_set_self (by rw [unw_len]; exact hl)
    · rw [List.getElem?_set_ne hv]
      exact unw_in (by rcases List.mem_cons.mp h with z | z; exact absurd z.symm hv; exact z) hl
theorem get_lt {α : Type} {l : List α} {i : Nat} {x : α} (h : l[i]? = some x) : i < l.length := (List.getElem?_eq_some_iff.mp h).1
theorem Rep.wipe (R : Rep K w S H0 σ H δ) (vs : List Nat) : Rep K w S H0 (wipe σ vs) H (wpD δ vs) := by
  have out : ∀ (i : Nat) (x : DV), (wpD δ vs)[i]? = some x → x ≠ .no → i ∉ vs ∧ δ[i]? = some x := fun i x h n => by
    have hn : i ∉ vs := fun z => by
      have hl := get_lt h
      rw [wpD_len] at hl
      rw [wpD_in z hl] at h
      cases h
      exact n rfl
    rw [wpD_out hn] at h
    exact ⟨hn, h⟩
  have oo : ∀ {x : DV}, x.own = true → x ≠ .no := fun h z => by rw [z] at h; cases h
  refine ⟨by rw [wipe_len, wpD_len]; exact R.len, fun i x h n => ?_, fun i j a x y h1 h2 h3 h4 o1 o2 => ?_, R.keep, R.src⟩
  · obtain ⟨hn, h⟩ := out i x h n
    rw [wipe_out hn]
    exact R.slot i x h n
  · obtain ⟨n1, h3⟩ := out i x h3 (oo o1)
    obtain ⟨n2, h4⟩ := out j y h4 (oo o2)
    rw [wipe_out n1] at h1
    rw [wipe_out n2] at h2
    exact R.sep i j a x y h1 h2 h3 h4 o1 o2
theorem ownAt_wipe {vs : List Nat} {a : Addr} (h : OwnAt (wipe σ vs) (wpD δ vs) a) : OwnAt σ δ a := by
  obtain ⟨i, x, h1, h2, h3⟩ := h
  have hn : i ∉ vs := fun z => by
    have hl := get_lt h2
    rw [wpD_len] at hl
    rw [wpD_in z hl] at h2
    cases h2; cases h3
  rw [wipe_out hn] at h1
  rw [wpD_out hn] at h2
  exact ⟨i, x, h1, h2, h3⟩
theorem wipe_eq (hl : σ'.length = σ.length) {tv vs : List Nat} (hw : ∀ i, i ∉ tv → σ'[i]? = σ[i]?) (sub : ∀ i ∈ tv, i ∈ vs) : L2.wipe σ' vs = L2.wipe σ vs := by
  apply List.ext_getElem?
  intro i
  by_cases h : i ∈ vs
  · by_cases hi : i < σ.length
    · rw [wipe_in h hi, wipe_in h (by rw [hl]; exact hi)]
    · rw [List.getElem?_eq_none (by rw [wipe_len]; omega), List.getElem?_eq_none (by rw [wipe_len]; omega)]
  · rw [wipe_out h, wipe_out h]
    exact hw i fun z => h (sub i z)
theorem wipe_wipe (vs : List Nat) : L2.wipe (L2.wipe σ vs) vs = L2.wipe σ vs := by
  apply List.ext_getElem?
  intro i
  by_cases h : i ∈ vs
  · by_cases hi : i < σ.length
    · rw [wipe_in h hi, wipe_in h (by rw [wipe_len]; exact hi)]
    · rw [List.getElem?_eq_none (by rw [wipe_len, wipe_len]; omega), List.getElem?_eq_none (by rw [wipe_len]; omega)]
  · rw [wipe_out h, wipe_out h]
/-- how far a comprehension's block has come: from σ, δ over H to δ' over H' (the block's slots vs apart) -/
structure Blk (S : Option Src) (vs : List Nat) (σ : Sl) (δ : DEnv) (H : Hp) (δ' : DEnv) (H' : Hp) : Prop where
  keep : ∀ a o, H a = some o → NotSrc S a → ¬ OwnAt (L2.wipe σ vs) (wpD δ vs) a → H' a = some o
  own : ∀ a, OwnAt (L2.wipe σ vs) δ' a → OwnAt (L2.wipe σ vs) (wpD δ vs) a
  has : ∀ (i : Nat) (x : DV), i ∉ vs → δ[i]? = some x → x ≠ .no → ∃ y, δ'[i]? = some y ∧ y ≠ .no
  trk : ∀ a, H a ≠ none → H' a ≠ none
@[simp] abbrev bYes : DBt := fun δ P => P true δ
theorem dts_yes : PTs X [] (lB X.K X.w bYes) := ⟨fun pins s σ H Q I h => by
  obtain ⟨S, H0, δ, P, R, p, k⟩ := h
  exact pts_nil.run pins s σ H Q I (k true H δ p R (Stp.refl _ _ _ _))⟩
theorem dts_test {t : DBt} (h : DB X c t) : PTs X [c] (lB X.K X.w t) := pts_one h
def tLcD (ti : DIt) (g : TGd) (tt : DBt) (te : DTx) (vs : List Nat) : DT := fun δ P => ti δ fun ds δ1 => ∃ W : Nat → List PyData → DEnv → Prop, W 0 [] (wpD δ1 vs) ∧
  ∀ i acc δ, W i acc δ → (∀ d, ds[i]? = some d → g d δ fun δ2 => tt δ2 fun b δ3 => if b = true then te δ3 fun x δ4 => ∃ y, x = .fz y ∧ acc.length < sizeLine ∧ W (i + 1) (acc ++ [y]) (wpD δ4 vs) else W (i + 1) acc (wpD δ3 vs)) ∧
    (i = ds.length → P (.val (.ol acc)) (unw δ1 δ vs))
theorem lc_lE {X : Cx} {ti : DIt} {g : TGd} {tt : DBt} {te : DTx} {vs tv : List Nat} {Q : VK} (sub : ∀ i ∈ tv, i ∈ vs) (h : lE X.K X.w (tLcD ti g tt te vs) σ H Q) : tLc (lI X.K X.w ti) (lGt X.K X.w tv g) (lB X.K X.w tt) (lG X.K X.w te) vs σ H Q := by
  obtain ⟨S, H0, δ, P, R, p, k⟩ := h
  refine ⟨S, H0, δ, _, R, p, fun J H1 ds δ1 ⟨W, w0, turn⟩ R1 it T1 D hD => ?_⟩
  have hD0 := R1.fresh hD
  have smD : Same H1 (upd H1 D (.lst [])) := same_upd hD
  have R1' := R1.same smD
  refine ⟨fun i m H => m = ds.length - i ∧ i ≤ ds.length ∧ ∃ δ acc xs, Rep X.K X.w S H0 (L2.wipe σ vs) H δ ∧ Blk S vs σ δ1 H1 δ H ∧ H D = some (.lst xs) ∧ RFs X.K X.w H xs acc ∧ W i acc δ, ⟨_, rfl, Nat.zero_le _, wpD δ1 vs, [], [], R1'.wipe vs, ⟨fun a o h _ _ => smD a o h, fun _ h => h, fun i x hn h n => ⟨x, by rw [wpD_out hn]; exact h, n⟩, (Stp.same (S := S) (σ := σ) (δ := δ1) smD).trk⟩, upd_same, .nil, w0⟩, ?_⟩
  rintro i m H' ⟨rfl, hi, δ', acc, xs, R', B, hx, rf, wi⟩
  obtain ⟨t1, t2⟩ := turn i acc δ' wi
  have ex1 : Ext H1 H' := fun b o hb f => by
    have q := R1.fx hb f
    exact B.keep b o hb q.1 fun z => q.2 (ownAt_wipe z)
  obtain ⟨go, sp⟩ := it H' ex1
  have nD : NotSrc S D ∧ ¬ OwnAt (L2.wipe σ vs) (wpD δ1 vs) D := ⟨hD0.2.1, fun z => hD0.2.2 (ownAt_wipe z)⟩
  by_cases hlt : i < ds.length
  · obtain ⟨g1, g2⟩ := go i hlt
    refine .inr ⟨g1, fun H => ∃ δ acc xs, Rep X.K X.w S H0 (L2.wipe σ vs) H δ ∧ Blk S vs σ δ1 H1 δ H ∧ H D = some (.lst xs) ∧ RFs X.K X.w H xs acc ∧ W (i + 1) acc δ, fun H2 q => ⟨_, by omega, rfl, hlt, q⟩, fun x H2 y => ?_⟩
    obtain ⟨sm, d, hd, rfd⟩ := g2 x H2 y
    refine ⟨S, H0, δ', d, _, R'.same sm, rfd, t1 d hd, fun σ2 δ2 q2 R2 G2 => ⟨?_, ?_⟩⟩
    · rw [wipe_eq G2.len G2.wr sub, wipe_wipe]
    have ew : L2.wipe σ2 vs = L2.wipe σ vs := by rw [wipe_eq G2.len G2.wr sub, wipe_wipe]
    have notD : ∀ a, a = D → ¬ OwnAt (L2.wipe σ vs) δ' a := fun a ea z => nD.2 (by rw [← ea]; exact B.own a z)
    refine ⟨S, H0, δ2, _, R2, q2, fun b H3 δ3 q3 R3 T3 => ?_⟩
    have keep3 : ∀ a o, H' a = some o → NotSrc S a → ¬ OwnAt (L2.wipe σ vs) δ' a → H3 a = some o := fun a o h n no => T3.keep a o (sm a o h) n fun z => no (G2.own a z)
    have own3 : ∀ a, OwnAt (L2.wipe σ vs) (wpD δ3 vs) a → OwnAt (L2.wipe σ vs) δ' a := fun a z => by
      rw [← ew] at z
      exact G2.own a (T3.own a (ownAt_wipe z))
    have has3 : ∀ (j : Nat) (z : DV), j ∉ vs → δ'[j]? = some z → z ≠ .no → ∃ y, δ3[j]? = some y ∧ y ≠ .no := fun j z hn e n => by
      obtain ⟨y, e1, n1⟩ := G2.has j z (fun q => hn (sub j q)) e n
      exact T3.has j y e1 n1
    have trk3 : ∀ a, H' a ≠ none → H3 a ≠ none := fun a z => T3.trk a fun q => z (by
      cases q2 : H' a with
      | none => rfl
      | some o => rw [sm a o q2] at q; cases q)
    cases b with
    | false =>
      refine ⟨wpD δ3 vs, acc, xs, by rw [← ew]; exact R3.wipe vs, ⟨fun a o h n no => keep3 a o (B.keep a o h n no) n fun z => no (B.own a z), fun a z => B.own a (own3 a z), fun j z hn e n => ?_, fun a z => trk3 a (B.trk a z)⟩, ?_, ?_, q3⟩
      · obtain ⟨y, e1, n1⟩ := B.has j z hn e n
        obtain ⟨y2, e2, n2⟩ := has3 j y hn e1 n1
        exact ⟨y2, by rw [wpD_out hn]; exact e2, n2⟩
      · exact keep3 D _ hx nD.1 (notD D rfl)
      · exact rf.ext ((Same.ext sm).trans (T3.ext R2))
    | true =>
      refine ⟨S, H0, δ3, _, R3, q3, fun v H4 y δ4 ⟨dd, ey, hz, q4⟩ R4 n4 o4 rv4 T4 => ?_⟩
      subst ey
      have T34 := T3.trans T4
      have hx4 : H4 D = some (.lst xs) := T34.keep D _ (sm D _ hx) nD.1 fun z => notD D rfl (G2.own D z)
      have rf4 : RFs X.K X.w H4 xs acc := rf.ext ((Same.ext sm).trans (T34.ext R2))
      have nD4 : ¬ OwnAt σ2 δ4 D := fun z => notD D rfl (G2.own D (T34.own D z))
      have e4 : Ext H4 (upd H4 D (.lst (xs ++ [v]))) := ext_upd hx4 fun z => z
      refine ⟨xs, hx4, by rw [rf4.len]; exact hz, wpD δ4 vs, acc ++ [dd], xs ++ [v], ?_, ⟨fun a o h n no => ?_, fun a z => ?_, fun j z hn e n => ?_, fun a z => ?_⟩, upd_same, (rf4.ext e4).app (.one (RF.ext e4 rv4)), q4⟩
      · rw [← ew]
        exact (R4.put hx4 (fun z => z) hD0.1 nD.1 nD4).wipe vs
      · rw [upd_ne (fun z => by rw [z, hD] at h; cases h)]
        exact T34.keep a o (sm a o (B.keep a o h n no)) n fun z => no (B.own a (G2.own a z))
      · rw [← ew] at z
        exact B.own a (G2.own a (T34.own a (ownAt_wipe z)))
      · obtain ⟨y, e1, n1⟩ := B.has j z hn e n
        obtain ⟨y2, e2, n2⟩ := G2.has j y (fun q => hn (sub j q)) e1 n1
        obtain ⟨y3, e3, n3⟩ := T34.has j y2 e2 n2
        exact ⟨y3, by rw [wpD_out hn]; exact e3, n3⟩
      · by_cases ha : a = D
        · rw [ha, upd_same]; exact fun z => by cases z
        · rw [upd_ne ha]
          exact T34.trk a fun q => (B.trk a z) (by
            cases q2 : H' a with
            | none => rfl
            | some o => rw [sm a o q2] at q; cases q)
  · have e : i = ds.length := by omega
    have oo : ∀ {x : DV}, x.own = true → x ≠ .no := fun h z => by rw [z] at h; cases h
    have hlen : δ'.length = δ1.length := by rw [← R'.len, wipe_len]; exact R1.len
    have un : ∀ (j : Nat) (x : DV), (unw δ1 δ' vs)[j]? = some x → (j ∈ vs ∧ δ1[j]? = some x) ∨ (j ∉ vs ∧ δ'[j]? = some x) := fun j x h => by
      by_cases hv : j ∈ vs
      · have hl := get_lt h
        rw [unw_len] at hl
        rw [unw_in hv hl] at h
        rw [List.getElem?_eq_getElem (by omega : j < δ1.length)] at h ⊢
        exact .inl ⟨hv, h⟩
      · rw [unw_out hv] at h
        exact .inr ⟨hv, h⟩
    have ownU : ∀ a, OwnAt σ (unw δ1 δ' vs) a → OwnAt σ δ1 a := fun a ⟨j, x, h1, h2, h3⟩ => by
      rcases un j x h2 with ⟨_, g⟩ | ⟨hv, g⟩
      · exact ⟨j, x, h1, g, h3⟩
      · exact ownAt_wipe (B.own a ⟨j, x, by rw [wipe_out hv]; exact h1, g, h3⟩)
    -- an owner among vs is no owner of the block
    have apart : ∀ (j : Nat) (x : DV) (a : Addr), j ∈ vs → σ[j]? = some (some (.ref a)) → δ1[j]? = some x → x.own = true → ¬ OwnAt (L2.wipe σ vs) (wpD δ1 vs) a := fun j x a hv h1 h2 h3 ⟨m, y, g1, g2, g3⟩ => by
      have hm : m ∉ vs := fun z => by
        have hl := get_lt g2
        rw [wpD_len] at hl
        rw [wpD_in z hl] at g2
        cases g2; cases g3
      rw [wipe_out hm] at g1
      rw [wpD_out hm] at g2
      exact hm (by rw [R1.sep m j a y x g1 h1 g2 h2 g3 h3]; exact hv)
    refine .inl ⟨by rw [e]; exact sp, k _ _ _ _ (t2 e) ⟨by rw [unw_len, hlen]; exact R1.len, fun j x h n => ?_, fun j m a x y h1 h2 h3 h4 o1 o2 => ?_, R'.keep, R'.src⟩ ⟨(fun z => by cases z), ⟨D, rfl, hD0.1, hD0.2.1, xs, hx, rf⟩, fun _ a ea z => ?_⟩ (fun _ a ea => ?_)
      (T1.trans ⟨fun a o h n no => B.keep a o h n fun z => no (ownAt_wipe z), ownU, fun j x h n => ?_, B.trk⟩)⟩
    · rcases un j x h with ⟨hv, g⟩ | ⟨hv, g⟩
      · obtain ⟨v, e1, rv⟩ := R1.slot j x g n
        refine ⟨v, e1, rv.at ex1 fun a ea ow o ho => ?_⟩
        rw [ea] at e1 rv
        obtain ⟨_, _, _, _, _, ns⟩ := own_at rv ow
        exact B.keep a o ho ns (apart j x a hv e1 g ow)
      · obtain ⟨v, e1, rv⟩ := R'.slot j x g n
        rw [wipe_out hv] at e1
        exact ⟨v, e1, rv⟩
    · rcases un j x h3 with ⟨v1, g1⟩ | ⟨v1, g1⟩ <;> rcases un m y h4 with ⟨v2, g2⟩ | ⟨v2, g2⟩
      · exact R1.sep j m a x y h1 h2 g1 g2 o1 o2
      · exact (apart j x a v1 h1 g1 o1 (B.own a ⟨m, y, by rw [wipe_out v2]; exact h2, g2, o2⟩)).elim
      · exact (apart m y a v2 h2 g2 o2 (B.own a ⟨j, x, by rw [wipe_out v1]; exact h1, g1, o1⟩)).elim
      · exact R'.sep j m a x y (by rw [wipe_out v1]; exact h1) (by rw [wipe_out v2]; exact h2) g1 g2 o1 o2
    · cases ea
      exact hD0.2.2 (ownU _ z)
    · cases ea
      cases q : H D with
      | none => rfl
      | some o => exact absurd hD (T1.trk D (by rw [q]; exact fun z => by cases z))
    · by_cases hv : j ∈ vs
      · refine ⟨x, ?_, n⟩
        rw [unw_in hv (by have := get_lt h; omega), h]
        rfl
      · obtain ⟨y, e1, n1⟩ := B.has j x hv h n
        exact ⟨y, by rw [unw_out hv]; exact e1, n1⟩
end
end DL
set_option maxHeartbeats 2000000
namespace DL
open PySem PySem.Spec PyProof.Rows L2
/-! ## defs: what they promise where no repr is running -/
structure FG (P : Program) (w : World) (K : PySem.W.Frag) (mg : Str → Option Value) (base : Heap) (k : Nat) (f : Addr) (fd : FuncData) (ps : List Str) (sp : Sp) : Prop where
  few : ∀ vs H Q E, sp vs H Q E → vs.length = ps.length
  go : ∀ (A : Around) (outer : List Env) (s : Shared) (H : Hp) (args : Args) (us : List Value) (vs : List V) (Q : VK), Room k A → A.guards = some [] → Env0 P w K mg base A outer s H →
    BindsTo s fd args (ps.zip us) → Vals vs us → sp vs H Q E0 → codeAny (model P w) A (.call (.ref f) args) (CR CX0 outer P w H s Q E0) s
theorem FG.mono {P : Program} {w : World} {K : PySem.W.Frag} {mg : Str → Option Value} {base : Heap} {j k : Nat} {f : Addr} {fd : FuncData} {ps : List Str} {sp : Sp} (F : FG P w K mg base j f fd ps sp) (h : j ≤ k) : FG P w K mg base k f fd ps sp :=
  ⟨F.few, fun A outer s H args us vs Q r => F.go A outer s H args us vs Q (r.mono h)⟩
theorem FG.imp {P : Program} {w : World} {K : PySem.W.Frag} {mg : Str → Option Value} {base : Heap} {k : Nat} {f : Addr} {fd : FuncData} {ps : List Str} {sp sq : Sp} (F : FG P w K mg base k f fd ps sp) (h : ∀ vs H Q E, sq vs H Q E → sp vs H Q E) : FG P w K mg base k f fd ps sq :=
  ⟨fun vs H Q E q => F.few vs H Q E (h _ _ _ _ q), fun A outer s H args us vs Q r g e b v q => F.go A outer s H args us vs Q r g e b v (h _ _ _ _ q)⟩
section
variable {X : Cx} {k : Nat} {f : Addr} {fd : FuncData} {ps : List Str} {sp : Sp} {x : Str} {p pos : Pos} {e : Expr} {es : List Expr} {t : TA}
theorem run_fg {pins : List (Addr × Obj)} {σ : Sl} {H : Hp} {s : Shared} {Q : VK} {us : List Value} {vs : List V} (F : FG X.prog X.w X.K X.mg X.base k f fd ps sp) (hg : X.A.guards = some []) (hr : Room k X.A) (hb : Binds X.K fd ps [])
    (I : Inv X pins σ H s) (r : Vals vs us) (h : sp vs H Q E0) : wpAny (model X.prog X.w) X.A (call (.ref f) us) (EP X pins σ Q) X.xe s := by
  have hl : (us ++ []).length = ps.length := by rw [List.append_nil, ← r.length]; exact F.few _ _ _ _ h
  have hb' := hb s us I.kIn hl
  rw [List.append_nil] at hb'
  refine wpAny_call (codeAny_mono (F.go X.A X.stack s H ⟨us, []⟩ us vs Q hr hg I.env0 hb' r h) fun r s' hq => ?_)
  cases r with
  | error e => exact hq.elim
  | ok fl =>
    cases fl with
    | ret u => exact I.after hq
    | _ => exact False.elim hq
theorem pe_callG (F : FG X.prog X.w X.K X.mg X.base k f fd ps sp) (hG : X.A.guards = some []) (hr : Room k X.A) (hg : Gl X x) (hm : X.mg x = some (.ref f)) (hk : PySem.W.keepIn X.K (.ref f) = true) (hb : Binds X.K fd ps [])
    (ha : PA X (e :: es) t) (hdb : (x == ("__debug__" : Str)) = false := by decide)
    (he : starEach (e :: es) X.env = (false, eval e X.env) :: starEach es X.env := by rfl) (hpl : (backTo pos (starEach es X.env)).any (·.1) = false := by rfl) :
    PE X (.Call (.Name x p) (e :: es) [] pos) (fun σ H Q => t σ H fun vs H1 => sp vs H1 Q E0) :=
  ⟨fun pins s σ H Q I h => wpAny_Call_Name_kw (ld_glob I hg hm (PySem.W.callWith_K (h₀ := X.base) I.ok.mod.kin hk
    (thn (ha.run pos pins s σ H _ I h) fun us s1 ⟨vs, H1, I1, r, q⟩ => ⟨I1.kIn, run_fg F hG hr hb I1 r q⟩) he hpl) hdb)⟩
theorem pe_callG0 (F : FG X.prog X.w X.K X.mg X.base k f fd ps sp) (hG : X.A.guards = some []) (hr : Room k X.A) (hg : Gl X x) (hm : X.mg x = some (.ref f)) (hk : PySem.W.keepIn X.K (.ref f) = true) (hb : Binds X.K fd ps [])
    (hdb : (x == ("__debug__" : Str)) = false := by decide) : PE X (.Call (.Name x p) [] [] pos) (fun σ H Q => sp [] H Q E0) :=
  ⟨fun pins s σ H Q I h => wpAny_Call_Name_kw (ld_glob I hg hm (PySem.W.callWith_K0 I.kIn hk (run_fg (us := []) F hG hr hb I .nil h)) hdb)⟩
end
/-- THE RULE of a def by its body -/
theorem fg_of {P : Program} {w : World} {K : PySem.W.Frag} {mg : Str → Option Value} {base : Heap} {k : Nat} {f : Addr} {x qual : Str} {st : Stmt} {fd : FuncData} {N ps : List Str} {sp : Sp} (F : Fun K x qual st f fd) (S : FnScope N ps (defScope st))
    (len : ∀ vs H Q E, sp vs H Q E → vs.length = ps.length)
    (hbody : ∀ (cdv : Value) (A : Around) (outer : List Env) (s : Shared) (H : Hp) (vs : List V) (Q : VK), Room k (A.deeper (envOfC qual (defScope st) s.heap.objs.size f cdv)) → A.guards = some [] → sp vs H Q E0 →
      ∃ t, PSs (cxOf CX0 P w K mg base N qual (defScope st) f cdv A outer s H E0).nox (defBody st) t ∧ t { nx := fun _ H' => Q .non H', rt := Q } (L2.start N vs) H) : FG P w K mg base (k + 1) f fd ps sp := by
  obtain ⟨oc, od, kV, doc, pm, an, cdv, ct, osl, rfl, lk, hcd⟩ := F.ex
  refine ⟨len, fun A outer s H args us vs Q hr hG e0 hb r hsp => ?_⟩
  have stays : ∀ b o, base.get? b = some o → s.heap.get? b = some o := fun b o e => (e0.bs b o e).1
  have KX : K.In s.heap := e0.mod.kin.keeps stays
  have lim : s.heap.NoLimit := e0.mod.nolimit.keeps stays
  have hkind : ∀ y ∈ ps.zip us, (defScope st).names.lookup y.1 = some .local ∨ ((defScope st).names.lookup y.1 = some .cell ∧ ((cellsFrom (s.heap.objs.size + 1) (defScope st).names []).lookup y.1).isSome = true) :=
    fun y hy => (S.par y.1 (List.of_mem_zip (a := y.1) (b := y.2) hy).1).imp id fun q => ⟨q, PySem.W.cellsFrom_some _ _ _ (.inl q)⟩
  refine codeAny_call_function hr.depth (KX _ _ lk) rfl S.co S.gen rfl (PySem.W.codeRec_of KX hcd) (hb _ _ _ _ ?_)
  refine wpAny_newFunctionEnv_cells S.kind hkind fun env he s1 z => ?_
  subst he
  refine ⟨lim.keeps z.toInCall.keep, codeAny_func ?_⟩
  obtain ⟨t, ht, hq⟩ := hbody cdv A outer s H vs Q (hr.deeper _) hG hsp
  have I := inv_start (CX := CX0) (E := E0) (w := w) (qual := qual) (f := f) (cd := cdv) S hr.hd e0 (len _ _ _ _ hsp) r z
  refine wpAny_mono (ht.nox.run [] s1 (L2.start N vs) H _ I hq) (fun fl s' hs => ?_) fun e s' hs => hs
  have fin : ∀ {σ' : Sl} {H' : Hp} {v : V} {u : Value}, Inv (cxOf CX0 P w K mg base N qual (defScope st) f cdv A outer s H E0) [] σ' H' s' → RelV v u → Q v H' → CE outer P w H s Q u s' :=
    fun J rv q => ⟨_, _, J.os, J.bare, J.base, J.hok, rv, q⟩
  cases fl with
  | ret u =>
    obtain ⟨v, σ', H', J, rv, q⟩ := hs
    exact fin J rv q
  | next =>
    obtain ⟨σ', H', J, q⟩ := hs
    exact fin (v := .non) (u := .none) J rfl q
  | brk =>
    obtain ⟨_, _, _, q⟩ := hs
    exact q.elim
  | cont =>
    obtain ⟨_, _, _, q⟩ := hs
    exact q.elim

/-! ## defs told on data -/
abbrev Pm := List PyData → (DV → Prop) → Prop
def spP (K : PySem.W.Frag) (w : World) (t : Pm) : Sp := fun vs H Q _ => ∃ ds P, RFs K w H vs ds ∧ t ds P ∧ ∀ v H' x, P x → Same H H' → Rn K w H H' v x → Q v H'
/-- .. a def that draws from the law's source: its first argument -/
def SameS (s : Src) (H H' : Hp) : Prop := ∀ b o, H b = some o → b ≠ s.d → b ≠ s.c → H' b = some o
def spS (K : PySem.W.Frag) (w : World) (t : Pm) : Sp := fun vs H Q _ => ∃ s vr ds P, vs = .ref s.d :: vr ∧ SrcOk H s ∧ RFs K w H vr ds ∧ t ds P ∧
  ∀ v H' x, P x → SameS s H H' → SrcOk H' s → Rn K w H H' v x → Q v H'
section
variable {X : Cx} {K : PySem.W.Frag} {w : World} {S : Option Src} {H0 H H' : Hp} {σ : Sl} {δ δ' : DEnv}
@[simp] def tCl (t : Pm) (ta : DGt) : DT := fun δ P => ta δ fun xs δ1 => ∃ ds, fzs xs = some ds ∧ t ds fun x => P (.val x) δ1
@[simp] def tCs (t : Pm) (ta : DGt) : DT := fun δ P => ta δ fun xs δ1 => ∃ r ds, xs = .src :: r ∧ fzs r = some ds ∧ t ds fun x => P (.val x) δ1
theorem RVs.len : ∀ {vs : List V} {xs : List DV}, RVs K w S H0 H vs xs → vs.length = xs.length
  | _, _, .nil => rfl
  | _, _, .cons _ _ _ h => by rw [List.length_cons, List.length_cons, RVs.len h]
theorem fzs_len : ∀ {xs : List DV} {ds : List PyData}, fzs xs = some ds → xs.length = ds.length
  | [], _, e => by cases e; rfl
  | .fz d :: r, ds, e => by
    have e : (fzs r).map (d :: ·) = some ds := e
    cases q : fzs r with
    | none => rw [q] at e; cases e
    | some l => rw [q] at e; cases e; rw [List.length_cons, List.length_cons, fzs_len q]
  | .no :: _, _, e => by cases e
  | .src :: _, _, e => by cases e
  | .ol _ :: _, _, e => by cases e
  | .od _ :: _, _, e => by cases e
theorem de_call {k : Nat} {f : Addr} {fd : FuncData} {ps : List Str} {x : Str} {p pos : Pos} {e : Expr} {es : List Expr} {t : Pm} {ta : DGt} (F : FG X.prog X.w X.K X.mg X.base k f fd ps (spP X.K X.w t)) (hG : X.A.guards = some []) (hr : Room k X.A)
    (hg : Gl X x) (hm : X.mg x = some (.ref f)) (hk : PySem.W.keepIn X.K (.ref f) = true) (hb : Binds X.K fd ps []) (ha : PA X (e :: es) (lGA X.K X.w ta)) (hdb : (x == ("__debug__" : Str)) = false := by decide)
    (he : starEach (e :: es) X.env = (false, eval e X.env) :: starEach es X.env := by rfl) (hpl : (backTo pos (starEach es X.env)).any (·.1) = false := by rfl) : DE X (.Call (.Name x p) (e :: es) [] pos) (tCl t ta) :=
  PE.mono (pe_callG F hG hr hg hm hk hb ha hdb he hpl) fun σ H Q ⟨S, H0, δ, P, R, q, k⟩ => ⟨S, H0, δ, _, R, q, fun vs H1 xs δ1 ⟨ds, e1, q1⟩ R1 rv T1 =>
    ⟨ds, _, rv.rfs e1, q1, fun v H' z pz sm rn => after R R1 T1 k z v H' pz sm rn⟩⟩
/-- behind a def that drew -/
theorem Rep.sameS {s : Src} (R : Rep K w (some s) H0 σ H δ) (e : SameS s H H') (so : SrcOk H' s) : Rep K w (some s) H0 σ H' δ where
  len := R.len
  slot := fun i x h n => by
    obtain ⟨v, e1, r⟩ := R.slot i x h n
    refine ⟨v, e1, r.at (fun b o hb f => ?_) fun a ea ow o ho => ?_⟩
    · obtain ⟨q, _⟩ := R.fx hb f
      exact e b o hb q.1 q.2
    · rw [ea] at r
      obtain ⟨_, _, _, _, _, ns⟩ := own_at r ow
      exact e a o ho ns.1 ns.2
  sep := R.sep
  keep := fun b o h n => e b o (R.keep b o h n) n.1 n.2
  src := fun s' h => by cases h; exact so
theorem Stp.sameS {s : Src} (e : SameS s H H') (so : SrcOk H' s) : Stp (some s) σ δ H δ H' where
  keep := fun a o h n _ => e a o h n.1 n.2
  own := fun _ h => h
  has := fun _ x h n => ⟨x, h, n⟩
  trk := fun a h => by
    obtain ⟨_, cs, l, m, t, a1, a2⟩ := so
    by_cases h1 : a = s.d
    · rw [h1, a1]; exact fun z => by cases z
    · by_cases h2 : a = s.c
      · rw [h2, a2]; exact fun z => by cases z
      · cases q : H a with
        | none => exact absurd q h
        | some o => rw [e a o q h1 h2]; exact fun z => by cases z
theorem Rn.outS {s : Src} (R : Rep K w (some s) H0 σ H δ) {v : V} {x : DV} (h : Rn K w H H' v x) : RR K w (some s) H0 σ H' δ v (.val x) ∧ (Rs.val x).Fresh H v := by
  cases x with
  | no => exact h.elim
  | src => exact h.elim
  | fz d => exact ⟨⟨h.ne, h, not_own rfl⟩, not_fresh rfl⟩
  | ol ds =>
    obtain ⟨a, rfl, hn, l⟩ := id h
    obtain ⟨f1, f2, f3⟩ := R.fresh hn
    exact ⟨⟨h.ne, ⟨a, rfl, f1, f2, l⟩, fun _ b eb => by cases eb; exact f3⟩, fun _ b eb => by cases eb; exact hn⟩
  | od kvs =>
    obtain ⟨a, rfl, hn, l⟩ := id h
    obtain ⟨f1, f2, f3⟩ := R.fresh hn
    exact ⟨⟨h.ne, ⟨a, rfl, f1, f2, l⟩, fun _ b eb => by cases eb; exact f3⟩, fun _ b eb => by cases eb; exact hn⟩
theorem de_callS {k : Nat} {f : Addr} {fd : FuncData} {ps : List Str} {x : Str} {p pos : Pos} {e : Expr} {es : List Expr} {t : Pm} {ta : DGt} (F : FG X.prog X.w X.K X.mg X.base k f fd ps (spS X.K X.w t)) (hG : X.A.guards = some []) (hr : Room k X.A)
    (hg : Gl X x) (hm : X.mg x = some (.ref f)) (hk : PySem.W.keepIn X.K (.ref f) = true) (hb : Binds X.K fd ps []) (ha : PA X (e :: es) (lGA X.K X.w ta)) (hdb : (x == ("__debug__" : Str)) = false := by decide)
    (he : starEach (e :: es) X.env = (false, eval e X.env) :: starEach es X.env := by rfl) (hpl : (backTo pos (starEach es X.env)).any (·.1) = false := by rfl) : DE X (.Call (.Name x p) (e :: es) [] pos) (tCs t ta) :=
  PE.mono (pe_callG F hG hr hg hm hk hb ha hdb he hpl) fun σ H Q ⟨S, H0, δ, P, R, q, k⟩ => ⟨S, H0, δ, _, R, q, fun vs H1 xs δ1 ⟨r, ds, e1, e2, q1⟩ R1 rv T1 => by
    subst e1
    cases rv with
    | @cons v vr _ _ n0 o0 rs rr =>
      obtain ⟨s, eS, ev⟩ := rs
      subst eS ev
      refine ⟨s, vr, ds, _, rfl, R1.src s rfl, rr.rfs e2, q1, fun v H' z pz sm so rn => ?_⟩
      obtain ⟨g1, g2⟩ := rn.outS (H' := H') R1
      exact k v H' _ δ1 pz (R1.sameS sm so) g1 (fresh_trans T1 g2) (T1.trans (Stp.sameS sm so))⟩
/-! ### from a body -/
def startD (N : List Str) (xs : List DV) : DEnv := xs ++ List.replicate (N.length - xs.length) .no
theorem RFs.fz_get {vs : List V} {ds : List PyData} (r : RFs K w H vs ds) {i : Nat} {x : DV} (h : (ds.map DV.fz)[i]? = some x) : ∃ d v, x = .fz d ∧ vs[i]? = some v ∧ RF K w H v d := by
  rw [List.getElem?_map] at h
  cases q : ds[i]? with
  | none => rw [q] at h; cases h
  | some d =>
    rw [q] at h
    cases h
    obtain ⟨v, e, rf⟩ := r.get q
    exact ⟨d, v, rfl, e, rf⟩
theorem start_get {N : List Str} {vs : List V} {i : Nat} {v : V} (h : vs[i]? = some v) : (L2.start N vs)[i]? = some (some v) := by
  unfold L2.start
  rw [List.getElem?_append_left (by have := get_lt h; simpa using this), List.getElem?_map, h]
  rfl
theorem startD_get {N : List Str} {xs : List DV} {i : Nat} {x : DV} (h : (startD N xs)[i]? = some x) : xs[i]? = some x ∨ x = .no := by
  unfold startD at h
  by_cases hi : i < xs.length
  · rw [List.getElem?_append_left hi] at h; exact .inl h
  · rw [List.getElem?_append_right (by omega), List.getElem?_replicate] at h
    split at h
    · cases h; exact .inr rfl
    · cases h
theorem start_len {N : List Str} {vs : List V} (h : vs.length ≤ N.length) : (L2.start N vs).length = N.length := by
  unfold L2.start; simp; omega
theorem startD_len {N : List Str} {xs : List DV} (h : xs.length ≤ N.length) : (startD N xs).length = N.length := by
  unfold startD; simp; omega
theorem rep_start {N : List Str} {vs : List V} {ds : List PyData} (r : RFs K w H vs ds) (hl : vs.length ≤ N.length) : Rep K w none H (L2.start N vs) H (startD N (ds.map .fz)) where
  len := by rw [start_len hl, startD_len (by rw [List.length_map, ← r.len]; exact hl)]
  slot := fun i x h n => by
    rcases startD_get h with h | h
    · obtain ⟨d, v, rfl, e, rf⟩ := r.fz_get h
      exact ⟨v, start_get e, rf⟩
    · exact absurd h n
  sep := fun i j a x y _ _ h3 _ o1 _ => by
    rcases startD_get h3 with h | h
    · obtain ⟨d, v, rfl, e, rf⟩ := r.fz_get h
      cases o1
    · rw [h] at o1; cases o1
  keep := fun b o h _ => h
  src := fun s h => by cases h
theorem rep_startS {N : List Str} {s : Src} {vs : List V} {ds : List PyData} (so : SrcOk H s) (r : RFs K w H vs ds) (hl : vs.length + 1 ≤ N.length) : Rep K w (some s) H (L2.start N (.ref s.d :: vs)) H (startD N (.src :: ds.map .fz)) where
  len := by rw [start_len (by simpa using hl), startD_len (by simp; rw [← r.len]; omega)]
  slot := fun i x h n => by
    rcases startD_get h with h | h
    · cases i with
      | zero => cases h; exact ⟨_, start_get (i := 0) rfl, s, rfl, rfl⟩
      | succ i =>
        obtain ⟨d, v, rfl, e, rf⟩ := r.fz_get (by simpa using h)
        exact ⟨v, start_get (i := i + 1) (by simpa using e), rf⟩
    · exact absurd h n
  sep := fun i j a x y _ _ h3 _ o1 _ => by
    rcases startD_get h3 with h | h
    · cases i with
      | zero => cases h; cases o1
      | succ i =>
        obtain ⟨d, v, rfl, e, rf⟩ := r.fz_get (by simpa using h)
        cases o1
    · rw [h] at o1; cases o1
  keep := fun b o h _ => h
  src := fun s' h => by cases h; exact so
theorem RetOk.rn {v : V} {x : DV} (h : RetOk K w none H0 H v x) : Same H0 H ∧ Rn K w H0 H v x := by
  refine ⟨fun b o e => h.keep b o e trivial, ?_⟩
  have q := h.val
  cases x with
  | no => exact absurd rfl h.ne
  | src => obtain ⟨s, e, _⟩ := q; cases e
  | fz d => exact q
  | ol ds => obtain ⟨a, e, h0, _, l⟩ := q; exact ⟨a, e, h0, l⟩
  | od ds => obtain ⟨a, e, h0, _, l⟩ := q; exact ⟨a, e, h0, l⟩
end
section
variable {P : Program} {w : World} {K : PySem.W.Frag} {mg : Str → Option Value} {base : Heap}
/-- a def that draws nothing: its body told on data -/
theorem FG.pure {k : Nat} {f : Addr} {x qual : Str} {st : Stmt} {fd : FuncData} {N ps : List Str} {t : Pm} (ts : DSt) (F : Fun K x qual st f fd) (Sc : FnScope N ps (defScope st))
    (hb : ∀ (cdv : Value) (A : Around) (outer : List Env) (s : Shared) (H : Hp), Room k (A.deeper (envOfC qual (defScope st) s.heap.objs.size f cdv)) → A.guards = some [] →
      PSs (cxOf CX0 P w K mg base N qual (defScope st) f cdv A outer s H E0).nox (defBody st) (lS K w ts))
    (hl : ∀ ds R, t ds R → ds.length = ps.length) (hq : ∀ ds R, t ds R → ts { nx := fun _ => R (.fz .none), rt := R } (startD N (ds.map .fz))) : FG P w K mg base (k + 1) f fd ps (spP K w t) := by
  refine fg_of F Sc (fun vs H Q E h => let ⟨ds, R, rf, ht, _⟩ := h; rf.len.trans (hl ds R ht)) fun cdv A outer s H vs Q hr hG h => ?_
  obtain ⟨ds, R, rf, ht, kk⟩ := h
  have hv : vs.length = ps.length := rf.len.trans (hl ds R ht)
  have hN : vs.length ≤ N.length := by
    have := congrArg List.length Sc.pre
    rw [List.length_take] at this
    omega
  refine ⟨_, hb cdv A outer s H hr hG, none, H, _, _, rep_start rf hN, hq ds R ht, ⟨fun σ H' δ R' _ q => ?_, fun _ _ _ _ _ q => q.elim, fun _ _ _ _ _ q => q.elim, fun v H' z rok pz => ?_⟩⟩
  · exact kk _ _ _ q (fun b o e => R'.keep b o e trivial) RF.non
  · obtain ⟨q1, q2⟩ := rok.rn
    exact kk v H' z pz q1 q2
/-- a def that draws -/
theorem FG.draw {k : Nat} {f : Addr} {x qual : Str} {st : Stmt} {fd : FuncData} {N ps : List Str} {t : Pm} (ts : DSt) (F : Fun K x qual st f fd) (Sc : FnScope N ps (defScope st))
    (hb : ∀ (cdv : Value) (A : Around) (outer : List Env) (s : Shared) (H : Hp), Room k (A.deeper (envOfC qual (defScope st) s.heap.objs.size f cdv)) → A.guards = some [] →
      PSs (cxOf CX0 P w K mg base N qual (defScope st) f cdv A outer s H E0).nox (defBody st) (lS K w ts))
    (hl : ∀ ds R, t ds R → ds.length + 1 = ps.length) (hq : ∀ ds R, t ds R → ts { nx := fun _ => R (.fz .none), rt := R } (startD N (.src :: ds.map .fz))) : FG P w K mg base (k + 1) f fd ps (spS K w t) := by
  refine fg_of F Sc (fun vs H Q E h => let ⟨_, _, ds, R, e, _, rf, ht, _⟩ := h; by rw [e, List.length_cons, rf.len]; exact hl ds R ht) fun cdv A outer s H vs Q hr hG h => ?_
  obtain ⟨sr, vr, ds, R, rfl, so, rf, ht, kk⟩ := h
  have hv : vr.length + 1 = ps.length := by rw [rf.len]; exact hl ds R ht
  have hN : vr.length + 1 ≤ N.length := by
    have := congrArg List.length Sc.pre
    rw [List.length_take] at this
    omega
  refine ⟨_, hb cdv A outer s H hr hG, some sr, H, _, _, rep_startS so rf hN, hq ds R ht, ⟨fun σ H' δ R' _ q => ?_, fun _ _ _ _ _ q => q.elim, fun _ _ _ _ _ q => q.elim, fun v H' z rok pz => ?_⟩⟩
  · exact kk _ _ _ q (fun b o e h1 h2 => R'.keep b o e ⟨h1, h2⟩) (R'.src sr rfl) RF.non
  · refine kk v H' z pz (fun b o e h1 h2 => rok.keep b o e ⟨h1, h2⟩) (rok.src sr rfl) ?_
    have q := rok.val
    cases z with
    | no => exact absurd rfl rok.ne
    | src => exact absurd rfl rok.ns
    | fz d => exact q
    | ol ds => obtain ⟨a, e, h0, _, l⟩ := q; exact ⟨a, e, h0, l⟩
    | od ds => obtain ⟨a, e, h0, _, l⟩ := q; exact ⟨a, e, h0, l⟩
end
end DL
set_option maxHeartbeats 2000000
namespace DL
open PySem PySem.Spec PyProof.Rows L2
section
variable {X : Cx} {pins : List (Addr × Obj)} {σ : Sl} {H : Hp} {s : Shared}
/-! ## readings as the library has them -/
theorem frz_obj (I : Inv X pins σ H s) {a : Addr} {o : Obj} {u : HO} (h : H a = some (.frz o u)) : s.heap.get? a = some o ∧ ObjOk X.prog X.w H s.heap a u := I.hok a _ h
theorem dct_obj (I : Inv X pins σ H s) {a : Addr} {es : List DictEntry} (h : ObjOk X.prog X.w H s.heap a (dctH a es)) : ∃ o ep, s.heap.get? a = some o ∧ o.ExactDict ∧ o.data = .dict es.toArray ep := h.1.2
mutual
theorem RF.reads (I : Inv X pins σ H s) : ∀ {d : PyData} {v : V} {u : Value}, RF X.K X.w H v d → RelV v u → ∃ as, Reads s.heap u d as ∧ ∀ a ∈ as, H a ≠ none
  | _, _, _, .non, r => by cases r; exact ⟨_, .none, fun a h => by cases h⟩
  | _, _, _, .bl b, r => by cases r; exact ⟨_, .bool b, fun a h => by cases h⟩
  | _, _, _, .int i, r => by obtain ⟨t, rfl⟩ := r; exact ⟨_, .int i t, fun a h => by cases h⟩
  | _, _, _, .str x, r => by obtain ⟨t, rfl⟩ := r; exact ⟨_, .str x t, fun a h => by cases h⟩
  | _, _, _, .lst h hs, r => by
    cases r
    obtain ⟨its, rv, ⟨o, n, ho, hc, _, hd⟩, _⟩ := I.list (.inl (.inr ⟨_, h⟩))
    obtain ⟨as, hr, k⟩ := RFs.reads I hs rv
    refine ⟨_, .list ho hc hd hr, fun b hb => ?_⟩
    rcases List.mem_cons.mp hb with e | hb
    · rw [e, h]; exact fun z => by cases z
    · exact k b hb
  | _, _, _, .tup h hs, r => by
    cases r
    obtain ⟨its, rv, ⟨o, ho, hc, n, hd⟩, _⟩ := I.tuple h
    obtain ⟨as, hr, k⟩ := RFs.reads I hs rv
    exact ⟨_, .tuple ho hc hd hr, k⟩
  | _, _, _, .dct (kds := kds) (vds := vds) h hk hv rk rv kr nd, r => by
    cases r
    obtain ⟨o, ep, ho, hx, hd⟩ := dct_obj I (frz_obj I h).2
    obtain ⟨as, h1, k1⟩ := RFs.reads I rk hk
    obtain ⟨bs, h2, k2⟩ := RFs.reads I rv hv
    have l1 := rk.len
    have l2 := rv.len
    have l3 := hk.length
    have l4 := hv.length
    simp only [List.length_map] at l3 l4
    have hl : kds.length = vds.length := by omega
    refine ⟨_, .dict (kvs := kds.zip vds) ho hx.1 hd (by rw [List.map_fst_zip (by omega)]; simpa using h1) (by rw [List.map_snd_zip (by omega)]; simpa using h2), fun b hb => ?_⟩
    rcases List.mem_cons.mp hb with e | hb
    · rw [e, h]; exact fun z => by cases z
    · rcases List.mem_append.mp hb with hb | hb
      · exact k1 b hb
      · exact k2 b hb
theorem RFs.reads (I : Inv X pins σ H s) : ∀ {ds : List PyData} {vs : List V} {us : List Value}, RFs X.K X.w H vs ds → Vals vs us → ∃ as, ReadsAll s.heap us ds as ∧ ∀ a ∈ as, H a ≠ none
  | _, _, _, .nil, r => by cases r; exact ⟨_, .nil, fun a h => by cases h⟩
  | _, _, _, .cons h hs, r => by
    cases r with
    | cons r1 r2 =>
      obtain ⟨as, q1, k1⟩ := RF.reads I h r1
      obtain ⟨bs, q2, k2⟩ := RFs.reads I hs r2
      exact ⟨_, .cons q1 q2, fun b hb => (List.mem_append.mp hb).elim (k1 b) (k2 b)⟩
end
theorem RP.reads (I : Inv X pins σ H s) {d : PyData} {v : V} {u : Value} (h : RP X.K X.w H v d) (r : RelV v u) : ∃ as, Reads s.heap u d as ∧ ∀ a ∈ as, H a ≠ none := by
  rcases h with h | ⟨a, ds, rfl, rfl, xs, hx, hs⟩ | ⟨a, kvs, rfl, rfl, es, ks, vs, kds, vds, hx, hk, hv, rk, rv, kr, nd, rfl⟩
  · exact h.reads I r
  · cases r
    obtain ⟨its, rv, ⟨o, n, ho, hc, _, hd⟩, _⟩ := I.list (.inl (.inl hx))
    obtain ⟨as, hr, k⟩ := hs.reads I rv
    refine ⟨_, .list ho hc hd hr, fun b hb => ?_⟩
    rcases List.mem_cons.mp hb with e | hb
    · rw [e, hx]; exact fun z => by cases z
    · exact k b hb
  · cases r
    obtain ⟨o, ep, ho, hxd, hd⟩ := dct_obj I (I.hok a _ hx)
    obtain ⟨as, h1, k1⟩ := rk.reads I hk
    obtain ⟨bs, h2, k2⟩ := rv.reads I hv
    have l1 := rk.len
    have l2 := rv.len
    have l3 := hk.length
    have l4 := hv.length
    simp only [List.length_map] at l3 l4
    refine ⟨_, .dict (kvs := kds.zip vds) ho hxd.1 hd (by rw [List.map_fst_zip (by omega)]; simpa using h1) (by rw [List.map_snd_zip (by omega)]; simpa using h2), fun b hb => ?_⟩
    rcases List.mem_cons.mp hb with e | hb
    · rw [e, hx]; exact fun z => by cases z
    · rcases List.mem_append.mp hb with hb | hb
      · exact k1 b hb
      · exact k2 b hb
end
section
variable {X : Cx} {K : PySem.W.Frag} {w : World} {H : Hp}
/-! ## comparisons of data -/
@[simp] def rEqP : D2 := fun d e P => SeqAt.shaped d = true ∧ SeqAt.shaped e = true ∧ P (.fz (.bool (PyData.eqv d e)))
@[simp] def rNeP : D2 := fun d e P => SeqAt.shaped d = true ∧ SeqAt.shaped e = true ∧ P (.fz (.bool (!PyData.eqv d e)))
theorem wn_fz {P : DV → Prop} {Q : VK} {d : PyData} {v : V} (k : Wn K w H P Q) (r : RF K w H v d) (p : P (.fz d)) : Q v H := k _ _ _ p (Same.refl _) r
theorem opd_eq (hu : X.A.units + 64 < cLine) : OpR X (compareOp .Eq) (RO2 X.K X.w rEqP) := by
  intro pins s σ H x y v u Q I rx ry ⟨d, e, P, hd, he, ⟨sd, se, p⟩, k⟩
  obtain ⟨as, r1, _⟩ := hd.reads I rx
  obtain ⟨bs, r2, _⟩ := he.reads I ry
  exact SeqAt.compareEq_shaped r1 r2 sd se hu ⟨.bl _, H, I, rfl, wn_fz k (.bl _) p⟩
theorem opd_ne (hu : X.A.units + 64 < cLine) : OpR X (compareOp .NotEq) (RO2 X.K X.w rNeP) := by
  intro pins s σ H x y v u Q I rx ry ⟨d, e, P, hd, he, ⟨sd, se, p⟩, k⟩
  obtain ⟨as, r1, _⟩ := hd.reads I rx
  obtain ⟨bs, r2, _⟩ := he.reads I ry
  exact SeqAt.compareNe_shaped r1 r2 sd se hu ⟨.bl _, H, I, rfl, wn_fz k (.bl _) p⟩
@[simp] def rInP (b : Bool) : D2 := fun d e P => ∃ ds, (e = .list ds ∨ e = .tuple ds) ∧ SeqAt.shaped d = true ∧ PyData.canLayAll0 ds = true ∧ P (.fz (.bool (b != ds.any fun y => PyData.eqv y d)))
theorem room_in {A : Around} {d : PyData} {ds : List PyData} (hu : A.units + 66 < cLine) (h : SeqAt.shaped d = true) : A.units + 1 + min (PyData.depthAll ds) d.depth < cLine := by
  have h1 := SeqAt.depth_of_shaped h
  have h2 : min (PyData.depthAll ds) d.depth ≤ d.depth := Nat.min_le_right _ _
  omega
theorem opd_in (hu : X.A.units + 66 < cLine) : OpR X (compareOp .In) (RO2 X.K X.w (rInP false)) := by
  intro pins s σ H x y v u Q I rx ry ⟨d, e, P, hd, he, ⟨ds, h, sd, se, p⟩, k⟩
  obtain ⟨as, r1, _⟩ := hd.reads I rx
  obtain ⟨bs, r2, _⟩ := he.reads I ry
  have q : Q (.bl (ds.any fun y => PyData.eqv y d)) H := wn_fz k (.bl _) (by simpa using p)
  rcases h with h | h
  · subst h
    exact SeqAt.in_list_reads r2 r1 se (SeqAt.canLay_of_shaped sd) (room_in hu sd) ⟨.bl _, H, I, rfl, q⟩
  · subst h
    exact SeqAt.in_tuple_reads r2 r1 se (SeqAt.canLay_of_shaped sd) (room_in hu sd) ⟨.bl _, H, I, rfl, q⟩
theorem opd_notIn (hu : X.A.units + 66 < cLine) : OpR X (compareOp .NotIn) (RO2 X.K X.w (rInP true)) := by
  intro pins s σ H x y v u Q I rx ry ⟨d, e, P, hd, he, ⟨ds, h, sd, se, p⟩, k⟩
  obtain ⟨as, r1, _⟩ := hd.reads I rx
  obtain ⟨bs, r2, _⟩ := he.reads I ry
  have q : Q (.bl (!ds.any fun y => PyData.eqv y d)) H := wn_fz k (.bl _) (by simpa using p)
  rcases h with h | h
  · subst h
    exact SeqAt.notIn_list_reads r2 r1 se (SeqAt.canLay_of_shaped sd) (room_in hu sd) ⟨.bl _, H, I, rfl, q⟩
  · subst h
    exact SeqAt.notIn_tuple_reads r2 r1 se (SeqAt.canLay_of_shaped sd) (room_in hu sd) ⟨.bl _, H, I, rfl, q⟩
/-! ints -/
@[simp] def rInt2 (C : Int → Int → Prop) (g : Int → Int → PyData) : D2 := fun d e P => ∃ i j, d = .int i ∧ e = .int j ∧ C i j ∧ P (.fz (g i j))
theorem RP.int' {v : V} {i : Int} (h : RP K w H v (.int i)) : v = .int i := h.int rfl
theorem opd_int {f : Value → Value → Sem Value} {C : Int → Int → Prop} {g : Int → Int → V} {g' : Int → Int → PyData} (h : OpR X f (rI C g)) (hg : ∀ H i j, RF X.K X.w H (g i j) (g' i j)) : OpR X f (RO2 X.K X.w (rInt2 C g')) := by
  intro pins s σ H x y v u Q I rx ry ⟨d, e, P, hd, he, ⟨i, j, e1, e2, hc, p⟩, k⟩
  subst e1 e2
  exact h pins s σ H x y v u Q I rx ry ⟨i, j, hd.int', he.int', hc, wn_fz k (hg _ _ _) p⟩
theorem opd_int0 {f : Value → Value → Sem Value} {g : Int → Int → V} {g' : Int → Int → PyData} (h : OpR X f (rI0 g)) (hg : ∀ H i j, RF X.K X.w H (g i j) (g' i j)) : OpR X f (RO2 X.K X.w (rInt2 (fun _ _ => True) g')) := by
  intro pins s σ H x y v u Q I rx ry ⟨d, e, P, hd, he, ⟨i, j, e1, e2, _, p⟩, k⟩
  subst e1 e2
  exact h pins s σ H x y v u Q I rx ry ⟨i, j, hd.int', he.int', wn_fz k (hg _ _ _) p⟩
@[simp] abbrev noC : Int → Int → Prop := fun _ _ => True
theorem opd_subI : OpR X (binaryOp .Sub) (RO2 X.K X.w (rInt2 noC fun i j => .int (i - j))) := opd_int0 op_sub fun _ _ _ => .int _
theorem opd_mulI : OpR X (binaryOp .Mult) (RO2 X.K X.w (rInt2 CMul fun i j => .int (i * j))) := opd_int op_mul fun _ _ _ => .int _
theorem opd_mulW : OpR X (binaryOp .Mult) (RO2 X.K X.w (rInt2 CMulW fun i j => .int (i * j))) := opd_int op_mulW fun _ _ _ => .int _
theorem opd_modI : OpR X (binaryOp .Mod) (RO2 X.K X.w (rInt2 (fun _ j => 0 < j) fun i j => .int (i % j))) := opd_int op_mod fun _ _ _ => .int _
theorem opd_fdivI : OpR X (binaryOp .FloorDiv) (RO2 X.K X.w (rInt2 CDiv fun i j => .int (i / j))) := opd_int op_fdiv fun _ _ _ => .int _
theorem opd_powI : OpR X (binaryOp .Pow) (RO2 X.K X.w (rInt2 CPow fun i j => .int (i ^ j.toNat))) := opd_int op_pow fun _ _ _ => .int _
theorem opd_ltI : OpR X (compareOp .Lt) (RO2 X.K X.w (rInt2 noC fun i j => .bool (decide (i < j)))) := opd_int0 op_lt fun _ _ _ => .bl _
theorem opd_leI : OpR X (compareOp .LtE) (RO2 X.K X.w (rInt2 noC fun i j => .bool (decide (i ≤ j)))) := opd_int0 op_le fun _ _ _ => .bl _
theorem opd_gtI : OpR X (compareOp .Gt) (RO2 X.K X.w (rInt2 noC fun i j => .bool (decide (j < i)))) := opd_int0 op_gt fun _ _ _ => .bl _
theorem opd_geI : OpR X (compareOp .GtE) (RO2 X.K X.w (rInt2 noC fun i j => .bool (decide (j ≤ i)))) := opd_int0 op_ge fun _ _ _ => .bl _
@[simp] def rNeg : D1 := fun d P => ∃ i, d = .int i ∧ P (.fz (.int (-i)))
theorem und_neg : UnR X (unaryOp .USub) (RO1 X.K X.w rNeg) := by
  intro pins s σ H x v Q I rx ⟨d, P, hd, ⟨i, e, p⟩, k⟩
  subst e
  exact un_neg pins s σ H x v Q I rx ⟨i, hd.int', wn_fz k (.int _) p⟩
/-- is None, is not None -/
def isNone : PyData → Bool
  | .none => true
  | _ => false
@[simp] def rIsNP (b : Bool) : D2 := fun d e P => e = .none ∧ P (.fz (.bool (b != isNone d)))
theorem RP.non {v : V} (h : RP K w H v .none) : v = .non := by
  rcases h with h | ⟨_, _, _, e, _⟩ | ⟨_, _, _, e, _⟩
  · cases h; rfl
  · cases e
  · cases e
theorem RP.isNon {v : V} {d : PyData} (h : RP K w H v d) : decide (v = .non) = isNone d := by
  rcases h with h | ⟨_, _, e1, e, _⟩ | ⟨_, _, e1, e, _⟩
  · cases h <;> rfl
  · subst e e1; rfl
  · subst e e1; rfl
theorem opd_isN : OpR X (compareOp .Is) (RO2 X.K X.w (rIsNP false)) := by
  intro pins s σ H x y v u Q I rx ry ⟨d, e, P, hd, he, ⟨e1, p⟩, k⟩
  subst e1
  exact op_isN pins s σ H x y v u Q I rx ry ⟨he.non, by rw [hd.isNon]; exact wn_fz k (.bl _) (by simpa using p)⟩
theorem opd_notN : OpR X (compareOp .IsNot) (RO2 X.K X.w (rIsNP true)) := by
  intro pins s σ H x y v u Q I rx ry ⟨d, e, P, hd, he, ⟨e1, p⟩, k⟩
  subst e1
  exact op_notN pins s σ H x y v u Q I rx ry ⟨he.non, by rw [hd.isNon]; exact wn_fz k (.bl _) (by simpa using p)⟩
end
end DL
set_option maxHeartbeats 2000000
namespace DL
open PySem PySem.Spec PyProof.Rows L2
section
variable {X : Cx} {K : PySem.W.Frag} {w : World} {H : Hp}
theorem RP.seq {v : V} {ds : List PyData} (h : RP K w H v (.list ds)) : ∃ a xs, v = .ref a ∧ SqL K H a xs ∧ RFs K w H xs ds := by
  rcases h with h | ⟨a, l, rfl, e, xs, hx, r⟩ | ⟨_, _, _, e, _⟩
  · cases h with
    | lst hx r => exact ⟨_, _, rfl, .inl (.inr ⟨_, hx⟩), r⟩
  · cases e; exact ⟨_, _, rfl, .inl (.inl hx), r⟩
  · cases e
theorem RP.seqR {v : V} {ds : List PyData} (h : RP K w H v (.list ds)) : ∃ a xs, v = .ref a ∧ Rd H a (.lst xs) ∧ RFs K w H xs ds := by
  rcases h with h | ⟨a, l, rfl, e, xs, hx, r⟩ | ⟨_, _, _, e, _⟩
  · cases h with
    | lst hx r => exact ⟨_, _, rfl, .inr ⟨_, hx⟩, r⟩
  · cases e; exact ⟨_, _, rfl, .inl hx, r⟩
  · cases e
theorem RP.tup {v : V} {ds : List PyData} (h : RP K w H v (.tuple ds)) : ∃ a xs, v = .ref a ∧ SqT K H a xs ∧ RFs K w H xs ds := by
  rcases h with h | ⟨_, _, _, e, _⟩ | ⟨_, _, _, e, _⟩
  · cases h with
    | tup hx r => exact ⟨_, _, rfl, hx, r⟩
  · cases e
  · cases e
theorem RP.str {v : V} {x : Str} (h : RP K w H v (.str x)) : v = .str x := by
  rcases h with h | ⟨_, _, _, e, _⟩ | ⟨_, _, _, e, _⟩
  · cases h; rfl
  · cases e
  · cases e
theorem wn_ol {P : DV → Prop} {Q : VK} {p : Addr} {xs : List V} {ds : List PyData} (k : Wn K w H P Q) (hp : H p = none) (r : RFs K w H xs ds) (q : P (.ol ds)) : Q (.ref p) (upd H p (.lst xs)) :=
  k _ _ _ q (same_upd hp) ⟨p, rfl, hp, xs, upd_same, r.ext (Same.ext (same_upd hp))⟩
theorem wn_tup {P : DV → Prop} {Q : VK} {p : Addr} {xs : List V} {ds : List PyData} (k : Wn K w H P Q) (hp : H p = none) (r : RFs K w H xs ds) (q : P (.fz (.tuple ds))) : Q (.ref p) (upd H p (.tup xs)) :=
  k _ _ _ q (same_upd hp) (RF.tup (SqT.of upd_same) (r.ext (Same.ext (same_upd hp))))
/-! ## + -/
def rAdd : D2 := fun d e P => match d, e with
  | .int i, .int j => P (.fz (.int (i + j)))
  | .list xs, .list ys => xs.length + ys.length ≤ sizeLine ∧ P (.ol (xs ++ ys))
  | .tuple xs, .tuple ys => xs.length + ys.length ≤ sizeLine ∧ P (.fz (.tuple (xs ++ ys)))
  | .str x, .str y => x.length + y.length ≤ sizeLine ∧ P (.fz (.str (x ++ y)))
  | _, _ => False
theorem opd_add : OpR X (binaryOp .Add) (RO2 X.K X.w rAdd) := by
  intro pins s σ H x y v u Q I rx ry ⟨d, e, P, hd, he, q, k⟩
  unfold rAdd at q
  split at q
  · exact op_add pins s σ H x y v u Q I rx ry ⟨_, _, hd.int', he.int', wn_fz k (.int _) q⟩
  · rename_i l1 l2
    obtain ⟨a, xs, rfl, h1, r1⟩ := hd.seqR
    obtain ⟨b, ys, rfl, h2, r2⟩ := he.seqR
    cases rx
    cases ry
    obtain ⟨z1, its, n1, v1, e1⟩ := h1.ok I.hok
    obtain ⟨z2, its2, n2, v2, e2⟩ := h2.ok I.hok
    have hz : xs.length + ys.length ≤ sizeLine := by rw [r1.len, r2.len]; exact q.1
    have hl1 := v1.length
    have hl2 := v2.length
    refine PySem.P.add_list e1 e2 ?_ (by rw [List.size_toArray, List.size_toArray]; omega)
    have ea : its.toArray ++ its2.toArray = (its ++ its2).toArray := by simp
    rw [ea]
    exact ⟨.ref _, _, I.lnew (t' := s.toks) (v1.append v2) (by rw [List.length_append]; omega), rfl, wn_ol k I.fresh (r1.app r2) q.2⟩
  · rename_i l1 l2
    obtain ⟨a, xs, rfl, h1, r1⟩ := hd.tup
    obtain ⟨b, ys, rfl, h2, r2⟩ := he.tup
    refine op_catA pins s σ H _ _ v u Q I rx ry ⟨a, b, xs, ys, rfl, rfl, h1, h2, by rw [r1.len, r2.len]; exact q.1, fun e => ?_, fun _ e => ?_, fun _ _ p hp => wn_tup k hp (r1.app r2) q.2⟩
    · subst e
      cases r1
      exact wn_fz k (.tup h2 r2) q.2
    · subst e
      cases r2
      exact wn_fz k (.tup h1 r1) (by simpa using q.2)
  · exact op_add_str pins s σ H x y v u Q I rx ry ⟨_, _, hd.str, he.str, q.1, wn_fz k (.str _) q.2⟩
  · exact q.elim
/-! ## isinstance -/
def tyN : PyData → String
  | .none => "NoneType"
  | .bool _ => "bool"
  | .int _ => "int"
  | .str _ => "str"
  | .list _ => "list"
  | .tuple _ => "tuple"
  | .dict _ => "dict"
theorem kit_data {pins : List (Addr × Obj)} {σ : Sl} {s : Shared} {v : V} {u : Value} {d : PyData} (I : Inv X pins σ H s) (r : RelV v u) (h : RP X.K X.w H v d) :
    ∃ P : Heap → Prop, PySem.W.KitX X.K u (.type (tyN d)) P ∧ P s.heap ∧ u ≠ .builtin "__main__.__loader__#opaque" := by
  obtain ⟨as, rd, _⟩ := h.reads I r
  cases rd with
  | none => exact ⟨_, PySem.W.kitx_none, trivial, fun z => nomatch z⟩
  | bool b => exact ⟨_, PySem.W.kitx_bool, trivial, fun z => nomatch z⟩
  | int i t => exact ⟨_, PySem.W.kitx_int, trivial, fun z => nomatch z⟩
  | str x t => exact ⟨_, PySem.W.kitx_str, trivial, fun z => nomatch z⟩
  | list ho hc hd hr => exact ⟨_, PySem.W.kitx_list, ⟨_, ho, hc⟩, fun z => nomatch z⟩
  | tuple ho hc hd hr => exact ⟨_, PySem.W.kitx_tuple, ⟨_, ho, hc⟩, fun z => nomatch z⟩
  | dict ho hc hd h1 h2 => exact ⟨_, PySem.W.kitx_dict, ⟨_, ho, hc⟩, fun z => nomatch z⟩
/-- is d of the built-in type T -/
def isTy (T : String) (d : PyData) : Bool := tyN d == T || (T == "int" && tyN d == "bool")
def okTy (T : String) : Bool := ["NoneType", "bool", "int", "str", "list", "tuple", "dict"].all fun a => kitB a T == some (a == T || (T == "int" && a == "bool"))
theorem kit_ok {T : String} (h : okTy T = true) (d : PyData) : PySem.W.kitOne K (.type (tyN d)) (.type T) = some (isTy T d) := by
  refine kit_ty ?_
  unfold okTy at h
  rw [List.all_eq_true] at h
  have := h (tyN d) (by cases d <;> simp [tyN])
  exact eq_of_beq this
@[simp] def tIsi (T : String) (ta : DT) : DT := fun δ P => ta δ fun r δ1 => ∃ d, r.rd δ1 = some d ∧ P (.val (.fz (.bool (isTy T d)))) δ1
theorem de_isi {e : Expr} {ta : DT} {T : String} {tn : Str} {p p2 pos : Pos} (ha : DE X e ta) (hg : Gl X "isinstance") (hm : X.mg "isinstance" = none) (hT : PE X (.Name tn p2) (tC (.ty T))) (ok : okTy T = true)
    (he : starEach [e, .Name tn p2] X.env = (false, eval e X.env) :: starEach [.Name tn p2] X.env := by rfl) (hpl : (backTo pos (starEach [.Name tn p2] X.env)).any (·.1) = false := by rfl)
    (hs2 : starEach [.Name tn p2] X.env = (false, eval (.Name tn p2) X.env) :: starEach [] X.env := by rfl) : DE X (.Call (.Name "isinstance" p) [e, .Name tn p2] [] pos) (tIsi T ta) := by
  refine PE.mono (pe_callB (id := "isinstance") (r := fun xs H Q => ∃ x d b, xs = [x, .ty T] ∧ RP X.K X.w H x d ∧ b = isTy T d ∧ Q (.bl b) H) ?_ hg hm (by decide +kernel) (pa_cons ha (pa_cons hT pa_nil hs2) he) (by decide) (by decide) he hpl) ?_
  · intro pins s σ H xs us Q I r ⟨x, d, b, e, hd, eb, q⟩
    subst e eb
    cases r with
    | cons r1 r2 =>
      cases r2 with
      | cons r2 r3 =>
        cases r3
        cases (show _ = Value.type T from r2)
        obtain ⟨P, Z, pz, hx⟩ := kit_data I r1 hd
        exact PySem.W.kia_one Z I.kIn pz (kit_ok ok d) hx fun tk => ⟨.bl _, H, I.tok tk, rfl, q⟩
  · intro σ H Q ⟨S, H0, δ, P, R, q, k⟩
    exact ⟨S, H0, δ, _, R, q, fun v H1 r δ1 ⟨d, e, q1⟩ R1 rr f T1 => ⟨v, d, _, rfl, rr.peek R1 e, rfl, of_fz R1 T1 (.bl _) k q1⟩⟩
/-! ## len, places, slices -/
def lenD : PyData → Option Nat
  | .list ds => some ds.length
  | .tuple ds => some ds.length
  | _ => none
@[simp] def rLenP : DL' := fun ds P => ∃ d n, ds = [d] ∧ lenD d = some n ∧ P (.fz (.int (n : Nat)))
theorem cd_len : CallR X (.builtin "len") (ROL X.K X.w rLenP) := by
  intro pins s σ H xs us Q I r ⟨ds, P, hds, ⟨d, n, e, hn, p⟩, k⟩
  subst e
  cases hds with
  | cons h h2 =>
    cases h2
    cases d with
    | list l =>
      cases hn
      obtain ⟨a, ys, rfl, hs, rr⟩ := h.seq
      exact call_len_seq pins s σ H _ us Q I r ⟨a, ys, rfl, .inl hs, by rw [rr.len]; exact wn_fz k (.int _) p⟩
    | tuple l =>
      cases hn
      obtain ⟨a, ys, rfl, hs, rr⟩ := h.tup
      exact call_len_seq pins s σ H _ us Q I r ⟨a, ys, rfl, .inr hs, by rw [rr.len]; exact wn_fz k (.int _) p⟩
    | _ => cases hn
def seqOf : PyData → Option (List PyData)
  | .list ds => some ds
  | .tuple ds => some ds
  | _ => none
@[simp] def rIxP : D2 := fun d e P => ∃ ds i z, seqOf d = some ds ∧ intD e = some i ∧ atI ds i = some z ∧ P (.fz z)
theorem RFs.at {vs : List V} {ds : List PyData} {i : Int} {z : PyData} (r : RFs K w H vs ds) (h : atI ds i = some z) : ∃ v, atI vs i = some v ∧ RF K w H v z := by
  unfold atI at h ⊢
  rw [r.len]
  cases e : ixN ds.length i with
  | none => rw [e] at h; cases h
  | some j => rw [e] at h; exact r.get h
theorem ixd_seq : IxR X (RO2 X.K X.w rIxP) := by
  intro value slice pins s σ H x y v u Q I rx ry ⟨d, e, P, hd, he, ⟨ds, i, z, e1, e2, e3, p⟩, k⟩ hs
  cases d with
  | list l =>
    cases e1
    obtain ⟨a, xs, rfl, hq, rr⟩ := hd.seq
    obtain ⟨vv, h1, h2⟩ := rr.at e3
    exact ix_list value slice pins s σ H _ y v u Q I rx ry ⟨a, xs, i, vv, rfl, he.int e2, hq, h1, wn_fz k h2 p⟩ hs
  | tuple l =>
    cases e1
    obtain ⟨a, xs, rfl, hq, rr⟩ := hd.tup
    obtain ⟨vv, h1, h2⟩ := rr.at e3
    exact ix_tup value slice pins s σ H _ y v u Q I rx ry ⟨a, xs, i, vv, rfl, he.int e2, hq, h1, wn_fz k h2 p⟩ hs
  | _ => cases e1
def cutD (ds : List PyData) (lo hi : Option Int) : List PyData := (ds.drop (HT.sIx ds.length 0 lo)).take (HT.sIx ds.length ds.length hi - HT.sIx ds.length 0 lo)
theorem RFs.cut {vs : List V} {ds : List PyData} (r : RFs K w H vs ds) (lo hi : Option Int) : RFs K w H (cutV vs lo hi) (cutD ds lo hi) := by
  unfold cutV cutD
  rw [r.len]
  exact (r.drop _).take _
theorem cutD_whole {ds : List PyData} {lo hi : Option Int} (h : HT.sIx ds.length 0 lo = 0 ∧ HT.sIx ds.length ds.length hi = ds.length) : cutD ds lo hi = ds := by
  unfold cutD
  rw [h.1, h.2]
  simp
def cutOf (d : PyData) (lo hi : Option Int) : Option DV := match d with
  | .list ds => some (.ol (cutD ds lo hi))
  | .tuple ds => some (.fz (.tuple (cutD ds lo hi)))
  | _ => none
/-- a part of a slice -/
abbrev DOt := DEnv → (Option Int → DEnv → Prop) → Prop
def lO (K : PySem.W.Frag) (w : World) (t : DOt) : TO := fun σ H Q => ∃ S H0 δ P, Rep K w S H0 σ H δ ∧ t δ P ∧ ∀ o H' δ', P o δ' → Rep K w S H0 σ H' δ' → Stp S σ δ H δ' H' → Q o H'
@[simp] def oNone : DOt := fun δ P => P none δ
@[simp] def oSome (t : DT) : DOt := fun δ P => t δ fun r δ1 => ∃ d i, r.rd δ1 = some d ∧ intD d = some i ∧ P (some i) δ1
theorem do_none : PO X none (lO X.K X.w oNone) := ⟨fun pins s σ H Q I ⟨S, H0, δ, P, R, q, k⟩ => po_none.run pins s σ H Q I (k none H δ q R (Stp.refl _ _ _ _))⟩
theorem do_some {e : Expr} {t : DT} (h : DE X e t) : PO X (some e) (lO X.K X.w (oSome t)) := ⟨fun pins s σ H Q I ⟨S, H0, δ, P, R, q, k⟩ => (po_some h).run pins s σ H Q I
  ⟨S, H0, δ, _, R, q, fun v H1 r δ1 ⟨d, i, e1, e2, q1⟩ R1 rr f T1 => ⟨i, (rr.peek R1 e1).int e2, k (some i) H1 δ1 q1 R1 T1⟩⟩⟩
@[simp] def tSlD (ta : DT) (tl th : DOt) : DT := fun δ P => ta δ fun r δ1 => tl δ1 fun lo δ2 => th δ2 fun hi δ3 => ∃ d x, r.rd δ3 = some d ∧ cutOf d lo hi = some x ∧ P (.val x) δ3
def rSlP (K : PySem.W.Frag) (w : World) : V → Option Int → Option Int → Hp → VK → Prop := fun x lo hi H Q => ∃ d z P, RP K w H x d ∧ cutOf d lo hi = some z ∧ P z ∧ Wn K w H P Q
theorem sld : SlR X (rSlP X.K X.w) := by
  intro pins s σ H x v vl vu lo hi sl Q I rx hs pl pu ⟨d, z, P, hd, e, p, k⟩
  cases d with
  | list l =>
    cases e
    obtain ⟨a, xs, rfl, hq, rr⟩ := hd.seq
    exact sl_list pins s σ H _ v vl vu lo hi sl Q I rx hs pl pu ⟨a, xs, rfl, hq, fun q hp => wn_ol k hp (rr.cut lo hi) p⟩
  | tuple l =>
    cases e
    obtain ⟨a, xs, rfl, hq, rr⟩ := hd.tup
    refine sl_tupA pins s σ H _ v vl vu lo hi sl Q I rx hs pl pu ⟨a, xs, rfl, hq, fun hw => ?_, fun _ q hp => wn_tup k hp (rr.cut lo hi) p⟩
    rw [rr.len] at hw
    rw [cutD_whole hw] at p
    exact wn_fz k (.tup hq rr) p
  | _ => cases e
theorem de_slice {e : Expr} {lo hi : Option Expr} {ta : DT} {tl th : DOt} {pos p2 : Pos} (he : DE X e ta) (hl : PO X lo (lO X.K X.w tl)) (hh : PO X hi (lO X.K X.w th)) : DE X (.Subscript e (.Slice lo hi none p2) pos) (tSlD ta tl th) :=
  PE.mono (pe_slice sld he hl hh) fun σ H Q ⟨S, H0, δ, P, R, q, k⟩ => ⟨S, H0, δ, _, R, q, fun v H1 r δ1 q1 R1 rr f T1 => ⟨S, H0, δ1, _, R1, q1, fun o H2 δ2 q2 R2 T2 =>
    ⟨S, H0, δ2, _, R2, q2, fun o2 H3 δ3 ⟨d, z, e1, e2, q3⟩ R3 T3 => ⟨d, z, fun z => P (.val z) δ3, (rr.stp R1 (T2.trans T3)).peek R3 e1, e2, q3, after R R3 (T1.trans (T2.trans T3)) k⟩⟩⟩⟩
/-! ## list(..), tuple(..), int(..), abs(..) -/
@[simp] def rListP : DL' := fun ds P => ∃ d l, ds = [d] ∧ seqOf d = some l ∧ P (.ol l)
@[simp] def rTupP : DL' := fun ds P => ∃ d l, ds = [d] ∧ seqOf d = some l ∧ P (.fz (.tuple l))
theorem cd_list : CallR X (.type "list") (ROL X.K X.w rListP) := by
  intro pins s σ H xs us Q I r ⟨ds, P, hds, ⟨d, l, e, hn, p⟩, k⟩
  subst e
  cases hds with
  | cons h h2 =>
    cases h2
    cases d with
    | list l =>
      cases hn
      obtain ⟨a, ys, rfl, hs, rr⟩ := h.seq
      exact call_list_of pins s σ H _ us Q I r ⟨a, ys, rfl, .inl hs, fun q hp => wn_ol k hp rr p⟩
    | tuple l =>
      cases hn
      obtain ⟨a, ys, rfl, hs, rr⟩ := h.tup
      exact call_list_of pins s σ H _ us Q I r ⟨a, ys, rfl, .inr hs, fun q hp => wn_ol k hp rr p⟩
    | _ => cases hn
theorem cd_tuple : CallR X (.type "tuple") (ROL X.K X.w rTupP) := by
  intro pins s σ H xs us Q I r ⟨ds, P, hds, ⟨d, l, e, hn, p⟩, k⟩
  subst e
  cases hds with
  | cons h h2 =>
    cases h2
    cases d with
    | list l =>
      cases hn
      obtain ⟨a, ys, rfl, hs, rr⟩ := h.seq
      exact call_tuple_of pins s σ H _ us Q I r ⟨a, ys, rfl, .inl ⟨hs, fun q hp => wn_tup k hp rr p⟩⟩
    | tuple l =>
      cases hn
      obtain ⟨a, ys, rfl, hs, rr⟩ := h.tup
      exact call_tuple_of pins s σ H _ us Q I r ⟨a, ys, rfl, .inr ⟨hs, wn_fz k (.tup hs rr) p⟩⟩
    | _ => cases hn
def toInt : PyData → Option Int
  | .int i => some i
  | .bool b => some (if b then 1 else 0)
  | _ => none
@[simp] def rIntP : DL' := fun ds P => ∃ d i, ds = [d] ∧ toInt d = some i ∧ P (.fz (.int i))
theorem cd_int : CallR X (.type "int") (ROL X.K X.w rIntP) := by
  intro pins s σ H xs us Q I r ⟨ds, P, hds, ⟨d, l, e, hn, p⟩, k⟩
  subst e
  cases hds with
  | cons h h2 =>
    cases h2
    cases d with
    | int i =>
      cases hn
      obtain rfl := h.int'
      exact call_int1 pins s σ H _ us Q I r (.inl ⟨_, rfl, wn_fz k (.int _) p⟩)
    | bool b =>
      cases hn
      obtain rfl := h.bool
      exact call_int1 pins s σ H _ us Q I r (.inr ⟨_, rfl, wn_fz k (.int _) p⟩)
    | _ => cases hn
/-! ## all, any, sum, repr -/
def boolsOf : List PyData → Option (List Bool)
  | [] => some []
  | .bool b :: r => (boolsOf r).map (b :: ·)
  | _ => none
theorem RFs.bools : ∀ {vs : List V} {ds : List PyData} {bs : List Bool}, RFs K w H vs ds → boolsOf ds = some bs → vs = bs.map V.bl
  | _, _, _, .nil, e => by cases e; rfl
  | _, _, bs, .cons (d := .bool b) (ds := ds) h hs, e => by
    have e : (boolsOf ds).map (b :: ·) = some bs := e
    cases q : boolsOf ds with
    | none => rw [q] at e; cases e
    | some l => rw [q] at e; cases e; cases h; rw [RFs.bools hs q]; rfl
  | _, _, _, .cons (d := .none) _ _, e => by cases e
  | _, _, _, .cons (d := .int _) _ _, e => by cases e
  | _, _, _, .cons (d := .str _) _ _, e => by cases e
  | _, _, _, .cons (d := .list _) _ _, e => by cases e
  | _, _, _, .cons (d := .tuple _) _ _, e => by cases e
  | _, _, _, .cons (d := .dict _) _ _, e => by cases e
@[simp] def rAllP : DL' := fun ds P => ∃ l bs, ds = [.list l] ∧ boolsOf l = some bs ∧ P (.fz (.bool (bs.all id)))
def rAnyP : DL' := fun ds P => ∃ l bs, ds = [.list l] ∧ boolsOf l = some bs ∧ P (.fz (.bool (bs.any id)))
theorem cd_all (hc : X.calm = true) : CallR X (.builtin "all") (ROL X.K X.w rAllP) := by
  intro pins s σ H xs us Q I r ⟨ds, P, hds, ⟨l, bs, e, hb, p⟩, k⟩
  subst e
  cases hds with
  | cons h h2 =>
    cases h2
    obtain ⟨a, ys, rfl, hs, rr⟩ := h.seq
    rw [rr.bools hb] at hs
    exact cr_all hc pins s σ H _ us Q I r ⟨a, bs, rfl, hs, wn_fz k (.bl _) p⟩
theorem cd_any (hc : X.calm = true) : CallR X (.builtin "any") (ROL X.K X.w rAnyP) := by
  intro pins s σ H xs us Q I r ⟨ds, P, hds, ⟨l, bs, e, hb, p⟩, k⟩
  subst e
  cases hds with
  | cons h h2 =>
    cases h2
    obtain ⟨a, ys, rfl, hs, rr⟩ := h.seq
    rw [rr.bools hb] at hs
    exact cr_any hc pins s σ H _ us Q I r ⟨a, bs, rfl, hs, wn_fz k (.bl _) p⟩
/-- may be shown -/
def ShowOk (d : PyData) : Prop := d.showable = true ∧ d.shown.length ≤ sizeLine ∧ d.depth ≤ 60
def rReprP : DL' := fun ds P => ∃ d, ds = [d] ∧ ShowOk d ∧ P (.fz (.str d.shown))
end
end DL
set_option maxHeartbeats 2000000
namespace DL
open PySem PySem.Spec PyProof.Rows L2
/-! ## dicts whose keys are tuples -/
def keq (a b : PyData) : Bool := decide (nkOf a = nkOf b)
def dLook (kvs : Kvs) (k : PyData) : Option PyData := (kvs.find? fun p => keq p.1 k).map (·.2)
def dPut (kvs : Kvs) (k v : PyData) : Kvs := if (dLook kvs k).isSome then kvs.map fun p => if keq p.1 k then (p.1, v) else p else kvs ++ [(k, v)]
def isTup : PyData → Bool
  | .tuple _ => true
  | _ => false
/-- a key that a dict with tuple keys takes -/
def tKey (d : PyData) : Bool := isTup d && (match nkOf d with | some k => decide (k.depth ≤ 8) | none => false)
/-- an entry -/
structure DRow (K : PySem.W.Frag) (w : World) (H : Hp) (e : DictEntry) (p : PyData × PyData) : Prop where
  key : ∃ v, RelV v e.key ∧ RF K w H v p.1
  val : ∃ v, RelV v e.val ∧ RF K w H v p.2
  hash : ∃ k, nkOf p.1 = some k ∧ e.hash = k.hash w ∧ k.depth ≤ 8
section
variable {X : Cx} {K : PySem.W.Frag} {w : World} {H H' : Hp}
theorem rows_of : ∀ {es : List DictEntry} {ks vs : List V} {kds vds : List PyData}, Vals ks (es.map (·.key)) → Vals vs (es.map (·.val)) → RFs K w H ks kds → RFs K w H vs vds → KeyRows w es kds → Paired (DRow K w H) es (kds.zip vds)
  | [], _, _, _, _, a, b, c, d, e => by cases a; cases b; cases c; cases d; exact .nil
  | x :: es, _, _, _, _, a, b, c, d, e => by
    cases a with
    | cons a1 a2 =>
      cases b with
      | cons b1 b2 =>
        cases c with
        | cons c1 c2 =>
          cases d with
          | cons d1 d2 =>
            cases e with
            | cons e1 e2 => exact .cons ⟨⟨_, a1, c1⟩, ⟨_, b1, d1⟩, e1⟩ (rows_of a2 b2 c2 d2 e2)
theorem of_rows : ∀ {es : List DictEntry} {kvs : Kvs}, Paired (DRow K w H) es kvs → ∃ ks vs, Vals ks (es.map (·.key)) ∧ Vals vs (es.map (·.val)) ∧ RFs K w H ks (kvs.map (·.1)) ∧ RFs K w H vs (kvs.map (·.2)) ∧ KeyRows w es (kvs.map (·.1))
  | _, _, .nil => ⟨[], [], .nil, .nil, .nil, .nil, .nil⟩
  | _, _, .cons r t => by
    obtain ⟨ks, vs, a, b, c, d, e⟩ := of_rows t
    obtain ⟨⟨kv, k1, k2⟩, ⟨vv, v1, v2⟩, hh⟩ := r
    exact ⟨kv :: ks, vv :: vs, .cons k1 a, .cons v1 b, .cons k2 c, .cons v2 d, .cons hh e⟩
theorem zip_maps : ∀ kvs : Kvs, (kvs.map (·.1)).zip (kvs.map (·.2)) = kvs
  | [] => rfl
  | p :: r => by simp [zip_maps r]
/-- a dict that is there: own, or frozen -/
theorem RP.dct {v : V} {kvs : Kvs} (h : RP K w H v (.dict kvs)) : ∃ a es, v = .ref a ∧ Rd H a (dctH a es) ∧ Paired (DRow K w H) es kvs ∧ (kvs.map (·.1)).Nodup := by
  have nd : ∀ {kds vds : List PyData} {es : List DictEntry} {ks vs : List V}, Vals ks (es.map (·.key)) → Vals vs (es.map (·.val)) → RFs K w H ks kds → RFs K w H vs vds → kds.Nodup → ((kds.zip vds).map (·.1)).Nodup := fun {kds vds es ks vs} a b r1 r2 h => by
    have l1 := r1.len
    have l2 := r2.len
    have l3 := a.length
    have l4 := b.length
    simp only [List.length_map] at l3 l4
    rw [List.map_fst_zip (by omega)]
    exact h
  rcases h with h | ⟨_, _, _, e, _⟩ | ⟨a, l, rfl, e, es, ks, vs, kds, vds, hx, a1, a2, r1, r2, kr, n, e2⟩
  · cases h with
    | dct hx a1 a2 r1 r2 kr n => exact ⟨_, _, rfl, .inr ⟨_, hx⟩, rows_of a1 a2 r1 r2 kr, nd a1 a2 r1 r2 n⟩
  · cases e
  · cases e
    subst e2
    exact ⟨a, es, rfl, .inl hx, rows_of a1 a2 r1 r2 kr, nd a1 a2 r1 r2 n⟩
theorem DcA.of {a : Addr} {es : List DictEntry} {kvs : Kvs} (h : H a = some (dctH a es)) (r : Paired (DRow K w H) es kvs) (nd : (kvs.map (·.1)).Nodup) : DcA K w H a kvs := by
  obtain ⟨ks, vs, a1, a2, r1, r2, kr⟩ := of_rows r
  exact ⟨es, ks, vs, _, _, h, a1, a2, r1, r2, kr, nd, (zip_maps kvs).symm⟩
theorem DRow.ext (e : Ext H H') {x : DictEntry} {p : PyData × PyData} (h : DRow K w H x p) : DRow K w H' x p := by
  obtain ⟨⟨kv, k1, k2⟩, ⟨vv, v1, v2⟩, hh⟩ := h
  exact ⟨⟨kv, k1, k2.ext e⟩, ⟨vv, v1, v2.ext e⟩, hh⟩
theorem paired_imp {α β : Type} {F G : α → β → Prop} (f : ∀ a b, F a b → G a b) : ∀ {l : List α} {m : List β}, Paired F l m → Paired G l m
  | _, _, .nil => .nil
  | _, _, .cons r t => .cons (f _ _ r) (paired_imp f t)
/-! keys as the library has them -/
section
variable {pins : List (Addr × Obj)} {σ : Sl} {s : Shared}
mutual
theorem RF.nested (I : Inv X pins σ H s) : ∀ {d : PyData} {v : V} {u : Value} {k : NestedKey}, RF X.K X.w H v d → RelV v u → nkOf d = some k → NestedIs s.heap k u
  | _, _, _, _, .int i, r, e => by obtain ⟨t, rfl⟩ := r; cases e; exact .int i t
  | _, _, _, _, .str x, r, e => by obtain ⟨t, rfl⟩ := r; cases e; exact .text x t
  | _, _, _, _, .tup (ds := ds) h hs, r, e => by
    cases r
    obtain ⟨its, rv, ⟨o, ho, hc, n, hd⟩, _⟩ := I.tuple h
    have e : (nksOf ds).map NestedKey.tup = some _ := e
    cases q : nksOf ds with
    | none => rw [q] at e; cases e
    | some l =>
      rw [q] at e
      cases e
      exact .tup ho hc hd (RFs.nested I hs rv q)
  | _, _, _, _, .non, _, e => by cases e
  | _, _, _, _, .bl _, _, e => by cases e
  | _, _, _, _, .lst _ _, _, e => by cases e
  | _, _, _, _, .dct _ _ _ _ _ _ _, _, e => by cases e
theorem RFs.nested (I : Inv X pins σ H s) : ∀ {ds : List PyData} {vs : List V} {us : List Value} {ks : List NestedKey}, RFs X.K X.w H vs ds → Vals vs us → nksOf ds = some ks → NestedAll s.heap ks us
  | _, _, _, _, .nil, r, e => by cases r; cases e; exact .nil
  | _, _, _, ks, .cons (d := d) (ds := ds) h hs, r, e => by
    cases r with
    | cons r1 r2 =>
      have e : (nkOf d).bind (fun k => (nksOf ds).map (k :: ·)) = some ks := e
      cases q : nkOf d with
      | none => rw [q] at e; cases e
      | some k =>
        rw [q] at e
        cases q2 : nksOf ds with
        | none => rw [q2] at e; cases e
        | some l => rw [q2] at e; cases e; exact .cons (RF.nested I h r1 q) (RFs.nested I hs r2 q2)
end
mutual
theorem nkOf_inj : ∀ {a b : PyData} {k : NestedKey}, nkOf a = some k → nkOf b = some k → a = b
  | .int i, b, k, h1, h2 => by cases h1; cases b with
    | int j => cases h2; rfl
    | tuple ds => have h2 : (nksOf ds).map NestedKey.tup = some _ := h2; cases q : nksOf ds <;> rw [q] at h2 <;> cases h2
    | _ => cases h2
  | .str x, b, k, h1, h2 => by cases h1; cases b with
    | str y => cases h2; rfl
    | tuple ds => have h2 : (nksOf ds).map NestedKey.tup = some _ := h2; cases q : nksOf ds <;> rw [q] at h2 <;> cases h2
    | _ => cases h2
  | .tuple ds, b, k, h1, h2 => by
    have h1 : (nksOf ds).map NestedKey.tup = some k := h1
    cases q : nksOf ds with
    | none => rw [q] at h1; cases h1
    | some l =>
      rw [q] at h1
      cases h1
      cases b with
      | tuple es =>
        have h2 : (nksOf es).map NestedKey.tup = some _ := h2
        cases q2 : nksOf es with
        | none => rw [q2] at h2; cases h2
        | some m =>
          rw [q2] at h2
          cases h2
          rw [nksOf_inj q q2]
      | _ => cases h2
  | .none, _, _, h1, _ => by cases h1
  | .bool _, _, _, h1, _ => by cases h1
  | .list _, _, _, h1, _ => by cases h1
  | .dict _, _, _, h1, _ => by cases h1
theorem nksOf_inj : ∀ {a b : List PyData} {k : List NestedKey}, nksOf a = some k → nksOf b = some k → a = b
  | [], b, k, h1, h2 => by
    cases h1
    cases b with
    | nil => rfl
    | cons x r =>
      have h2 : (nkOf x).bind (fun k => (nksOf r).map (k :: ·)) = some [] := h2
      cases q : nkOf x <;> rw [q] at h2
      · cases h2
      · cases q2 : nksOf r <;> rw [q2] at h2 <;> cases h2
  | x :: r, b, k, h1, h2 => by
    have h1 : (nkOf x).bind (fun k => (nksOf r).map (k :: ·)) = some k := h1
    cases q : nkOf x with
    | none => rw [q] at h1; cases h1
    | some kx =>
      rw [q] at h1
      cases q2 : nksOf r with
      | none => rw [q2] at h1; cases h1
      | some kr =>
        rw [q2] at h1
        cases h1
        cases b with
        | nil => cases h2
        | cons y t =>
          have h2 : (nkOf y).bind (fun k => (nksOf t).map (k :: ·)) = some (kx :: kr) := h2
          cases q3 : nkOf y with
          | none => rw [q3] at h2; cases h2
          | some ky =>
            rw [q3] at h2
            cases q4 : nksOf t with
            | none => rw [q4] at h2; cases h2
            | some kt =>
              rw [q4] at h2
              cases h2
              rw [nkOf_inj q q3, nksOf_inj q2 q4]
end
/-- an entry as the library's dicts with tuple keys have it -/
structure XRow (K : PySem.W.Frag) (w : World) (H : Hp) (x : NestedKey × Addr × Value) (p : PyData × PyData) : Prop where
  nk : nkOf p.1 = some x.1
  key : RF K w H (.ref x.2.1) p.1
  val : ∃ v, RelV v x.2.2 ∧ RF K w H v p.2
  dep : x.1.depth ≤ 8
theorem ref_of_tup {v : V} {d : PyData} (h : RF K w H v d) (t : isTup d = true) : ∃ a, v = .ref a := by
  cases h with
  | tup _ _ => exact ⟨_, rfl⟩
  | _ => cases t
theorem xs_of (I : Inv X pins σ H s) : ∀ {es : List DictEntry} {kvs : Kvs}, Paired (DRow X.K X.w H) es kvs → kvs.all (fun p => isTup p.1) = true →
    ∃ xs : List (NestedKey × Addr × Value), es = xs.map (entryOfKey (nestedKind X.prog X.w)) ∧ Paired (XRow X.K X.w H) xs kvs ∧ ∀ x ∈ xs, (nestedKind X.prog X.w).is s.heap x.1 x.2.1
  | _, _, .nil, _ => ⟨[], rfl, .nil, fun _ h => by cases h⟩
  | e :: es, p :: kvs, .cons r t, ht => by
    rw [List.all_cons, Bool.and_eq_true] at ht
    obtain ⟨xs, h1, h2, h3⟩ := xs_of I t ht.2
    obtain ⟨⟨kv, k1, k2⟩, vv, k, hk, hh, hd⟩ := r
    obtain ⟨a, rfl⟩ := ref_of_tup k2 ht.1
    have ek : e.key = .ref a := k1
    refine ⟨(k, a, e.val) :: xs, ?_, .cons ⟨hk, k2, vv, hd⟩ h2, fun x hx => ?_⟩
    · rw [List.map_cons, ← h1]
      congr 1
      obtain ⟨eh, ek', ev⟩ := e
      simp only at ek hh
      subst ek hh
      rfl
    · rcases List.mem_cons.mp hx with z | hx
      · rw [z]; exact ⟨k2.nested I (show RelV (.ref a) (Value.ref a) from rfl) hk, hd⟩
      · exact h3 x hx
theorem rows_xs : ∀ {xs : List (NestedKey × Addr × Value)} {kvs : Kvs}, Paired (XRow K w H) xs kvs → ∀ {P : Program}, Paired (DRow K w H) (xs.map (entryOfKey (nestedKind P w))) kvs
  | _, _, .nil, _ => .nil
  | _, _, .cons (a := x) r t, _ => .cons ⟨⟨.ref x.2.1, (show RelV (.ref x.2.1) (Value.ref x.2.1) from rfl), r.key⟩, r.val, _, r.nk, rfl, r.dep⟩ (rows_xs t)
theorem look_xs {k : NestedKey} {kd : PyData} (hk : nkOf kd = some k) : ∀ {xs : List (NestedKey × Addr × Value)} {kvs : Kvs}, Paired (XRow K w H) xs kvs →
    (∃ v u d a, dLook kvs kd = some d ∧ atKey xs k = some (a, u) ∧ RelV v u ∧ RF K w H v d) ∨ (dLook kvs kd = none ∧ atKey xs k = none)
  | _, _, .nil => .inr ⟨rfl, rfl⟩
  | x :: xs, p :: kvs, .cons r t => by
    by_cases h : x.1 = k
    · obtain ⟨v, v1, v2⟩ := r.val
      have hq : keq p.1 kd = true := by unfold keq; rw [r.nk, hk, h]; simp
      exact .inl ⟨v, _, _, x.2.1, by unfold dLook; simp [List.find?_cons, hq], by unfold atKey; rw [List.find?_cons_of_pos (by simpa using h)]; rfl, v1, v2⟩
    · have hq : ¬ keq p.1 kd = true := by unfold keq; rw [r.nk, hk]; simpa using h
      have e1 : dLook (p :: kvs) kd = dLook kvs kd := by unfold dLook; simp [List.find?_cons, hq]
      have e2 : atKey (x :: xs) k = atKey xs k := by unfold atKey; rw [List.find?_cons_of_neg (by simpa using h)]
      rw [e1, e2]
      exact look_xs hk t
theorem nodup_xs : ∀ {xs : List (NestedKey × Addr × Value)} {kvs : Kvs}, Paired (XRow K w H) xs kvs → (kvs.map (·.1)).Nodup → (xs.map (·.1)).Nodup
  | _, _, .nil, _ => .nil
  | x :: xs, p :: kvs, .cons r t, h => by
    rw [List.map_cons, List.nodup_cons] at h ⊢
    refine ⟨fun hm => h.1 ?_, nodup_xs t h.2⟩
    clear h
    induction t with
    | nil => cases hm
    | cons r' t' ih =>
      rw [List.map_cons, List.mem_cons] at hm ⊢
      rcases hm with hm | hm
      · exact .inl (nkOf_inj r.nk (by rw [hm]; exact r'.nk))
      · exact .inr (ih hm)
theorem put_xs {k : NestedKey} {kd vd : PyData} {a : Addr} {v : V} {u : Value} (hk : nkOf kd = some k) (dk : k.depth ≤ 8) (rk : RF K w H (.ref a) kd) (ru : RelV v u) (rv : RF K w H v vd) {xs : List (NestedKey × Addr × Value)} {kvs : Kvs} (h : Paired (XRow K w H) xs kvs) :
    Paired (XRow K w H) (storedH xs k a u) (dPut kvs kd vd) := by
  unfold storedH dPut
  have hm : Paired (XRow K w H) (xs.map (putAt k u)) (kvs.map fun p => if keq p.1 kd then (p.1, vd) else p) := by
    induction h with
    | nil => exact .nil
    | @cons x p xs kvs r t ih =>
      rw [List.map_cons, List.map_cons]
      refine .cons ?_ ih
      unfold putAt
      by_cases hx : x.1 = k
      · rw [if_pos hx, if_pos (show keq p.1 kd = true by unfold keq; rw [r.nk, hk, hx]; simp)]
        exact ⟨r.nk, r.key, ⟨v, ru, rv⟩, r.dep⟩
      · rw [if_neg hx, if_neg (show ¬ keq p.1 kd = true by unfold keq; rw [r.nk, hk]; simpa using hx)]
        exact r
  rcases look_xs hk h with ⟨_, _, _, _, e1, e2, _⟩ | ⟨e1, e2⟩
  · rw [e1, e2]; exact hm
  · rw [e1, e2]
    clear hm e1 e2
    induction h with
    | nil => exact .cons ⟨hk, rk, ⟨v, ru, rv⟩, dk⟩ .nil
    | cons r t ih => exact .cons r ih
end
theorem dPut_keys {kvs : Kvs} {k v : PyData} (hk : ∃ n, nkOf k = some n) (hs : ∀ p ∈ kvs, ∃ n, nkOf p.1 = some n) (nd : (kvs.map (·.1)).Nodup) : ((dPut kvs k v).map (·.1)).Nodup := by
  unfold dPut
  split
  · rw [List.map_map]
    have : (kvs.map fun p => if keq p.1 k then (p.1, v) else p).map (·.1) = kvs.map (·.1) := by
      rw [List.map_map]
      refine List.map_congr_left fun p _ => ?_
      simp only [Function.comp]
      split <;> rfl
    rw [← List.map_map, this]
    exact nd
  · rename_i hn
    rw [List.map_append, List.nodup_append]
    refine ⟨nd, by simp, fun a ha b hb => ?_⟩
    obtain ⟨p, hp, rfl⟩ := List.mem_map.mp ha
    have hb : b = k := by simpa using hb
    subst hb
    intro e
    apply hn
    unfold dLook
    rw [Option.isSome_map, List.find?_isSome]
    exact ⟨p, hp, by unfold keq; rw [e]; simp⟩
end
end DL
set_option maxHeartbeats 2000000
namespace DL
open PySem PySem.Spec PyProof.Rows L2
/-! ## repr: dicts apart from sys.modules by their own word -/
section
variable {X : Cx} {pins : List (Addr × Obj)} {σ : Sl} {H : Hp} {s : Shared}
theorem ram_cons {h : Heap} {a : Addr} {d : PyData} {as bs : List Addr} {n : Nat} (r : Reads h (.ref a) d as) (hd : d.depth = n + 1) (hb : ReadAtMost h n bs) : a ∉ bs ∧ ReadAtMost h d.depth (a :: bs) :=
  ⟨not_mem_of_deeper r (by omega) hb, ReadAtMost.cons r (by omega) hb⟩
theorem seq_toList (its : List Value) : its.toArray.toList = its := by simp
/-- the parts of a sequence that is shown -/
structure Parts (P : Program) (w : World) (h : Heap) (n : Nat) (us : List Value) (ts : List Str) (bs : List Addr) : Prop where
  low : ReadAtMost h n bs
  all : ReprAllK P w bs h n us ts
theorem list_reprK {P : Program} {w : World} {h : Heap} {a : Addr} {o : Obj} {its : List Value} {n : Nat} {ds : List PyData} {as bs : List Addr} (ho : h.get? a = some o) (hc : o.cls = .type "list") (hd : o.data = .seq its.toArray n)
    (r : ReadsAll h its ds as) (p : Parts P w h (PyData.depthAll ds) its (PyData.shownAll ds) bs) : ReadAtMost h (PyData.list ds).depth (a :: bs) ∧ ReprK P w (a :: bs) h (PyData.list ds).depth (.ref a) (PyData.list ds).shown := by
  have rd : Reads h (.ref a) (.list ds) (a :: as) := .list ho hc hd (by rw [seq_toList]; exact r)
  obtain ⟨q1, q2⟩ := ram_cons rd (by simp only [PyData.depth] : (PyData.list ds).depth = PyData.depthAll ds + 1) p.low
  refine ⟨q2, ?_⟩
  simp only [PyData.depth, PyData.shown]
  cases its with
  | nil =>
    cases r
    simp only [PyData.shownAll, listText_nil]
    exact ReprK.listEmpty ho hc hd
  | cons y l => exact ReprK.list ho hc hd q1 (by simpa using p.all.length_eq) fun i y e => p.all.item i y (by simpa using e)
mutual
theorem RF.reprK (I : Inv X pins σ H s) : ∀ {d : PyData} {v : V} {u : Value}, RF X.K X.w H v d → RelV v u → d.showable = true → d.shown.length ≤ sizeLine →
    ∃ bs, ReadAtMost s.heap d.depth bs ∧ ReprK X.prog X.w bs s.heap d.depth u d.shown
  | _, _, _, .non, r, _, _ => by cases r; exact ⟨[], (fun _ h => nomatch h), by simp only [PyData.shown]; exact .of_is ReprIs.none _ _ _⟩
  | _, _, _, .bl b, r, _, _ => by cases r; exact ⟨[], (fun _ h => nomatch h), by simp only [PyData.shown]; exact .of_is (ReprIs.bool b) _ _ _⟩
  | _, _, _, .int i, r, hs, _ => by obtain ⟨t, rfl⟩ := r; exact ⟨[], (fun _ h => nomatch h), by simp only [PyData.shown]; exact .of_is (ReprIs.int t (by simpa [PyData.showable] using hs)) _ _ _⟩
  | _, _, _, .str x, r, _, hz => by obtain ⟨t, rfl⟩ := r; exact ⟨[], (fun _ h => nomatch h), by simp only [PyData.shown]; exact .of_is (ReprIs.str x t (by simpa only [PyData.shown] using hz)) _ _ _⟩
  | _, _, _, .lst (ds := ds) h hs, r, sh, hz => by
    cases r
    obtain ⟨its, rv, ⟨o, n, ho, hc, _, hd⟩, _⟩ := I.list (.inl (.inr ⟨_, h⟩))
    have hz' : (listText (PyData.shownAll ds)).length ≤ sizeLine := by simpa only [PyData.shown] using hz
    obtain ⟨bs, p⟩ := RFs.reprK I hs rv (by simpa [PyData.showable] using sh) fun t ht => Nat.le_trans (listText_mem_le ht) hz'
    obtain ⟨as, hr, _⟩ := hs.reads I rv
    exact ⟨_, list_reprK ho hc hd hr p⟩
  | _, _, _, .tup (a := a) (ds := ds) h hs, r, sh, hz => by
    cases r
    obtain ⟨its, rv, ⟨o, ho, hc, n, hd⟩, _⟩ := I.tuple h
    have hz' : (tupleText (PyData.shownAll ds)).length ≤ sizeLine := by simpa only [PyData.shown] using hz
    obtain ⟨bs, p⟩ := RFs.reprK I hs rv (by simpa [PyData.showable] using sh) fun t ht => Nat.le_trans (tupleText_mem_le ht) hz'
    obtain ⟨as, hr, _⟩ := hs.reads I rv
    obtain ⟨q1, q2⟩ := ram_cons (.tuple ho hc hd (by rw [seq_toList]; exact hr)) (by simp only [PyData.depth] : (PyData.tuple ds).depth = PyData.depthAll ds + 1) p.low
    refine ⟨_, q2, ?_⟩
    simp only [PyData.depth, PyData.shown]
    exact ReprK.tuple ho hc hd q1 (by rw [seq_toList]; exact p.all)
  | _, _, _, .dct (a := a) (es := es) (kds := kds) (vds := vds) h hk hv rk rv kr nd, r, sh, hz => by
    cases r
    obtain ⟨ns, o, ep, ho, hx, hd⟩ := (show ObjOk X.prog X.w H s.heap a (dctH a es) from (frz_obj I h).2).1
    obtain ⟨as, h1, _⟩ := rk.reads I hk
    obtain ⟨cs, h2, _⟩ := rv.reads I hv
    have l1 := rk.len
    have l2 := rv.len
    have l3 := hk.length
    have l4 := hv.length
    simp only [List.length_map] at l3 l4
    generalize ek : kds.zip vds = kvs at sh hz
    have e1 : kvs.map (·.1) = kds := by rw [← ek, List.map_fst_zip (by omega)]
    have e2 : kvs.map (·.2) = vds := by rw [← ek, List.map_snd_zip (by omega)]
    have hz' : (dictText (PyData.shownKv kvs)).length ≤ sizeLine := by simpa only [PyData.shown] using hz
    obtain ⟨s1, s2⟩ := PyData.showableKv_split kvs (by simpa [PyData.showable] using sh)
    obtain ⟨b1, p1⟩ := RFs.reprK I rk hk (by rw [← e1]; exact s1) fun t ht => by
      obtain ⟨p, hp, hl⟩ := PyData.shownKv_key_le kvs t (by rw [e1]; exact ht)
      exact Nat.le_trans hl (Nat.le_trans (dictText_mem_le hp) hz')
    obtain ⟨b2, p2⟩ := RFs.reprK I rv hv (by rw [← e2]; exact s2) fun t ht => by
      obtain ⟨p, hp, hl⟩ := PyData.shownKv_val_le kvs t (by rw [e2]; exact ht)
      exact Nat.le_trans hl (Nat.le_trans (dictText_mem_le hp) hz')
    rw [← e1] at p1 h1
    rw [← e2] at p2 h2
    have rd : Reads s.heap (.ref a) (.dict kvs) _ := .dict ho hx.1 hd (by simpa using h1) (by simpa using h2)
    have low := (p1.low.mono (PyData.depthAll_keys_le kvs)).append (p2.low.mono (PyData.depthAll_vals_le kvs))
    obtain ⟨q1, q2⟩ := ram_cons rd (by simp only [PyData.depth] : (PyData.dict kvs).depth = PyData.depthKv kvs + 1) low
    refine ⟨_, q2, ?_⟩
    simp only [PyData.depth, PyData.shown, PyData.shownKv_eq]
    exact ReprK.dict ho hx.1 hd ns q1 (ReprEntriesK.of_two _ _ _ (by simpa using p1.all.more_le (fun b hb => List.mem_append_left _ hb) (PyData.depthAll_keys_le kvs)) (by simpa using p2.all.more_le (fun b hb => List.mem_append_right _ hb) (PyData.depthAll_vals_le kvs)))
theorem RFs.reprK (I : Inv X pins σ H s) : ∀ {ds : List PyData} {vs : List V} {us : List Value}, RFs X.K X.w H vs ds → Vals vs us → PyData.showableAll ds = true → (∀ t ∈ PyData.shownAll ds, t.length ≤ sizeLine) →
    ∃ bs, Parts X.prog X.w s.heap (PyData.depthAll ds) us (PyData.shownAll ds) bs
  | _, _, _, .nil, r, _, _ => by cases r; exact ⟨[], (fun _ h => nomatch h), by simp only [PyData.shownAll]; exact .nil⟩
  | _, _, _, .cons (d := d) (ds := ds) h hs, r, sh, hz => by
    cases r with
    | cons r1 r2 =>
      have sh' : d.showable = true ∧ PyData.showableAll ds = true := by simpa [PyData.showableAll] using sh
      simp only [PyData.shownAll, List.mem_cons, forall_eq_or_imp] at hz
      obtain ⟨b1, l1, k1⟩ := RF.reprK I h r1 sh'.1 hz.1
      obtain ⟨b2, l2, k2⟩ := RFs.reprK I hs r2 sh'.2 hz.2
      simp only [PyData.depthAll, PyData.shownAll]
      exact ⟨b1 ++ b2, (l1.mono (Nat.le_max_left _ _)).append (l2.mono (Nat.le_max_right _ _)),
        .cons ((k1.more fun b hb => List.mem_append_left _ hb).level_le (Nat.le_max_left _ _)) (k2.more_le (fun b hb => List.mem_append_right _ hb) (Nat.le_max_right _ _))⟩
end
/-- a list or a tuple whose items are told is shown -/
theorem call_repr_list {P : Program} {w : World} {A : Around} {E : Value → Shared → Prop} {a : Addr} {o : Obj} {its : List Value} {n : Nat} {ds : List PyData} {as bs : List Addr} {Q : Value → Shared → Prop} (ho : s.heap.get? a = some o) (hc : o.cls = .type "list") (hd : o.data = .seq its.toArray n)
    (r : ReadsAll s.heap its ds as) (p : Parts P w s.heap (PyData.depthAll ds) its (PyData.shownAll ds) bs) (hG : A.guards = some []) (hu : A.units + ((PyData.list ds).depth + 1) < cLine) (hz : (PyData.list ds).shown.length ≤ sizeLine)
    (hQ : ∀ h' u tk, (∀ b o, s.heap.get? b = some o → h'.get? b = some o) → Q (.str (PyData.list ds).shown u) { s with heap := h', toks := tk }) : wpAny (model P w) A (call (.builtin "repr") [.ref a]) Q E s := by
  have rd : Reads s.heap (.ref a) (.list ds) (a :: as) := .list ho hc hd (by rw [seq_toList]; exact r)
  obtain ⟨q1, _⟩ := ram_cons rd (by simp only [PyData.depth] : (PyData.list ds).depth = PyData.depthAll ds + 1) p.low
  simp only [PyData.depth] at hu
  simp only [PyData.shown] at hQ hz
  refine call_repr_slot (by omega) ⟨o, ho, hc⟩ F.slot_list_repr.toG ?_
  cases its with
  | nil =>
    cases r
    simp only [PyData.shownAll, listText_nil] at hQ
    exact call_list_repr_empty ⟨o, ho, hc⟩ ho hd ⟨_, _, rfl, hQ s.heap _ _ fun _ _ e => e⟩
  | cons y l => exact call_list_reprK ho hc hd q1 (by simpa using p.all.length_eq) (fun i y e => p.all.item i y (by simpa using e)) hG (fun b _ => Clear.nil b) (by show A.units + 1 + _ < cLine; omega) (fun _ _ e => e) (fun h' u tk hk => ⟨_, _, rfl, hQ h' u tk hk⟩) hz
theorem call_repr_tup {P : Program} {w : World} {A : Around} {E : Value → Shared → Prop} {a : Addr} {o : Obj} {its : List Value} {n : Nat} {ds : List PyData} {as bs : List Addr} {Q : Value → Shared → Prop} (ho : s.heap.get? a = some o) (hc : o.cls = .type "tuple") (hd : o.data = .seq its.toArray n)
    (r : ReadsAll s.heap its ds as) (p : Parts P w s.heap (PyData.depthAll ds) its (PyData.shownAll ds) bs) (hG : A.guards = some []) (hu : A.units + ((PyData.tuple ds).depth + 1) < cLine) (hz : (PyData.tuple ds).shown.length ≤ sizeLine)
    (hQ : ∀ h' u tk, (∀ b o, s.heap.get? b = some o → h'.get? b = some o) → Q (.str (PyData.tuple ds).shown u) { s with heap := h', toks := tk }) : wpAny (model P w) A (call (.builtin "repr") [.ref a]) Q E s := by
  obtain ⟨q1, _⟩ := ram_cons (.tuple ho hc hd (by rw [seq_toList]; exact r)) (by simp only [PyData.depth] : (PyData.tuple ds).depth = PyData.depthAll ds + 1) p.low
  simp only [PyData.depth] at hu
  simp only [PyData.shown] at hQ hz
  exact call_repr_slot (by omega) ⟨o, ho, hc⟩ F.slot_tuple_repr (call_tuple_reprK ho hc hd q1 (by rw [seq_toList]; exact p.all) hG (fun b _ => Clear.nil b) (by show A.units + 1 + _ < cLine; omega) (fun _ _ e => e) (fun h' u tk hk => ⟨_, _, rfl, hQ h' u tk hk⟩) hz)
/-- repr of data; a dict alone only where it is empty -/
def topShow : PyData → Bool
  | .dict kvs => kvs.isEmpty
  | _ => true
@[simp] def rReprT : DL' := fun ds P => ∃ d, ds = [d] ∧ ShowOk d ∧ topShow d = true ∧ P (.fz (.str d.shown))
theorem shownAll_le {ds : List PyData} {f : List Str → Str} {n : Nat} (hz : (f (PyData.shownAll ds)).length ≤ n) (h : ∀ t ∈ PyData.shownAll ds, t.length ≤ (f (PyData.shownAll ds)).length) : ∀ t ∈ PyData.shownAll ds, t.length ≤ n := fun t ht => Nat.le_trans (h t ht) hz
theorem cd_repr (hG : X.A.guards = some []) (hu : X.A.units + 64 < cLine) : CallR X (.builtin "repr") (ROL X.K X.w rReprT) := by
  intro pins s σ H xs us Q I r ⟨ds, P, hds, ⟨d, e, ⟨s1, s2, s3⟩, tp, p⟩, k⟩
  subst e
  cases hds with
  | cons h h2 =>
    cases h2
    cases r with
    | cons r1 r2 =>
      cases r2
      have fin : ∀ (tk : Tok) (s' : Shared), Inv X pins σ H s' → EP X pins σ Q (.str d.shown tk) s' := fun tk s' J => ⟨.str _, H, J, ⟨_, rfl⟩, wn_fz k (.str _) p⟩
      cases d with
      | none => obtain rfl := h.non; cases r1; exact PySem.P.repr_of_none (fin _ _ (I.tok _))
      | bool b => obtain rfl := h.bool; cases r1; exact PySem.P.repr_of_bool (fin _ _ (I.tok _))
      | int i => obtain rfl := h.int'; obtain ⟨t, rfl⟩ := r1; exact PySem.P.repr_of_int (of_decide_eq_true s1) (fin _ _ (I.tok _))
      | str x => obtain rfl := h.str; obtain ⟨t, rfl⟩ := r1; exact PySem.P.repr_of_str (fin _ _ (I.tok _)) s2
      | list l =>
        obtain ⟨a, ys, rfl, hq, rr⟩ := h.seq
        cases r1
        obtain ⟨its, rv, ⟨o, n, ho, hc, _, hd⟩, _⟩ := I.list hq
        obtain ⟨bs, pp⟩ := rr.reprK I rv (by simpa [PyData.showable] using s1) (shownAll_le (f := listText) (by simpa only [PyData.shown] using s2) fun t ht => listText_mem_le ht)
        obtain ⟨as, hr, _⟩ := rr.reads I rv
        exact call_repr_list ho hc hd hr pp hG (by omega) s2 fun h' u tk hk => fin _ _ (I.kept hk)
      | tuple l =>
        obtain ⟨a, ys, rfl, hq, rr⟩ := h.tup
        cases r1
        obtain ⟨its, rv, ⟨o, ho, hc, n, hd⟩, _⟩ := I.tuple hq
        obtain ⟨bs, pp⟩ := rr.reprK I rv (by simpa [PyData.showable] using s1) (shownAll_le (f := tupleText) (by simpa only [PyData.shown] using s2) fun t ht => tupleText_mem_le ht)
        obtain ⟨as, hr, _⟩ := rr.reads I rv
        exact call_repr_tup ho hc hd hr pp hG (by omega) s2 fun h' u tk hk => fin _ _ (I.kept hk)
      | dict kvs =>
        cases kvs with
        | cons _ _ => cases tp
        | nil =>
          obtain ⟨a, es, rfl, rd, rows, _⟩ := h.dct
          cases rows
          cases r1
          obtain ⟨ns, o, ep, ho, hx, hd⟩ := (show ObjOk X.prog X.w H s.heap a (dctH a []) from rd.ok I.hok).1
          exact repr_of_reads' (d := .dict []) (.dict (as := []) (bs := []) ho hx.1 hd .nil .nil) s1 (fun _ hm => by
            have e : a = sysModules := by simpa [eq_comm] using hm
            rw [e] at ns
            cases ns) hG (by omega) (fun _ _ e => e) (fun h' u tk hk => fin _ _ (I.kept hk)) s2
end
end DL
set_option maxHeartbeats 2000000
namespace DL
open PySem PySem.Spec PyProof.Rows L2
section
variable {X : Cx} {K : PySem.W.Frag} {w : World} {S : Option Src} {H0 H H' : Hp} {σ : Sl} {δ δ' : DEnv} {pins : List (Addr × Obj)} {s : Shared} {e c o : Expr} {pos apos cpos : Pos}
def dOk (kvs : Kvs) : Prop := kvs.all (fun p => isTup p.1) = true ∧ kvs.length ≤ sizeLine
theorem dct_raw (I : Inv X pins σ H s) {a : Addr} {es : List DictEntry} {kvs : Kvs} (h : Rd H a (dctH a es)) (r : Paired (DRow X.K X.w H) es kvs) (nd : (kvs.map (·.1)).Nodup) (ok : dOk kvs) :
    ∃ xs, s.heap.DictOfH (nestedKind X.prog X.w) a xs ∧ Paired (XRow X.K X.w H) xs kvs ∧ (a == sysModules) = false ∧ xs.length = kvs.length ∧ ∃ ob, s.heap.get? a = some ob ∧ ob.dict = none := by
  have x := h.ok I.hok
  obtain ⟨ns, o, ep, ho, hx, hd⟩ := (show ObjOk X.prog X.w H s.heap a (dctH a es) from x).1
  obtain ⟨xs, e1, e2, e3⟩ := xs_of I r ok.1
  have hl : xs.length = kvs.length := Paired.length e2
  exact ⟨xs, ⟨o, _, ep, ho, hx, hd, by rw [← e1], e3, nodup_xs e2 nd⟩, e2, ns, hl, o, ho, hx.2.1⟩
theorem tKey_nk {d : PyData} (h : tKey d = true) : isTup d = true ∧ ∃ k, nkOf d = some k ∧ k.depth ≤ 8 := by
  unfold tKey at h
  rw [Bool.and_eq_true] at h
  refine ⟨h.1, ?_⟩
  cases q : nkOf d with
  | none => rw [q] at h; cases h.2
  | some k => rw [q] at h; exact ⟨k, rfl, of_decide_eq_true h.2⟩
theorem key_is (I : Inv X pins σ H s) {v : V} {u : Value} {d : PyData} (h : RP X.K X.w H v d) (r : RelV v u) (hk : tKey d = true) : ∃ a k, v = .ref a ∧ u = .ref a ∧ nkOf d = some k ∧ k.depth ≤ 8 ∧ RF X.K X.w H (.ref a) d ∧ (nestedKind X.prog X.w).is s.heap k a := by
  obtain ⟨ht, k, hn, hd⟩ := tKey_nk hk
  have rf : RF X.K X.w H v d := by
    rcases h with h | ⟨_, _, _, e, _⟩ | ⟨_, _, _, e, _⟩
    · exact h
    · rw [e] at ht; cases ht
    · rw [e] at ht; cases ht
  obtain ⟨a, rfl⟩ := ref_of_tup rf ht
  cases r
  exact ⟨a, k, rfl, rfl, hn, hd, rf, rf.nested I rfl hn, hd⟩
theorem room8 {A : Around} (hu : A.units + 64 < cLine) : A.in1.units + 8 < cLine := by
  show A.units + 1 + 8 < cLine
  omega
/-- {} -/
theorem de_dict0 : DE X (.Dict [] [] pos) (fun δ P => P (.val (.od [])) δ) := by
  have pe : PE X (.Dict [] [] pos) (fun _ H Q => ∀ a, H a = none → Q (.ref a) (upd H a (dctH a []))) := ⟨fun pins s σ H Q I h =>
    wpAny_Dict_empty ⟨.ref s.heap.objs.size, _, I.laid (a := s.heap.objs.size) (o := dctH s.heap.objs.size []) (t' := s.toks) (fun _ _ q => Heap.get?_push_of_some _ q) (Nat.le_refl _)
      ⟨⟨beq_eq_false_iff_ne.mpr (Nat.ne_of_gt I.big), _, 0, Heap.get?_push_size _ rfl, ⟨rfl, rfl, rfl⟩, rfl⟩, ⟨_, Heap.get?_push_size _ rfl⟩, fun h1 h2 ⟨n, o, ep, a1, a2, a3⟩ k => ⟨n, o, ep, k _ a1, a2, a3⟩⟩, rfl, h _ (I.hok.fresh (Nat.le_refl _))⟩⟩
  exact PE.mono pe fun σ H Q ⟨S, H0, δ, P, R, q, k⟩ a ha => after R R (Stp.refl _ _ _ _) k _ _ _ q (same_upd ha) ⟨a, rfl, ha, DcA.of upd_same .nil .nil⟩
/-- d[k], there -/
@[simp] def tDix (ta tb : DT) : DT := fun δ P => ta δ fun r1 δ1 => tb δ1 fun r2 δ2 => ∃ kvs k v, r1.rd δ2 = some (.dict kvs) ∧ r2.rd δ2 = some k ∧ dOk kvs ∧ tKey k = true ∧ dLook kvs k = some v ∧ P (.val (.fz v)) δ2
theorem look_some {xs : List (NestedKey × Addr × Value)} {kvs : Kvs} {k : NestedKey} {kd vd : PyData} (hk : nkOf kd = some k) (h : Paired (XRow K w H) xs kvs) (e : dLook kvs kd = some vd) : ∃ v u a, atKey xs k = some (a, u) ∧ RelV v u ∧ RF K w H v vd := by
  rcases look_xs hk h with ⟨v, u, d, a, e1, e2, e3, e4⟩ | ⟨e1, _⟩
  · rw [e] at e1; cases e1; exact ⟨v, u, a, e2, e3, e4⟩
  · rw [e] at e1; cases e1
theorem de_dix {i : Expr} {ta tb : DT} (hu : X.A.units + 64 < cLine) (ha : DE X o ta) (hb : DE X i tb) (hs : NoSl i) : DE X (.Subscript o i pos) (tDix ta tb) := ⟨fun pins s σ H Q I ⟨S, H0, δ, P, R, q, k⟩ => by
  have hq : lE X.K X.w ta σ H fun x H1 => lE X.K X.w tb σ H1 fun y H2 => ∃ kvs kd vd, RP X.K X.w H2 x (.dict kvs) ∧ RP X.K X.w H2 y kd ∧ dOk kvs ∧ tKey kd = true ∧ dLook kvs kd = some vd ∧ ∀ v, RF X.K X.w H2 v vd → Q v H2 :=
    ⟨S, H0, δ, _, R, q, fun x H1 r1 δ1 q1 R1 rr1 f1 T1 => ⟨S, H0, δ1, _, R1, q1, fun y H2 r2 δ2 ⟨kvs, kd, vd, e1, e2, e3, e4, e5, p⟩ R2 rr2 f2 T2 =>
      ⟨kvs, kd, vd, (rr1.stp R1 T2).peek R2 e1, rr2.peek R2 e2, e3, e4, e5, fun v rf => of_fz R2 (T1.trans T2) rf k p⟩⟩⟩
  refine subD_of PySem.F.slot_dict_getitem.lookup hs (thn (ha.run pins s σ H _ I hq) fun u s1 ⟨x, H1, I1, rx, q1⟩ => thn (hb.run pins s1 σ H1 _ I1 q1) fun iv s2 ⟨y, H2, I2, ry, kvs, kd, vd, h1, h2, h3, h4, h5, fin⟩ => ?_)
  obtain ⟨a, es, rfl, rd, rows, nd⟩ := h1.dct
  obtain rfl : u = Value.ref a := rx
  obtain ⟨xs, hx, xr, ns, hl, ob, ho, hd⟩ := dct_raw I2 rd rows nd h3
  obtain ⟨b, kk, rfl, rfl, hn, hd8, rfk, hik⟩ := key_is I2 h2 ry h4
  obtain ⟨v, u', a', e1, e2, e3⟩ := look_some hn xr h5
  exact ⟨hx.typeIs, wpAny_getItem_heap (room8 hu) hik hx e1 ⟨v, H2, I2.tok _, e2, fin v e3⟩⟩⟩
/-- d.get(k, x) -/
def tDgt (ta tb : DT) (tx : DTx) : DT := fun δ P => ta δ fun r1 δ1 => (∃ kv0, r1.rd δ1 = some (.dict kv0)) ∧ tb δ1 fun r2 δ2 => tx δ2 fun x δ3 => ∃ kvs k d, r1.rd δ3 = some (.dict kvs) ∧ r2.rd δ3 = some k ∧ x = .fz d ∧ dOk kvs ∧ tKey k = true ∧ P (.val (.fz ((dLook kvs k).getD d))) δ3
theorem de_dgt {i f : Expr} {ta tb : DT} {tx : DTx} (hu : X.A.units + 64 < cLine) (ha : DE X o ta) (hb : DE X i tb) (hf : DG X f tx)
    (base : attributeBase o "get" X.env (eval o X.env) = eval o X.env := by rfl)
    (few : ((backTo cpos (starEach [i, f] X.env)).all (fun x => !x.1) && (backToKw cpos (keywordEach [] X.env)).all (fun x => x.1.isSome)
      && decide (([i, f] : List Expr).length + ([] : List Keyword).length + (if ([] : List Keyword).isEmpty then 0 else 1) < 30)) = true := by rfl)
    (line : (apos.endLine == cpos.line) = true := by rfl) (trees : backTo cpos (starEach [i, f] X.env) = [(false, eval i X.env), (false, eval f X.env)] := by rfl) :
    DE X (.Call (.Attribute o "get" apos) [i, f] [] cpos) (tDgt ta tb tx) := ⟨fun pins s σ H Q I ⟨S, H0, δ, P, R, q, k⟩ => by
  have hq : lE X.K X.w ta σ H fun x H1 => (∃ kvs, RP X.K X.w H1 x (.dict kvs)) ∧ lE X.K X.w tb σ H1 fun y H2 => lG X.K X.w tx σ H2 fun z H3 => ∃ kvs kd d, RP X.K X.w H3 x (.dict kvs) ∧ RP X.K X.w H3 y kd ∧ RF X.K X.w H3 z d ∧ dOk kvs ∧ tKey kd = true ∧ ∀ v, RF X.K X.w H3 v ((dLook kvs kd).getD d) → Q v H3 := by
    refine ⟨S, H0, δ, _, R, q, fun x H1 r1 δ1 ⟨⟨kv0, e0⟩, q1⟩ R1 rr1 f1 T1 => ⟨⟨kv0, rr1.peek R1 e0⟩, S, H0, δ1, _, R1, q1, fun y H2 r2 δ2 q2 R2 rr2 f2 T2 => ⟨S, H0, δ2, _, R2, q2, fun z H3 x3 δ3 ⟨kvs, kd, d, e1, e2, e3, e4, e5, p⟩ R3 n3 o3 rv3 T3 => ?_⟩⟩⟩
    subst e3
    exact ⟨kvs, kd, d, (rr1.stp R1 (T2.trans T3)).peek R3 e1, (rr2.stp R2 T3).peek R3 e2, rv3, e4, e5, fun v rf => of_fz R3 (T1.trans (T2.trans T3)) rf k p⟩
  refine wpAny_Call_method base few line PySem.F.plainAttrs_dict PySem.F.slot_dict_get PySem.F.type_dict_get (thn (ha.run pins s σ H _ I hq) fun u s1 ⟨x, H1, I1, rx, ⟨kv0, h0⟩, q1⟩ => ?_)
  obtain ⟨a0, es0, rfl, rd0, rows0, _⟩ := h0.dct
  obtain rfl : u = Value.ref a0 := rx
  obtain ⟨_, ob, _, hob, hxd, _⟩ := (show ObjOk X.prog X.w H1 s1.heap a0 (dctH a0 es0) from rd0.ok I1.hok).1
  refine ⟨⟨ob, hob, hxd.1⟩, fun b eb => ⟨ob, by cases eb; exact hob, hxd.2.1⟩, ?_⟩
  rw [trees]
  refine Calls.callWith_builtin rfl (Calls.evalArgs_plain (Calls.spliced_cons (thn (hb.run pins s1 σ H1 _ I1 q1) fun iv s2 ⟨y, H2, I2, ry, q2⟩ =>
    Calls.spliced_cons (thn (hf.run pins s2 σ H2 _ I2 q2) fun fv s3 ⟨z, H3, I3, rz, kvs, kd, d, h1, h2, h3, h4, h5, fin⟩ => Calls.spliced_nil ?_))))
  obtain ⟨a, es, ea, rd, rows, nd⟩ := h1.dct
  cases ea
  obtain ⟨xs, hx, xr, ns, hl, _⟩ := dct_raw I3 rd rows nd h4
  obtain ⟨b, kk, rfl, rfl, hn, hd8, rfk, hik⟩ := key_is I3 h2 ry h5
  refine call_meetsIn PySem.F.slot_dict_get hx.typeIs PySem.F.entry_dict_get (PySem.F.args_dict_get_3 _ _ _) (meetsH_dict_get_default (nestedKind X.prog X.w) _ b ns fv) ⟨room8 hu, kk, xs, hik, hx, ?_⟩
  rcases look_xs hn xr with ⟨v, u', vd, a', e1, e2, e3, e4⟩ | ⟨e1, e2⟩
  · rw [e1] at fin
    rw [e2]
    exact ⟨v, H3, I3.tok _, e3, fin v e4⟩
  · rw [e1] at fin
    rw [e2]
    exact ⟨z, H3, I3.tok _, rz, fin z h3⟩⟩
/-- d[k] = v, d a slot's own dict -/
def sPut (i : Nat) (tv tk : DTx) : DSt := fun D δ => tv δ fun x δ1 => (∃ kv0, δ1[i]? = some (.od kv0)) ∧ tk δ1 fun y δ2 => ∃ kvs kd vd, x = .fz vd ∧ y = .fz kd ∧ δ2[i]? = some (.od kvs) ∧ dOk kvs ∧ kvs.length < sizeLine ∧ tKey kd = true ∧ D.nx (δ2.set i (.od (dPut kvs kd vd)))
theorem dPut_len (kvs : Kvs) (k v : PyData) : (dPut kvs k v).length ≤ kvs.length + 1 := by
  unfold dPut
  split
  · rw [List.length_map]; omega
  · rw [List.length_append]; simp
theorem rows_nk : ∀ {es : List DictEntry} {kvs : Kvs}, Paired (DRow K w H) es kvs → ∀ p ∈ kvs, ∃ n, nkOf p.1 = some n
  | _, _, .nil, _, h => by cases h
  | _, _, .cons r t, p, h => by
    rcases List.mem_cons.mp h with z | h
    · rw [z]; obtain ⟨k, e, _⟩ := r.hash; exact ⟨k, e⟩
    · exact rows_nk t p h
theorem ds_put {i : Nat} {x : Str} {ke ve : Expr} {tv tk : DTx} {p1 pos' pos : Pos} (hu : X.A.units + 64 < cLine) (hv : DG X ve tv) (hd : PE X (.Name x p1) (tVar i)) (hk : DG X ke tk)
    (hs : swapsWith ve (some (.Subscript (.Name x p1) ke pos')) pos.line X.env = pure false := by rfl) : PD X (.Assign [.Subscript (.Name x p1) ke pos'] ve pos) (sPut i tv tk) := ⟨fun pins s σ H D I ⟨S, H0, δ, DD, R, q, E⟩ => by
  have hq : lG X.K X.w tv σ H fun z H1 => ∃ a, σ[i]? = some (some (.ref a)) ∧ lG X.K X.w tk σ H1 fun y H2 => ∃ kd vd es kvs, RF X.K X.w H2 z vd ∧ RF X.K X.w H2 y kd ∧ H2 a = some (dctH a es) ∧ Paired (DRow X.K X.w H2) es kvs ∧ (kvs.map (·.1)).Nodup ∧ dOk kvs ∧ kvs.length < sizeLine ∧ tKey kd = true ∧
      ∀ es' H3, H3 = upd H2 a (dctH a es') → Paired (DRow X.K X.w H3) es' (dPut kvs kd vd) → D.nx σ H3 := by
    refine ⟨S, H0, δ, _, R, q, fun z H1 x1 δ1 ⟨⟨kv0, e0⟩, q1⟩ R1 n1 o1 rv1 T1 => ?_⟩
    obtain ⟨v0, ev, a, rfl, _⟩ := R1.slot i _ e0 (fun z => by cases z)
    refine ⟨a, ev, S, H0, δ1, _, R1, q1, fun y H2 x2 δ2 ⟨kvs, kd, vd, ex, ey, e2, h1, h2, h3, p⟩ R2 n2 o2 rv2 T2 => ?_⟩
    subst ex ey
    obtain ⟨v2, ev2, b, eb, f0, fs, es, ks, vs, kds, vds, hx, a1, a2, r1, r2, kr, nd, ekv⟩ := R2.slot i _ e2 (fun z => by cases z)
    rw [ev] at ev2
    cases ev2
    cases eb
    have rows := rows_of a1 a2 r1 r2 kr
    rw [← ekv] at rows
    have ndk : (kvs.map (·.1)).Nodup := by
      have l1 := r1.len
      have l2 := r2.len
      have l3 := a1.length
      have l4 := a2.length
      simp only [List.length_map] at l3 l4
      rw [ekv, List.map_fst_zip (by omega)]
      exact nd
    refine ⟨kd, vd, es, kvs, rv1.at (T2.ext R1) fun _ _ z => by (cases z), rv2, hx, rows, ndk, h1, h2, h3, fun es' H3 eH rows' => ?_⟩
    subst eH
    have R3 := R2.putSlot (y := .od (dPut kvs kd vd)) (o := dctH a es') ev e2 rfl hx ⟨a, rfl, f0, fs, DcA.of upd_same rows' (dPut_keys (by obtain ⟨_, k, e, _⟩ := tKey_nk h3; exact ⟨k, e⟩) (rows_nk rows) ndk)⟩
    exact E.nx _ _ _ R3 ((T1.ext R).trans ((T2.ext R1).trans (ext_upd hx dctH_fx))) p
  refine wpAny_Assign_Subscript (thn (hv.run pins s σ H _ I hq) fun r s1 ⟨v, H1, I1, rv, a, ea, q1⟩ => thn (hd.run pins s1 σ H1 (fun z H2 => z = .ref a ∧ H2 = H1) I1 ⟨_, ea, rfl, rfl⟩) fun u s2 ⟨z, H2, I2, rz, ez, e2⟩ => ?_) hs
  subst ez e2
  obtain rfl : u = Value.ref a := rz
  refine thn (hk.run pins s2 σ H2 _ I2 q1) fun iv s3 ⟨y, H3, I3, ry, kd, vd, es, kvs, h1, h2, h3, h4, h5, h6, h7, h8, fin⟩ => ?_
  obtain ⟨xs, hx, xr, ns, hl, _⟩ := dct_raw I3 (.inl h3) h4 h5 h6
  obtain ⟨b, kk, rfl, rfl, hn, hd8, rfk, hik⟩ := key_is I3 (.inl h2) ry h8
  refine wpAny_setItem_heap (hsz := by rw [hl]; exact h6.2) (room8 hu) hik hx fun h' hm' hsb => ?_
  have xr' := put_xs (vd := vd) (v := v) (u := r) hn hd8 rfk rv h1 xr
  obtain ⟨o', es', ep', ho', hx', hd', he', _⟩ := hm'
  have e4 : ext_upd (o := dctH a es'.toList) h3 dctH_fx = ext_upd h3 dctH_fx := rfl
  have I4 : Inv X pins σ (upd H3 a (dctH a es'.toList)) { s3 with heap := h', toks := s3.toks + (nestedKind X.prog X.w).draws kk } :=
    I3.write (x := a) (e := a) (by rw [h3]; exact trivial) (.inl rfl) (fun c u hc hu' => (hsb.2 c hc).trans hu') ⟨_, ho'⟩
      ⟨⟨ns, o', ep', ho', hx', by rw [hd']⟩, ⟨_, ho'⟩, fun h1 h2 ⟨n, o, ep, a1, a2, a3⟩ k => ⟨n, o, ep, k _ a1, a2, a3⟩⟩
  refine ⟨σ, _, I4, fin es'.toList _ rfl ?_⟩
  rw [he']
  exact paired_imp (fun _ _ q => q.ext (ext_upd h3 dctH_fx)) (rows_xs xr')⟩
end
end DL
set_option maxHeartbeats 4000000
namespace DL
open PySem PySem.Spec PyProof.Rows L2
section
variable {X : Cx} {K : PySem.W.Frag} {w : World} {S : Option Src} {H0 H H' : Hp} {σ : Sl} {δ δ' : DEnv} {st : Stmt} {e : Expr} {pos : Pos}
/-! ## a slot's own list changed -/
@[simp] def sApp (i : Nat) (t : DTx) : DSt := fun D δ => (∃ l0, δ[i]? = some (.ol l0)) ∧ t δ fun x δ1 => ∃ d ds, x = .fz d ∧ δ1[i]? = some (.ol ds) ∧ ds.length < sizeLine ∧ D.nx (δ1.set i (.ol (ds ++ [d])))
theorem ds_append {i : Nat} {t : DTx} (hx : PS X st (tDrop (tBM X.K "list" rAppend (tVar i) (tCons (lG X.K X.w t) tNil)))) : PD X st (sApp i t) := PS.mono hx fun D σ H ⟨S, H0, δ, DD, R, ⟨⟨l0, e0⟩, q⟩, E⟩ => by
  obtain ⟨v, ev, a, rfl, h0, ns, xs0, hx0, rf0⟩ := R.slot i _ e0 (fun z => by cases z)
  refine ⟨_, ev, .inl ⟨rfl, _, .inl (.inl hx0)⟩, S, H0, δ, _, R, q, fun u H1 x δ1 ⟨d, ds, ex, e1, hz, p⟩ R1 n o rv T => ?_⟩
  subst ex
  obtain ⟨v1, ev1, b, rfl, _, _, xs, hx1, rf⟩ := R1.slot i _ e1 (fun z => by cases z)
  rw [ev] at ev1
  cases ev1
  have ex1 := ext_upd (o := .lst (xs ++ [u])) hx1 (fun z => z)
  exact ⟨a, xs, u, rfl, rfl, hx1, by rw [rf.len]; exact hz, E.nx _ _ _ (R1.putSlot (y := .ol (ds ++ [d])) ev e1 rfl hx1 ⟨a, rfl, h0, ns, _, upd_same, (rf.ext ex1).app (.one (RF.ext ex1 rv))⟩) ((T.ext R).trans ex1) p⟩
@[simp] def sExt (i : Nat) (t : DT) : DSt := fun D δ => (∃ l0, δ[i]? = some (.ol l0)) ∧ t δ fun r δ1 => ∃ es ds, r = .val (.ol es) ∧ δ1[i]? = some (.ol ds) ∧ ds.length + es.length ≤ sizeLine ∧ D.nx (δ1.set i (.ol (ds ++ es)))
theorem ds_extend {i : Nat} {t : DT} (hx : PS X st (tDrop (tBM X.K "list" rExtend (tVar i) (tCons (lE X.K X.w t) tNil)))) : PD X st (sExt i t) := PS.mono hx fun D σ H ⟨S, H0, δ, DD, R, ⟨⟨l0, e0⟩, q⟩, E⟩ => by
  obtain ⟨v, ev, a, rfl, h0, ns, xs0, hx0, rf0⟩ := R.slot i _ e0 (fun z => by cases z)
  refine ⟨_, ev, .inl ⟨rfl, _, .inl (.inl hx0)⟩, S, H0, δ, _, R, q, fun u H1 r δ1 ⟨es, ds, er, e1, hz, p⟩ R1 rr fr T => ?_⟩
  subst er
  obtain ⟨v1, ev1, b, rfl, _, _, xs, hx1, rf⟩ := R1.slot i _ e1 (fun z => by cases z)
  rw [ev] at ev1
  cases ev1
  obtain ⟨_, ⟨b, rfl, _, _, zs, hz1, rz⟩, _⟩ := rr
  have ex1 := ext_upd (o := .lst (xs ++ zs)) hx1 (fun z => z)
  exact ⟨a, b, xs, zs, rfl, rfl, hx1, hz1, by rw [rf.len, rz.len]; exact hz, E.nx _ _ _ (R1.putSlot (y := .ol (ds ++ es)) ev e1 rfl hx1 ⟨a, rfl, h0, ns, _, upd_same, (rf.ext ex1).app (rz.ext ex1)⟩) ((T.ext R).trans ex1) p⟩
/-! ## a, b = x, y -/
@[simp] def sPar2 (i j : Nat) (t u : DTx) : DSt := fun D δ => t δ fun x δ1 => u δ1 fun y δ2 => i < δ2.length ∧ j < δ2.length ∧ D.nx ((δ2.set i x).set j y)
theorem ds_par2 {i j : Nat} {t u : DTx} (hx : PS X st (tPar i j (tCons (lX X.K X.w t) (tCons (lX X.K X.w u) tNil)))) : PD X st (sPar2 i j t u) := PS.mono hx fun D σ H ⟨S, H0, δ, DD, R, q, E⟩ =>
  ⟨S, H0, δ, _, R, q, fun v H1 x δ1 q1 R1 rr1 f1 T1 => ⟨S, H0, δ1, _, R1, q1, fun v2 H2 y δ2 ⟨hi, hj, p⟩ R2 rr2 f2 T2 => by
    have rx := rr1.stp R1 T2
    have R3 := R2.store (i := i) (by rw [R2.len]; exact hi) rx.2.1 rx.2.2
    have R4 := R3.store (i := j) (by rw [R3.len, List.length_set]; exact hj) rr2.2.1 (fun ow a ea z => by
      rcases ownAt_store z with ⟨o1, e1⟩ | z
      · obtain ⟨u', hu, _⟩ := own_at (by rw [e1] at rr1; exact rr1.2.1) o1
        rw [f2 ow a ea] at hu
        cases hu
      · exact rr2.2.2 ow a ea z)
    exact ⟨_, _, rfl, E.nx _ _ _ R4 ((T1.ext R).trans (T2.ext R1)) p⟩⟩⟩
def sPar3 (i j l : Nat) (t u s : DTx) : DSt := fun D δ => t δ fun x δ1 => u δ1 fun y δ2 => s δ2 fun z δ3 => i < δ3.length ∧ j < δ3.length ∧ l < δ3.length ∧ D.nx (((δ3.set i x).set j y).set l z)
theorem ds_par3 {i j l : Nat} {t u s : DTx} (hx : PS X st (tPar3 i j l (tCons (lX X.K X.w t) (tCons (lX X.K X.w u) (tCons (lX X.K X.w s) tNil))))) : PD X st (sPar3 i j l t u s) := PS.mono hx fun D σ H ⟨S, H0, δ, DD, R, q, E⟩ =>
  ⟨S, H0, δ, _, R, q, fun v H1 x δ1 q1 R1 rr1 f1 T1 => ⟨S, H0, δ1, _, R1, q1, fun v2 H2 y δ2 q2 R2 rr2 f2 T2 => ⟨S, H0, δ2, _, R2, q2, fun v3 H3 z δ3 ⟨hi, hj, hl, p⟩ R3 rr3 f3 T3 => by
    have rx := rr1.stp R1 (T2.trans T3)
    have ry := rr2.stp R2 T3
    have own1 : ∀ {a : Addr}, x.own = true → v = .ref a → H1 a ≠ none := fun {a} o1 e1 => by
      obtain ⟨u', hu, _⟩ := own_at (by rw [e1] at rr1; exact rr1.2.1) o1
      rw [hu]; exact fun z => by cases z
    have own2 : ∀ {a : Addr}, y.own = true → v2 = .ref a → H2 a ≠ none := fun {a} o1 e1 => by
      obtain ⟨u', hu, _⟩ := own_at (by rw [e1] at rr2; exact rr2.2.1) o1
      rw [hu]; exact fun z => by cases z
    have Q1 := R3.store (i := i) (by rw [R3.len]; exact hi) rx.2.1 rx.2.2
    have Q2 := Q1.store (i := j) (by rw [Q1.len, List.length_set]; exact hj) ry.2.1 (fun ow a ea z => by
      rcases ownAt_store z with ⟨o1, e1⟩ | z
      · exact own1 o1 e1 (f2 ow a ea)
      · exact ry.2.2 ow a ea z)
    have Q3 := Q2.store (i := l) (by rw [Q2.len, List.length_set, List.length_set]; exact hl) rr3.2.1 (fun ow a ea z => by
      rcases ownAt_store z with ⟨o1, e1⟩ | z
      · exact own2 o1 e1 (f3 ow a ea)
      · rcases ownAt_store z with ⟨o1, e1⟩ | z
        · exact (T2.trk a (own1 o1 e1)) (f3 ow a ea)
        · exact rr3.2.2 ow a ea z)
    exact ⟨_, _, _, rfl, E.nx _ _ _ Q3 (((T1.ext R).trans (T2.ext R1)).trans (T3.ext R2)) p⟩⟩⟩⟩
/-! ## while -/
def sWhile (c : DBt) (tb : DSt) : DSt := fun D δ => ∃ W : Nat → DEnv → Prop, (∃ m, W m δ) ∧ ∀ m δ, W m δ → c δ fun b δ1 => if b = true then tb { D with nx := fun δ' => ∃ m', m' < m ∧ W m' δ', ct := fun δ' => ∃ m', m' < m ∧ W m' δ', bk := D.nx } δ1 else D.nx δ1
theorem ds_while {c : DBt} {tb : DSt} (hx : PS X st (tWhile (lB X.K X.w c) (lS X.K X.w tb))) : PD X st (sWhile c tb) := PS.mono hx fun D σ H ⟨S, H0, δ, DD, R, ⟨W, ⟨m0, w0⟩, turn⟩, E⟩ => by
  refine ⟨fun m σ' H' => Ext H H' ∧ ∃ δ, Rep X.K X.w S H0 σ' H' δ ∧ W m δ, ⟨m0, Ext.refl _, δ, R, w0⟩, fun m σ' H' ⟨ex, δ', R', w'⟩ => ⟨S, H0, δ', _, R', turn m δ' w', fun b H1 δ1 q R1 T => ?_⟩⟩
  have ex1 := ex.trans (T.ext R')
  cases b with
  | true => exact ⟨fun σ2 H2 => ∃ m', m' < m ∧ Ext H H2 ∧ ∃ δ, Rep X.K X.w S H0 σ2 H2 δ ∧ W m' δ, fun σ2 H2 ⟨m', h1, h2⟩ => ⟨m', h1, h2⟩, S, H0, δ1, _, R1, q,
      ⟨fun σ2 H2 δ2 R2 x2 ⟨m', h1, h2⟩ => ⟨m', h1, ex1.trans x2, δ2, R2, h2⟩, fun σ2 H2 δ2 R2 x2 q2 => E.nx _ _ _ R2 (ex1.trans x2) q2, fun σ2 H2 δ2 R2 x2 ⟨m', h1, h2⟩ => ⟨m', h1, ex1.trans x2, δ2, R2, h2⟩, E.rt⟩⟩
  | false => exact E.nx _ _ _ R1 ex1 q
/-! ## tuples times ints, sequences backwards -/
section
variable {prog : Program} {A : Around} {E : Value → Shared → Prop} {s : Shared}
theorem tuple_mul_one (l : Addr) (items : Array Value) (n : Nat) (dd : Option Addr) (sl : Array (Option Value)) (u : Tok) :
    Meets (Builtin.«tuple.__mul__» ⟨[.ref l, .int 1 u], []⟩) (fun _ R s => s.heap.get? l = some { cls := .type "tuple", dict := dd, data := .seq items n, slots := sl } ∧ R (.ok (.ret (Value.ref l))) s) :=
  .of_wp fun prog w A R s h => by
    obtain ⟨hp, g, d, tk, os⟩ := s
    obtain ⟨hl, h⟩ := h
    have f1 := AutoSeq1.idx_int
    wp_walk using AutoSeq1.wpAny_loadPart' hl
    exact ⟨_, rfl, h⟩
theorem mul_one_tup {l : Addr} {items : Array Value} {u : Tok} {Q : Value → Shared → Prop} (hl : IsTup s.heap l items) (h : Q (.ref l) s) : wpAny (model prog w) A (binaryOp .Mult (.ref l) (.int 1 u)) Q E s := by
  obtain ⟨⟨cls, dd, data, sl⟩, ho, hc, n, hd⟩ := hl
  simp only at hc hd
  subst hc hd
  exact wpAny_binaryOp_repeat_ref (T := "tuple") (U := "int") (by decide) ⟨_, ho, rfl⟩ (fun s' => typeIs_int s' 1 u) noFill_tuple_mul F.fills_int_mul F.slot_int_rmul repeat_tuple F.slot_int_index.lookup
    (call_meets F.slot_int_rmul (typeIs_int s 1 u) F.entry_int_rmul (F.args_int_rmul_2 _ _) (int_rmul_tuple 1 u l items n dd sl)
      ⟨ho, rfl, ⟨_, ho, rfl⟩, call_meets F.slot_tuple_mul ⟨_, ho, rfl⟩ F.entry_tuple_mul (F.args_tuple_mul_2 _ _) (tuple_mul_one l items n dd sl u) ⟨ho, h⟩⟩)
end
@[simp] def rMulT : D2 := fun d e P => ∃ ds k, d = .tuple ds ∧ e = .int k ∧ ds ≠ [] ∧ 1 ≤ k ∧ k ≤ 1000 ∧ ds.length ≤ 1000 ∧ P (.fz (.tuple (List.replicate k.toNat ds).flatten))
theorem RFs.rep {vs : List V} {ds : List PyData} (r : RFs K w H vs ds) : ∀ n : Nat, RFs K w H (List.replicate n vs).flatten (List.replicate n ds).flatten
  | 0 => .nil
  | n + 1 => by
    rw [List.replicate_succ, List.replicate_succ, List.flatten_cons, List.flatten_cons]
    exact r.app (RFs.rep r n)
theorem opd_mulT : OpR X (binaryOp .Mult) (RO2 X.K X.w rMulT) := by
  intro pins s σ H x y v u Q I rx ry ⟨d, e, P, hd, he, ⟨ds, k, e1, e2, hne, h1, h2, h3, p⟩, kk⟩
  subst e1 e2
  obtain ⟨a, xs, rfl, hq, rr⟩ := hd.tup
  have hx : xs ≠ [] := fun z => hne (by rw [z] at rr; cases rr; rfl)
  by_cases hk : k = 1
  · subst hk
    cases rx
    obtain rfl := he.int'
    obtain ⟨t, rfl⟩ := ry
    obtain ⟨its, rv, pl, _⟩ := I.tuple hq
    exact mul_one_tup pl ⟨.ref a, H, I, rfl, wn_fz kk (.tup hq rr) (by simpa using p)⟩
  · exact op_repT pins s σ H _ y v u Q I rx ry ⟨a, k, xs, rfl, he.int', hq, hx, by omega, h2, by rw [rr.len]; exact h3, fun q hp => wn_tup kk hp (rr.rep k.toNat) p⟩
end
end DL
set_option maxHeartbeats 4000000
namespace DL
open PySem PySem.Spec PyProof.Rows L2
/-! ## t[::-1], l[::-1] -/
theorem adjust_rev (n : Nat) : Builtin.Slice.sliceAdjust none none (-1) (n : Int) = ((n : Int) - 1, -1) := by
  unfold Builtin.Slice.sliceAdjust
  simp
theorem places_rev (n : Nat) : Builtin.Slice.slicePlaces ((n : Int) - 1) (-1) (-1) = n := by
  unfold Builtin.Slice.slicePlaces
  simp
  omega
theorem fm_congr {α β : Type} {f g : α → Option β} : ∀ {l : List α}, (∀ x ∈ l, f x = g x) → l.filterMap f = l.filterMap g
  | [], _ => rfl
  | x :: l, h => by
    rw [List.filterMap_cons, List.filterMap_cons, h x (List.mem_cons_self ..), fm_congr fun y hy => h y (List.mem_cons_of_mem _ hy)]
theorem pick_rev (xs : Array Value) : ((List.range xs.size).filterMap fun (m : Nat) => xs[(((xs.size : Int) - 1) + (m : Int) * (-1)).toNat]?).toArray = xs.toList.reverse.toArray := by
  have e : (List.range xs.size).filterMap (fun (m : Nat) => xs[(((xs.size : Int) - 1) + (m : Int) * (-1)).toNat]?) = (List.range xs.size).filterMap ((fun i => xs[i]?) ∘ fun k => xs.size - 1 - k) := by
    refine fm_congr fun m hm => ?_
    have hm := List.mem_range.mp hm
    show xs[(((xs.size : Int) - 1) + (m : Int) * (-1)).toNat]? = xs[xs.size - 1 - m]?
    congr 1
    omega
  rw [e, ← List.filterMap_map, PySem.W.krv_range, List.filterMap_reverse, PySem.W.krv_all]
section
variable {prog : Program} {w : World} {A : Around} {E : Value → Shared → Prop} {s : Shared}
theorem applied_rev {sl : Addr} {n : Nat} {t : Tok} {Q : Int × Int × Nat → Shared → Prop} (hs : s.heap.IsSliceOf sl .none .none (.int (-1) t)) (h : Q ((n : Int) - 1, -1, n) s) :
    wpAny (model prog w) A (Builtin.Slice.sliceApplied (.ref sl) (pure (n : Int))) Q E s := by
  obtain ⟨os, hos, hcs, hds⟩ := id hs
  unfold Builtin.Slice.sliceApplied Builtin.Slice.sliceFields
  refine wpAny_bind (wpAny_bind (wpAny_field hos hds (x := .none) rfl (wpAny_bind (wpAny_field hos hds (x := .none) rfl (wpAny_bind (wpAny_field hos hds (x := .int (-1) t) rfl (wpAny_pure ?_)))))))
  refine wpAny_bind (slicePart_int ?_)
  show wpAny _ _ (if ((-1 : Int) == 0) = true then _ else _) _ _ s
  rw [if_neg (by decide)]
  refine wpAny_bind (slicePart_none (wpAny_bind (slicePart_none (wpAny_bind (wpAny_pure ?_)))))
  show wpAny _ _ (match Builtin.Slice.sliceAdjust none none (-1) (n : Int) with | (lo, hi) => pure (lo, (-1 : Int), Builtin.Slice.slicePlaces lo hi (-1))) _ _ s
  rw [adjust_rev]
  show wpAny _ _ (pure ((n : Int) - 1, (-1 : Int), Builtin.Slice.slicePlaces ((n : Int) - 1) (-1) (-1))) _ _ s
  rw [places_rev]
  exact wpAny_pure h
theorem tuple_rev {t sl : Addr} {items : Array Value} {tk : Tok} {Q : Value → Shared → Prop} (ht : IsTup s.heap t items) (hs : s.heap.IsSliceOf sl .none .none (.int (-1) tk)) (hz : items.size ≤ sizeLine)
    (h : Q (.ref s.heap.objs.size) { s with heap := s.heap.push { cls := .type "tuple", data := .seq items.toList.reverse.toArray } }) : wpAny (model prog w) A (getItem (.ref t) (.ref sl)) Q E s := by
  have hsz : sizeOk (.seq items.toList.reverse.toArray) := by
    show items.toList.reverse.toArray.size ≤ sizeLine
    simpa using hz
  obtain ⟨os, hos, hcs, hds⟩ := id hs
  have hTs : s.TypeIs (.ref sl) "slice" := ⟨os, hos, hcs⟩
  unfold getItem
  try with_reducible refine wpAny_holding ?_
  first | refine wpAny_bind (wpAny_pure ?_) | skip
  refine wpAny_bind (wpAny_sequenceKey ht.typeIs (by decide) ?_)
  refine wpAny_bind (wpAny_callSpecial?_slot (name := Str.ofString "__getitem__") ht.typeIs PyProof.Rows.slot_tuple_getitem
    (wpAny_call_entry PyProof.Rows.slot_tuple_getitem ht.typeIs entry_tuple_getitem ?_ (args_tuple_getitem _ _)))
  show wpAny _ _ (Builtin.Tuple.tupleItemsOf (.ref t) >>= _) _ _ s
  refine wpAny_bind (tupleItemsOf_ ht ?_)
  refine wpAny_bind (wpAny_typeOf hTs ?_)
  rw [if_pos (by decide)]
  refine wpAny_bind (applied_rev hs ?_)
  have hno : ¬ (((items.size : Int) - 1 == 0 && (-1 : Int) == 1 && items.size == items.size) = true) := by
    simp
  show wpAny _ _ (if ((items.size : Int) - 1 == 0 && (-1 : Int) == 1 && items.size == items.size) = true then _ else _) _ _ s
  rw [if_neg hno, pick_rev]
  first
    | exact wpAny_bind (m := Builtin.Tuple.tupleExact _) (wpAny_newObj_type (wpAny_pure ⟨_, rfl, wpAny_pure h⟩) hsz)
    | exact wpAny_bind (m := Builtin.Tuple.tupleExact _) (wpAny_newObj_type (wpAny_bind (wpAny_pure (wpAny_pure ⟨_, rfl, wpAny_pure h⟩))) hsz)
    | exact wpAny_bind (wpAny_bind (m := Builtin.Tuple.tupleExact _) (wpAny_newObj_type (wpAny_pure (wpAny_pure ⟨_, rfl, wpAny_pure h⟩)) hsz))
    | exact wpAny_bind (wpAny_bind (m := Builtin.Tuple.tupleExact _) (wpAny_newObj_type (wpAny_pure ⟨_, rfl, wpAny_pure h⟩) hsz))
end
section
variable {X : Cx} {K : PySem.W.Frag} {w : World}
/-- a list backwards -/
@[simp] def rRevL : D1 := fun d P => ∃ ds, d = .list ds ∧ P (.ol ds.reverse)
theorem de_revL {e : Expr} {ta : DT} {k : Nat} {p1 p2 p3 pos : Pos} (he : DE X e ta) : DE X (.Subscript e (.Slice none none (some (.UnaryOp .USub (.Constant (.int 1) k p1) p2)) p3) pos) (t1 rRevL ta) :=
  PE.mono (pe_revL he) fun σ H Q ⟨S, H0, δ, P, R, q, kk⟩ => ⟨S, H0, δ, _, R, q, fun v H1 r δ1 ⟨d, e1, ds, e2, p⟩ R1 rr f T => by
    subst e2
    obtain ⟨a, xs, rfl, hx, rs⟩ := (rr.peek R1 e1).seq
    exact ⟨a, xs, rfl, hx, fun p0 hp => after R R1 T kk _ _ _ p (same_upd hp) ⟨p0, rfl, hp, _, upd_same, rs.rev.ext (Same.ext (same_upd hp))⟩⟩⟩
/-- a tuple backwards -/
@[simp] def rRevT : D1 := fun d P => ∃ ds, d = .tuple ds ∧ P (.fz (.tuple ds.reverse))
theorem de_revT {e : Expr} {ta : DT} {k : Nat} {p1 p2 p3 pos : Pos} (he : DE X e ta) : DE X (.Subscript e (.Slice none none (some (.UnaryOp .USub (.Constant (.int 1) k p1) p2)) p3) pos) (t1 rRevT ta) := ⟨fun pins s σ H Q I hq => by
  refine Subscript_ (thn (he.run pins s σ H _ I (one_lE hq)) fun v s1 ⟨x, H1, I1, r1, d, P, hd, ⟨ds, ez, p⟩, kk⟩ => ?_)
  subst ez
  obtain ⟨a, xs, rfl, hx, rr⟩ := hd.tup
  cases r1
  have step : PO X (some (.UnaryOp .USub (.Constant (.int 1) k p1) p2)) (tPart (tUn (rU fun i => .int (-i)) (tC (.int 1)))) := po_some (pe_un un_neg pe_int)
  have none' : ∀ s' : Shared, Inv X pins σ H1 s' → wpAny (model X.prog X.w) X.A (evalPart none X.env) (fun u s2 => u = .none ∧ Inv X pins σ H1 s2) X.xe s' := fun s' J =>
    thn (po_none.run pins s' σ H1 (fun o H2 => o = none ∧ H2 = H1) J ⟨rfl, rfl⟩) fun u s2 ⟨o, H2, J2, pl, eo, eH⟩ => by subst eo eH; cases pl; exact ⟨rfl, J2⟩
  refine wpAny_Slice (thn (none' s1 I1) fun vl s2 ⟨el, I2⟩ => thn (none' s2 I2) fun vu s3 ⟨eu, I3⟩ => thn (step.run pins s3 σ H1 (fun o H4 => o = some (-1) ∧ H4 = H1) I3 ⟨1, rfl, -1, rfl, rfl, rfl⟩) fun vs s4 ⟨o, H4, I4, ps, eo, e4⟩ => ?_)
  subst el eu eo e4
  cases ps with
  | int i tk =>
    have I5 := I4.kept (t' := s4.toks) (h' := s4.heap.push { cls := .type "slice", data := .fields #[.none, .none, .int (-1) tk] }) fun b ob q => Heap.get?_push_of_some _ q
    obtain ⟨its, r, ht, hz⟩ := I5.tuple hx
    have hl := r.length
    refine tail_any (ops := [.ref a, .ref s4.heap.objs.size]) ht.typeIs slot_tuple_getitem.lookup (tuple_rev ht (Heap.IsSliceOf.new _ _ _ _) (by rw [List.size_toArray]; omega) ?_) (by with_unfolding_all rfl)
    exact ⟨.ref _, _, I5.laid (o := .tup xs.reverse) (t' := s4.toks) (fun b ob q => Heap.get?_push_of_some _ q) (Nat.le_refl _) ⟨by rw [List.length_reverse]; exact hz, _, r.reverse, IsTup.new _ _⟩, rfl, wn_tup kk I5.fresh rr.rev p⟩⟩
end
end DL
set_option maxHeartbeats 4000000
namespace DL
open PySem PySem.Spec PyProof.Rows L2
/-! ## the law's own def, and the row's end -/
abbrev isTrue' : V → Hp → Prop := fun v _ => v = .bl true
def spLaw (K : PySem.W.Frag) : Sp := fun vs H Q _ => ∃ (a : Addr) (ns : List Int), vs = [.ref a] ∧ SqL K H a (ns.map V.int) ∧ ns.length ≤ 63 ∧ ∀ H', Q (.bl true) H'
def spOpen (K : PySem.W.Frag) : Sp := fun vs H Q _ => ∃ (a : Addr) (ns : List Int), vs = [.ref a] ∧ SqL K H a (ns.map V.int) ∧ ns.length ≤ 63 ∧ ∀ s H', SrcOk H' s → Q (.ref s.d) H'
section
variable {P : Program} {w : World} {K : PySem.W.Frag} {mg : Str → Option Value} {base : Heap}
theorem FG.law {k : Nat} {f : Addr} {x qual : Str} {st : Stmt} {fd : FuncData} {N : List Str} (ts : DSt) (F : Fun K x qual st f fd) (Sc : FnScope N ["script"] (defScope st)) (hN : 2 ≤ N.length)
    (hb : ∀ (cdv : Value) (A : Around) (outer : List Env) (s : Shared) (H : Hp), Room k (A.deeper (envOfC qual (defScope st) s.heap.objs.size f cdv)) → A.guards = some [] →
      PSs (cxOf CX0 P w K mg base N qual (defScope st) f cdv A outer s H E0).nox (defBody st) (tSeq (tAsg (fun σ H Q => tCons (tVar 0) tNil σ H fun vs H1 => spOpen K vs H1 Q E0) (gName 1)) (lS K w ts)))
    (hq : ts { nx := fun _ => False, rt := fun x => x = .fz (.bool true) } ((List.replicate N.length DV.no).set 1 .src)) : FG P w K mg base (k + 1) f fd ["script"] (spLaw K) := by
  refine fg_of F Sc (fun vs H Q E ⟨a, ns, e, _⟩ => by rw [e]; rfl) fun cdv A outer s H vs Q hr hG h => ?_
  obtain ⟨a, ns, rfl, hs, hl, kk⟩ := h
  refine ⟨_, hb cdv A outer s H hr hG, .ref a, start_get (i := 0) rfl, a, ns, rfl, hs, hl, fun sr H1 so => ?_⟩
  have len : ((L2.start N [.ref a]).set 1 (some (.ref sr.d))).length = N.length := by rw [List.length_set, start_len (by simpa using Nat.le_of_succ_le hN)]
  refine ⟨some sr, H1, _, _, ⟨by rw [len, List.length_set, List.length_replicate], fun i y e n => ?_, fun i j b y z _ _ e _ o1 _ => ?_, fun b o e _ => e, fun s' e => by cases e; exact so⟩, hq, ⟨fun _ _ _ _ _ q => q.elim, fun _ _ _ _ _ q => q.elim, fun _ _ _ _ _ q => q.elim, fun v H' y rok e => ?_⟩⟩
  · by_cases hi : i = 1
    · subst hi
      rw [List.getElem?_set_self (by rw [List.length_replicate]; omega)] at e
      cases e
      exact ⟨.ref sr.d, List.getElem?_set_self (by rw [List.length_set] at len; omega), sr, rfl, rfl⟩
    · rw [List.getElem?_set_ne (Ne.symm hi), List.getElem?_replicate] at e
      split at e
      · cases e; exact absurd rfl n
      · cases e
  · by_cases hi : i = 1
    · subst hi
      rw [List.getElem?_set_self (by rw [List.length_replicate]; omega)] at e
      cases e; cases o1
    · rw [List.getElem?_set_ne (Ne.symm hi), List.getElem?_replicate] at e
      split at e
      · cases e; cases o1
      · cases e
  · subst e
    have q : RF K w H' v (.bool true) := rok.val
    cases q
    exact kk H'
end
/-- the script's abstract heap -/
def scrH (a : Addr) (vs : List Value) (ns : List Int) : Hp := fun b => if b = a then some (.frz { cls := .type "list", data := .seq vs.toArray } (.lst (ns.map V.int))) else none
theorem scrH_ne {a b : Addr} {vs : List Value} {ns : List Int} (h : b ≠ a) : scrH a vs ns b = none := if_neg h
theorem scrH_at {a : Addr} {vs : List Value} {ns : List Int} : scrH a vs ns a = some (.frz { cls := .type "list", data := .seq vs.toArray } (.lst (ns.map V.int))) := if_pos rfl
theorem law_endG {P : Program} {w : World} {K : PySem.W.Frag} {mg mb : Str → Option Value} {k : Nat} {fa a : Addr} {fd : FuncData} {s1 : Shared} {vs : List Value} {ns : List Int} (H : Hp)
    (KX : K.In s1.heap) (hns : s1.heap.Ns mainGlobals mg) (hbn : s1.heap.Ns builtinsNs mb) (hbb : ∀ x : Str, x ≠ "__name__" → mb x = bootBuiltins x) (hlim : s1.heap.NoLimit) (hgen : s1.gens = #[])
    (ha : s1.heap.get? a = some { cls := .type "list", data := .seq vs.toArray }) (hl : ns.length ≤ 63) (hr : Room k callerA)
    (F : ∀ base : Heap, K.In base → base.Ns mainGlobals mg → FG P w K mg base k fa fd ["script"] (spLaw K)) (hbind : ∀ (s : Shared) (u : Value), BindsTo s fd ⟨[u], []⟩ [("script", u)])
    (hS : SqL K H a (ns.map V.int)) (ok : HOk P w H s1.heap) (hA : ∀ b, b ≠ a → H b = none) (hK : H a ≠ none → K.lookup a = none) (hz : ∀ o, H a = some o → ∃ ob xs, o = .frz ob (.lst xs)) :
    codeAny (model P w) callerA (.call (.ref fa) ⟨[.ref a], []⟩) (fun r s' => r = .ok (.ret (.bool true)) ∧ OldK s1.heap s'.heap ∧ s'.os = s1.os ∧ AllBare s'.gens) s1 := by
  have free : ∀ {b : Addr} {o : Obj} {es : Array DictEntry} {ep : Nat}, s1.heap.get? b = some o → o.data = .dict es ep → H b = none := fun {b o es ep} e d => hA b fun z => by
    rw [z, ha] at e; cases e
    exact (show Data.seq vs.toArray _ ≠ Data.dict es ep from fun q => by cases q) d
  have ns_base : ∀ {b : Addr} {m : Str → Option Value}, s1.heap.Ns b m → (hidT s1.heap H).Ns b m := fun ⟨o, es, ep, e, d, r⟩ => ⟨o, es, ep, hidT_get e (free e d), d, r⟩
  have k_base : K.In (hidT s1.heap H) := fun b o e => hidT_get (KX b o e) (by
    by_cases hb : b = a
    · cases q : H b with
      | none => rfl
      | some u => rw [hb] at e q; rw [hK (by rw [q]; exact fun z => by cases z)] at e; cases e
    · exact hA b hb)
  obtain ⟨mc, c1, c2⟩ := hlim
  have env : Env0 P w K mg (hidT s1.heap H) callerA [] s1 H := ⟨rfl, ⟨k_base, ns_base hns, ⟨mb, ns_base hbn, hbb⟩, mc, ns_base c1, c2⟩, fun b o e => of_hidT e, Nat.le_of_eq (hidT_size _ _), trivial, (fun b hb => by cases hb), ok, .of_eq hgen⟩
  refine codeAny_mono ((F _ k_base (ns_base hns)).go callerA [] s1 H ⟨[.ref a], []⟩ [.ref a] [.ref a] isTrue' hr rfl env (hbind s1 (.ref a)) (.cons rfl .nil) ⟨a, ns, rfl, hS, hl, fun _ => rfl⟩) fun r s' h => ?_
  cases r with
  | error e => exact h.elim
  | ok fl =>
    cases fl with
    | ret u =>
      obtain ⟨v, H', os, bare, un, ok', r', q⟩ := h
      obtain rfl : v = .bl true := q
      obtain rfl : u = Value.bool true := r'
      refine ⟨rfl, OldK.of_keep fun b o e => ?_, os, bare⟩
      by_cases hb : b = a
      · cases q : H b with
        | none => exact un.keep b o e q (fun z => by cases z) (fun z => by cases z)
        | some u =>
          obtain ⟨ob, xs, rfl⟩ := hz u (by rw [← hb]; exact q)
          obtain ⟨e1, _⟩ := ok b _ q
          obtain ⟨e2, _⟩ := ok' b _ (un.frzs b ob _ q)
          rw [e] at e1; cases e1
          exact e2
      · exact un.keep b o e (hA b hb) (fun z => by cases z) (fun z => by cases z)
    | _ => exact False.elim h
/-- the goal behind the head, from the law's def -/
theorem walk_G {l : PySem.W.OpenLaw} {k : Nat} {q : Program} {loose : List Str} {XP : (Str → Option Value) → Heap → Prop} {YP : World → Heap → Prop} {d : DefRec} {K : Params → PySem.W.Frag}
    (hn : l.most = some 63) (hdf : d.params.defaults = []) (hr : Room k callerA) (hY : ∀ (w : World) (h : Heap), YP w h → (K w.params).In h)
    (F : ∀ (w : World) (mg : Str → Option Value) (fa : Addr) (h : Heap), (K w.params).In h → h.Ns mainGlobals mg → mg d.name = some (.ref fa) →
      ∃ fd : FuncData, (∀ (s : Shared) (u : Value), BindsTo s fd ⟨[u], []⟩ [("script", u)]) ∧
        ∀ base : Heap, (K w.params).In base → base.Ns mainGlobals mg → FG l.prog w (K w.params) mg base k fa fd ["script"] (spLaw (K w.params))) :
    PySem.W.WalkO q loose XP YP l.row.toRowW d [] (fun f vs => PySem.call f vs) := by
  refine Att.attach_call hn hdf fun w s0 s1 mg mb fa o pm cd doc a vs ns G Y ho hd hcd hmg hobj hints hlen hg => ?_
  have KX := hY w _ Y
  obtain ⟨fd, hb, hF⟩ := F w mg fa _ KX G.T.g hmg
  have rv := vals_ints hints
  have hz : ns.length ≤ sizeLine := Nat.le_trans hlen (by decide)
  cases hk : (K w.params).lookup a with
  | some ob =>
    have e := KX a ob hk
    rw [hobj] at e
    cases e
    exact law_endG (fun _ => none) KX G.T.g G.T.b G.T.builtins G.T.nolimit hg hobj hlen hr hF hb
      (.inr ⟨_, vs.toArray, _, hk, rfl, rfl, rfl, by rw [List.size_toArray, hints.length]; exact hz, by simpa using rv⟩) (fun b u z => by cases z) (fun _ _ => rfl) (fun z => absurd rfl z) fun o z => by cases z
  | none =>
    refine law_endG (scrH a vs ns) KX G.T.g G.T.b G.T.builtins G.T.nolimit hg hobj hlen hr hF hb (.inl (.inr ⟨_, scrH_at⟩)) (fun b u z => ?_) (fun b => scrH_ne) (fun _ => hk) fun o z => by rw [scrH_at] at z; cases z; exact ⟨_, _, rfl⟩
    by_cases hb : b = a
    · rw [hb, scrH_at] at z
      cases z
      rw [hb]
      exact ⟨hobj, by rw [List.length_map]; exact hz, vs, _, rv, hobj⟩
    · rw [scrH_ne hb] at z; cases z
end DL
set_option maxHeartbeats 4000000
namespace DL
open PySem PySem.Spec PyProof.Rows L2
section
variable {X : Cx} {K : PySem.W.Frag} {w : World} {S : Option Src} {H0 H H' : Hp} {σ σ' : Sl} {δ δ' : DEnv} {st : Stmt}
/-! ## name = [..], the name a local -/
@[simp] def sSetV (i : Nat) (t : DT) : DSt := fun D δ => t δ fun r δ1 => ∃ x, r = .val x ∧ i < δ1.length ∧ D.nx (δ1.set i x)
theorem ds_setLc {i : Nat} {ti : DIt} {g : TGd} {tt : DBt} {te : DTx} {vs tv : List Nat} (sub : ∀ i ∈ tv, i ∈ vs)
    (hx : PS X st (tAsg (tLc (lI X.K X.w ti) (lGt X.K X.w tv g) (lB X.K X.w tt) (lG X.K X.w te) vs) (gName i))) : PD X st (sSetV i (tLcD ti g tt te vs)) :=
  PS.mono hx fun D σ H ⟨S, H0, δ, DD, R, q, E⟩ => lc_lE sub ⟨S, H0, δ, _, R, q, fun v H1 r δ1 ⟨x, er, hi, p⟩ R1 rr fr T => by
    subst er
    exact E.nx _ _ _ (R1.store (by rw [R1.len]; exact hi) rr.2.1 rr.2.2) (T.ext R) p⟩
/-! ## compared with an empty sequence, whatever the items -/
def zEq : PyData → PyData → Option Bool
  | .list ds, .list [] => some ds.isEmpty
  | .tuple ds, .tuple [] => some ds.isEmpty
  | _, _ => none
@[simp] def rEqZ : D2 := fun d e P => ∃ b, zEq d e = some b ∧ P (.fz (.bool b))
@[simp] def rNeZ : D2 := fun d e P => ∃ b, zEq d e = some b ∧ P (.fz (.bool (!b)))
theorem zEq_of {d e : PyData} {b : Bool} (h : zEq d e = some b) : (∃ ds, d = .list ds ∧ e = .list [] ∧ b = ds.isEmpty) ∨ ∃ ds, d = .tuple ds ∧ e = .tuple [] ∧ b = ds.isEmpty := by
  unfold zEq at h
  split at h
  · cases h; exact .inl ⟨_, rfl, rfl, rfl⟩
  · cases h; exact .inr ⟨_, rfl, rfl, rfl⟩
  · cases h
open SeqAt in
theorem reads_nil_seq {h : Heap} {u : Value} {as : List Addr} (r : Reads h u (.list []) as) : ∃ l vs, u = .ref l ∧ h.IsList l vs ∧ vs.size = 0 := by
  cases r with
  | list h1 h2 h3 h4 => exact ⟨_, _, rfl, ⟨_, h1, h2, _, h3⟩, by simpa using ReadsAll.length _ _ _ h4⟩
open SeqAt in
theorem reads_nil_tup {h : Heap} {u : Value} {as : List Addr} (r : Reads h u (.tuple []) as) : ∃ l vs, u = .ref l ∧ h.IsTuple l vs ∧ vs.size = 0 := by
  cases r with
  | tuple h1 h2 h3 h4 => exact ⟨_, _, rfl, ⟨_, h1, h2, _, h3⟩, by simpa using ReadsAll.length _ _ _ h4⟩
theorem size_isEmpty {α β : Type} {vs : Array α} {ds : List β} (h : vs.size = ds.length) : (vs.size == 0) = ds.isEmpty := by
  cases ds with
  | nil => simp at h; simp [h]
  | cons d r => simp at h; simp [h]
open SeqAt in
theorem opd_eqZ (hu : X.A.units + 64 < cLine) : OpR X (compareOp .Eq) (RO2 X.K X.w rEqZ) := by
  intro pins s σ H x y v u Q I rx ry ⟨d, e, P, hd, he, ⟨b, hz, p⟩, k⟩
  obtain ⟨as, r1, _⟩ := hd.reads I rx
  obtain ⟨bs, r2, _⟩ := he.reads I ry
  have fin : EP X pins σ Q (.bool b) s := ⟨.bl _, H, I, rfl, wn_fz k (.bl _) p⟩
  rcases zEq_of hz with ⟨ds, rfl, rfl, rfl⟩ | ⟨ds, rfl, rfl, rfl⟩
  · obtain ⟨l2, vs2, rfl, hl2, n2⟩ := reads_nil_seq r2
    cases r1 with
    | @list l o vs n xs as₁ h1 h2 h3 h4 =>
      have hl : s.heap.IsList l vs := ⟨_, h1, h2, _, h3⟩
      have n1 : vs.size = ds.length := by simpa using ReadsAll.length _ _ _ h4
      by_cases hs : vs.size = vs2.size
      · refine RcAt.lists (e := fun _ => true) hl hl2 hs (by omega) (fun j j1 j2 => by omega) _ _ _ _ ?_
        rw [n2] at hs
        rw [hs] at n1 ⊢
        cases ds with
        | nil => simpa using fin
        | cons d r => simp at n1
      · refine RcAt.lists_lengths hl hl2 (by simpa using hs) (by omega) _ _ _ _ ?_
        cases ds with
        | nil => rw [List.length_nil] at n1; omega
        | cons d r => exact fin
  · obtain ⟨l2, vs2, rfl, hl2, n2⟩ := reads_nil_tup r2
    cases r1 with
    | @tuple l o vs n xs as₁ h1 h2 h3 h4 =>
      have hl : s.heap.IsTuple l vs := ⟨_, h1, h2, _, h3⟩
      have n1 : vs.size = ds.length := by simpa using ReadsAll.length _ _ _ h4
      refine RcAt.tuples (e := fun _ => true) hl hl2 (by omega) (fun j j1 j2 => by omega) _ _ _ _ ?_
      rw [n2, size_isEmpty n1]
      simpa using fin
open SeqAt in
theorem opd_neZ (hu : X.A.units + 64 < cLine) : OpR X (compareOp .NotEq) (RO2 X.K X.w rNeZ) := by
  intro pins s σ H x y v u Q I rx ry ⟨d, e, P, hd, he, ⟨b, hz, p⟩, k⟩
  obtain ⟨as, r1, _⟩ := hd.reads I rx
  obtain ⟨bs, r2, _⟩ := he.reads I ry
  have fin : EP X pins σ Q (.bool (!b)) s := ⟨.bl _, H, I, rfl, wn_fz k (.bl _) p⟩
  rcases zEq_of hz with ⟨ds, rfl, rfl, rfl⟩ | ⟨ds, rfl, rfl, rfl⟩
  · obtain ⟨l2, vs2, rfl, hl2, n2⟩ := reads_nil_seq r2
    cases r1 with
    | @list l o vs n xs as₁ h1 h2 h3 h4 =>
      have hl : s.heap.IsList l vs := ⟨_, h1, h2, _, h3⟩
      have n1 : vs.size = ds.length := by simpa using ReadsAll.length _ _ _ h4
      by_cases hs : vs.size = vs2.size
      · refine RcNeAt.lists (e := fun _ => true) hl hl2 hs (by omega) (fun j j1 j2 => by omega) _ _ _ _ ?_
        rw [n2] at hs
        rw [hs] at n1 ⊢
        cases ds with
        | nil => simpa using fin
        | cons d r => simp at n1
      · refine RcNeAt.lists_lengths hl hl2 (by simpa using hs) (by omega) _ _ _ _ ?_
        cases ds with
        | nil => rw [List.length_nil] at n1; omega
        | cons d r => exact fin
  · obtain ⟨l2, vs2, rfl, hl2, n2⟩ := reads_nil_tup r2
    cases r1 with
    | @tuple l o vs n xs as₁ h1 h2 h3 h4 =>
      have hl : s.heap.IsTuple l vs := ⟨_, h1, h2, _, h3⟩
      have n1 : vs.size = ds.length := by simpa using ReadsAll.length _ _ _ h4
      refine RcNeAt.tuples (e := fun _ => true) hl hl2 (by omega) (fun j j1 j2 => by omega) _ _ _ _ ?_
      rw [n2, size_isEmpty n1]
      simpa using fin
end
/-! ## a def that is called by its name -/
structure Cal (P : Program) (w : World) (K : PySem.W.Frag) (mg : Str → Option Value) (base : Heap) (x : Str) (k : Nat) (ps : List Str) (sp : Sp) : Prop where
  ex : ∃ f fd, FG P w K mg base k f fd ps sp ∧ mg x = some (.ref f) ∧ PySem.W.keepIn K (.ref f) = true ∧ Binds K fd ps []
theorem Cal.imp {P : Program} {w : World} {K : PySem.W.Frag} {mg : Str → Option Value} {base : Heap} {x : Str} {j k : Nat} {ps : List Str} {sp sq : Sp} (C : Cal P w K mg base x j ps sp) (h : j ≤ k) (hs : ∀ vs H Q E, sq vs H Q E → sp vs H Q E) : Cal P w K mg base x k ps sq := by
  obtain ⟨f, fd, a, b, c, d⟩ := C.ex
  exact ⟨f, fd, (a.mono h).imp hs, b, c, d⟩
theorem spP.imp {K : PySem.W.Frag} {w : World} {t u : Pm} (h : ∀ ds R, t ds R → u ds R) : ∀ vs H Q E, spP K w t vs H Q E → spP K w u vs H Q E := fun vs H Q E ⟨ds, P, a, b, c⟩ => ⟨ds, P, a, h _ _ b, c⟩
theorem spS.imp {K : PySem.W.Frag} {w : World} {t u : Pm} (h : ∀ ds R, t ds R → u ds R) : ∀ vs H Q E, spS K w t vs H Q E → spS K w u vs H Q E := fun vs H Q E ⟨s, vr, ds, P, a, b, c, d, e⟩ => ⟨s, vr, ds, P, a, b, c, h _ _ d, e⟩
section
variable {X : Cx} {k : Nat} {ps : List Str} {x : Str} {p pos : Pos} {e : Expr} {es : List Expr} {t : Pm} {ta : DGt}
theorem de_callC (C : Cal X.prog X.w X.K X.mg X.base x k ps (spP X.K X.w t)) (hG : X.A.guards = some []) (hr : Room k X.A) (hg : Gl X x) (ha : PA X (e :: es) (lGA X.K X.w ta)) (hdb : (x == ("__debug__" : Str)) = false := by decide)
    (he : starEach (e :: es) X.env = (false, eval e X.env) :: starEach es X.env := by rfl) (hpl : (backTo pos (starEach es X.env)).any (·.1) = false := by rfl) : DE X (.Call (.Name x p) (e :: es) [] pos) (tCl t ta) := by
  obtain ⟨f, fd, F, a, b, c⟩ := C.ex
  exact de_call F hG hr hg a b c ha hdb he hpl
theorem de_callCS (C : Cal X.prog X.w X.K X.mg X.base x k ps (spS X.K X.w t)) (hG : X.A.guards = some []) (hr : Room k X.A) (hg : Gl X x) (ha : PA X (e :: es) (lGA X.K X.w ta)) (hdb : (x == ("__debug__" : Str)) = false := by decide)
    (he : starEach (e :: es) X.env = (false, eval e X.env) :: starEach es X.env := by rfl) (hpl : (backTo pos (starEach es X.env)).any (·.1) = false := by rfl) : DE X (.Call (.Name x p) (e :: es) [] pos) (tCs t ta) := by
  obtain ⟨f, fd, F, a, b, c⟩ := C.ex
  exact de_callS F hG hr hg a b c ha hdb he hpl
end
theorem bt_int : bootBuiltins "int" = some (.type "int") := by decide +kernel
theorem bt_bool : bootBuiltins "bool" = some (.type "bool") := by decide +kernel
theorem bt_str : bootBuiltins "str" = some (.type "str") := by decide +kernel
theorem bt_tuple : bootBuiltins "tuple" = some (.type "tuple") := by decide +kernel
theorem bt_list : bootBuiltins "list" = some (.type "list") := by decide +kernel
theorem bt_dict : bootBuiltins "dict" = some (.type "dict") := by decide +kernel
theorem bt_len : bootBuiltins "len" = some (.builtin "len") := by decide +kernel
theorem bt_all : bootBuiltins "all" = some (.builtin "all") := by decide +kernel
theorem bt_any : bootBuiltins "any" = some (.builtin "any") := by decide +kernel
theorem bt_repr : bootBuiltins "repr" = some (.builtin "repr") := by decide +kernel
theorem bt_abs : bootBuiltins "abs" = some (.builtin "abs") := by decide +kernel
theorem room66 {k : Nat} {A : Around} (r : Room k A) : A.units + 66 < cLine := by have := r.un; omega
theorem pe_callGC {X : Cx} {k : Nat} {ps : List Str} {x : Str} {p pos : Pos} {e : Expr} {es : List Expr} {t : TA} {sp : Sp} (C : Cal X.prog X.w X.K X.mg X.base x k ps sp) (hG : X.A.guards = some []) (hr : Room k X.A) (hg : Gl X x) (ha : PA X (e :: es) t) (hdb : (x == ("__debug__" : Str)) = false := by decide)
    (he : starEach (e :: es) X.env = (false, eval e X.env) :: starEach es X.env := by rfl) (hpl : (backTo pos (starEach es X.env)).any (·.1) = false := by rfl) : PE X (.Call (.Name x p) (e :: es) [] pos) (fun σ H Q => t σ H fun vs H1 => sp vs H1 Q E0) := by
  obtain ⟨f, fd, F, a, b, c⟩ := C.ex
  exact pe_callG F hG hr hg a b c ha hdb he hpl
end DL
set_option maxHeartbeats 4000000
namespace DL
open PySem PySem.Spec PyProof.Rows L2
/-! ## the law's source of draws at work -/
def srcD (c : Addr) (l m t : Int) : HO := .dK [(.inr "cells", .ref c), (.inr "left", .int l), (.inr "mixed", .int m), (.inr "turn", .int t)]
structure SAt (H0 H : Hp) (s : Src) (cs : List Int) (l m t : Int) : Prop where
  ne : s.d ≠ s.c
  d : H s.d = some (srcD s.c l m t)
  c : H s.c = some (.lst (cs.map V.int))
  same : SameS s H0 H
theorem SAt.of {H : Hp} {s : Src} (h : SrcOk H s) : ∃ cs l m t, SAt H H s cs l m t := by
  obtain ⟨n, cs, l, m, t, a, b⟩ := h
  exact ⟨cs, l, m, t, n, a, b, fun _ _ h _ _ => h⟩
section
variable {H0 H : Hp} {s : Src} {cs : List Int} {l m t : Int}
theorem SAt.ok (h : SAt H0 H s cs l m t) : SrcOk H s := ⟨h.ne, cs, l, m, t, h.d, h.c⟩
theorem SAt.getC (h : SAt H0 H s cs l m t) : DGet H s.d (.str "cells") (some (.ref s.c)) := DGet.k (k := .inr "cells") h.d
theorem SAt.getL (h : SAt H0 H s cs l m t) : DGet H s.d (.str "left") (some (.int l)) := DGet.k (k := .inr "left") h.d
theorem SAt.getM (h : SAt H0 H s cs l m t) : DGet H s.d (.str "mixed") (some (.int m)) := DGet.k (k := .inr "mixed") h.d
theorem SAt.getT (h : SAt H0 H s cs l m t) : DGet H s.d (.str "turn") (some (.int t)) := DGet.k (k := .inr "turn") h.d
theorem SAt.putD (h : SAt H0 H s cs l m t) {l' m' t' : Int} : SAt H0 (upd H s.d (srcD s.c l' m' t')) s cs l' m' t' :=
  ⟨h.ne, upd_same, by rw [upd_ne (Ne.symm h.ne)]; exact h.c, fun b o e n1 n2 => by rw [upd_ne n1]; exact h.same b o e n1 n2⟩
theorem SAt.putC (h : SAt H0 H s cs l m t) {cs' : List Int} : SAt H0 (upd H s.c (.lst (cs'.map V.int))) s cs' l m t :=
  ⟨h.ne, by rw [upd_ne h.ne]; exact h.d, upd_same, fun b o e n1 n2 => by rw [upd_ne n2]; exact h.same b o e n1 n2⟩
theorem SAt.setL (h : SAt H0 H s cs l m t) (x : Int) : DPut H s.d (.str "left") (.int x) (upd H s.d (srcD s.c x m t)) := DPut.k (k := .inr "left") h.d (show 4 < sizeLine by decide)
theorem SAt.setM (h : SAt H0 H s cs l m t) (x : Int) : DPut H s.d (.str "mixed") (.int x) (upd H s.d (srcD s.c l x t)) := DPut.k (k := .inr "mixed") h.d (show 4 < sizeLine by decide)
theorem SAt.setT (h : SAt H0 H s cs l m t) (x : Int) : DPut H s.d (.str "turn") (.int x) (upd H s.d (srcD s.c l m x)) := DPut.k (k := .inr "turn") h.d (show 4 < sizeLine by decide)
end
/-- a draw: one of as many as are asked for -/
def pmPick : Pm := fun ds R => ∃ m : Int, ds = [.int m] ∧ 1 ≤ m ∧ m < 1073741824 ∧ ∀ n : Int, 0 ≤ n → n < m → R (.fz (.int n))
theorem dec_true {p : Prop} [Decidable p] (h : decide p = true) : p := of_decide_eq_true h
theorem mod_at {a m : Int} (h : 0 < m) : 0 ≤ a % m ∧ a % m < m := ⟨Int.emod_nonneg _ (by omega), Int.emod_lt_of_pos _ h⟩
/-- nothing is promised -/
theorem fg_no {P : Program} {w : World} {K : PySem.W.Frag} {mg : Str → Option Value} {base : Heap} {k : Nat} {f : Addr} {fd : FuncData} {ps : List Str} {t : Pm} (h : ∀ ds R, t ds R → False) : FG P w K mg base k f fd ps (spS K w t) :=
  ⟨fun vs H Q E ⟨_, _, ds, R, _, _, _, z, _⟩ => (h ds R z).elim, fun A outer s H args us vs Q _ _ _ _ _ ⟨_, _, ds, R, _, _, _, z, _⟩ => (h ds R z).elim⟩
end DL
set_option maxHeartbeats 1000000
namespace DL
open PySem PySem.Spec PyProof.Rows L2
/-! ## comprehensions over data, told by what each item gives -/
theorem take_succ_get {α : Type} {l : List α} {i : Nat} {x : α} (h : l[i]? = some x) : l.take (i + 1) = l.take i ++ [x] := by
  rw [List.take_add_one, h]; rfl
theorem wpD_idem (δ : DEnv) (vs : List Nat) : wpD (wpD δ vs) vs = wpD δ vs := by
  apply List.ext_getElem?
  intro i
  by_cases h : i ∈ vs
  · by_cases hi : i < δ.length
    · rw [wpD_in h (by rw [wpD_len]; exact hi), wpD_in h hi]
    · rw [List.getElem?_eq_none (by rw [wpD_len, wpD_len]; omega), List.getElem?_eq_none (by rw [wpD_len]; omega)]
  · rw [wpD_out h]
theorem unw_wpD (δ : DEnv) (vs : List Nat) : unw δ (wpD δ vs) vs = δ := by
  apply List.ext_getElem?
  intro i
  by_cases hi : i < δ.length
  · by_cases h : i ∈ vs
    · rw [unw_in h (by rw [wpD_len]; exact hi), List.getElem?_eq_getElem hi]; rfl
    · rw [unw_out h, wpD_out h]
  · rw [List.getElem?_eq_none (by rw [unw_len, wpD_len]; omega), List.getElem?_eq_none (by omega)]
theorem lc_rel {ti : DIt} {g : TGd} {tt : DBt} {te : DTx} {vs : List Nat} {δ : DEnv} {P : Rs → DEnv → Prop} (ds : List PyData) (Rel : PyData → Option PyData → Prop)
    (hi : ∀ Q : List PyData → DEnv → Prop, Q ds δ → ti δ Q) (hz : ds.length ≤ sizeLine)
    (hb : ∀ d ∈ ds, ∀ (C : DV → DEnv → Prop) (B : DEnv → Prop), (∀ y δ4, Rel d (some y) → wpD δ4 vs = wpD δ vs → C (.fz y) δ4) → (∀ δ3, Rel d none → wpD δ3 vs = wpD δ vs → B (wpD δ3 vs)) →
      g d (wpD δ vs) fun δ2 => tt δ2 fun b δ3 => if b = true then te δ3 C else B (wpD δ3 vs))
    (hP : ∀ os : List (Option PyData), Paired Rel ds os → P (.val (.ol (os.filterMap id))) δ) : tLcD ti g tt te vs δ P := by
  refine hi _ ⟨fun i acc δ' => i ≤ ds.length ∧ δ' = wpD δ vs ∧ ∃ os, Paired Rel (ds.take i) os ∧ acc = os.filterMap id, ⟨Nat.zero_le _, rfl, [], .nil, rfl⟩, ?_⟩
  rintro i acc δ' ⟨hil, rfl, os, hp, rfl⟩
  refine ⟨fun d hd => ?_, fun e => ?_⟩
  · have hl := get_lt hd
    have hlo : os.length = i := by rw [← Paired.length hp, List.length_take]; omega
    have st : ∀ o, Rel d o → Paired Rel (ds.take (i + 1)) (os ++ [o]) := fun o r => by
      rw [take_succ_get hd]
      exact hp.snoc r
    refine hb d (List.mem_of_getElem? hd) (fun x δ4 => ∃ y, x = .fz y ∧ (os.filterMap id).length < sizeLine ∧ (i + 1 ≤ ds.length ∧ wpD δ4 vs = wpD δ vs ∧ ∃ os', Paired Rel (ds.take (i + 1)) os' ∧ os.filterMap id ++ [y] = os'.filterMap id))
      (fun δ' => i + 1 ≤ ds.length ∧ δ' = wpD δ vs ∧ ∃ os', Paired Rel (ds.take (i + 1)) os' ∧ os.filterMap id = os'.filterMap id)
      (fun y δ4 r e4 => ⟨y, rfl, Nat.lt_of_le_of_lt (List.length_filterMap_le ..) (by omega), hl, e4, os ++ [some y], st _ r, by simp⟩) (fun δ3 r e3 => ⟨hl, e3, os ++ [none], st _ r, by simp⟩)
  · rw [unw_wpD]
    rw [e, List.take_length] at hp
    exact hP os hp
theorem paired_some {F : PyData → Option PyData} : ∀ {ds : List PyData} {os : List (Option PyData)}, Paired (fun d o => o = F d) ds os → os.filterMap id = ds.filterMap F
  | _, _, .nil => rfl
  | _, _, .cons h t => by
    subst h
    rw [List.filterMap_cons, List.filterMap_cons, paired_some t]
    rfl
theorem lc_fold {ti : DIt} {g : TGd} {tt : DBt} {te : DTx} {vs : List Nat} {δ : DEnv} {P : Rs → DEnv → Prop} (ds : List PyData) (F : PyData → Option PyData)
    (hi : ∀ Q : List PyData → DEnv → Prop, Q ds δ → ti δ Q) (hz : ds.length ≤ sizeLine)
    (hb : ∀ d ∈ ds, ∀ (C : DV → DEnv → Prop) (B : DEnv → Prop), (∀ y δ4, F d = some y → wpD δ4 vs = wpD δ vs → C (.fz y) δ4) → (∀ δ3, F d = none → wpD δ3 vs = wpD δ vs → B (wpD δ3 vs)) →
      g d (wpD δ vs) fun δ2 => tt δ2 fun b δ3 => if b = true then te δ3 C else B (wpD δ3 vs))
    (hP : P (.val (.ol (ds.filterMap F))) δ) : tLcD ti g tt te vs δ P :=
  lc_rel ds (fun d o => o = F d) hi hz (fun d hd C B h1 h2 => hb d hd C B (fun y δ4 e => h1 y δ4 e.symm) (fun δ3 e => h2 δ3 e.symm)) fun os hp => by
    rw [paired_some hp]; exact hP
/-- a for loop by an invariant of the turn -/
theorem for_ok {ti : DIt} {g : TGd} {tb : DSt} {D : DEnds} {δ : DEnv} (ds : List PyData) (hi : ∀ Q : List PyData → DEnv → Prop, Q ds δ → ti δ Q) (W : Nat → DEnv → Prop) (w0 : W 0 δ)
    (turn : ∀ i d δ, ds[i]? = some d → W i δ → ∀ N : DEnv → Prop, (∀ δ', W (i + 1) δ' → N δ') → g d δ fun δ2 => tb { D with nx := N, ct := N, bk := D.nx } δ2) (fin : ∀ δ, W ds.length δ → D.nx δ) : sFor ti g tb D δ :=
  hi _ ⟨W, w0, fun i δ w => ⟨fun d hd => turn i d δ hd w _ fun _ h => h, fun e => fin δ (by rw [← e]; exact w)⟩⟩
/-- what holds between two statements -/
theorem seq_inv {t u : DSt} {D : DEnds} {δ : DEnv} (I : DEnv → Prop) (h1 : ∀ N : DEnv → Prop, (∀ δ, I δ → N δ) → t { D with nx := N } δ) (h2 : ∀ δ, I δ → u D δ) : sSeq t u D δ := h1 _ h2
theorem paired_all {Ok : PyData → Prop} : ∀ {ds : List PyData} {os : List (Option PyData)}, Paired (fun _ o => ∃ y, o = some y ∧ Ok y) ds os → (os.filterMap id).length = ds.length ∧ ∀ y ∈ os.filterMap id, Ok y
  | _, _, .nil => ⟨rfl, fun y h => by cases h⟩
  | _, _, .cons h t => by
    obtain ⟨y, rfl, hy⟩ := h
    obtain ⟨e1, e2⟩ := paired_all t
    rw [List.filterMap_cons]
    show (y :: _).length = _ ∧ ∀ z ∈ y :: _, Ok z
    refine ⟨by rw [List.length_cons, List.length_cons, e1], fun z hz => ?_⟩
    rcases List.mem_cons.mp hz with e | hz
    · rw [e]; exact hy
    · exact e2 z hz
theorem lc_all {ti : DIt} {g : TGd} {tt : DBt} {te : DTx} {vs : List Nat} {δ : DEnv} {P : Rs → DEnv → Prop} (Ok : PyData → Prop) (ds : List PyData)
    (hi : ∀ Q : List PyData → DEnv → Prop, Q ds δ → ti δ Q) (hz : ds.length ≤ sizeLine)
    (hb : ∀ d ∈ ds, ∀ (C : DV → DEnv → Prop) (B : DEnv → Prop), (∀ y δ4, Ok y → wpD δ4 vs = wpD δ vs → C (.fz y) δ4) →
      g d (wpD δ vs) fun δ2 => tt δ2 fun b δ3 => if b = true then te δ3 C else B (wpD δ3 vs))
    (hP : ∀ ys : List PyData, ys.length = ds.length → (∀ y ∈ ys, Ok y) → P (.val (.ol ys)) δ) : tLcD ti g tt te vs δ P :=
  lc_rel ds (fun _ o => ∃ y, o = some y ∧ Ok y) hi hz (fun d hd C B h1 _ => hb d hd C B fun y δ4 hy e => h1 y δ4 ⟨y, rfl, hy⟩ e) fun os hp => by
    obtain ⟨e1, e2⟩ := paired_all hp
    exact hP _ e1 e2
/-- two strs, whatever is in them -/
@[simp] def rNeS : D2 := fun d e P => ∃ x y, d = .str x ∧ e = .str y ∧ P (.fz (.bool (!(x == y))))
theorem opd_neS {X : Cx} : OpR X (compareOp .NotEq) (RO2 X.K X.w rNeS) := by
  intro pins s σ H x y v u Q I rx ry ⟨d, e, P, hd, he, ⟨a, b, ed, ee, p⟩, k⟩
  subst ed ee
  have f1 : RF X.K X.w H x (.str a) := by
    rcases hd with h | ⟨_, _, _, e, _⟩ | ⟨_, _, _, e, _⟩
    · exact h
    · cases e
    · cases e
  have f2 : RF X.K X.w H y (.str b) := by
    rcases he with h | ⟨_, _, _, e, _⟩ | ⟨_, _, _, e, _⟩
    · exact h
    · cases e
    · cases e
  cases f1
  cases f2
  obtain ⟨t1, e1⟩ := rx
  obtain ⟨t2, e2⟩ := ry
  subst e1 e2
  exact SeqAt.RcNeAt.str_str a t1 b t2 _ _ _ _ ⟨.bl _, H, I, rfl, wn_fz k (.bl _) p⟩
/-- a for loop over what was drawn -/
theorem for_dr {ti : DIt} {g : TGd} {tb : DSt} {D : DEnds} {δ : DEnv} (Good : List PyData → Prop) (hi : ∀ Q : List PyData → DEnv → Prop, (∀ ds, Good ds → Q ds δ) → ti δ Q) (W : List PyData → Nat → DEnv → Prop) (w0 : ∀ ds, Good ds → W ds 0 δ)
    (turn : ∀ ds, Good ds → ∀ i d δ, ds[i]? = some d → W ds i δ → ∀ N : DEnv → Prop, (∀ δ', W ds (i + 1) δ' → N δ') → g d δ fun δ2 => tb { D with nx := N, ct := N, bk := D.nx } δ2) (fin : ∀ ds, Good ds → ∀ δ, W ds ds.length δ → D.nx δ) : sFor ti g tb D δ :=
  hi _ fun ds hg => ⟨W ds, w0 ds hg, fun i δ w => ⟨fun d hd => turn ds hg i d δ hd w _ fun _ h => h, fun e => fin ds hg δ (by rw [← e]; exact w)⟩⟩
end DL
set_option maxHeartbeats 1000000
namespace DL
open PySem PySem.Spec PyProof.Rows L2
/-! ## what simp is told of values -/
@[simp] theorem zd_fz (d : PyData) : (DV.fz d).data = some d := rfl
@[simp] theorem zd_ol (ds : List PyData) : (DV.ol ds).data = some (.list ds) := rfl
@[simp] theorem zd_od (k : Kvs) : (DV.od k).data = some (.dict k) := rfl
@[simp] theorem zf_fz (d : PyData) : (DV.fz d).frz = .fz d := rfl
@[simp] theorem zf_ol (ds : List PyData) : (DV.ol ds).frz = .fz (.list ds) := rfl
@[simp] theorem zf_od (k : Kvs) : (DV.od k).frz = .fz (.dict k) := rfl
@[simp] theorem zf_src : DV.src.frz = .src := rfl
@[simp] theorem zr_slot (δ : DEnv) (i : Nat) : (Rs.slot i).rd δ = (δ[i]?).bind DV.data := rfl
@[simp] theorem zr_val (δ : DEnv) (x : DV) : (Rs.val x).rd δ = x.data := rfl
@[simp] theorem zk_slot (δ : DEnv) (i : Nat) : (Rs.slot i).tk δ = (δ[i]?.getD .no).frz := rfl
@[simp] theorem zk_val (δ : DEnv) (x : DV) : (Rs.val x).tk δ = x := rfl
@[simp] theorem zv_slot (δ : DEnv) (i : Nat) : (Rs.slot i).dv δ = (δ[i]?.getD .no).frz := rfl
@[simp] theorem zv_val (δ : DEnv) (x : DV) : (Rs.val x).dv δ = x.frz := rfl
@[simp] theorem zz_val (δ : DEnv) (x : DV) : (Rs.val x).fz δ = δ := rfl
@[simp] theorem zz_slot (δ : DEnv) (i : Nat) (x : DV) (h : δ[i]? = some x) : (Rs.slot i).fz δ = δ.set i x.frz := fz_slot h
@[simp] theorem zs_int (i : Int) : SeqAt.shaped (.int i) = true := rfl
@[simp] theorem zs_bool (b : Bool) : SeqAt.shaped (.bool b) = true := rfl
@[simp] theorem zs_none : SeqAt.shaped .none = true := rfl
@[simp] theorem zq_int (i j : Int) : PyData.eqv (.int i) (.int j) = decide (i = j) := by simp [PyData.eqv]; rfl
@[simp] theorem zq_str (x y : Str) : PyData.eqv (.str x) (.str y) = (x == y) := by simp [PyData.eqv]
@[simp] theorem z_line : sizeLine = 16777216 := rfl
@[simp] theorem zl_list (ds : List PyData) : lenD (.list ds) = some ds.length := rfl
@[simp] theorem zl_tup (ds : List PyData) : lenD (.tuple ds) = some ds.length := rfl
@[simp] theorem zo_list (ds : List PyData) : seqOf (.list ds) = some ds := rfl
@[simp] theorem zo_tup (ds : List PyData) : seqOf (.tuple ds) = some ds := rfl
@[simp] theorem zi_int (i : Int) : intD (.int i) = some i := rfl
@[simp] theorem ze_list (ds : List PyData) : zEq (.list ds) (.list []) = some ds.isEmpty := rfl
@[simp] theorem ze_tup (ds : List PyData) : zEq (.tuple ds) (.tuple []) = some ds.isEmpty := rfl
@[simp] theorem zt_int (i : Int) : toInt (.int i) = some i := rfl
@[simp] theorem zq_fz_list (ds : List PyData) : seqD (.fz (.list ds)) = some ds := rfl
@[simp] theorem zq_fz_tup (ds : List PyData) : seqD (.fz (.tuple ds)) = some ds := rfl
@[simp] theorem za_ii (i j : Int) (P : DV → Prop) : DL.rAdd (.int i) (.int j) P = P (.fz (.int (i + j))) := rfl
@[simp] theorem za_ll (xs ys : List PyData) (P : DV → Prop) : DL.rAdd (.list xs) (.list ys) P = (xs.length + ys.length ≤ sizeLine ∧ P (.ol (xs ++ ys))) := rfl
@[simp] theorem za_tt (xs ys : List PyData) (P : DV → Prop) : DL.rAdd (.tuple xs) (.tuple ys) P = (xs.length + ys.length ≤ sizeLine ∧ P (.fz (.tuple (xs ++ ys)))) := rfl
@[simp] theorem zc_list (ds : List PyData) (lo hi : Option Int) : cutOf (.list ds) lo hi = some (.ol (cutD ds lo hi)) := rfl
@[simp] theorem zc_tup (ds : List PyData) (lo hi : Option Int) : cutOf (.tuple ds) lo hi = some (.fz (.tuple (cutD ds lo hi))) := rfl
theorem at_nat {α : Type} {l : List α} {j : Nat} {x : α} (h : l[j]? = some x) : atI l (j : Int) = some x := atI_nat h
@[simp] theorem zx_0 {α : Type} (x : α) (l : List α) : atI (x :: l) 0 = some x := atI_nat (j := 0) rfl
@[simp] theorem zx_1 {α : Type} (x y : α) (l : List α) : atI (x :: y :: l) 1 = some y := atI_nat (j := 1) rfl
@[simp] theorem zx_2 {α : Type} (x y z : α) (l : List α) : atI (x :: y :: z :: l) 2 = some z := atI_nat (j := 2) rfl
theorem bools_map {α : Type} (f : α → Bool) : ∀ l : List α, boolsOf (l.map fun x => .bool (f x)) = some (l.map f)
  | [] => rfl
  | x :: l => by
    show (boolsOf (l.map fun x => .bool (f x))).map (f x :: ·) = _
    rw [bools_map f l]; rfl
theorem zi_tup (d : PyData) : isTy "tuple" d = true ↔ ∃ ds, d = .tuple ds := by
  cases d <;> simp [isTy, tyN]
@[simp] theorem zi_tup' (ds : List PyData) : isTy "tuple" (.tuple ds) = true := rfl
@[simp] theorem zn_none : isNone .none = true := rfl
@[simp] theorem zn_tup (ds : List PyData) : isNone (.tuple ds) = false := rfl
theorem filterMap_some {α β : Type} (f : α → β) : ∀ l : List α, l.filterMap (fun x => some (f x)) = l.map f
  | [] => rfl
  | x :: l => by rw [List.filterMap_cons, filterMap_some f l]; rfl
theorem filterMap_if {α : Type} (p : α → Bool) : ∀ l : List α, l.filterMap (fun x => if p x = true then some x else none) = l.filter p
  | [] => rfl
  | x :: l => by
    rw [List.filterMap_cons, List.filter_cons, filterMap_if p l]
    by_cases h : p x = true
    · simp [h]
    · simp [h]
@[simp] theorem zg_c (g : TGd) (gs : TGds) (d : PyData) (r : List PyData) (δ : DEnv) (P : DEnv → Prop) : gCons' g gs (d :: r) δ P = g d δ fun δ1 => gs r δ1 P := propext ⟨fun ⟨_, _, e, h⟩ => by cases e; exact h, fun h => ⟨_, _, rfl, h⟩⟩
@[simp] theorem zg_n (δ : DEnv) (P : DEnv → Prop) : gNil' [] δ P = P δ := propext ⟨fun h => h.2, fun h => ⟨rfl, h⟩⟩
@[simp] theorem zg_t (n : Nat) (gs : TGds) (ds : List PyData) (δ : DEnv) (P : DEnv → Prop) : gTp n gs (.tuple ds) δ P = (ds.length = n ∧ gs ds δ P) := propext ⟨fun ⟨_, e, h⟩ => by cases e; exact h, fun h => ⟨_, rfl, h⟩⟩
theorem dec_swap (i j : Int) : decide (i = j) = (j == i) := by
  by_cases h : i = j
  · subst h; simp
  · rw [decide_eq_false h]; exact (beq_eq_false_iff_ne.mpr (Ne.symm h)).symm
theorem ne_no_fz (d : PyData) : DV.fz d ≠ .no := fun z => by cases z
theorem cut_from (ds : List PyData) (c : Nat) : cutD ds (some (c : Int)) none = ds.drop c := by
  unfold cutD
  rw [HT.sIx_nat, HT.sIx_none]
  by_cases h : c ≤ ds.length
  · rw [Nat.min_eq_left h]
    exact List.take_of_length_le (by rw [List.length_drop]; omega)
  · rw [Nat.min_eq_right (by omega), List.drop_eq_nil_of_le (by omega : ds.length ≤ c), List.drop_length, List.take_nil]
theorem cut_upto (ds : List PyData) (c : Nat) : cutD ds none (some (c : Int)) = ds.take c := by
  unfold cutD
  rw [HT.sIx_nat, HT.sIx_none, List.drop_zero, Nat.sub_zero]
  by_cases h : c ≤ ds.length
  · rw [Nat.min_eq_left h]
  · rw [Nat.min_eq_right (by omega), List.take_length, List.take_of_length_le (by omega)]
/-! ## a dict's entry put, and looked up -/
theorem keq_iff {a b : PyData} : keq a b = true ↔ nkOf a = nkOf b := by unfold keq; exact decide_eq_true_iff
theorem look_cons (p : PyData × PyData) (r : Kvs) (c : PyData) : dLook (p :: r) c = if keq p.1 c = true then some p.2 else dLook r c := by
  unfold dLook
  rw [List.find?_cons]
  cases h : keq p.1 c <;> simp
theorem look_map_same {k v c : PyData} (h : keq k c = true) : ∀ kvs : Kvs, (dLook kvs k).isSome = true → dLook (kvs.map fun p => if keq p.1 k = true then (p.1, v) else p) c = some v
  | [], hs => by cases hs
  | p :: r, hs => by
    rw [List.map_cons, look_cons]
    rw [look_cons] at hs
    have hkc := keq_iff.mp h
    by_cases hp : keq p.1 k = true
    · have : keq p.1 c = true := keq_iff.mpr ((keq_iff.mp hp).trans hkc)
      simp [hp, this]
    · have h2 : ¬ keq p.1 c = true := fun z => hp (keq_iff.mpr ((keq_iff.mp z).trans hkc.symm))
      rw [if_neg hp] at hs ⊢
      rw [if_neg h2]
      exact look_map_same h r hs
theorem look_map_other {k v c : PyData} (h : ¬ keq k c = true) : ∀ kvs : Kvs, dLook (kvs.map fun p => if keq p.1 k = true then (p.1, v) else p) c = dLook kvs c
  | [] => rfl
  | p :: r => by
    rw [List.map_cons, look_cons, look_cons, look_map_other h r]
    by_cases hp : keq p.1 k = true
    · have h2 : ¬ keq p.1 c = true := fun z => h (keq_iff.mpr ((keq_iff.mp hp).symm.trans (keq_iff.mp z)))
      simp [hp, h2]
    · simp [hp]
theorem look_snoc (k v c : PyData) : ∀ kvs : Kvs, dLook (kvs ++ [(k, v)]) c = (dLook kvs c).or (if keq k c = true then some v else none)
  | [] => by rw [List.nil_append, look_cons]; rfl
  | p :: r => by
    rw [List.cons_append, look_cons, look_cons, look_snoc k v c r]
    by_cases hp : keq p.1 c = true <;> simp [hp]
theorem look_same {kvs : Kvs} {k c : PyData} (h : keq k c = true) : dLook kvs k = dLook kvs c := by
  unfold dLook
  congr 1
  congr 1
  funext p
  rw [Bool.eq_iff_iff, keq_iff, keq_iff, keq_iff.mp h]
theorem look_put (kvs : Kvs) (k v c : PyData) : dLook (dPut kvs k v) c = if keq k c = true then some v else dLook kvs c := by
  unfold dPut
  by_cases hk : keq k c = true
  · rw [if_pos hk]
    split
    · exact look_map_same hk kvs (by assumption)
    · rename_i hs
      rw [look_snoc, ← look_same hk, if_pos hk]
      cases q : dLook kvs k with
      | none => rfl
      | some x => rw [q] at hs; exact absurd rfl hs
  · rw [if_neg hk]
    split
    · exact look_map_other hk kvs
    · rw [look_snoc, if_neg hk]; exact Option.or_none
theorem put_len (kvs : Kvs) (k v : PyData) : (dPut kvs k v).length ≤ kvs.length + 1 := by
  unfold dPut
  split
  · rw [List.length_map]; omega
  · rw [List.length_append]; simp
theorem put_ok {kvs : Kvs} {k v : PyData} (h : dOk kvs) (hk : tKey k = true) (hl : kvs.length < sizeLine) : dOk (dPut kvs k v) := by
  refine ⟨?_, Nat.le_trans (put_len ..) hl⟩
  have h1 := List.all_eq_true.mp h.1
  have hkt : isTup k = true := by unfold tKey at hk; rw [Bool.and_eq_true] at hk; exact hk.1
  rw [List.all_eq_true]
  unfold dPut
  split
  · intro p hp
    obtain ⟨p0, hp0, rfl⟩ := List.mem_map.mp hp
    split
    · exact h1 p0 hp0
    · exact h1 p0 hp0
  · intro p hp
    rcases List.mem_append.mp hp with z | z
    · exact h1 p z
    · rw [List.mem_singleton.mp z]; exact hkt
end DL
set_option maxHeartbeats 4000000
namespace K28
open PySem PySem.Spec PyProof.Rows L2 DL
def isInt : PyData → Bool
  | .int _ => true
  | _ => false
theorem isInt_of (d : PyData) : (isTy "int" d && !isTy "bool" d) = isInt d := by cases d <;> rfl
def isEntry (s : Str) : PyData → Bool
  | .int i => s == "data" || (i == 1 || i == -1)
  | _ => false
def isRow (s : Str) (m : Int) : PyData → Bool
  | .tuple xs => decide ((xs.length : Int) = m) && xs.all (isEntry s)
  | _ => false
structure Tb where
  name : Str
  sort : Str
  ins : List Nat
def ixD (ns : List Nat) : List PyData := ns.map fun n => .int (n : Nat)
def tbD (t : Tb) : PyData := .tuple [.str t.name, .str t.sort, .tuple (ixD t.ins)]
def ksD (ks : List Str) : List PyData := ks.map .str
def toldD (ks : List Str) (ts : List Tb) : PyData := .tuple [.tuple (ksD ks), .tuple (ts.map tbD)]
def szD (sz : List Int) : List PyData := sz.map .int
structure TbOk (n : Nat) (t : Tb) : Prop where
  two : (∃ i, t.ins = [i]) ∨ ∃ i j, t.ins = [i, j]
  lt : ∀ i ∈ t.ins, i < n
def isTable (t : Tb) (sz : List Int) (v : PyData) : Bool :=
  match t.ins with
  | [i] => isRow t.sort (sz.getD i 0) v
  | [i, j] => match v with
    | .tuple rows => decide ((rows.length : Int) = sz.getD i 0) && rows.all (isRow t.sort (sz.getD j 0))
    | _ => false
  | _ => false
/-- how wide a value is -/
def wide (d : PyData) : Prop := d.weight ≤ 1000000
theorem weightAll_len : ∀ xs : List PyData, xs.length ≤ PyData.weightAll xs
  | [] => Nat.zero_le _
  | x :: xs => by have := weightAll_len xs; simp only [PyData.weightAll, List.length_cons]; omega
theorem weightAll_mem : ∀ {xs : List PyData} {x : PyData}, x ∈ xs → x.weight ≤ PyData.weightAll xs
  | y :: xs, x, h => by
    simp only [PyData.weightAll]
    rcases List.mem_cons.mp h with e | h
    · rw [e]; omega
    · have := weightAll_mem h; omega
theorem wide_len {xs : List PyData} (h : wide (.tuple xs)) : xs.length ≤ sizeLine := by
  have h1 := weightAll_len xs
  have h2 : PyData.weightAll xs ≤ 1000000 := by simpa [wide, PyData.weight] using h
  exact Nat.le_trans (Nat.le_trans h1 h2) (by decide)
theorem wide_mem {xs : List PyData} {x : PyData} (h : wide (.tuple xs)) (m : x ∈ xs) : wide x := by
  have h1 := weightAll_mem m
  have h2 : PyData.weightAll xs ≤ 1000000 := by simpa [wide, PyData.weight] using h
  exact Nat.le_trans h1 h2
abbrev pm_is_integer : Pm := fun ds R => ∃ d, ds = [d] ∧ R (.fz (.bool (isInt d)))
abbrev pm_is_entry : Pm := fun ds R => ∃ s d, ds = [.str s, d] ∧ SeqAt.shaped (.str s) = true ∧ R (.fz (.bool (isEntry s d)))
abbrev pm_is_row : Pm := fun ds R => ∃ s m v, ds = [.str s, .int m, v] ∧ SeqAt.shaped (.str s) = true ∧ wide v ∧ R (.fz (.bool (isRow s m v)))
abbrev pm_is_table : Pm := fun ds R => ∃ t sz v, ds = [tbD t, .tuple (szD sz), v] ∧ SeqAt.shaped (.str t.sort) = true ∧ TbOk sz.length t ∧ wide v ∧ R (.fz (.bool (isTable t sz v)))
abbrev pm__law_is_int : Pm := pm_is_integer
abbrev pm__law_is_row : Pm := pm_is_row
abbrev pm__law_is_table : Pm := pm_is_table
def sizeOk : PyData → Bool
  | .int i => decide (1 ≤ i)
  | _ => false
def intOf : PyData → Int
  | .int i => i
  | _ => 0
def firstBad (bad : Nat → PyData → Bool) : List PyData → Nat → Option Nat
  | [], _ => none
  | r :: rs, n => if bad n r = true then some n else firstBad bad rs (n + 1)
theorem fb_at {bad : Nat → PyData → Bool} : ∀ {l : List PyData} {n i : Nat} {x : PyData}, l[i]? = some x → bad (n + i) x = true → (∀ j y, j < i → l[j]? = some y → bad (n + j) y = false) → firstBad bad l n = some (n + i)
  | r :: rs, n, 0, x, h, hb, _ => by
    cases h
    simp only [firstBad]
    rw [if_pos (by simpa using hb)]
    rfl
  | r :: rs, n, i + 1, x, h, hb, hp => by
    have h0 : bad n r = false := by simpa using hp 0 r (by omega) rfl
    simp only [firstBad, h0]
    rw [if_neg Bool.false_ne_true, show n + (i + 1) = n + 1 + i from by omega]
    exact fb_at (by simpa using h) (by rw [show n + 1 + i = n + (i + 1) from by omega]; exact hb) fun j y hj e => by
      rw [show n + 1 + j = n + (j + 1) from by omega]
      exact hp (j + 1) y (by omega) (by simpa using e)
theorem fb_none {bad : Nat → PyData → Bool} : ∀ {l : List PyData} {n : Nat}, (∀ j y, l[j]? = some y → bad (n + j) y = false) → firstBad bad l n = none
  | [], _, _ => rfl
  | r :: rs, n, hp => by
    have h0 : bad n r = false := by simpa using hp 0 r rfl
    simp only [firstBad, h0]
    rw [if_neg Bool.false_ne_true]
    exact fb_none fun j y e => by
      rw [show n + 1 + j = n + (j + 1) from by omega]
      exact hp (j + 1) y (by simpa using e)
theorem fb_all {bad : Nat → PyData → Bool} : ∀ {l : List PyData} {n : Nat}, firstBad bad l n = none → ∀ j y, l[j]? = some y → bad (n + j) y = false
  | [], _, _, j, y, e => by simp at e
  | r :: rs, n, h, j, y, e => by
    simp only [firstBad] at h
    cases h0 : bad n r with
    | true => rw [h0, if_pos rfl] at h; cases h
    | false =>
      rw [h0, if_neg Bool.false_ne_true] at h
      cases j with
      | zero => cases e; exact h0
      | succ j => rw [show n + (j + 1) = n + 1 + j from by omega]; exact fb_all h j y (by simpa using e)
theorem fb_some {bad : Nat → PyData → Bool} : ∀ {l : List PyData} {n k : Nat}, firstBad bad l n = some k → ∃ i x, l[i]? = some x ∧ bad (n + i) x = true ∧ k = n + i
  | r :: rs, n, k, h => by
    simp only [firstBad] at h
    cases h0 : bad n r with
    | true => rw [h0, if_pos rfl] at h; cases h; exact ⟨0, r, rfl, by simpa using h0, by omega⟩
    | false =>
      rw [h0, if_neg Bool.false_ne_true] at h
      obtain ⟨i, x, e1, e2, e3⟩ := fb_some h
      exact ⟨i + 1, x, by simpa using e1, by rw [show n + (i + 1) = n + 1 + i from by omega]; exact e2, by omega⟩
theorem fb_head {bad : Nat → PyData → Bool} : ∀ (l : List PyData) (n : Nat), match firstBad bad l n with
    | none => ((l.zipIdx n).filterMap fun p => if bad p.2 p.1 = true then some (PyData.int (p.2 : Nat)) else none) = []
    | some k => ∃ r, ((l.zipIdx n).filterMap fun p => if bad p.2 p.1 = true then some (PyData.int (p.2 : Nat)) else none) = .int (k : Nat) :: r
  | [], _ => rfl
  | x :: l, n => by
    simp only [firstBad, List.zipIdx_cons]
    cases h0 : bad n x with
    | true => simp [h0]
    | false =>
      have := fb_head (bad := bad) l (n + 1)
      simpa [h0] using this
def tbAt (ts : List Tb) (t : Nat) : Tb := ts.getD t ⟨"", "", []⟩
def badRow (ts : List Tb) (sz : List PyData) (t : Nat) (row : PyData) : Bool := !isTable (tbAt ts t) (sz.map intOf) row
def faultB (ks : List Str) (ts : List Tb) (sz rows : List PyData) : PyData :=
  if sz.length = ks.length then match firstBad (fun _ d => !sizeOk d) sz 0 with
    | some k => .tuple [.str "size", .int (k : Nat)]
    | none => if rows.length = ts.length then match firstBad (badRow ts sz) rows 0 with
      | some t => .tuple [.str "table", .int (t : Nat)]
      | none => .none
      else .tuple [.str "tables"]
  else .tuple [.str "sizes"]
def fault (ks : List Str) (ts : List Tb) : PyData → PyData
  | .tuple [.tuple sz, .tuple rows] => faultB ks ts sz rows
  | _ => .tuple [.str "form"]
structure ToldOk (ks : List Str) (ts : List Tb) : Prop where
  tb : ∀ t ∈ ts, TbOk ks.length t
  st : ∀ t ∈ ts, SeqAt.shaped (.str t.sort) = true
abbrev pm_judge_world : Pm := fun ds R => ∃ ks ts v, ds = [toldD ks ts, v] ∧ ToldOk ks ts ∧ wide v ∧ R (.fz (fault ks ts v))
abbrev pm__law_fault : Pm := pm_judge_world
abbrev pm_is_world : Pm := fun ds R => ∃ ks ts v, ds = [toldD ks ts, v] ∧ ToldOk ks ts ∧ wide v ∧ R (.fz (.bool (isNone (fault ks ts v))))
@[local simp] theorem s_lays_1 : type_of% @PyData.canLayAll0.eq_1 := @PyData.canLayAll0.eq_1
@[local simp] theorem s_lays_2 : type_of% @PyData.canLayAll0.eq_2 := @PyData.canLayAll0.eq_2
@[local simp] theorem s_lay_1 : type_of% @PyData.canLay0.eq_1 := @PyData.canLay0.eq_1
@[local simp] theorem s_lay_2 : type_of% @PyData.canLay0.eq_2 := @PyData.canLay0.eq_2
@[local simp] theorem s_lay_3 : type_of% @PyData.canLay0.eq_3 := @PyData.canLay0.eq_3
@[local simp] theorem s_lay_4 : type_of% @PyData.canLay0.eq_4 := @PyData.canLay0.eq_4
@[local simp] theorem s_lay_5 : type_of% @PyData.canLay0.eq_5 := @PyData.canLay0.eq_5
@[local simp] theorem s_lay_6 : type_of% @PyData.canLay0.eq_6 := @PyData.canLay0.eq_6
@[local simp] theorem s_lay_7 : type_of% @PyData.canLay0.eq_7 := @PyData.canLay0.eq_7
def ts_is_integer : DSt := (sRet (xT (vAnd (tIsi "int" (tV 0)) (vNot (tIsi "bool" (tV 0))))))
abbrev N_is_integer : List Str := ["value"]
def ts_is_entry : DSt := (sRet (xT (vAnd (tCl pm_is_integer (gConsA (gT (tV 1)) gNilA)) (vOr (t2 rEqP (tV 0) (tK (.str "data"))) (t2 (rInP false) (tV 1) (tTupD (gConsA (gT (tK (.int 1))) (gConsA (gT (t1 rNeg (tK (.int 1)))) gNilA))))))))
abbrev N_is_entry : List Str := ["sort", "value"]
def ts_is_row : DSt := (sRet (xT (vAnd (tIsi "tuple" (tV 2)) (vAnd (t2 rEqP (tCb rLenP (aCons (tV 2) aNil)) (tV 1)) (tCb rAllP (aCons (tLcD (iSeq (gT (tV 2))) (gN 3) bYes (gT (tCl pm_is_entry (gConsA (gT (tV 0)) (gConsA (gT (tV 3)) gNilA)))) [3]) aNil))))))
abbrev N_is_row : List Str := ["sort", "many", "value", "x"]
def ts_is_table : DSt := (sSeq (sAsg (gTp 3 (gCons' (gN 3) (gCons' (gN 4) (gCons' (gN 5) gNil')))) (gT (tV 0)))
  (sSeq (sIf (bT (t2 rEqP (tCb rLenP (aCons (tV 5) aNil)) (tK (.int 1)))) (sRet (xT (tCl pm_is_row (gConsA (gT (tV 4)) (gConsA (gT (t2 rIxP (tV 1) (t2 rIxP (tV 5) (tK (.int 0))))) (gConsA (gT (tV 2)) gNilA)))))) sNil)
  (sSeq (sIf (bOr (bNot (bT (tIsi "tuple" (tV 2)))) (bT (t2 rNeP (tCb rLenP (aCons (tV 2) aNil)) (t2 rIxP (tV 1) (t2 rIxP (tV 5) (tK (.int 0))))))) (sRet (xT (tK (.bool false)))) sNil)
  (sRet (xT (tCb rAllP (aCons (tLcD (iSeq (gT (tV 2))) (gN 6) bYes (gT (tCl pm_is_row (gConsA (gT (tV 4)) (gConsA (gT (t2 rIxP (tV 1) (t2 rIxP (tV 5) (tK (.int 1))))) (gConsA (gT (tV 6)) gNilA))))) [6]) aNil)))))))
abbrev N_is_table : List Str := ["table", "sizes", "value", "name", "sort", "inputs", "row"]
theorem sh_data : SeqAt.shaped (.str "data") = true := by decide +kernel
theorem wp_is_integer : ∀ ds R, pm_is_integer ds R → ts_is_integer { nx := fun _ => R (.fz .none), rt := R } (startD N_is_integer (ds.map .fz)) := by
  rintro ds R ⟨d, rfl, q⟩
  show ts_is_integer _ [.fz d]
  rw [← isInt_of] at q
  simp [ts_is_integer]
  cases h : isTy "int" d <;> simp_all
theorem wp_is_entry : ∀ ds R, pm_is_entry ds R → ts_is_entry { nx := fun _ => R (.fz .none), rt := R } (startD N_is_entry (ds.map .fz)) := by
  rintro ds R ⟨s, d, rfl, hs, q⟩
  show ts_is_entry _ [.fz (.str s), .fz d]
  simp [ts_is_entry, pm_is_integer, sh_data, hs]
  cases d with
  | int i =>
    simp [isInt]
    simp [isEntry] at q
    by_cases h : s = "data"
    · simpa [h] using q
    · have h2 : (s == ("data" : Str)) = false := beq_eq_false_iff_ne.mpr h
      rw [h2, Bool.false_or] at q
      simp [h]
      rw [dec_swap, dec_swap]
      exact q
  | _ => simpa [isInt, isEntry] using q
theorem wp_is_row : ∀ ds R, pm_is_row ds R → ts_is_row { nx := fun _ => R (.fz .none), rt := R } (startD N_is_row (ds.map .fz)) := by
  rintro ds R ⟨s, m, v, rfl, hs, hv, q⟩
  show ts_is_row _ [.fz (.str s), .fz (.int m), .fz v, .no]
  simp [ts_is_row]
  cases v with
  | tuple xs =>
    simp
    simp [isRow] at q
    split
    · refine lc_fold xs (fun d => some (.bool (isEntry s d))) (fun Q h => by simpa using h) (wide_len hv) (fun d hd C B h1 h2 => ?_) ?_
      · simp [wpD, pm_is_entry]
        exact ⟨_, _, ⟨rfl, rfl⟩, hs, h1 _ _ rfl rfl⟩
      · simp_all [filterMap_some, bools_map]
    · simp_all
  | _ => simpa [isTy, tyN, isRow] using q
theorem sz_at {sz : List Int} {i : Nat} (h : i < sz.length) : atI (szD sz) (i : Int) = some (.int (sz.getD i 0)) := by
  refine at_nat ?_
  rw [szD, List.getElem?_map, List.getElem?_eq_getElem h, List.getD_eq_getElem?_getD, List.getElem?_eq_getElem h]
  rfl
theorem wp_is_table : ∀ ds R, pm_is_table ds R → ts_is_table { nx := fun _ => R (.fz .none), rt := R } (startD N_is_table (ds.map .fz)) := by
  rintro ds R ⟨t, sz, v, rfl, hs, ht, hv, q⟩
  show ts_is_table _ [.fz (tbD t), .fz (.tuple (szD sz)), .fz v, .no, .no, .no, .no]
  rcases ht.two with ⟨i, e⟩ | ⟨i, j, e⟩
  · have hi := ht.lt i (by rw [e]; exact List.mem_singleton_self i)
    simp [ts_is_table, tbD, e, ixD, sz_at hi, pm_is_row]
    simp [isTable, e] at q
    exact ⟨_, _, _, ⟨rfl, rfl, rfl⟩, hs, hv, q⟩
  · have hi := ht.lt i (by rw [e]; simp)
    have hj := ht.lt j (by rw [e]; simp)
    simp [ts_is_table, tbD, e, ixD, sz_at hi, sz_at hj, pm_is_row]
    simp [isTable, e] at q
    cases v with
    | tuple xs =>
      simp at q ⊢
      by_cases h : (xs.length : Int) = sz[i]?.getD 0
      · refine .inl ⟨h, lc_fold xs (fun d => some (.bool (isRow t.sort (sz.getD j 0) d))) (fun Q h => by simpa using h) (wide_len hv) (fun d hd C B h1 h2 => ?_) ?_⟩
        · simp [wpD, pm_is_row, sz_at hj]
          exact ⟨_, _, _, ⟨rfl, rfl, rfl⟩, hs, wide_mem hv hd, h1 _ _ (by simp) rfl⟩
        · simp_all [filterMap_some, bools_map]
      · exact .inr ⟨h, by simpa [h] using q⟩
    | _ => simpa [isTy, tyN] using q
def ts__law_is_int : DSt := (sRet (xT (vAnd (tIsi "int" (tV 0)) (vNot (tIsi "bool" (tV 0))))))
abbrev N__law_is_int : List Str := ["value"]
def ts__law_is_row : DSt := (sSeq (sIf (bOr (bNot (bT (tIsi "tuple" (tV 2)))) (bOr (bT (t2 rNeP (tCb rLenP (aCons (tV 2) aNil)) (tV 1))) (bT (t2 rNeZ (tLcD (iSeq (gT (tV 2))) (gN 3) (bNot (bT (tCl pm__law_is_int (gConsA (gT (tV 3)) gNilA)))) (gT (tV 3)) [3]) (tLstD gNilA))))) (sRet (xT (tK (.bool false)))) sNil)
  (sRet (xT (vOr (t2 rEqP (tV 0) (tK (.str "data"))) (t2 rEqZ (tLcD (iSeq (gT (tV 2))) (gN 3) (bT (t2 (rInP true) (tV 3) (tTupD (gConsA (gT (tK (.int 1))) (gConsA (gT (t1 rNeg (tK (.int 1)))) gNilA))))) (gT (tV 3)) [3]) (tLstD gNilA))))))
abbrev N__law_is_row : List Str := ["sort", "many", "value", "x"]
def ts__law_is_table : DSt := (sSeq (sAsg (gTp 3 (gCons' (gN 3) (gCons' (gN 4) (gCons' (gN 5) gNil')))) (gT (tV 0)))
  (sSeq (sIf (bT (t2 rEqP (tCb rLenP (aCons (tV 5) aNil)) (tK (.int 1)))) (sRet (xT (tCl pm__law_is_row (gConsA (gT (tV 4)) (gConsA (gT (t2 rIxP (tV 1) (t2 rIxP (tV 5) (tK (.int 0))))) (gConsA (gT (tV 2)) gNilA)))))) sNil)
  (sSeq (sIf (bOr (bNot (bT (tIsi "tuple" (tV 2)))) (bT (t2 rNeP (tCb rLenP (aCons (tV 2) aNil)) (t2 rIxP (tV 1) (t2 rIxP (tV 5) (tK (.int 0))))))) (sRet (xT (tK (.bool false)))) sNil)
  (sRet (xT (t2 rEqZ (tLcD (iSeq (gT (tV 2))) (gN 6) (bNot (bT (tCl pm__law_is_row (gConsA (gT (tV 4)) (gConsA (gT (t2 rIxP (tV 1) (t2 rIxP (tV 5) (tK (.int 1))))) (gConsA (gT (tV 6)) gNilA)))))) (gT (tV 6)) [6]) (tLstD gNilA)))))))
abbrev N__law_is_table : List Str := ["table", "sizes", "value", "name", "sort", "inputs", "row"]
theorem wp__law_is_int : ∀ ds R, pm__law_is_int ds R → ts__law_is_int { nx := fun _ => R (.fz .none), rt := R } (startD N__law_is_int (ds.map .fz)) := by
  rintro ds R ⟨d, rfl, q⟩
  show ts__law_is_int _ [.fz d]
  rw [← isInt_of] at q
  simp [ts__law_is_int]
  cases h : isTy "int" d <;> simp_all
theorem wp__law_is_row : ∀ ds R, pm__law_is_row ds R → ts__law_is_row { nx := fun _ => R (.fz .none), rt := R } (startD N__law_is_row (ds.map .fz)) := by
  rintro ds R ⟨s, m, v, rfl, hs, hv, q⟩
  show ts__law_is_row _ [.fz (.str s), .fz (.int m), .fz v, .no]
  simp [ts__law_is_row]
  cases v with
  | tuple xs =>
    simp
    by_cases h : (xs.length : Int) = m
    · simp [h]
      refine lc_fold xs (fun d => if isInt d = false then some d else none) (fun Q h => by simpa using h) (wide_len hv) (fun d hd C B h1 h2 => ?_) ?_
      · simp [wpD, pm__law_is_int, pm_is_integer]
        cases hd : isInt d with
        | false => simp; exact h1 _ _ (by simp [hd]) rfl
        | true => simp; exact h2 [_, _, _, .fz d] (by simp [hd]) rfl
      · by_cases ha : ∀ x ∈ xs, isInt x = true
        · have e1 : xs.filterMap (fun d => if isInt d = false then some d else none) = [] := List.filterMap_eq_nil_iff.mpr fun x hx => by simp [ha x hx]
          rw [e1]
          simp [hs, sh_data]
          by_cases h2 : s = "data"
          · simp [h2]
            have e2 : isRow s m (.tuple xs) = true := by
              simp [isRow, h]
              intro x hx
              have := ha x hx
              cases x <;> simp_all [isInt, isEntry]
            rw [e2] at q
            exact q
          · simp [h2]
            refine lc_fold xs (fun d => if isEntry s d = false then some d else none) (fun Q h => by simpa using h) (wide_len hv) (fun d hd C B h1 h2 => ?_) ?_
            · have hdi := ha d hd
              cases d with
              | int n =>
                have h3 : (s == ("data" : Str)) = false := beq_eq_false_iff_ne.mpr (by assumption)
                have e3 : isEntry s (.int n) = (n == 1 || n == -1) := by simp only [isEntry, h3, Bool.false_or]
                simp [wpD]
                rw [e3] at h1 h2
                by_cases n1 : n = 1
                · exact .inl ⟨.inl n1.symm, h2 [_, _, _, .fz (.int n)] (by simp [n1]) rfl⟩
                · by_cases n2 : n = -1
                  · exact .inl ⟨.inr n2.symm, h2 [_, _, _, .fz (.int n)] (by simp [n2]) rfl⟩
                  · exact .inr ⟨⟨Ne.symm n1, Ne.symm n2⟩, h1 _ _ (by simp [n1, n2]) rfl⟩
              | _ => simp [isInt] at hdi
            · simp [isRow, h] at q
              by_cases hb : xs.all (isEntry s) = true
              · have e2 : xs.filterMap (fun d => if isEntry s d = false then some d else none) = [] := List.filterMap_eq_nil_iff.mpr fun x hx => by simp [List.all_eq_true.mp hb x hx]
                rw [e2]
                rw [hb] at q
                simpa using q
              · have hb' : xs.all (isEntry s) = false := by simpa using hb
                have e2 : (xs.filterMap (fun d => if isEntry s d = false then some d else none)).isEmpty = false := by
                  rw [List.isEmpty_eq_false_iff]
                  intro z
                  refine hb (List.all_eq_true.mpr fun x hx => ?_)
                  have := List.filterMap_eq_nil_iff.mp z x hx
                  cases hx2 : isEntry s x with
                  | true => rfl
                  | false => simp [hx2] at this
                rw [hb'] at q
                simp [e2]
                exact q
        · have e1 : (xs.filterMap (fun d => if isInt d = false then some d else none)).isEmpty = false := by
            rw [List.isEmpty_eq_false_iff]
            intro z
            refine ha fun x hx => ?_
            have := List.filterMap_eq_nil_iff.mp z x hx
            cases hx2 : isInt x with
            | true => rfl
            | false => simp [hx2] at this
          simp [e1]
          have e2 : isRow s m (.tuple xs) = false := by
            simp only [isRow, h, decide_true, Bool.true_and]
            rw [← Bool.not_eq_true, List.all_eq_true]
            intro z
            refine ha fun x hx => ?_
            have := z x hx
            cases x <;> simp_all [isEntry, isInt]
          rw [e2] at q
          exact q
    · simp [h]
      simpa [isRow, h] using q
  | _ => simpa [isTy, tyN, isRow] using q
theorem wp__law_is_table : ∀ ds R, pm__law_is_table ds R → ts__law_is_table { nx := fun _ => R (.fz .none), rt := R } (startD N__law_is_table (ds.map .fz)) := by
  rintro ds R ⟨t, sz, v, rfl, hs, ht, hv, q⟩
  show ts__law_is_table _ [.fz (tbD t), .fz (.tuple (szD sz)), .fz v, .no, .no, .no, .no]
  rcases ht.two with ⟨i, e⟩ | ⟨i, j, e⟩
  · have hi := ht.lt i (by rw [e]; exact List.mem_singleton_self i)
    simp [ts__law_is_table, tbD, e, ixD, sz_at hi, pm__law_is_row, pm_is_row]
    simp [isTable, e] at q
    exact ⟨_, _, _, ⟨rfl, rfl, rfl⟩, hs, hv, q⟩
  · have hi := ht.lt i (by rw [e]; simp)
    have hj := ht.lt j (by rw [e]; simp)
    simp [ts__law_is_table, tbD, e, ixD, sz_at hi, sz_at hj, pm__law_is_row, pm_is_row]
    simp [isTable, e] at q
    cases v with
    | tuple xs =>
      simp at q ⊢
      by_cases h : (xs.length : Int) = sz[i]?.getD 0
      · refine .inl ⟨h, lc_fold xs (fun d => if isRow t.sort (sz.getD j 0) d = false then some d else none) (fun Q h => by simpa using h) (wide_len hv) (fun d hd C B h1 h2 => ?_) ?_⟩
        · simp [wpD, pm__law_is_row, pm_is_row, sz_at hj]
          refine ⟨_, _, _, ⟨rfl, rfl, rfl⟩, hs, wide_mem hv hd, ?_⟩
          simp at h1 h2
          cases hr : isRow t.sort (sz[j]?.getD 0) d with
          | false => simp; exact h1 _ _ hr rfl rfl
          | true => simp; exact h2 [_, _, _, _, _, _, .fz d] hr rfl
        · simp [h] at q
          by_cases hb : xs.all (isRow t.sort (sz[j]?.getD 0)) = true
          · have e2 : xs.filterMap (fun d => if isRow t.sort (sz.getD j 0) d = false then some d else none) = [] := List.filterMap_eq_nil_iff.mpr fun x hx => by simp; exact List.all_eq_true.mp hb x hx
            rw [e2]
            rw [hb] at q
            simpa using q
          · have hb' : xs.all (isRow t.sort (sz[j]?.getD 0)) = false := by simpa using hb
            have e2 : (xs.filterMap (fun d => if isRow t.sort (sz.getD j 0) d = false then some d else none)).isEmpty = false := by
              rw [List.isEmpty_eq_false_iff]
              intro z
              refine hb (List.all_eq_true.mpr fun x hx => ?_)
              have := List.filterMap_eq_nil_iff.mp z x hx
              simpa using this
            rw [hb'] at q
            rw [Rs.rd, zd_ol]
            exact ⟨_, rfl, .inl ⟨by rw [ze_list, e2], q⟩⟩
      · exact .inr ⟨h, by simpa [h] using q⟩
    | _ => simpa [isTy, tyN] using q
def ts__law_fault : DSt := (sSeq (sIf (bOr (bNot (bT (tIsi "tuple" (tV 1)))) (bOr (bT (t2 rNeP (tCb rLenP (aCons (tV 1) aNil)) (tK (.int 2)))) (bT (t2 rNeZ (tLcD (iSeq (gT (tV 1))) (gN 6) (bNot (bT (tIsi "tuple" (tV 6)))) (gT (tV 6)) [6]) (tLstD gNilA))))) (sRet (xT (tTupD (gConsA (gT (tK (.str "form"))) gNilA)))) sNil)
  (sSeq (sIf (bT (t2 rNeP (tCb rLenP (aCons (t2 rIxP (tV 1) (tK (.int 0))) aNil)) (tCb rLenP (aCons (t2 rIxP (tV 0) (tK (.int 0))) aNil)))) (sRet (xT (tTupD (gConsA (gT (tK (.str "sizes"))) gNilA)))) sNil)
  (sSeq (sFor (iEn (gT (t2 rIxP (tV 1) (tK (.int 0))))) (gTp 2 (gCons' (gN 2) (gCons' (gN 3) gNil'))) (sIf (bOr (bNot (bT (tCl pm__law_is_int (gConsA (gT (tV 3)) gNilA)))) (bT (t2 (rInt2 noC fun i j => .bool (decide (i < j))) (tV 3) (tK (.int 1))))) (sRet (xT (tTupD (gConsA (gT (tK (.str "size"))) (gConsA (gT (tV 2)) gNilA))))) sNil))
  (sSeq (sIf (bT (t2 rNeP (tCb rLenP (aCons (t2 rIxP (tV 1) (tK (.int 1))) aNil)) (tCb rLenP (aCons (t2 rIxP (tV 0) (tK (.int 1))) aNil)))) (sRet (xT (tTupD (gConsA (gT (tK (.str "tables"))) gNilA)))) sNil)
  (sSeq (sFor (iEn (gT (t2 rIxP (tV 1) (tK (.int 1))))) (gTp 2 (gCons' (gN 4) (gCons' (gN 5) gNil'))) (sIf (bNot (bT (tCl pm__law_is_table (gConsA (gT (t2 rIxP (t2 rIxP (tV 0) (tK (.int 1))) (tV 4))) (gConsA (gT (t2 rIxP (tV 1) (tK (.int 0)))) (gConsA (gT (tV 5)) gNilA)))))) (sRet (xT (tTupD (gConsA (gT (tK (.str "table"))) (gConsA (gT (tV 4)) gNilA))))) sNil))
  (sRet (xT (tK .none))))))))
abbrev N__law_fault : List Str := ["told", "value", "kind", "size", "t", "row", "part"]
def ts_judge_world : DSt := (sSeq (sIf (bOr (bNot (bT (tIsi "tuple" (tV 1)))) (bOr (bT (t2 rNeP (tCb rLenP (aCons (tV 1) aNil)) (tK (.int 2)))) (bNot (bT (tCb rAllP (aCons (tLcD (iSeq (gT (tV 1))) (gN 9) bYes (gT (tIsi "tuple" (tV 9))) [9]) aNil)))))) (sRet (xT (tTupD (gConsA (gT (tK (.str "form"))) gNilA)))) sNil)
  (sSeq (sAsg (gTp 2 (gCons' (gN 3) (gCons' (gN 4) gNil'))) (gT (tV 1)))
  (sSeq (sIf (bT (t2 rNeP (tCb rLenP (aCons (tV 3) aNil)) (tCb rLenP (aCons (t2 rIxP (tV 0) (tK (.int 0))) aNil)))) (sRet (xT (tTupD (gConsA (gT (tK (.str "sizes"))) gNilA)))) sNil)
  (sSeq (sFor (iEn (gT (tV 3))) (gTp 2 (gCons' (gN 5) (gCons' (gN 6) gNil'))) (sIf (bOr (bNot (bT (tCl pm_is_integer (gConsA (gT (tV 6)) gNilA)))) (bT (t2 (rInt2 noC fun i j => .bool (decide (i < j))) (tV 6) (tK (.int 1))))) (sRet (xT (tTupD (gConsA (gT (tK (.str "size"))) (gConsA (gT (tV 5)) gNilA))))) sNil))
  (sSeq (sIf (bT (t2 rNeP (tCb rLenP (aCons (tV 4) aNil)) (tCb rLenP (aCons (t2 rIxP (tV 0) (tK (.int 1))) aNil)))) (sRet (xT (tTupD (gConsA (gT (tK (.str "tables"))) gNilA)))) sNil)
  (sSeq (sSetV 2 (tLcD (iEn (gT (tV 4))) (gTp 2 (gCons' (gN 7) (gCons' (gN 8) gNil'))) (bNot (bT (tCl pm_is_table (gConsA (gT (t2 rIxP (t2 rIxP (tV 0) (tK (.int 1))) (tV 7))) (gConsA (gT (tV 3)) (gConsA (gT (tV 8)) gNilA)))))) (gT (tV 7)) [7, 8]))
  (sRet (xT (tIte (bT (t2 rNeZ (tV 2) (tLstD gNilA))) (tTupD (gConsA (gT (tK (.str "table"))) (gConsA (gT (t2 rIxP (tV 2) (tK (.int 0)))) gNilA))) (tK .none))))))))))
abbrev N_judge_world : List Str := ["told", "value", "wrong", "sizes", "rows", "kind", "size", "t", "row", "part"]
def ts_is_world : DSt := (sSeq (sIf (bOr (bNot (bT (tIsi "tuple" (tV 1)))) (bOr (bT (t2 rNeP (tCb rLenP (aCons (tV 1) aNil)) (tK (.int 2)))) (bNot (bT (tCb rAllP (aCons (tLcD (iSeq (gT (tV 1))) (gN 4) bYes (gT (tIsi "tuple" (tV 4))) [4]) aNil)))))) (sRet (xT (tK (.bool false)))) sNil)
  (sSeq (sAsg (gTp 2 (gCons' (gN 2) (gCons' (gN 3) gNil'))) (gT (tV 1)))
  (sSeq (sIf (bOr (bT (t2 rNeP (tCb rLenP (aCons (tV 2) aNil)) (tCb rLenP (aCons (t2 rIxP (tV 0) (tK (.int 0))) aNil)))) (bNot (bT (tCb rAllP (aCons (tLcD (iSeq (gT (tV 2))) (gN 5) bYes (gT (vAnd (tCl pm_is_integer (gConsA (gT (tV 5)) gNilA)) (t2 (rInt2 noC fun i j => .bool (decide (j < i))) (tV 5) (tK (.int 0))))) [5]) aNil))))) (sRet (xT (tK (.bool false)))) sNil)
  (sRet (xT (vAnd (t2 rEqP (tCb rLenP (aCons (tV 3) aNil)) (tCb rLenP (aCons (t2 rIxP (tV 0) (tK (.int 1))) aNil))) (tCb rAllP (aCons (tLcD (iZp (gConsA (gT (t2 rIxP (tV 0) (tK (.int 1)))) (gConsA (gT (tV 3)) gNilA))) (gTp 2 (gCons' (gN 6) (gCons' (gN 7) gNil'))) bYes (gT (tCl pm_is_table (gConsA (gT (tV 6)) (gConsA (gT (tV 2)) (gConsA (gT (tV 7)) gNilA))))) [6, 7]) aNil))))))))
abbrev N_is_world : List Str := ["told", "value", "sizes", "rows", "part", "size", "one", "row"]
/-- a value's outer form -/
inductive Form : PyData → Prop
  | ok (sz rows : List PyData) : Form (.tuple [.tuple sz, .tuple rows])
  | bad (v : PyData) (h : ∀ ks ts, fault ks ts v = .tuple [.str "form"]) (h2 : isTy "tuple" v = false ∨ ∃ xs, v = .tuple xs ∧ (xs.length ≠ 2 ∨ xs.all (isTy "tuple") = false)) : Form v
theorem form_of (v : PyData) : Form v := by
  cases v with
  | tuple xs =>
    match xs with
    | [] => exact .bad _ (fun _ _ => rfl) (.inr ⟨_, rfl, .inl (by simp)⟩)
    | [a] => exact .bad _ (fun _ _ => by cases a <;> rfl) (.inr ⟨_, rfl, .inl (by simp)⟩)
    | [.tuple sz, .tuple rows] => exact .ok sz rows
    | [.tuple sz, .none] => exact .bad _ (fun _ _ => rfl) (.inr ⟨_, rfl, .inr rfl⟩)
    | [.tuple sz, .bool _] => exact .bad _ (fun _ _ => rfl) (.inr ⟨_, rfl, .inr rfl⟩)
    | [.tuple sz, .int _] => exact .bad _ (fun _ _ => rfl) (.inr ⟨_, rfl, .inr rfl⟩)
    | [.tuple sz, .str _] => exact .bad _ (fun _ _ => rfl) (.inr ⟨_, rfl, .inr rfl⟩)
    | [.tuple sz, .list _] => exact .bad _ (fun _ _ => rfl) (.inr ⟨_, rfl, .inr rfl⟩)
    | [.tuple sz, .dict _] => exact .bad _ (fun _ _ => rfl) (.inr ⟨_, rfl, .inr rfl⟩)
    | [.none, _] => exact .bad _ (fun _ _ => rfl) (.inr ⟨_, rfl, .inr rfl⟩)
    | [.bool _, _] => exact .bad _ (fun _ _ => rfl) (.inr ⟨_, rfl, .inr rfl⟩)
    | [.int _, _] => exact .bad _ (fun _ _ => rfl) (.inr ⟨_, rfl, .inr rfl⟩)
    | [.str _, _] => exact .bad _ (fun _ _ => rfl) (.inr ⟨_, rfl, .inr rfl⟩)
    | [.list _, _] => exact .bad _ (fun _ _ => rfl) (.inr ⟨_, rfl, .inr rfl⟩)
    | [.dict _, _] => exact .bad _ (fun _ _ => rfl) (.inr ⟨_, rfl, .inr rfl⟩)
    | a :: b :: c :: r => exact .bad _ (fun _ _ => by cases a <;> first | rfl | (cases b <;> rfl)) (.inr ⟨_, rfl, .inl (by simp)⟩)
  | _ => exact .bad _ (fun _ _ => rfl) (.inl rfl)
abbrev oddF : PyData → Option PyData := fun d => if isTy "tuple" d = false then some d else none
theorem odd_ne {xs : List PyData} (h : xs.all (isTy "tuple") = false) : (xs.filterMap oddF).isEmpty = false := by
  rw [List.isEmpty_eq_false_iff]
  intro z
  have : xs.all (isTy "tuple") = true := List.all_eq_true.mpr fun x hx => by
    have := List.filterMap_eq_nil_iff.mp z x hx
    cases hx2 : isTy "tuple" x with
    | true => rfl
    | false => simp [oddF, hx2] at this
  rw [h] at this
  cases this
theorem wide_seq {sz rows : List PyData} (h : wide (.tuple [.tuple sz, .tuple rows])) : wide (.tuple sz) ∧ wide (.tuple rows) := ⟨wide_mem h (by simp), wide_mem h (by simp)⟩
theorem enum_at {xs : List PyData} {i : Nat} {d : PyData} (h : (enumL xs)[i]? = some d) : ∃ x, xs[i]? = some x ∧ d = .tuple [.int (i : Nat), x] := by
  unfold enumL at h
  rw [List.getElem?_map, List.getElem?_zipIdx] at h
  cases q : xs[i]? with
  | none => rw [q] at h; cases h
  | some x => rw [q] at h; cases h; exact ⟨x, rfl, by simp⟩
theorem enum_len (xs : List PyData) : (enumL xs).length = xs.length := by simp [enumL]
theorem tb_at {ts : List Tb} {i : Nat} (h : i < ts.length) : atI (ts.map tbD) (i : Int) = some (tbD (tbAt ts i)) := by
  refine at_nat ?_
  rw [List.getElem?_map, List.getElem?_eq_getElem h, tbAt, List.getD_eq_getElem?_getD, List.getElem?_eq_getElem h]
  rfl
theorem tb_mem {ts : List Tb} {i : Nat} (h : i < ts.length) : tbAt ts i ∈ ts := by
  rw [tbAt, List.getD_eq_getElem?_getD, List.getElem?_eq_getElem h]
  exact List.getElem_mem h
theorem szD_ok {sz : List PyData} (h : ∀ (j : Nat) (y : PyData), sz[j]? = some y → sizeOk y = true) : sz = szD (sz.map intOf) := by
  rw [szD, List.map_map]
  refine (List.ext_getElem? fun i => ?_)
  rw [List.getElem?_map]
  cases q : sz[i]? with
  | none => rfl
  | some d =>
    have := h i d q
    cases d <;> simp_all [sizeOk, intOf]
theorem not_ok (d : PyData) : (isInt d = false ∨ (∃ i, d = .int i ∧ i < 1)) ↔ sizeOk d = false := by
  cases d <;> simp [isInt, sizeOk]
theorem wp__law_fault : ∀ ds R, pm__law_fault ds R → ts__law_fault { nx := fun _ => R (.fz .none), rt := R } (startD N__law_fault (ds.map .fz)) := by
  rintro ds R ⟨ks, ts, v, rfl, ht, hv, q⟩
  show ts__law_fault _ [.fz (toldD ks ts), .fz v, .no, .no, .no, .no, .no]
  simp [ts__law_fault, toldD]
  cases form_of v with
  | bad v hf h2 =>
    rw [hf] at q
    rcases h2 with h2 | ⟨xs, rfl, h2⟩
    · simp [h2]
      exact q
    · simp
      by_cases h : xs.length = 2
      · refine .inl ⟨by omega, lc_fold xs oddF (fun Q h => by simpa using h) (wide_len hv) (fun d hd C B h1 h2 => ?_) ?_⟩
        · simp [wpD]
          cases hr : isTy "tuple" d with
          | false => simp; exact h1 _ _ (by simp [oddF, hr]) rfl
          | true => simp; exact h2 [_, _, _, _, _, _, .fz d] (by simp [oddF, hr]) rfl
        · have h3 : xs.all (isTy "tuple") = false := h2.resolve_left (by omega)
          exact ⟨_, rfl, .inl ⟨by rw [ze_list, odd_ne h3], q⟩⟩
      · exact .inr ⟨by omega, q⟩
  | ok sz rows =>
    obtain ⟨w1, w2⟩ := wide_seq hv
    simp
    refine lc_fold [.tuple sz, .tuple rows] oddF (fun Q h => by simpa using h) (wide_len hv) (fun d hd C B h1 h2 => ?_) ?_
    · simp [wpD]
      cases hr : isTy "tuple" d with
      | false => simp; exact h1 _ _ (by simp [oddF, hr]) rfl
      | true => simp; exact h2 [_, _, _, _, _, _, .fz d] (by simp [oddF, hr]) rfl
    · simp [List.filterMap, oddF]
      simp [fault, faultB] at q
      by_cases hl : sz.length = ks.length
      · simp [hl] at q
        refine .inl ⟨by simp [ksD, hl], ?_⟩
        refine for_ok (enumL sz) (fun Q h => by simpa using h) (fun i δ' => i ≤ sz.length ∧ (∀ (j : Nat) (y : PyData), j < i → sz[j]? = some y → sizeOk y = true) ∧
          ∃ a b, δ' = [.fz (.tuple [.tuple (ksD ks), .tuple (ts.map tbD)]), .fz (.tuple [.tuple sz, .tuple rows]), a, b, .no, .no, .no]) ⟨Nat.zero_le _, fun j y z => by omega, _, _, rfl⟩ ?turn ?fin
        case turn =>
          rintro i d δ hd ⟨hi, hp, a, b, rfl⟩ N hN
          obtain ⟨x, hx, rfl⟩ := enum_at hd
          have no : sizeOk x = false → R (.fz (.tuple [.str "size", .int (i : Nat)])) := fun h => by
            have fb := fb_at (bad := fun _ d => !sizeOk d) (n := 0) hx (by simp [h]) (fun j y hj e => by simp [hp j y hj e])
            rw [fb] at q
            simpa using q
          have yes : sizeOk x = true → N [.fz (.tuple [.tuple (ksD ks), .tuple (ts.map tbD)]), .fz (.tuple [.tuple sz, .tuple rows]), .fz (.int (i : Nat)), .fz x, .no, .no, .no] := fun h => hN _ ⟨get_lt hx, fun j y hj e => by
            rcases Nat.lt_or_eq_of_le (Nat.le_of_lt_succ hj) with z | z
            · exact hp j y z e
            · rw [z, hx] at e; cases e; exact h, _, _, rfl⟩
          simp [pm__law_is_int, pm_is_integer]
          cases x with
          | int n =>
            simp [isInt]
            by_cases hn : n < 1
            · simp [hn]; exact no (by simp [sizeOk]; omega)
            · simp [hn]; exact yes (by simp [sizeOk]; omega)
          | _ => simpa [isInt] using no rfl
        case fin =>
          rintro δ ⟨_, hp, a, b, rfl⟩
          have hok : ∀ (j : Nat) (y : PyData), sz[j]? = some y → sizeOk y = true := fun j y e => hp j y (by rw [enum_len]; exact get_lt e) e
          rw [fb_none (bad := fun _ d => !sizeOk d) (n := 0) (fun j y e => by simp [hok j y e])] at q
          have hsz := szD_ok hok
          have hln : (sz.map intOf).length = ks.length := by rw [List.length_map, hl]
          simp at q ⊢
          by_cases hr : rows.length = ts.length
          · refine .inl ⟨by omega, ?_⟩
            rw [if_pos hr] at q
            refine for_ok (enumL rows) (fun Q h => by simpa using h) (fun i δ' => i ≤ rows.length ∧ (∀ (j : Nat) (y : PyData), j < i → rows[j]? = some y → badRow ts sz j y = false) ∧
              ∃ c d, δ' = [.fz (.tuple [.tuple (ksD ks), .tuple (ts.map tbD)]), .fz (.tuple [.tuple sz, .tuple rows]), a, b, c, d, .no]) ⟨Nat.zero_le _, fun j y z => by omega, _, _, rfl⟩ ?turn ?fin
            case turn =>
              rintro i d δ hd ⟨hi, hp, c, e, rfl⟩ N hN
              obtain ⟨x, hx, rfl⟩ := enum_at hd
              have hit : i < ts.length := by rw [← hr]; exact get_lt hx
              have no : badRow ts sz i x = true → R (.fz (.tuple [.str "table", .int (i : Nat)])) := fun h => by
                have fb := fb_at (bad := badRow ts sz) (n := 0) hx (by simpa using h) (fun j y hj e => by simpa using hp j y hj e)
                rw [fb] at q
                simpa using q
              have yes : badRow ts sz i x = false → N [.fz (.tuple [.tuple (ksD ks), .tuple (ts.map tbD)]), .fz (.tuple [.tuple sz, .tuple rows]), a, b, .fz (.int (i : Nat)), .fz x, .no] := fun h => hN _ ⟨get_lt hx, fun j y hj e => by
                rcases Nat.lt_or_eq_of_le (Nat.le_of_lt_succ hj) with z | z
                · exact hp j y z e
                · rw [z, hx] at e; cases e; rw [z]; exact h, _, _, rfl⟩
              simp [tb_at hit, pm__law_is_table, pm_is_table]
              refine ⟨_, _, _, ⟨rfl, hsz, rfl⟩, ht.st _ (tb_mem hit), by rw [hln]; exact ht.tb _ (tb_mem hit), wide_mem w2 (List.mem_of_getElem? hx), ?_⟩
              simp [badRow] at no yes
              cases hq : isTable (tbAt ts i) (sz.map intOf) x with
              | false => simp; exact no hq
              | true => simp; exact yes hq
            case fin =>
              rintro δ ⟨_, hp, c, d, rfl⟩
              rw [fb_none (bad := badRow ts sz) (n := 0) (fun j y e => by rw [Nat.zero_add]; exact hp j y (by rw [enum_len]; exact get_lt e) e)] at q
              simp at q ⊢
              exact q
          · rw [if_neg hr] at q
            exact .inr ⟨by omega, q⟩
      · simp [hl] at q
        exact .inr ⟨by simp [ksD]; omega, q⟩
theorem wp_judge_world : ∀ ds R, pm_judge_world ds R → ts_judge_world { nx := fun _ => R (.fz .none), rt := R } (startD N_judge_world (ds.map .fz)) := by
  rintro ds R ⟨ks, ts, v, rfl, ht, hv, q⟩
  show ts_judge_world _ [.fz (toldD ks ts), .fz v, .no, .no, .no, .no, .no, .no, .no, .no]
  simp [ts_judge_world, toldD]
  have allB : ∀ xs : List PyData, wide (.tuple xs) → ∀ P : Rs → DEnv → Prop, P (.val (.ol (xs.map fun d => .bool (isTy "tuple" d)))) [.fz (.tuple [.tuple (ksD ks), .tuple (ts.map tbD)]), .fz (.tuple xs), .no, .no, .no, .no, .no, .no, .no, .no] →
      tLcD (iSeq (gT (tV 1))) (gN 9) bYes (gT (tIsi "tuple" (tV 9))) [9] [.fz (.tuple [.tuple (ksD ks), .tuple (ts.map tbD)]), .fz (.tuple xs), .no, .no, .no, .no, .no, .no, .no, .no] P := fun xs hw P hP => by
    refine lc_fold xs (fun d => some (.bool (isTy "tuple" d))) (fun Q h => by simpa using h) (wide_len hw) (fun d hd C B h1 h2 => ?_) (by rw [filterMap_some]; exact hP)
    simp [wpD]
    exact h1 _ _ rfl rfl
  cases form_of v with
  | bad v hf h2 =>
    rw [hf] at q
    rcases h2 with h2 | ⟨xs, rfl, h2⟩
    · simp [h2]
      exact q
    · simp
      by_cases h : xs.length = 2
      · refine .inl ⟨by omega, allB xs hv _ ?_⟩
        have h3 : xs.all (isTy "tuple") = false := h2.resolve_left (by omega)
        have hex : ∃ a, a ∈ xs ∧ isTy "tuple" a = false := by simpa using h3
        simp [bools_map]
        rw [if_pos hex]
        exact q
      · exact .inr ⟨by omega, q⟩
  | ok sz rows =>
    obtain ⟨w1, w2⟩ := wide_seq hv
    simp
    refine allB _ hv _ ?_
    simp [boolsOf]
    simp [fault, faultB] at q
    by_cases hl : sz.length = ks.length
    · rw [if_pos hl] at q
      refine .inl ⟨by simp [ksD, hl], ?_⟩
      refine for_ok (enumL sz) (fun Q h => by simpa using h) (fun i δ' => i ≤ sz.length ∧ (∀ (j : Nat) (y : PyData), j < i → sz[j]? = some y → sizeOk y = true) ∧
        ∃ a b, δ' = [.fz (.tuple [.tuple (ksD ks), .tuple (ts.map tbD)]), .fz (.tuple [.tuple sz, .tuple rows]), .no, .fz (.tuple sz), .fz (.tuple rows), a, b, .no, .no, .no]) ⟨Nat.zero_le _, fun j y z => by omega, _, _, rfl⟩ ?turn ?fin
      case turn =>
        rintro i d δ hd ⟨hi, hp, a, b, rfl⟩ N hN
        obtain ⟨x, hx, rfl⟩ := enum_at hd
        have no : sizeOk x = false → R (.fz (.tuple [.str "size", .int (i : Nat)])) := fun h => by
          have fb := fb_at (bad := fun _ d => !sizeOk d) (n := 0) hx (by simp [h]) (fun j y hj e => by simp [hp j y hj e])
          rw [fb] at q
          simpa using q
        have yes : sizeOk x = true → N [.fz (.tuple [.tuple (ksD ks), .tuple (ts.map tbD)]), .fz (.tuple [.tuple sz, .tuple rows]), .no, .fz (.tuple sz), .fz (.tuple rows), .fz (.int (i : Nat)), .fz x, .no, .no, .no] := fun h => hN _ ⟨get_lt hx, fun j y hj e => by
          rcases Nat.lt_or_eq_of_le (Nat.le_of_lt_succ hj) with z | z
          · exact hp j y z e
          · rw [z, hx] at e; cases e; exact h, _, _, rfl⟩
        simp [pm_is_integer]
        cases x with
        | int n =>
          simp [isInt]
          by_cases hn : n < 1
          · simp [hn]; exact no (by simp [sizeOk]; omega)
          · simp [hn]; exact yes (by simp [sizeOk]; omega)
        | _ => simpa [isInt] using no rfl
      case fin =>
        rintro δ ⟨_, hp, a, b, rfl⟩
        have hok : ∀ (j : Nat) (y : PyData), sz[j]? = some y → sizeOk y = true := fun j y e => hp j y (by rw [enum_len]; exact get_lt e) e
        rw [fb_none (bad := fun _ d => !sizeOk d) (n := 0) (fun j y e => by simp [hok j y e])] at q
        have hsz := szD_ok hok
        have hln : (sz.map intOf).length = ks.length := by rw [List.length_map, hl]
        simp at q ⊢
        by_cases hr : rows.length = ts.length
        · refine .inl ⟨by omega, ?_⟩
          rw [if_pos hr] at q
          refine lc_fold (enumL rows) (fun d => match d with
            | .tuple [.int t, row] => if badRow ts sz t.toNat row = true then some (.int t) else none
            | _ => none) (fun Q h => by simpa using h) (by rw [enum_len]; exact wide_len w2) (fun d hd C B h1 h2 => ?_) ?_
          · obtain ⟨i, hi⟩ := List.mem_iff_getElem?.mp hd
            obtain ⟨x, hx, rfl⟩ := enum_at hi
            have hit : i < ts.length := by rw [← hr]; exact get_lt hx
            simp [wpD, tb_at hit, pm_is_table]
            refine ⟨_, _, _, ⟨rfl, hsz, rfl⟩, ht.st _ (tb_mem hit), by rw [hln]; exact ht.tb _ (tb_mem hit), wide_mem w2 (List.mem_of_getElem? hx), ?_⟩
            simp [badRow] at h1 h2
            cases hq : isTable (tbAt ts i) (sz.map intOf) x with
            | false => simp; exact h1 _ _ hq rfl rfl
            | true => simp; exact h2 [_, _, _, _, _, _, _, .fz (.int (i : Nat)), .fz x, _] hq rfl
          · have eW : (enumL rows).filterMap (fun d => match d with
                | .tuple [.int t, row] => if badRow ts sz t.toNat row = true then some (.int t) else none
                | _ => none) = (rows.zipIdx).filterMap fun p => if badRow ts sz p.2 p.1 = true then some (PyData.int (p.2 : Nat)) else none := by
              rw [enumL, List.filterMap_map]
              rfl
            rw [eW]
            have fh := fb_head (bad := badRow ts sz) rows 0
            cases hf : firstBad (badRow ts sz) rows 0 with
            | none =>
              rw [hf] at fh q
              simp only at fh
              rw [fh]
              simp
              exact q
            | some k =>
              rw [hf] at fh q
              obtain ⟨r, fh⟩ := fh
              rw [fh]
              simp
              exact q
        · rw [if_neg hr] at q
          exact .inr ⟨by omega, q⟩
    · rw [if_neg hl] at q
      exact .inr ⟨by simp [ksD]; omega, q⟩
def unTb : PyData → Tb
  | .tuple [.str n, .str s, .tuple ixs] => ⟨n, s, ixs.map fun d => (intOf d).toNat⟩
  | _ => ⟨"", "", []⟩
theorem unTb_tb (t : Tb) : unTb (tbD t) = t := by
  cases t with
  | mk n s is =>
    simp [tbD, unTb, ixD]
    exact List.map_id'' (fun _ => rfl) is
theorem wp_is_world : ∀ ds R, pm_is_world ds R → ts_is_world { nx := fun _ => R (.fz .none), rt := R } (startD N_is_world (ds.map .fz)) := by
  rintro ds R ⟨ks, ts, v, rfl, ht, hv, q⟩
  show ts_is_world _ [.fz (toldD ks ts), .fz v, .no, .no, .no, .no, .no, .no]
  simp [ts_is_world, toldD]
  have allB : ∀ xs : List PyData, wide (.tuple xs) → ∀ P : Rs → DEnv → Prop, P (.val (.ol (xs.map fun d => .bool (isTy "tuple" d)))) [.fz (.tuple [.tuple (ksD ks), .tuple (ts.map tbD)]), .fz (.tuple xs), .no, .no, .no, .no, .no, .no] →
      tLcD (iSeq (gT (tV 1))) (gN 4) bYes (gT (tIsi "tuple" (tV 4))) [4] [.fz (.tuple [.tuple (ksD ks), .tuple (ts.map tbD)]), .fz (.tuple xs), .no, .no, .no, .no, .no, .no] P := fun xs hw P hP => by
    refine lc_fold xs (fun d => some (.bool (isTy "tuple" d))) (fun Q h => by simpa using h) (wide_len hw) (fun d hd C B h1 h2 => ?_) (by rw [filterMap_some]; exact hP)
    simp [wpD]
    exact h1 _ _ rfl rfl
  cases form_of v with
  | bad v hf h2 =>
    rw [hf] at q
    rcases h2 with h2 | ⟨xs, rfl, h2⟩
    · simp [h2]
      exact q
    · simp
      by_cases h : xs.length = 2
      · refine .inl ⟨by omega, allB xs hv _ ?_⟩
        have h3 : xs.all (isTy "tuple") = false := h2.resolve_left (by omega)
        have hex : ∃ a, a ∈ xs ∧ isTy "tuple" a = false := by simpa using h3
        simp [bools_map]
        rw [if_pos hex]
        exact q
      · exact .inr ⟨by omega, q⟩
  | ok sz rows =>
    obtain ⟨w1, w2⟩ := wide_seq hv
    simp
    refine allB _ hv _ ?_
    simp [boolsOf]
    simp [fault, faultB] at q
    by_cases hl : sz.length = ks.length
    · rw [if_pos hl] at q
      refine .inl ⟨by simp [ksD, hl], ?_⟩
      refine lc_fold sz (fun d => some (.bool (sizeOk d))) (fun Q h => by simpa using h) (wide_len w1) (fun d hd C B h1 h2 => ?_) ?_
      · simp [wpD, pm_is_integer]
        cases d with
        | int n =>
          simp [isInt]
          exact h1 _ _ (by simp [sizeOk]; omega) rfl
        | _ => simp [isInt]; exact h1 _ _ rfl rfl
      · simp [filterMap_some, bools_map]
        by_cases hs : ∃ a, a ∈ sz ∧ sizeOk a = false
        · rw [if_pos hs]
          cases hf : firstBad (fun _ d => !sizeOk d) sz 0 with
          | none =>
            obtain ⟨a, ha, hb⟩ := hs
            obtain ⟨j, hj⟩ := List.mem_iff_getElem?.mp ha
            have := fb_all hf j a hj
            simp [hb] at this
          | some k =>
            rw [hf] at q
            exact q
        · rw [if_neg hs]
          have hok : ∀ (j : Nat) (y : PyData), sz[j]? = some y → sizeOk y = true := fun j y e => by
            cases hy : sizeOk y with
            | true => rfl
            | false => exact (hs ⟨y, List.mem_of_getElem? e, hy⟩).elim
          rw [fb_none (bad := fun _ d => !sizeOk d) (n := 0) (fun j y e => by simp [hok j y e])] at q
          have hsz := szD_ok hok
          have hln : (sz.map intOf).length = ks.length := by rw [List.length_map, hl]
          simp only at q
          by_cases hr : rows.length = ts.length
          · rw [if_pos (by omega : (rows.length : Int) = ts.length)]
            rw [if_pos hr] at q
            refine lc_fold (zipL (ts.map tbD) rows) (fun d => match d with
              | .tuple [t, row] => some (.bool (isTable (unTb t) (sz.map intOf) row))
              | _ => none) (fun Q h => by simp; exact ⟨_, _, ⟨rfl, rfl⟩, h⟩) (by simp [zipL]; exact Nat.le_trans (Nat.min_le_right _ _) (wide_len w2)) (fun d hd C B h1 h2 => ?_) ?_
            · obtain ⟨p, hp, rfl⟩ := List.mem_map.mp hd
              obtain ⟨t, ht2, e1⟩ := List.mem_map.mp (List.of_mem_zip hp).1
              have hrow := (List.of_mem_zip hp).2
              simp [wpD, pm_is_table, ← e1]
              refine ⟨_, _, _, ⟨rfl, hsz, rfl⟩, ht.st _ ht2, by rw [hln]; exact ht.tb _ ht2, wide_mem w2 hrow, ?_⟩
              simp [← e1, unTb_tb] at h1
              exact h1 _ _ rfl rfl
            · have eW : (zipL (ts.map tbD) rows).filterMap (fun d => match d with
                  | .tuple [t, row] => some (.bool (isTable (unTb t) (sz.map intOf) row))
                  | _ => none) = (ts.zip rows).map fun p => PyData.bool (isTable p.1 (sz.map intOf) p.2) := by
                rw [zipL, List.filterMap_map]
                rw [show ((fun d : PyData => match d with
                  | .tuple [t, row] => some (.bool (isTable (unTb t) (sz.map intOf) row))
                  | _ => none) ∘ fun p : PyData × PyData => PyData.tuple [p.1, p.2]) = fun p => some (PyData.bool (isTable (unTb p.1) (sz.map intOf) p.2)) from rfl]
                rw [filterMap_some, List.zip_map_left, List.map_map]
                refine List.map_congr_left fun p _ => ?_
                simp [unTb_tb]
              rw [eW]
              refine ⟨_, rfl, _, rfl, _, bools_map (fun p : Tb × PyData => isTable p.1 (sz.map intOf) p.2) _, ?_⟩
              have key : ((ts.zip rows).map fun p => isTable p.1 (sz.map intOf) p.2).all id = isNone (match firstBad (badRow ts sz) rows 0 with
                  | some t => PyData.tuple [PyData.str "table", PyData.int (t : Nat)]
                  | none => PyData.none) := by
                cases hf : firstBad (badRow ts sz) rows 0 with
                | none =>
                  show _ = true
                  rw [List.all_eq_true]
                  intro x hx
                  obtain ⟨p, hp, rfl⟩ := List.mem_map.mp hx
                  obtain ⟨j, hj⟩ := List.mem_iff_getElem?.mp hp
                  rw [List.getElem?_zip_eq_some] at hj
                  have := fb_all hf j p.2 hj.2
                  rw [Nat.zero_add, badRow, tbAt, List.getD_eq_getElem?_getD, hj.1] at this
                  simpa using this
                | some k =>
                  show _ = false
                  obtain ⟨j, x, e1, e2, _⟩ := fb_some hf
                  rw [List.all_eq_false]
                  have hjt : j < ts.length := by rw [← hr]; exact get_lt e1
                  refine ⟨isTable (tbAt ts j) (sz.map intOf) x, List.mem_map.mpr ⟨(tbAt ts j, x), ?_, rfl⟩, ?_⟩
                  · refine List.mem_iff_getElem?.mpr ⟨j, ?_⟩
                    rw [List.getElem?_zip_eq_some]
                    refine ⟨?_, e1⟩
                    rw [tbAt, List.getD_eq_getElem?_getD, List.getElem?_eq_getElem hjt]
                    rfl
                  · rw [Nat.zero_add, badRow] at e2
                    simpa using e2
              rw [key]
              exact q
          · rw [if_neg (by omega : ¬ (rows.length : Int) = ts.length)]
            rw [if_neg hr] at q
            exact q
    · rw [if_neg hl] at q
      exact .inr ⟨by simp [ksD]; omega, q⟩
abbrev pm__law_pick : Pm := pmPick
abbrev pm__law_of : Pm := fun ds R => ∃ xs, ds = [.list xs] ∧ xs ≠ [] ∧ xs.length < 1073741824 ∧ ∀ x ∈ xs, R (.fz x)
structure ToldG (ks : List Str) (ts : List Tb) : Prop where
  ok : ToldOk ks ts
  k1 : 1 ≤ ks.length
  k2 : ks.length ≤ 2
  t5 : ts.length ≤ 5
abbrev pm__law_told : Pm := fun ds R => ds = [] ∧ ∀ ks ts, ToldG ks ts → R (.fz (toldD ks ts))
def ts__law_of : DSt := (sRet (xT (t2 rIxP (tV 1) (tCs pm__law_pick (gConsA (gT (tV 0)) (gConsA (gT (tCb rLenP (aCons (tV 1) aNil))) gNilA))))))
abbrev N__law_of : List Str := ["source", "some"]
def ts__law_told : DSt := (sSeq (sSet 1 (xT (t2 rAdd (tK (.int 1)) (tCs pm__law_pick (gConsA (gT (tV 0)) (gConsA (gT (tK (.int 2))) gNilA))))))
  (sSeq (sSet 2 (xT (tLstD (gConsA (gT (tTupD (gConsA (gT (tK (.str "s"))) (gConsA (gT (tK (.str "signs"))) (gConsA (gT (tTupD (gConsA (gT (tCs pm__law_pick (gConsA (gT (tV 0)) (gConsA (gT (tV 1)) gNilA)))) gNilA))) gNilA))))) (gConsA (gT (tTupD (gConsA (gT (tK (.str "x"))) (gConsA (gT (tK (.str "data"))) (gConsA (gT (tTupD (gConsA (gT (tCs pm__law_pick (gConsA (gT (tV 0)) (gConsA (gT (tV 1)) gNilA)))) gNilA))) gNilA))))) gNilA)))))
  (sSeq (sIf (bT (t2 rEqP (tCs pm__law_pick (gConsA (gT (tV 0)) (gConsA (gT (tK (.int 2))) gNilA))) (tK (.int 0)))) (sApp 2 (gT (tTupD (gConsA (gT (tK (.str "a"))) (gConsA (gT (tK (.str "signs"))) (gConsA (gT (tTupD (gConsA (gT (tCs pm__law_pick (gConsA (gT (tV 0)) (gConsA (gT (tV 1)) gNilA)))) (gConsA (gT (tCs pm__law_pick (gConsA (gT (tV 0)) (gConsA (gT (tV 1)) gNilA)))) gNilA)))) gNilA)))))) sNil)
  (sSeq (sIf (bT (t2 rEqP (tCs pm__law_pick (gConsA (gT (tV 0)) (gConsA (gT (tK (.int 3))) gNilA))) (tK (.int 0)))) (sApp 2 (gT (tTupD (gConsA (gT (tK (.str "y"))) (gConsA (gT (tK (.str "data"))) (gConsA (gT (tTupD (gConsA (gT (tCs pm__law_pick (gConsA (gT (tV 0)) (gConsA (gT (tV 1)) gNilA)))) (gConsA (gT (tCs pm__law_pick (gConsA (gT (tV 0)) (gConsA (gT (tV 1)) gNilA)))) gNilA)))) gNilA)))))) sNil)
  (sSeq (sIf (bT (t2 rEqP (tCs pm__law_pick (gConsA (gT (tV 0)) (gConsA (gT (tK (.int 3))) gNilA))) (tK (.int 0)))) (sApp 2 (gT (tTupD (gConsA (gT (tK (.str "r"))) (gConsA (gT (tK (.str "signs"))) (gConsA (gT (tTupD (gConsA (gT (tCs pm__law_pick (gConsA (gT (tV 0)) (gConsA (gT (tV 1)) gNilA)))) gNilA))) gNilA)))))) sNil)
  (sSeq (sSet 3 (xT (tCs pm__law_pick (gConsA (gT (tV 0)) (gConsA (gT (tCb rLenP (aCons (tV 2) aNil))) gNilA)))))
  (sRet (xT (tTupD (gConsA (gT (tSlD (tTupD (gConsA (gT (tK (.str "k"))) (gConsA (gT (tK (.str "l"))) gNilA))) oNone (oSome (tV 1)))) (gConsA (gT (tCb rTupP (aCons (t2 rAdd (tSlD (tV 2) (oSome (tV 3)) oNone) (tSlD (tV 2) oNone (oSome (tV 3)))) aNil))) gNilA)))))))))))
abbrev N__law_told : List Str := ["source", "many", "tables", "cut"]
theorem pick_of {ds : List PyData} {m : Int} {R : DV → Prop} (h1 : 1 ≤ m) (h2 : m < 1073741824) (h : ∀ n : Int, 0 ≤ n → n < m → R (.fz (.int n))) : pmPick [.int m] R := ⟨m, rfl, h1, h2, h⟩
theorem wp__law_of : ∀ ds R, pm__law_of ds R → ts__law_of { nx := fun _ => R (.fz .none), rt := R } (startD N__law_of (.src :: ds.map .fz)) := by
  rintro ds R ⟨xs, rfl, hne, hlt, q⟩
  show ts__law_of _ [.src, .fz (.list xs)]
  have hp : 0 < xs.length := List.length_pos_iff.mpr hne
  simp [ts__law_of, pm__law_pick, pmPick]
  refine ⟨by omega, by omega, fun n h1 h2 => ?_⟩
  obtain ⟨j, rfl⟩ := Int.eq_ofNat_of_zero_le h1
  have hj : j < xs.length := by omega
  exact ⟨_, at_nat (List.getElem?_eq_getElem hj), q _ (List.getElem_mem hj)⟩
structure TbsOk (m : Nat) (ts : List Tb) : Prop where
  m1 : 1 ≤ m
  m2 : m ≤ 2
  tb : ∀ t ∈ ts, TbOk m t
  st : ∀ t ∈ ts, SeqAt.shaped (.str t.sort) = true
theorem sh_signs : SeqAt.shaped (.str "signs") = true := by decide +kernel
theorem TbsOk.more {m : Nat} {ts us : List Tb} (h : TbsOk m ts) (g : TbsOk m us) : TbsOk m (ts ++ us) :=
  ⟨h.m1, h.m2, fun t ht => (List.mem_append.mp ht).elim (h.tb t) (g.tb t), fun t ht => (List.mem_append.mp ht).elim (h.st t) (g.st t)⟩
theorem TbsOk.one {m : Nat} (m1 : 1 ≤ m) (m2 : m ≤ 2) {t : Tb} (h : TbOk m t) (g : SeqAt.shaped (.str t.sort) = true) : TbsOk m [t] :=
  ⟨m1, m2, fun u hu => by rw [List.mem_singleton.mp hu]; exact h, fun u hu => by rw [List.mem_singleton.mp hu]; exact g⟩
theorem tb1 {m i : Nat} {n s : Str} (h : i < m) : TbOk m ⟨n, s, [i]⟩ := ⟨.inl ⟨i, rfl⟩, fun j hj => by rw [List.mem_singleton.mp hj]; exact h⟩
theorem tb2 {m i j : Nat} {n s : Str} (h : i < m) (g : j < m) : TbOk m ⟨n, s, [i, j]⟩ := ⟨.inr ⟨i, j, rfl⟩, fun l hl => by
  simp at hl
  rcases hl with rfl | rfl
  · exact h
  · exact g⟩
def dTo (m : Nat) (ts : List Tb) (c : DV) : DEnv := [.src, .fz (.int (m : Nat)), .ol (ts.map tbD), c]
def kl2 : List Str := ["k", "l"]
theorem wp__law_told : ∀ ds R, pm__law_told ds R → ts__law_told { nx := fun _ => R (.fz .none), rt := R } (startD N__law_told (.src :: ds.map .fz)) := by
  rintro ds R ⟨rfl, q⟩
  show ts__law_told _ [.src, .no, .no, .no]
  refine seq_inv (fun δ => ∃ m : Nat, 1 ≤ m ∧ m ≤ 2 ∧ δ = [.src, .fz (.int (m : Nat)), .no, .no]) (fun N hN => ?_) ?_
  · simp [pm__law_pick, pmPick]
    intro n h1 h2
    obtain ⟨j, rfl⟩ := Int.eq_ofNat_of_zero_le h1
    exact hN _ ⟨1 + j, by omega, by omega, by simp⟩
  rintro δ ⟨m, m1, m2, rfl⟩
  have one : ∀ {n s : Str} {i : Nat}, i < m → SeqAt.shaped (.str s) = true → TbsOk m [⟨n, s, [i]⟩] := fun h g => .one m1 m2 (tb1 h) g
  have two : ∀ {n s : Str} {i j : Nat}, i < m → j < m → SeqAt.shaped (.str s) = true → TbsOk m [⟨n, s, [i, j]⟩] := fun h h' g => .one m1 m2 (tb2 h h') g
  refine seq_inv (fun δ => ∃ ts, TbsOk m ts ∧ 1 ≤ ts.length ∧ ts.length ≤ 2 ∧ δ = dTo m ts .no) (fun N hN => ?_) ?_
  · simp [pm__law_pick, pmPick]
    refine ⟨by omega, by omega, fun a a1 a2 => ⟨by omega, by omega, fun b b1 b2 => ?_⟩⟩
    obtain ⟨i, rfl⟩ := Int.eq_ofNat_of_zero_le a1
    obtain ⟨j, rfl⟩ := Int.eq_ofNat_of_zero_le b1
    exact hN _ ⟨_, (one (n := "s") (i := i) (by omega) sh_signs).more (one (n := "x") (i := j) (by omega) sh_data), Nat.le_of_ble_eq_true rfl, Nat.le_of_ble_eq_true rfl, rfl⟩
  rintro δ ⟨ts, h1, h2, h3, rfl⟩
  refine seq_inv (fun δ => ∃ ts, TbsOk m ts ∧ 1 ≤ ts.length ∧ ts.length ≤ 3 ∧ δ = dTo m ts .no) (fun N hN => ?_) ?_
  · simp [pm__law_pick, pmPick, dTo]
    intro n _ _
    have no : N [.src, .fz (.int (m : Nat)), .ol (ts.map tbD), .no] := hN _ ⟨ts, h1, h2, by omega, rfl⟩
    split
    · refine ⟨by omega, by omega, fun a a1 a2 => ⟨by omega, by omega, fun b b1 b2 => ⟨by omega, ?_⟩⟩⟩
      obtain ⟨i, rfl⟩ := Int.eq_ofNat_of_zero_le a1
      obtain ⟨j, rfl⟩ := Int.eq_ofNat_of_zero_le b1
      exact hN _ ⟨_, h1.more (two (n := "a") (i := i) (j := j) (by omega) (by omega) sh_signs), by simp, by simp; omega, by rw [dTo, List.map_append]; rfl⟩
    · exact no
  rintro δ ⟨ts, h1, h2, h3, rfl⟩
  refine seq_inv (fun δ => ∃ ts, TbsOk m ts ∧ 1 ≤ ts.length ∧ ts.length ≤ 4 ∧ δ = dTo m ts .no) (fun N hN => ?_) ?_
  · simp [pm__law_pick, pmPick, dTo]
    intro n _ _
    have no : N [.src, .fz (.int (m : Nat)), .ol (ts.map tbD), .no] := hN _ ⟨ts, h1, h2, by omega, rfl⟩
    split
    · refine ⟨by omega, by omega, fun a a1 a2 => ⟨by omega, by omega, fun b b1 b2 => ⟨by omega, ?_⟩⟩⟩
      obtain ⟨i, rfl⟩ := Int.eq_ofNat_of_zero_le a1
      obtain ⟨j, rfl⟩ := Int.eq_ofNat_of_zero_le b1
      exact hN _ ⟨_, h1.more (two (n := "y") (i := i) (j := j) (by omega) (by omega) sh_data), by simp, by simp; omega, by rw [dTo, List.map_append]; rfl⟩
    · exact no
  rintro δ ⟨ts, h1, h2, h3, rfl⟩
  refine seq_inv (fun δ => ∃ ts, TbsOk m ts ∧ 1 ≤ ts.length ∧ ts.length ≤ 5 ∧ δ = dTo m ts .no) (fun N hN => ?_) ?_
  · simp [pm__law_pick, pmPick, dTo]
    intro n _ _
    have no : N [.src, .fz (.int (m : Nat)), .ol (ts.map tbD), .no] := hN _ ⟨ts, h1, h2, by omega, rfl⟩
    split
    · refine ⟨by omega, by omega, fun a a1 a2 => ⟨by omega, ?_⟩⟩
      obtain ⟨i, rfl⟩ := Int.eq_ofNat_of_zero_le a1
      exact hN _ ⟨_, h1.more (one (n := "r") (i := i) (by omega) sh_signs), by simp, by simp; omega, by rw [dTo, List.map_append]; rfl⟩
    · exact no
  rintro δ ⟨ts, h1, h2, h3, rfl⟩
  refine seq_inv (fun δ => ∃ c : Nat, δ = dTo m ts (.fz (.int (c : Nat)))) (fun N hN => ?_) ?_
  · simp [pm__law_pick, pmPick, dTo]
    refine ⟨by omega, by omega, fun n n1 n2 => ?_⟩
    obtain ⟨c, rfl⟩ := Int.eq_ofNat_of_zero_le n1
    exact hN _ ⟨c, rfl⟩
  rintro δ ⟨c, rfl⟩
  simp [dTo, cut_from, cut_upto]
  have eK : [PyData.str "k", PyData.str "l"].take m = ksD (kl2.take m) := by rw [ksD, List.map_take]; rfl
  have kl : (kl2.take m).length = m := by rw [List.length_take]; show min m 2 = m; omega
  rw [eK]
  have e2 : (ts.map tbD).drop c ++ (ts.map tbD).take c = (ts.drop c ++ ts.take c).map tbD := by rw [List.map_append, List.map_drop, List.map_take]
  refine ⟨by omega, ?_⟩
  have mem : ∀ t ∈ ts.drop c ++ ts.take c, t ∈ ts := fun t ht => (List.mem_append.mp ht).elim List.mem_of_mem_drop List.mem_of_mem_take
  have hT := q (kl2.take m) (ts.drop c ++ ts.take c) ⟨⟨fun t ht => by rw [kl]; exact h1.tb t (mem t ht), fun t ht => h1.st t (mem t ht)⟩, by rw [kl]; exact m1, by rw [kl]; exact m2, by rw [List.length_append, List.length_drop, List.length_take]; omega⟩
  rw [toldD, ← e2] at hT
  simpa using hT
/-! ### the cells of told tables -/
def cellK (t : Nat) (is : List Nat) : PyData := .tuple [.int (t : Nat), .tuple (ixD is)]
def szAt (sz : List Int) (a : Nat) : Nat := (sz[a]?.getD 0).toNat
def cellsI (t : Nat) (tb : Tb) (sz : List Int) (k : Nat) : List PyData :=
  match tb.ins with
  | [_] => (List.range k).map fun i => cellK t [i]
  | [_, b] => (List.range k).flatMap fun i => (List.range (szAt sz b)).map fun j => cellK t [i, j]
  | _ => []
def firstSz (tb : Tb) (sz : List Int) : Nat := szAt sz (tb.ins.headD 0)
def cellsN (ts : List Tb) (sz : List Int) (n : Nat) : List PyData := (List.range n).flatMap fun t => cellsI t (tbAt ts t) sz (firstSz (tbAt ts t) sz)
structure SzOk (n : Nat) (sz : List Int) : Prop where
  len : sz.length = n
  lo : ∀ x ∈ sz, 1 ≤ x
  hi : ∀ x ∈ sz, x ≤ 3
theorem SzOk.at {n a : Nat} {sz : List Int} (h : SzOk n sz) (ha : a < n) : sz[a]?.getD 0 = (szAt sz a : Int) ∧ szAt sz a ≤ 3 ∧ 1 ≤ szAt sz a := by
  have hl : a < sz.length := by rw [h.len]; exact ha
  have h1 := h.lo _ (List.getElem_mem hl)
  have h2 := h.hi _ (List.getElem_mem hl)
  unfold szAt
  rw [List.getElem?_eq_getElem hl]
  simp
  omega
abbrev pm__law_cells : Pm := fun ds R => ∃ ks ts sz, ds = [toldD ks ts, .tuple (szD sz)] ∧ ToldOk ks ts ∧ SzOk ks.length sz ∧ ts.length ≤ 5 ∧ R (.fz (.list (cellsN ts sz ts.length)))
theorem rng_at {n i : Nat} {d : PyData} (h : (rngL 0 n)[i]? = some d) : i < n ∧ d = .int (i : Nat) := by
  unfold rngL at h
  rw [List.getElem?_map] at h
  cases q : (List.range n)[i]? with
  | none => rw [q] at h; cases h
  | some j =>
    rw [q] at h
    obtain ⟨h1, h2⟩ := List.getElem?_eq_some_iff.mp q
    rw [List.getElem_range] at h2
    subst h2
    cases h
    rw [List.length_range] at h1
    exact ⟨h1, by simp⟩
theorem rng_len (n : Nat) : (rngL 0 n).length = n := by simp [rngL]
theorem cellsI_succ (t : Nat) (tb : Tb) (sz : List Int) (k : Nat) : cellsI t tb sz (k + 1) = cellsI t tb sz k ++ (match tb.ins with
    | [_] => [cellK t [k]]
    | [_, b] => (List.range (szAt sz b)).map fun j => cellK t [k, j]
    | _ => []) := by
  unfold cellsI
  split <;> simp [List.range_succ, List.flatMap_append]
theorem cellsN_succ (ts : List Tb) (sz : List Int) (n : Nat) : cellsN ts sz (n + 1) = cellsN ts sz n ++ cellsI n (tbAt ts n) sz (firstSz (tbAt ts n) sz) := by
  unfold cellsN
  simp [List.range_succ, List.flatMap_append]
theorem tb_get {ts : List Tb} {t : Nat} {x : PyData} (h : (ts.map tbD)[t]? = some x) : t < ts.length ∧ x = tbD (tbAt ts t) := by
  have hl : t < ts.length := by simpa using get_lt h
  rw [List.getElem?_map, List.getElem?_eq_getElem hl] at h
  cases h
  refine ⟨hl, ?_⟩
  rw [tbAt, List.getD_eq_getElem?_getD, List.getElem?_eq_getElem hl]
  rfl
def ts__law_cells : DSt := (sSeq (sSet 2 (xT (tLstD gNilA)))
  (sSeq (sFor (iEn (gT (t2 rIxP (tV 0) (tK (.int 1))))) (gTp 2 (gCons' (gN 3) (gCons' (gTp 3 (gCons' (gN 5) (gCons' (gN 6) (gCons' (gN 7) gNil')))) gNil'))) (sFor (iRg1 (aCons (t2 rIxP (tV 1) (t2 rIxP (tV 7) (tK (.int 0)))) aNil)) (gN 4) (sIf (bT (t2 rEqP (tCb rLenP (aCons (tV 7) aNil)) (tK (.int 1)))) (sApp 2 (gT (tTupD (gConsA (gT (tV 3)) (gConsA (gT (tTupD (gConsA (gT (tV 4)) gNilA))) gNilA))))) (sExt 2 (tLcD (iRg1 (aCons (t2 rIxP (tV 1) (t2 rIxP (tV 7) (tK (.int 1)))) aNil)) (gN 8) bYes (gT (tTupD (gConsA (gT (tV 3)) (gConsA (gT (tTupD (gConsA (gT (tV 4)) (gConsA (gT (tV 8)) gNilA)))) gNilA)))) [8])))))
  (sRet (xT (tV 2)))))
abbrev N__law_cells : List Str := ["told", "sizes", "found", "t", "i", "name", "sort", "inputs", "j"]
theorem wp__law_cells : ∀ ds R, pm__law_cells ds R → ts__law_cells { nx := fun _ => R (.fz .none), rt := R } (startD N__law_cells (ds.map .fz)) := by
  rintro ds R ⟨ks, ts, sz, rfl, ht, hs, h5, q⟩
  show ts__law_cells _ [.fz (toldD ks ts), .fz (.tuple (szD sz)), .no, .no, .no, .no, .no, .no, .no]
  simp [ts__law_cells]
  refine for_ok (enumL (ts.map tbD)) (fun Q h => by simpa [toldD] using h) (fun t δ => t ≤ ts.length ∧ (cellsN ts sz t).length ≤ 9 * t ∧ ∃ a b c d e, δ = [.fz (toldD ks ts), .fz (.tuple (szD sz)), .ol (cellsN ts sz t), a, b, c, d, e, .no])
    ⟨Nat.zero_le _, by simp [cellsN], _, _, _, _, _, rfl⟩ ?turn ?fin
  case turn =>
    rintro t δ d0 hd ⟨htl, hlen, a, b, c, d, e, rfl⟩ N hN
    obtain ⟨x, hx, rfl⟩ := enum_at hd
    obtain ⟨hlt, rfl⟩ := tb_get hx
    have tok := ht.tb _ (tb_mem hlt)
    generalize hT : tbAt ts t = tb at tok
    rcases tok.two with ⟨a0, e1⟩ | ⟨a0, b0, e1⟩
    · have ha := tok.lt a0 (by rw [e1]; simp)
      obtain ⟨s1, s2, s3⟩ := hs.at ha
      have hal : a0 < sz.length := by rw [hs.len]; exact ha
      have hfs : firstSz tb sz = szAt sz a0 := by rw [firstSz, e1]; rfl
      simp [tbD, e1, ixD]
      refine for_ok (rngL 0 (szAt sz a0)) (fun Q h => by simpa [sz_at hal, s1, small62, show (szAt sz a0 : Int) < 4611686018427387904 by omega, show (-4611686018427387904 : Int) ≤ szAt sz a0 by omega] using h)
        (fun i δ => i ≤ szAt sz a0 ∧ ∃ x, δ = [.fz (toldD ks ts), .fz (.tuple (szD sz)), .ol (cellsN ts sz t ++ cellsI t tb sz i), .fz (.int (t : Nat)), x, .fz (.str tb.name), .fz (.str tb.sort), .fz (.tuple [.int (a0 : Nat)]), .no])
        ⟨Nat.zero_le _, b, by simp [cellsI, e1]⟩ ?t2 ?f2
      case t2 =>
        rintro i d δ hd ⟨hi, x, rfl⟩ N2 hN2
        obtain ⟨hi2, rfl⟩ := rng_at hd
        have hl2 : (cellsI t tb sz i).length = i := by simp [cellsI, e1]
        simp
        refine ⟨by omega, hN2 _ ⟨hi2, .fz (.int (i : Nat)), ?_⟩⟩
        rw [cellsI_succ, e1]
        simp [cellK, ixD]
      case f2 =>
        rintro δ ⟨_, x, rfl⟩
        rw [rng_len]
        have hl2 : (cellsI t tb sz (szAt sz a0)).length = szAt sz a0 := by simp [cellsI, e1]
        refine hN _ ⟨hlt, ?_, .fz (.int (t : Nat)), x, .fz (.str tb.name), .fz (.str tb.sort), .fz (.tuple [.int (a0 : Nat)]), ?_⟩
        · rw [cellsN_succ, hT, hfs, List.length_append]; omega
        · rw [cellsN_succ, hT, hfs]
    · have ha := tok.lt a0 (by rw [e1]; simp)
      have hb := tok.lt b0 (by rw [e1]; simp)
      obtain ⟨s1, s2, s3⟩ := hs.at ha
      obtain ⟨s4, s5, s6⟩ := hs.at hb
      have hal : a0 < sz.length := by rw [hs.len]; exact ha
      have hbl : b0 < sz.length := by rw [hs.len]; exact hb
      have hfs : firstSz tb sz = szAt sz a0 := by rw [firstSz, e1]; rfl
      have hl2 : ∀ i, (cellsI t tb sz i).length = i * szAt sz b0 := fun i => by
        induction i with
        | zero => simp [cellsI, e1]
        | succ i ih => rw [cellsI_succ, e1, List.length_append, ih]; simp [Nat.add_mul]
      simp [tbD, e1, ixD]
      refine for_ok (rngL 0 (szAt sz a0)) (fun Q h => by simpa [sz_at hal, s1, small62, show (szAt sz a0 : Int) < 4611686018427387904 by omega, show (-4611686018427387904 : Int) ≤ szAt sz a0 by omega] using h)
        (fun i δ => i ≤ szAt sz a0 ∧ ∃ x, δ = [.fz (toldD ks ts), .fz (.tuple (szD sz)), .ol (cellsN ts sz t ++ cellsI t tb sz i), .fz (.int (t : Nat)), x, .fz (.str tb.name), .fz (.str tb.sort), .fz (.tuple [.int (a0 : Nat), .int (b0 : Nat)]), .no])
        ⟨Nat.zero_le _, b, by simp [cellsI, e1]⟩ ?t2 ?f2
      case t2 =>
        rintro i d δ hd ⟨hi, x, rfl⟩ N2 hN2
        obtain ⟨hi2, rfl⟩ := rng_at hd
        simp
        refine lc_fold (rngL 0 (szAt sz b0)) (fun d => some (.tuple [.int (t : Nat), .tuple [.int (i : Nat), d]])) (fun Q h => by simpa [sz_at hbl, s4, small62, show (szAt sz b0 : Int) < 4611686018427387904 by omega, show (-4611686018427387904 : Int) ≤ szAt sz b0 by omega] using h) (by rw [rng_len, z_line]; omega) (fun d hd C B h1 h2 => ?_) ?_
        · simp [wpD]
          exact h1 _ _ rfl rfl
        · have h9 := hl2 i
          have h10 : i * szAt sz b0 ≤ 3 * 3 := Nat.mul_le_mul (by omega) s5
          refine ⟨_, rfl, _, rfl, ?_, hN2 _ ⟨hi2, .fz (.int (i : Nat)), ?_⟩⟩
          · rw [filterMap_some, List.length_map, rng_len, List.length_append, hl2]; omega
          · rw [cellsI_succ, e1, filterMap_some]
            simp [cellK, ixD, rngL]
      case f2 =>
        rintro δ ⟨_, x, rfl⟩
        rw [rng_len]
        have h10 : szAt sz a0 * szAt sz b0 ≤ 3 * 3 := Nat.mul_le_mul s2 s5
        refine hN _ ⟨hlt, ?_, .fz (.int (t : Nat)), x, .fz (.str tb.name), .fz (.str tb.sort), .fz (.tuple [.int (a0 : Nat), .int (b0 : Nat)]), ?_⟩
        · rw [cellsN_succ, hT, hfs, List.length_append, hl2]; omega
        · rw [cellsN_succ, hT, hfs]
  case fin =>
    rintro δ ⟨_, _, a, b, c, d, e, rfl⟩
    simp
    simpa [enum_len] using q
/-! ### a world of known cells -/
def SmallI (d : PyData) : Prop := ∃ n : Int, d = .int n ∧ -10 ≤ n ∧ n ≤ 10
def RowD (r : PyData) : Prop := ∃ xs, r = .tuple xs ∧ xs.length ≤ 3 ∧ ((∀ x ∈ xs, SmallI x) ∨ ∀ x ∈ xs, ∃ ys, x = .tuple ys ∧ ys.length ≤ 3 ∧ ∀ y ∈ ys, SmallI y)
def SmallAt (kvs : Kvs) (c : PyData) : Prop := ∃ v, dLook kvs c = some v ∧ SmallI v
theorem key1 (t i : Nat) : tKey (cellK t [i]) = true := rfl
theorem key2 (t i j : Nat) : tKey (cellK t [i, j]) = true := rfl
theorem mem1 {ts : List Tb} {sz : List Int} {n t a i : Nat} (h : t < n) (e : (tbAt ts t).ins = [a]) (hi : i < szAt sz a) : cellK t [i] ∈ cellsN ts sz n := by
  refine List.mem_flatMap.mpr ⟨t, List.mem_range.mpr h, ?_⟩
  unfold cellsI firstSz
  rw [e]
  exact List.mem_map.mpr ⟨i, List.mem_range.mpr hi, rfl⟩
theorem mem2 {ts : List Tb} {sz : List Int} {n t a b i j : Nat} (h : t < n) (e : (tbAt ts t).ins = [a, b]) (hi : i < szAt sz a) (hj : j < szAt sz b) : cellK t [i, j] ∈ cellsN ts sz n := by
  refine List.mem_flatMap.mpr ⟨t, List.mem_range.mpr h, ?_⟩
  unfold cellsI firstSz
  rw [e]
  exact List.mem_flatMap.mpr ⟨i, List.mem_range.mpr hi, List.mem_map.mpr ⟨j, List.mem_range.mpr hj, rfl⟩⟩
abbrev pm__law_world_of : Pm := fun ds R => ∃ ks ts sz kvs, ds = [toldD ks ts, .tuple (szD sz), .dict kvs] ∧ ToldOk ks ts ∧ SzOk ks.length sz ∧ ts.length ≤ 5 ∧ dOk kvs ∧ (∀ c ∈ cellsN ts sz ts.length, SmallAt kvs c) ∧
  ∀ rows, rows.length = ts.length → (∀ r ∈ rows, RowD r) → R (.fz (.tuple [.tuple (szD sz), .tuple rows]))
def ts__law_world_of : DSt := (sSeq (sSet 3 (xT (tLstD gNilA)))
  (sSeq (sFor (iEn (gT (t2 rIxP (tV 0) (tK (.int 1))))) (gTp 2 (gCons' (gN 4) (gCons' (gTp 3 (gCons' (gN 5) (gCons' (gN 6) (gCons' (gN 7) gNil')))) gNil'))) (sIf (bT (t2 rEqP (tCb rLenP (aCons (tV 7) aNil)) (tK (.int 1)))) (sApp 3 (gT (tCb rTupP (aCons (tLcD (iRg1 (aCons (t2 rIxP (tV 1) (t2 rIxP (tV 7) (tK (.int 0)))) aNil)) (gN 9) bYes (gT (tDix (tV 2) (tTupD (gConsA (gT (tV 4)) (gConsA (gT (tTupD (gConsA (gT (tV 9)) gNilA))) gNilA))))) [9]) aNil)))) (sSeq (sSet 8 (xT (tLstD gNilA)))
  (sSeq (sFor (iRg1 (aCons (t2 rIxP (tV 1) (t2 rIxP (tV 7) (tK (.int 0)))) aNil)) (gN 9) (sApp 8 (gT (tCb rTupP (aCons (tLcD (iRg1 (aCons (t2 rIxP (tV 1) (t2 rIxP (tV 7) (tK (.int 1)))) aNil)) (gN 10) bYes (gT (tDix (tV 2) (tTupD (gConsA (gT (tV 4)) (gConsA (gT (tTupD (gConsA (gT (tV 9)) (gConsA (gT (tV 10)) gNilA)))) gNilA))))) [10]) aNil)))))
  (sApp 3 (gT (tCb rTupP (aCons (tV 8) aNil))))))))
  (sRet (xT (tTupD (gConsA (gT (tCb rTupP (aCons (tV 1) aNil))) (gConsA (gT (tCb rTupP (aCons (tV 3) aNil))) gNilA)))))))
abbrev N__law_world_of : List Str := ["told", "sizes", "known", "rows", "t", "name", "sort", "inputs", "late", "i", "j"]
theorem wp__law_world_of : ∀ ds R, pm__law_world_of ds R → ts__law_world_of { nx := fun _ => R (.fz .none), rt := R } (startD N__law_world_of (ds.map .fz)) := by
  rintro ds R ⟨ks, ts, sz, kvs, rfl, ht, hs, h5, hk, hc, q⟩
  show ts__law_world_of _ [.fz (toldD ks ts), .fz (.tuple (szD sz)), .fz (.dict kvs), .no, .no, .no, .no, .no, .no, .no, .no]
  simp [ts__law_world_of]
  refine for_ok (enumL (ts.map tbD)) (fun Q h => by simpa [toldD] using h) (fun t δ => t ≤ ts.length ∧ ∃ rows a b c d e f, rows.length = t ∧ (∀ r ∈ rows, RowD r) ∧
      δ = [.fz (toldD ks ts), .fz (.tuple (szD sz)), .fz (.dict kvs), .ol rows, a, b, c, d, e, f, .no]) ⟨Nat.zero_le _, [], _, _, _, _, _, _, rfl, (fun r h => by cases h), rfl⟩ ?turn ?fin
  case turn =>
    rintro t δ d0 hd ⟨htl, rows, a, b, c, d, e, f, hrl, hrw, rfl⟩ N hN
    obtain ⟨x, hx, rfl⟩ := enum_at hd
    obtain ⟨hlt, rfl⟩ := tb_get hx
    have tok := ht.tb _ (tb_mem hlt)
    generalize hT : tbAt ts t = tb at tok
    rcases tok.two with ⟨a0, e1⟩ | ⟨a0, b0, e1⟩
    · have ha := tok.lt a0 (by rw [e1]; simp)
      obtain ⟨s1, s2, s3⟩ := hs.at ha
      have hal : a0 < sz.length := by rw [hs.len]; exact ha
      simp [tbD, e1, ixD]
      refine lc_all SmallI (rngL 0 (szAt sz a0)) (fun Q h => by simpa [sz_at hal, s1, small62, show (szAt sz a0 : Int) < 4611686018427387904 by omega, show (-4611686018427387904 : Int) ≤ szAt sz a0 by omega] using h) (by rw [rng_len, z_line]; omega) (fun d hd C B h1 => ?_) fun ys hl hy => ?_
      · obtain ⟨i, hi⟩ := List.mem_iff_getElem?.mp hd
        obtain ⟨hi2, rfl⟩ := rng_at hi
        obtain ⟨v, e2, hv⟩ := hc _ (mem1 hlt (by rw [hT]; exact e1) hi2)
        simp [wpD]
        exact ⟨hk, key1 t i, v, e2, h1 _ _ hv rfl⟩
      · rw [rng_len] at hl
        refine ⟨_, rfl, .list ys, rfl, ys, rfl, _, rfl, ?_, ?_⟩
        · omega
        · exact hN _ ⟨hlt, rows ++ [.tuple ys], .fz (.int (t : Nat)), .fz (.str tb.name), .fz (.str tb.sort), .fz (.tuple [.int (a0 : Nat)]), e, f, by simp [hrl], fun r hr => (List.mem_append.mp hr).elim (hrw r) fun h => by rw [List.mem_singleton.mp h]; exact ⟨ys, rfl, by omega, .inl hy⟩, rfl⟩
    · have ha := tok.lt a0 (by rw [e1]; simp)
      have hb := tok.lt b0 (by rw [e1]; simp)
      obtain ⟨s1, s2, s3⟩ := hs.at ha
      obtain ⟨s4, s5, s6⟩ := hs.at hb
      have hal : a0 < sz.length := by rw [hs.len]; exact ha
      have hbl : b0 < sz.length := by rw [hs.len]; exact hb
      simp [tbD, e1, ixD]
      refine for_ok (rngL 0 (szAt sz a0)) (fun Q h => by simpa [sz_at hal, s1, small62, show (szAt sz a0 : Int) < 4611686018427387904 by omega, show (-4611686018427387904 : Int) ≤ szAt sz a0 by omega] using h)
        (fun i δ => i ≤ szAt sz a0 ∧ ∃ late x, late.length = i ∧ (∀ r ∈ late, ∃ ys, r = .tuple ys ∧ ys.length ≤ 3 ∧ ∀ y ∈ ys, SmallI y) ∧
          δ = [.fz (toldD ks ts), .fz (.tuple (szD sz)), .fz (.dict kvs), .ol rows, .fz (.int (t : Nat)), .fz (.str tb.name), .fz (.str tb.sort), .fz (.tuple [.int (a0 : Nat), .int (b0 : Nat)]), .ol late, x, .no])
        ⟨Nat.zero_le _, [], f, rfl, (fun r h => by cases h), rfl⟩ ?t2 ?f2
      case t2 =>
        rintro i d δ hd ⟨hi, late, x, hll, hlr, rfl⟩ N2 hN2
        obtain ⟨hi2, rfl⟩ := rng_at hd
        simp
        refine lc_all SmallI (rngL 0 (szAt sz b0)) (fun Q h => by simpa [sz_at hbl, s4, small62, show (szAt sz b0 : Int) < 4611686018427387904 by omega, show (-4611686018427387904 : Int) ≤ szAt sz b0 by omega] using h) (by rw [rng_len, z_line]; omega) (fun d hd C B h1 => ?_) fun ys hl hy => ?_
        · obtain ⟨j, hj⟩ := List.mem_iff_getElem?.mp hd
          obtain ⟨hj2, rfl⟩ := rng_at hj
          obtain ⟨v, e2, hv⟩ := hc _ (mem2 hlt (by rw [hT]; exact e1) hi2 hj2)
          simp [wpD]
          exact ⟨hk, key2 t i j, v, e2, h1 _ _ hv rfl⟩
        · rw [rng_len] at hl
          refine ⟨_, rfl, .list ys, rfl, ys, rfl, _, rfl, ?_, ?_⟩
          · omega
          · exact hN2 _ ⟨hi2, late ++ [.tuple ys], .fz (.int (i : Nat)), by simp [hll], fun r hr => (List.mem_append.mp hr).elim (hlr r) fun h => by rw [List.mem_singleton.mp h]; exact ⟨ys, rfl, by omega, hy⟩, rfl⟩
      case f2 =>
        rintro δ ⟨_, late, x, hll, hlr, rfl⟩
        rw [rng_len] at hll
        simp
        exact ⟨by omega, hN _ ⟨hlt, rows ++ [.tuple late], .fz (.int (t : Nat)), .fz (.str tb.name), .fz (.str tb.sort), .fz (.tuple [.int (a0 : Nat), .int (b0 : Nat)]), .ol late, x, by simp [hrl], fun r hr => (List.mem_append.mp hr).elim (hrw r) fun h => by rw [List.mem_singleton.mp h]; exact ⟨late, rfl, by omega, .inr hlr⟩, rfl⟩⟩
  case fin =>
    rintro δ ⟨_, rows, a, b, c, d, e, f, hrl, hrw, rfl⟩
    simp [seqOf]
    rw [enum_len, List.length_map] at hrl
    exact q rows hrl hrw
theorem cell_of {ts : List Tb} {sz : List Int} {n : Nat} {c : PyData} (h : c ∈ cellsN ts sz n) : ∃ t is, t < n ∧ c = cellK t is ∧ tKey c = true := by
  obtain ⟨t, ht, hc⟩ := List.mem_flatMap.mp h
  unfold cellsI at hc
  split at hc
  · obtain ⟨i, _, rfl⟩ := List.mem_map.mp hc
    exact ⟨t, _, List.mem_range.mp ht, rfl, key1 t i⟩
  · obtain ⟨i, _, hc⟩ := List.mem_flatMap.mp hc
    obtain ⟨j, _, rfl⟩ := List.mem_map.mp hc
    exact ⟨t, _, List.mem_range.mp ht, rfl, key2 t i j⟩
  · cases hc
theorem cellsI_len {n t : Nat} {tb : Tb} {sz : List Int} (h : TbOk n tb) (hs : SzOk n sz) : (cellsI t tb sz (firstSz tb sz)).length ≤ 9 := by
  rcases h.two with ⟨a, e⟩ | ⟨a, b, e⟩
  · have ha := (hs.at (h.lt a (by rw [e]; simp))).2.1
    have : (cellsI t tb sz (firstSz tb sz)).length = szAt sz a := by simp [cellsI, firstSz, e]
    omega
  · have ha := (hs.at (h.lt a (by rw [e]; simp))).2.1
    have hb := (hs.at (h.lt b (by rw [e]; simp))).2.1
    have hl : ∀ i, (cellsI t tb sz i).length = i * szAt sz b := fun i => by
      induction i with
      | zero => simp [cellsI, e]
      | succ i ih => rw [cellsI_succ, e, List.length_append, ih]; simp [Nat.add_mul]
    have h10 : szAt sz a * szAt sz b ≤ 3 * 3 := Nat.mul_le_mul ha hb
    rw [hl, show firstSz tb sz = szAt sz a from by rw [firstSz, e]; rfl]
    omega
theorem cellsN_len {ks : List Str} {ts : List Tb} {sz : List Int} (h : ToldOk ks ts) (hs : SzOk ks.length sz) : ∀ n, n ≤ ts.length → (cellsN ts sz n).length ≤ 9 * n
  | 0, _ => by simp [cellsN]
  | n + 1, hn => by
    have ih := cellsN_len h hs n (by omega)
    have := cellsI_len (t := n) (h.tb _ (tb_mem (by omega : n < ts.length))) hs
    rw [cellsN_succ, List.length_append]
    omega
structure WorldG (world : PyData) : Prop where
  ex : ∃ n sz rows, world = .tuple [.tuple (szD sz), .tuple rows] ∧ SzOk n sz ∧ 1 ≤ n ∧ n ≤ 2 ∧ rows.length ≤ 5 ∧ ∀ r ∈ rows, RowD r
abbrev pm__law_world : Pm := fun ds R => ∃ ks ts m, ds = [toldD ks ts, .int m] ∧ ToldG ks ts ∧ 1 ≤ m ∧ m ≤ 3 ∧ ∀ world kn, WorldG world → R (.fz (.tuple [world, kn]))
def ts__law_world : DSt := (sSeq (sPar2 4 5 (xT (tCb rTupP (aCons (tLcD (iSeq (gT (t2 rIxP (tV 1) (tK (.int 0))))) (gN 7) bYes (gT (t2 rAdd (tK (.int 1)) (tCs pm__law_pick (gConsA (gT (tV 0)) (gConsA (gT (tV 2)) gNilA))))) [7]) aNil))) (xT (fun δ P => P (.val (.od [])) δ)))
  (sSeq (sFor (iSeq (gT (tCl pm__law_cells (gConsA (gT (tV 1)) (gConsA (gT (tV 4)) gNilA))))) (gN 3) (sSeq (sSet 6 (xT (t2 rEqP (t2 rIxP (t2 rIxP (t2 rIxP (tV 1) (tK (.int 1))) (t2 rIxP (tV 3) (tK (.int 0)))) (tK (.int 1))) (tK (.str "signs")))))
  (sPut 5 (gT (tIte (bT (tV 6)) (t2 (rInt2 noC fun i j => .int (i - j)) (tK (.int 1)) (t2 (rInt2 CMul fun i j => .int (i * j)) (tK (.int 2)) (tCs pm__law_pick (gConsA (gT (tV 0)) (gConsA (gT (tK (.int 2))) gNilA))))) (tCs pm__law_of (gConsA (gT (tV 0)) (gConsA (gT (tLstD (gConsA (gT (tK (.int 0))) (gConsA (gT (tK (.int 1))) (gConsA (gT (t1 rNeg (tK (.int 1)))) (gConsA (gT (tK (.int 2))) (gConsA (gT (tK (.int 3))) (gConsA (gT (tK (.int 5))) (gConsA (gT (t1 rNeg (tK (.int 7)))) gNilA))))))))) gNilA))))) (gT (tV 3)))))
  (sRet (xT (tTupD (gConsA (gT (tCl pm__law_world_of (gConsA (gT (tV 1)) (gConsA (gT (tV 4)) (gConsA (gT (tV 5)) gNilA))))) (gConsA (gT (tV 5)) gNilA)))))))
abbrev N__law_world : List Str := ["source", "told", "most", "cell", "sizes", "known", "is_sign", "kind"]
theorem ints_of {ys : List PyData} (h : ∀ y ∈ ys, ∃ n : Int, y = .int n ∧ 1 ≤ n ∧ n ≤ 3) : ∃ sz, ys = szD sz ∧ SzOk ys.length sz := by
  refine ⟨ys.map intOf, ?_, by simp, fun x hx => ?_, fun x hx => ?_⟩
  · rw [szD, List.map_map]
    refine (List.ext_getElem? fun i => ?_)
    rw [List.getElem?_map]
    cases q : ys[i]? with
    | none => rfl
    | some d =>
      obtain ⟨n, rfl, _⟩ := h d (List.mem_of_getElem? q)
      rfl
  · obtain ⟨y, hy, rfl⟩ := List.mem_map.mp hx
    obtain ⟨n, rfl, h1, _⟩ := h y hy
    exact h1
  · obtain ⟨y, hy, rfl⟩ := List.mem_map.mp hx
    obtain ⟨n, rfl, _, h1⟩ := h y hy
    exact h1
theorem wp__law_world : ∀ ds R, pm__law_world ds R → ts__law_world { nx := fun _ => R (.fz .none), rt := R } (startD N__law_world (.src :: ds.map .fz)) := by
  rintro ds R ⟨ks, ts, m, rfl, ht, m1, m3, q⟩
  show ts__law_world _ [.src, .fz (toldD ks ts), .fz (.int m), .no, .no, .no, .no, .no]
  refine seq_inv (fun δ => ∃ sz, SzOk ks.length sz ∧ δ = [.src, .fz (toldD ks ts), .fz (.int m), .no, .fz (.tuple (szD sz)), .od [], .no, .no]) (fun N hN => ?_) ?_
  · simp [toldD]
    refine lc_all (fun y => ∃ n : Int, y = .int n ∧ 1 ≤ n ∧ n ≤ 3) (ksD ks) (fun Q h => by simpa using h) (by simp [ksD, z_line]; have := ht.k2; omega) (fun d hd C B h1 => ?_) fun ys hl hy => ?_
    · simp [wpD, pm__law_pick, pmPick]
      exact ⟨m1, by omega, fun n n1 n2 => h1 _ _ ⟨_, rfl, by omega, by omega⟩ rfl⟩
    · obtain ⟨sz, rfl, hs⟩ := ints_of hy
      have e : (szD sz).length = ks.length := by simpa [ksD] using hl
      rw [e] at hs
      exact ⟨_, rfl, _, rfl, _, rfl, by simp, by simp, hN _ ⟨sz, hs, rfl⟩⟩
  rintro δ ⟨sz, hs, rfl⟩
  refine seq_inv (fun δ => ∃ kvs c x, dOk kvs ∧ (∀ c ∈ cellsN ts sz ts.length, SmallAt kvs c) ∧ δ = [.src, .fz (toldD ks ts), .fz (.int m), c, .fz (.tuple (szD sz)), .od kvs, x, .no]) (fun N hN => ?_) ?_
  · refine for_ok (cellsN ts sz ts.length) (fun Q h => ?_) (fun i δ => ∃ kvs c x, dOk kvs ∧ kvs.length ≤ i ∧ (∀ (j : Nat) (c : PyData), j < i → (cellsN ts sz ts.length)[j]? = some c → SmallAt kvs c) ∧
      δ = [.src, .fz (toldD ks ts), .fz (.int m), c, .fz (.tuple (szD sz)), .od kvs, x, .no]) ⟨[], _, _, ⟨rfl, Nat.zero_le _⟩, Nat.le_refl _, fun j c z => by omega, rfl⟩ ?turn ?fin
    · simp [pm__law_cells]
      exact ⟨_, _, _, ⟨rfl, rfl⟩, ht.ok, hs, ht.t5, h⟩
    case turn =>
      rintro i c δ hd ⟨kvs, c0, x, hk, hkl, hks, rfl⟩ N2 hN2
      obtain ⟨t, is, ht2, rfl, hkey⟩ := cell_of (List.mem_of_getElem? hd)
      have hil : i < 45 := by
        have h1 := cellsN_len ht.ok hs ts.length (Nat.le_refl _)
        have h2 := get_lt hd
        have h3 := ht.t5
        omega
      have done : ∀ v, SmallI v → N2 [.src, .fz (toldD ks ts), .fz (.int m), .fz (cellK t is), .fz (.tuple (szD sz)), .od (dPut kvs (cellK t is) v), .fz (.bool ((tbAt ts t).sort == ("signs" : Str))), .no] := fun v hv =>
        hN2 _ ⟨dPut kvs (cellK t is) v, .fz (cellK t is), .fz (.bool ((tbAt ts t).sort == ("signs" : Str))), put_ok hk hkey (by rw [z_line]; omega), Nat.le_trans (put_len ..) (by omega), fun j c hj hc => by
          unfold SmallAt
          rw [look_put]
          split
          · exact ⟨v, rfl, hv⟩
          · rename_i hne
            refine hks j c ?_ hc
            rcases Nat.lt_or_eq_of_le (Nat.le_of_lt_succ hj) with z | z
            · exact z
            · rw [z, hd] at hc
              cases hc
              exact absurd (keq_iff.mpr rfl) hne, rfl⟩
      simp [toldD, cellK, tb_at ht2, tbD, ht.ok.st _ (tb_mem ht2), sh_signs, sPut, pm__law_pick, pmPick]
      split
      · exact fun n n1 n2 => ⟨.inl ⟨by decide, by decide⟩, hk, by omega, hkey, done _ ⟨_, rfl, by omega, by omega⟩⟩
      · refine ⟨_, rfl, by simp, by simp, fun x hx => ⟨kvs, _, x, rfl, rfl, rfl, hk, by omega, hkey, done x ?_⟩⟩
        simp at hx
        rcases hx with rfl | rfl | rfl | rfl | rfl | rfl | rfl <;> exact ⟨_, rfl, by decide, by decide⟩
    case fin =>
      rintro δ ⟨kvs, c, x, hk, hkl, hks, rfl⟩
      exact hN _ ⟨kvs, c, x, hk, fun c hc => by
        obtain ⟨j, hj⟩ := List.mem_iff_getElem?.mp hc
        exact hks j c (get_lt hj) hj, rfl⟩
  rintro δ ⟨kvs, c, x, hk, hks, rfl⟩
  simp [pm__law_world_of]
  refine ⟨_, _, _, _, ⟨rfl, rfl, rfl⟩, ht.ok, hs, ht.t5, hk, hks, fun rows h1 h2 => ?_⟩
  exact q _ _ ⟨_, sz, rows, rfl, hs, ht.k1, ht.k2, by rw [h1]; exact ht.t5, h2⟩
/-! ### what is shown -/
structure Vw (N n : Nat) (d : PyData) : Prop where
  ls : d.leavesShort 24 = true
  sh : d.showable = true
  wt : d.weight ≤ N
  dp : d.depth ≤ n
  tp : topShow d = true
structure VL (N n : Nat) (xs : List PyData) : Prop where
  ls : PyData.leavesShortAll 24 xs = true
  sh : PyData.showableAll xs = true
  wt : PyData.weightAll xs ≤ N
  dp : PyData.depthAll xs ≤ n
theorem Vw.mono {N M n m : Nat} {d : PyData} (h : Vw N n d) (a : N ≤ M) (b : n ≤ m) : Vw M m d := ⟨h.ls, h.sh, Nat.le_trans h.wt a, Nat.le_trans h.dp b, h.tp⟩
theorem VL.mono {N M n m : Nat} {xs : List PyData} (h : VL N n xs) (a : N ≤ M) (b : n ≤ m) : VL M m xs := ⟨h.ls, h.sh, Nat.le_trans h.wt a, Nat.le_trans h.dp b⟩
theorem VL.nil (N n : Nat) : VL N n [] := ⟨rfl, rfl, Nat.zero_le _, Nat.zero_le _⟩
theorem VL.cons {N M n : Nat} {x : PyData} {xs : List PyData} (h : Vw N n x) (g : VL M n xs) : VL (N + 1 + M) n (x :: xs) :=
  ⟨by simp [PyData.leavesShortAll, h.ls, g.ls], by simp [PyData.showableAll, h.sh, g.sh], by simp only [PyData.weightAll]; have := h.wt; have := g.wt; omega, by simp only [PyData.depthAll]; exact Nat.max_le.mpr ⟨h.dp, g.dp⟩⟩
theorem VL.app {N M n : Nat} {ys : List PyData} (g : VL M n ys) : ∀ {xs : List PyData}, VL N n xs → VL (N + M) n (xs ++ ys)
  | [], h => g.mono (by omega) (Nat.le_refl _)
  | x :: xs, h => by
    have h1 := h.ls; have h2 := h.sh; have h3 := h.wt; have h4 := h.dp
    simp only [PyData.leavesShortAll, PyData.showableAll, PyData.weightAll, PyData.depthAll, Bool.and_eq_true, Nat.max_le] at h1 h2 h3 h4
    have t := VL.app (N := PyData.weightAll xs) g ⟨h1.2, h2.2, Nat.le_refl _, h4.2⟩
    refine ⟨?_, ?_, ?_, ?_⟩
    · rw [List.cons_append]; simp only [PyData.leavesShortAll, Bool.and_eq_true]; exact ⟨h1.1, t.ls⟩
    · rw [List.cons_append]; simp only [PyData.showableAll, Bool.and_eq_true]; exact ⟨h2.1, t.sh⟩
    · rw [List.cons_append]; simp only [PyData.weightAll]; have := t.wt; omega
    · rw [List.cons_append]; simp only [PyData.depthAll]; exact Nat.max_le.mpr ⟨h4.1, t.dp⟩
theorem VL.split {N n : Nat} : ∀ {xs ys : List PyData}, VL N n (xs ++ ys) → VL N n xs ∧ VL N n ys
  | [], ys, h => ⟨VL.nil _ _, h⟩
  | x :: xs, ys, h => by
    have h1 := h.ls; have h2 := h.sh; have h3 := h.wt; have h4 := h.dp
    rw [List.cons_append] at h1 h2 h3 h4
    simp only [PyData.leavesShortAll, PyData.showableAll, PyData.weightAll, PyData.depthAll, Bool.and_eq_true, Nat.max_le] at h1 h2 h3 h4
    have t := VL.split (N := PyData.weightAll (xs ++ ys)) (n := n) ⟨h1.2, h2.2, Nat.le_refl _, h4.2⟩
    refine ⟨⟨?_, ?_, ?_, ?_⟩, t.2.mono (by omega) (Nat.le_refl _)⟩
    · simp only [PyData.leavesShortAll, Bool.and_eq_true]; exact ⟨h1.1, t.1.ls⟩
    · simp only [PyData.showableAll, Bool.and_eq_true]; exact ⟨h2.1, t.1.sh⟩
    · simp only [PyData.weightAll]; have := t.1.wt; omega
    · simp only [PyData.depthAll]; exact Nat.max_le.mpr ⟨h4.1, t.1.dp⟩
theorem VL.take {N n : Nat} {xs : List PyData} (h : VL N n xs) (k : Nat) : VL N n (xs.take k) := (VL.split (xs := xs.take k) (ys := xs.drop k) (by rw [List.take_append_drop]; exact h)).1
theorem VL.drop {N n : Nat} {xs : List PyData} (h : VL N n xs) (k : Nat) : VL N n (xs.drop k) := (VL.split (xs := xs.take k) (ys := xs.drop k) (by rw [List.take_append_drop]; exact h)).2
theorem VL.one {N n : Nat} {x : PyData} (h : Vw N n x) : VL (N + 1) n [x] := (VL.cons h (VL.nil 0 n)).mono (by omega) (Nat.le_refl _)
theorem VL.rev {N n : Nat} : ∀ {xs : List PyData}, VL N n xs → VL N n xs.reverse
  | [], h => h
  | x :: xs, h => by
    have h1 := h.ls; have h2 := h.sh; have h3 := h.wt; have h4 := h.dp
    simp only [PyData.leavesShortAll, PyData.showableAll, PyData.weightAll, PyData.depthAll, Bool.and_eq_true, Nat.max_le] at h1 h2 h3 h4
    have t := VL.rev (N := PyData.weightAll xs) (n := n) ⟨h1.2, h2.2, Nat.le_refl _, h4.2⟩
    rw [List.reverse_cons]
    have o : VL (x.weight + 1) n [x] := ⟨by simp [PyData.leavesShortAll, h1.1], by simp [PyData.showableAll, h2.1], by simp [PyData.weightAll], by simp [PyData.depthAll, h4.1]⟩
    exact (VL.app o t).mono (by omega) (Nat.le_refl _)
theorem VL.tup {N n : Nat} {xs : List PyData} (h : VL N n xs) : Vw N (n + 1) (.tuple xs) := ⟨h.ls, h.sh, h.wt, by simp only [PyData.depth]; have := h.dp; omega, rfl⟩
theorem VL.lst {N n : Nat} {xs : List PyData} (h : VL N n xs) : Vw N (n + 1) (.list xs) := ⟨h.ls, h.sh, h.wt, by simp only [PyData.depth]; have := h.dp; omega, rfl⟩
theorem Vw.items {N n : Nat} {xs : List PyData} (h : Vw N (n + 1) (.tuple xs)) : VL N n xs := ⟨h.ls, h.sh, h.wt, by have := h.dp; simp only [PyData.depth] at this; omega⟩
theorem VL.all {W n : Nat} : ∀ {xs : List PyData}, (∀ x ∈ xs, Vw W n x) → VL (xs.length * (W + 1)) n xs
  | [], _ => VL.nil _ _
  | x :: xs, h => ((h x (List.mem_cons_self ..)).wt |> fun _ => VL.cons (h x (List.mem_cons_self ..)) (VL.all fun y hy => h y (List.mem_cons_of_mem _ hy))).mono (by rw [List.length_cons, Nat.add_mul]; omega) (Nat.le_refl _)
theorem Vw.show {N n : Nat} {d : PyData} (h : Vw N n d) (a : N ≤ 500000) (b : n ≤ 60) : ShowOk d ∧ topShow d = true ∧ wide d := by
  have h1 := PyData.shown_le 24 (by decide) d h.ls
  have h2 := h.wt
  have h3 := h.dp
  refine ⟨⟨h.sh, ?_, by omega⟩, h.tp, ?_⟩
  · rw [z_line]; omega
  · unfold wide; omega
theorem vw_int {i : Int} (h : i.natAbs < 100) : Vw 8 0 (.int i) := by
  have e : ∀ j : Nat, j < 100 → (PyData.int (Int.ofNat j)).leavesShort 24 = true ∧ (PyData.int (Int.ofNat j)).showable = true ∧ (PyData.int (Int.ofNat j)).weight ≤ 8 := by decide +kernel
  have e2 : ∀ j : Nat, j < 100 → (PyData.int (-Int.ofNat j)).leavesShort 24 = true ∧ (PyData.int (-Int.ofNat j)).showable = true ∧ (PyData.int (-Int.ofNat j)).weight ≤ 8 := by decide +kernel
  rcases Int.natAbs_eq i with q | q
  · rw [q]; obtain ⟨a, b, c⟩ := e _ h; exact ⟨a, b, c, Nat.zero_le _, rfl⟩
  · rw [q]; obtain ⟨a, b, c⟩ := e2 _ h; exact ⟨a, b, c, Nat.zero_le _, rfl⟩
/-! ### bent values -/
def WD : Nat → PyData → Prop
  | 0, d => SmallI d
  | k + 1, d => WD k d ∨ ∃ xs, d = .tuple xs ∧ xs.length ≤ 9 ∧ ∀ x ∈ xs, WD k x
def Wt : Nat → Nat
  | 0 => 8
  | k + 1 => 9 * (Wt k + 1)
def Bt (k : Nat) : Nat := 3 * Wt k + 300
theorem vw_small {d : PyData} (h : SmallI d) : Vw 8 0 d := by
  obtain ⟨n, rfl, h1, h2⟩ := h
  exact vw_int (by omega)
theorem wd_vw : ∀ {k : Nat} {d : PyData}, WD k d → Vw (Wt k) k d
  | 0, d, h => vw_small h
  | k + 1, d, h => by
    rcases h with h | ⟨xs, rfl, h1, h2⟩
    · exact (wd_vw h).mono (by simp only [Wt]; omega) (by omega)
    · have v := (VL.all fun x hx => wd_vw (h2 x hx)).tup
      refine v.mono ?_ (Nat.le_refl _)
      simp only [Wt]
      exact Nat.mul_le_mul_right _ h1
def oddL : List PyData := [.none, .bool true, .int 0, .int 1, .int (-1), .int 2, .str "a", .tuple [], .tuple [.int 1], .tuple [.int 1, .int (-1)], .tuple [.int 0], .tuple [.tuple [.int 1]], .list [], .dict [], .list [.int 1], .int (10 ^ 20), .tuple [.bool true]]
theorem odd_vw : ∀ x ∈ oddL, Vw 100 2 x := by
  have h : (oddL.all fun x => x.leavesShort 24 && x.showable && decide (x.weight ≤ 100) && decide (x.depth ≤ 2) && topShow x) = true := by decide +kernel
  rw [List.all_eq_true] at h
  intro x hx
  have g := h x hx
  simp only [Bool.and_eq_true, decide_eq_true_eq] at g
  exact ⟨g.1.1.1.1, g.1.1.1.2, g.1.1.2, g.1.2, g.2⟩
theorem of_odd {P : DV → Prop} (h : ∀ x ∈ oddL, P (.fz x)) : pm__law_of [.list oddL] P := ⟨oddL, rfl, by simp [oddL], by simp [oddL], h⟩
theorem of_list {P : DV → Prop} (xs : List PyData) (h0 : xs ≠ []) (hl : xs.length < 1073741824) (h : ∀ x ∈ xs, P (.fz x)) : pm__law_of [.list xs] P := ⟨xs, rfl, h0, hl, h⟩
theorem wd_int : ∀ {n : Nat} {i : Int}, WD n (.int i) → -10 ≤ i ∧ i ≤ 10
  | 0, i, ⟨m, e, h1, h2⟩ => by cases e; exact ⟨h1, h2⟩
  | n + 1, i, h => by
    rcases h with h | ⟨xs, e, _⟩
    · exact wd_int h
    · cases e
theorem wd_items : ∀ {n : Nat} {xs : List PyData}, WD n (.tuple xs) → ∃ k, n = k + 1 ∧ xs.length ≤ 9 ∧ ∀ x ∈ xs, WD k x
  | 0, xs, ⟨m, e, _⟩ => by cases e
  | n + 1, xs, h => by
    rcases h with h | ⟨ys, e, h1, h2⟩
    · obtain ⟨k, rfl, h1, h2⟩ := wd_items h
      exact ⟨k + 1, rfl, h1, fun x hx => .inl (h2 x hx)⟩
    · cases e
      exact ⟨n, rfl, h1, h2⟩
theorem wd_kind : ∀ {n : Nat} {v : PyData}, WD n v → (∃ i, v = .int i) ∨ ∃ xs, v = .tuple xs
  | 0, v, ⟨m, e, _⟩ => .inl ⟨m, e⟩
  | n + 1, v, h => by
    rcases h with h | ⟨xs, e, _⟩
    · exact wd_kind h
    · exact .inr ⟨xs, e⟩
theorem cut_from1 (ds : List PyData) (c : Nat) : DL.cutD ds (some ((c : Int) + 1)) none = ds.drop (c + 1) := by
  rw [show ((c : Int) + 1) = ((c + 1 : Nat) : Int) from by simp]
  exact cut_from ds (c + 1)
theorem cut_upto1 (ds : List PyData) (c : Nat) : DL.cutD ds none (some ((c : Int) + 1)) = ds.take (c + 1) := by
  rw [show ((c : Int) + 1) = ((c + 1 : Nat) : Int) from by simp]
  exact cut_upto ds (c + 1)
/-- what bending promises; the count: how deep -/
def pmB : Nat → Pm
  | 0 => fun _ _ => False
  | k + 1 => fun ds R => ∃ v, ds = [v, .list oddL] ∧ WD k v ∧ ∀ z, Vw (Bt k) (k + 3) z → R (.fz z)
def ts__law_bent (n : Nat) : DSt := (sSeq (sIf (bAnd (bT (tIsi "int" (tV 1))) (bAnd (bNot (bT (tIsi "bool" (tV 1)))) (bT (t2 (rInt2 noC fun i j => .bool (decide (j < i))) (tCs pm__law_pick (gConsA (gT (tV 0)) (gConsA (gT (tK (.int 3))) gNilA))) (tK (.int 0)))))) (sRet (xT (t2 rAdd (tV 1) (tCs pm__law_of (gConsA (gT (tV 0)) (gConsA (gT (tLstD (gConsA (gT (tK (.int 1))) (gConsA (gT (t1 rNeg (tK (.int 1)))) (gConsA (gT (tK (.int 2))) gNilA))))) gNilA)))))) sNil)
  (sSeq (sIf (bOr (bNot (bT (tIsi "tuple" (tV 1)))) (bOr (bT (t2 rEqZ (tV 1) (tTupD gNilA))) (bT (t2 rEqP (tCs pm__law_pick (gConsA (gT (tV 0)) (gConsA (gT (tK (.int 9))) gNilA))) (tK (.int 0)))))) (sRet (xT (tCs pm__law_of (gConsA (gT (tV 0)) (gConsA (gT (tV 2)) gNilA))))) sNil)
  (sSeq (sPar2 3 4 (xT (tCs pm__law_pick (gConsA (gT (tV 0)) (gConsA (gT (tCb rLenP (aCons (tV 1) aNil))) gNilA)))) (xT (tCs pm__law_pick (gConsA (gT (tV 0)) (gConsA (gT (tK (.int 9))) gNilA)))))
  (sSeq (sIf (bT (t2 (rInt2 noC fun i j => .bool (decide (i < j))) (tV 4) (tK (.int 7)))) (sRet (xT (t2 rAdd (t2 rAdd (tSlD (tV 1) oNone (oSome (tV 3))) (tTupD (gConsA (gT (tCs (pmB n) (gConsA (gT (tV 0)) (gConsA (gT (t2 rIxP (tV 1) (tV 3))) (gConsA (gT (tV 2)) gNilA))))) gNilA))) (tSlD (tV 1) (oSome (t2 rAdd (tV 3) (tK (.int 1)))) oNone)))) sNil)
  (sRet (xT (tCs pm__law_of (gConsA (gT (tV 0)) (gConsA (gT (tLstD (gConsA (gT (t2 rAdd (tSlD (tV 1) oNone (oSome (tV 3))) (tSlD (tV 1) (oSome (t2 rAdd (tV 3) (tK (.int 1)))) oNone))) (gConsA (gT (t2 rAdd (tSlD (tV 1) oNone (oSome (t2 rAdd (tV 3) (tK (.int 1))))) (tSlD (tV 1) (oSome (tV 3)) oNone))) (gConsA (gT (t1 rRevT (tV 1))) (gConsA (gT (tCb rListP (aCons (tV 1) aNil))) gNilA)))))) gNilA)))))))))
abbrev N__law_bent : List Str := ["source", "value", "odd", "i", "way"]
theorem wp__law_bent (n : Nat) : ∀ ds R, pmB (n + 1) ds R → ts__law_bent n { nx := fun _ => R (.fz .none), rt := R } (startD N__law_bent (.src :: ds.map .fz)) := by
  rintro ds R ⟨v, rfl, hv, q⟩
  show ts__law_bent n _ [.src, .fz v, .fz (.list oddL), .no, .no]
  have hB : 300 ≤ Bt n := by unfold Bt; omega
  refine seq_inv (fun δ => δ = [.src, .fz v, .fz (.list oddL), .no, .no]) (fun N hN => ?_) ?_
  · have nx := hN _ rfl
    simp [pm__law_pick, pmPick]
    rcases wd_kind hv with ⟨a, rfl⟩ | ⟨xs, rfl⟩
    · have hb := wd_int hv
      have e1 : isTy "int" (.int a) = true := rfl
      have e2 : isTy "bool" (.int a) = false := rfl
      simp only [e1, e2, if_true, Bool.false_eq_true, if_false]
      intro c c1 c2
      split
      · refine of_list _ (by simp) (by simp) fun x hx => ?_
        simp at hx
        have st : ∀ d : Int, -2 ≤ d → d ≤ 2 → R (.fz (.int (a + d))) := fun d d1 d2 => q _ ((vw_int (by omega)).mono (by omega) (by omega))
        rcases hx with rfl | rfl | rfl
        · simp; exact st _ (by decide) (by decide)
        · simp; exact st _ (by decide) (by decide)
        · simp; exact st _ (by decide) (by decide)
      · exact nx
    · have e1 : isTy "int" (.tuple xs) = false := rfl
      simp only [e1, Bool.false_eq_true, if_false]
      exact nx
  rintro δ rfl
  have od : pm__law_of [.list oddL] fun x => ¬x = DV.src ∧ R x := of_odd fun x hx => ⟨by simp, q _ ((odd_vw x hx).mono (by omega) (by omega))⟩
  refine seq_inv (fun δ => (∃ xs, v = .tuple xs ∧ xs ≠ []) ∧ δ = [.src, .fz v, .fz (.list oddL), .no, .no]) (fun N hN => ?_) ?_
  · simp [pm__law_pick, pmPick]
    rcases wd_kind hv with ⟨a, rfl⟩ | ⟨xs, rfl⟩
    · have e1 : isTy "tuple" (.int a) = false := rfl
      simp only [e1, Bool.false_eq_true, if_false]
      exact od
    · have e1 : isTy "tuple" (.tuple xs) = true := rfl
      simp only [e1, if_true]
      rw [ze_tup]
      cases hx : xs with
      | nil => exact .inr ⟨rfl, od⟩
      | cons x r =>
        refine .inl ⟨rfl, fun c c1 c2 => ?_⟩
        split
        · exact od
        · exact hN _ ⟨⟨_, by rw [hx], by simp⟩, by rw [hx]⟩
  rintro δ ⟨⟨xs, rfl, hne⟩, rfl⟩
  obtain ⟨k, rfl, h9, hit⟩ := wd_items hv
  have hp : 0 < xs.length := List.length_pos_iff.mpr hne
  have hW := wd_vw hv
  have hL := hW.items
  refine seq_inv (fun δ => ∃ i w : Nat, i < xs.length ∧ δ = [.src, .fz (.tuple xs), .fz (.list oddL), .fz (.int (i : Nat)), .fz (.int (w : Nat))]) (fun N hN => ?_) ?_
  · simp [pm__law_pick, pmPick]
    refine ⟨by omega, by omega, fun a a1 a2 b b1 b2 => ?_⟩
    obtain ⟨i, rfl⟩ := Int.eq_ofNat_of_zero_le a1
    obtain ⟨w, rfl⟩ := Int.eq_ofNat_of_zero_le b1
    exact hN _ ⟨i, w, by omega, rfl⟩
  rintro δ ⟨i, w, hi, rfl⟩
  refine seq_inv (fun δ => δ = [.src, .fz (.tuple xs), .fz (.list oddL), .fz (.int (i : Nat)), .fz (.int (w : Nat))]) (fun N hN => ?_) ?_
  · simp [cut_from, cut_upto, cut_from1]
    split
    · refine ⟨xs[i], at_nat (List.getElem?_eq_getElem hi), xs[i], rfl, hit _ (List.getElem_mem hi), fun z hz => ⟨[z], rfl, ?_⟩⟩
      simp
      refine ⟨by omega, by omega, q _ ?_⟩
      have m3 : ∀ {ys : List PyData}, VL (Wt (k + 1)) k ys → VL (Wt (k + 1)) (k + 3) ys := fun h => h.mono (Nat.le_refl _) (by omega)
      have v := VL.app (VL.app (m3 (hL.drop (i + 1))) (VL.one hz)) (m3 (hL.take i))
      refine v.tup.mono ?_ (by omega)
      unfold Bt
      simp only [Wt]
      omega
    · exact hN _ rfl
  rintro δ rfl
  simp [cut_from, cut_upto, cut_from1, cut_upto1]
  refine ⟨by omega, by omega, of_list _ (by simp) (by simp) fun x hx => ⟨by simp, q _ ?_⟩⟩
  simp at hx
  have bt : 2 * Wt (k + 1) ≤ Bt (k + 1) := by unfold Bt; omega
  rcases hx with rfl | rfl | rfl | rfl
  · exact (VL.app (hL.drop (i + 1)) (hL.take i)).tup.mono (by omega) (by omega)
  · exact (VL.app (hL.drop i) (hL.take (i + 1))).tup.mono (by omega) (by omega)
  · exact hL.rev.tup.mono (by omega) (by omega)
  · exact hL.lst.mono (by omega) (by omega)
/-! ### the law -/
theorem vw_idx {k : Nat} (h : k < 2 ^ 20) : Vw 64 0 (.int (k : Nat)) := by
  have h12 : (k : Int).natAbs < 10 ^ 12 := by
    rw [Int.natAbs_natCast]
    exact Nat.lt_of_lt_of_le h (by decide)
  have h1 := PyData.shown_int_le h12
  have h2 : (k : Int).natAbs.log2 < 20 ∨ k = 0 := by
    rw [Int.natAbs_natCast]
    by_cases h0 : k = 0
    · exact .inr h0
    · exact .inl ((Nat.log2_lt h0).mpr h)
  have h3 : (k : Int).natAbs.log2 < 20 := by
    rcases h2 with h2 | h2
    · exact h2
    · rw [h2]; decide
  refine ⟨by simp only [PyData.leavesShort, decide_eq_true_eq]; omega, by simp only [PyData.showable, decide_eq_true_eq]; omega, ?_, Nat.zero_le _, rfl⟩
  simp only [PyData.weight]
  split <;> omega
theorem vw_const : ∀ x ∈ ([.str "form", .str "size", .str "sizes", .str "table", .str "tables", .bool true, .bool false, .none] : List PyData), Vw 64 0 x := by
  have h : (([.str "form", .str "size", .str "sizes", .str "table", .str "tables", .bool true, .bool false, .none] : List PyData).all fun x => x.leavesShort 24 && x.showable && decide (x.weight ≤ 64) && decide (x.depth ≤ 0) && topShow x) = true := by decide +kernel
  rw [List.all_eq_true] at h
  intro x hx
  have g := h x hx
  simp only [Bool.and_eq_true, decide_eq_true_eq] at g
  exact ⟨g.1.1.1.1, g.1.1.1.2, g.1.1.2, g.1.2, g.2⟩
theorem wide_idx {l : List PyData} (h : wide (.tuple l)) {i : Nat} {x : PyData} (e : l[i]? = some x) : i < 2 ^ 20 := by
  have h1 := weightAll_len l
  have h2 : PyData.weightAll l ≤ 1000000 := by simpa [wide, PyData.weight] using h
  have h3 := get_lt e
  omega
theorem fault_vw (ks : List Str) (ts : List Tb) {v : PyData} (hv : wide v) : Vw 200 1 (fault ks ts v) := by
  have c1 : ∀ s : PyData, Vw 64 0 s → Vw 200 1 (.tuple [s]) := fun s h => (VL.one h).tup.mono (by omega) (Nat.le_refl _)
  have c2 : ∀ (s : PyData) (k : Nat), Vw 64 0 s → k < 2 ^ 20 → Vw 200 1 (.tuple [s, .int (k : Nat)]) := fun s k h hk => (VL.cons h (VL.one (vw_idx hk))).tup.mono (by omega) (Nat.le_refl _)
  cases form_of v with
  | bad v hf _ => rw [hf]; exact c1 _ (vw_const _ (by simp))
  | ok sz rows =>
    obtain ⟨w1, w2⟩ := wide_seq hv
    show Vw 200 1 (faultB ks ts sz rows)
    unfold faultB
    split
    · cases hf : firstBad (fun _ d => !sizeOk d) sz 0 with
      | some k =>
        obtain ⟨i, x, e1, _, e3⟩ := fb_some hf
        have := wide_idx w1 e1
        exact c2 _ _ (vw_const _ (by simp)) (by omega)
      | none =>
        show Vw 200 1 (if _ then _ else _)
        split
        · cases hf2 : firstBad (badRow ts sz) rows 0 with
          | some k =>
            obtain ⟨i, x, e1, _, e3⟩ := fb_some hf2
            have := wide_idx w2 e1
            exact c2 _ _ (vw_const _ (by simp)) (by omega)
          | none => exact (vw_const .none (by simp)).mono (by omega) (by omega)
        · exact c1 _ (vw_const _ (by simp))
    · exact c1 _ (vw_const _ (by simp))
theorem world_wd {n : Nat} {sz : List Int} {rows : List PyData} (hs : SzOk n sz) (h2 : n ≤ 2) (h5 : rows.length ≤ 5) (hr : ∀ r ∈ rows, RowD r) : WD 4 (.tuple [.tuple (szD sz), .tuple rows]) ∧ Vw 100 1 (.tuple (szD sz)) ∧ Vw 5000 3 (.tuple rows) := by
  have row : ∀ r ∈ rows, WD 2 r := fun r h => by
    obtain ⟨xs, rfl, h3, h | h⟩ := hr r h
    · exact .inr ⟨xs, rfl, by omega, fun x hx => .inl (h x hx)⟩
    · refine .inr ⟨xs, rfl, by omega, fun x hx => ?_⟩
      obtain ⟨ys, rfl, h4, h5⟩ := h x hx
      exact .inr ⟨ys, rfl, by omega, h5⟩
  have rs : WD 3 (.tuple rows) := .inr ⟨rows, rfl, by omega, row⟩
  have sm : ∀ x ∈ szD sz, SmallI x := fun x hx => by
    obtain ⟨i, hi, rfl⟩ := List.mem_map.mp hx
    exact ⟨i, rfl, by have := hs.lo i hi; omega, by have := hs.hi i hi; omega⟩
  have sl : (szD sz).length = n := by rw [szD, List.length_map]; exact hs.len
  have ss : WD 1 (.tuple (szD sz)) := .inr ⟨_, rfl, by omega, sm⟩
  refine ⟨.inr ⟨_, rfl, by simp, fun x hx => ?_⟩, ?_, ?_⟩
  · simp at hx
    rcases hx with rfl | rfl
    · exact .inl (.inl ss)
    · exact rs
  · have := (VL.all fun x hx => vw_small (sm x hx)).tup
    refine this.mono ?_ (Nat.le_refl _)
    rw [sl]; omega
  · have := (VL.all fun x hx => wd_vw (row x hx)).tup
    refine this.mono ?_ (Nat.le_refl _)
    have e : Wt 2 = 738 := rfl
    rw [e]; omega
def ts_law : DSt := (sSeq (sSet 2 (xT (tLstD (gConsA (gT (tK .none)) (gConsA (gT (tK (.bool true))) (gConsA (gT (tK (.int 0))) (gConsA (gT (tK (.int 1))) (gConsA (gT (t1 rNeg (tK (.int 1)))) (gConsA (gT (tK (.int 2))) (gConsA (gT (tK (.str "a"))) (gConsA (gT (tTupD gNilA)) (gConsA (gT (tTupD (gConsA (gT (tK (.int 1))) gNilA))) (gConsA (gT (tTupD (gConsA (gT (tK (.int 1))) (gConsA (gT (t1 rNeg (tK (.int 1)))) gNilA)))) (gConsA (gT (tTupD (gConsA (gT (tK (.int 0))) gNilA))) (gConsA (gT (tTupD (gConsA (gT (tTupD (gConsA (gT (tK (.int 1))) gNilA))) gNilA))) (gConsA (gT (tLstD gNilA)) (gConsA (gT (fun δ P => P (.val (.od [])) δ)) (gConsA (gT (tLstD (gConsA (gT (tK (.int 1))) gNilA))) (gConsA (gT (t2 (rInt2 CPow fun i j => .int (i ^ j.toNat)) (tK (.int 10)) (tK (.int 20)))) (gConsA (gT (tTupD (gConsA (gT (tK (.bool true))) gNilA))) gNilA))))))))))))))))))))
  (sSeq (sFor (iRg1 (aCons (tK (.int 3)) aNil)) (gN 3) (sSeq (sSet 4 (xT (tCs pm__law_told (gConsA (gT (tV 1)) gNilA))))
  (sSeq (sAsg (gTp 2 (gCons' (gN 9) (gCons' (gN 10) gNil'))) (gT (tCs pm__law_world (gConsA (gT (tV 1)) (gConsA (gT (tV 4)) (gConsA (gT (tK (.int 3))) gNilA))))))
  (sSeq (sPar2 11 12 (xT (tCs pm__law_world (gConsA (gT (tV 1)) (gConsA (gT (tV 4)) (gConsA (gT (tK (.int 3))) gNilA))))) (xT (tCs pm__law_world (gConsA (gT (tV 1)) (gConsA (gT (tCs pm__law_told (gConsA (gT (tV 1)) gNilA))) (gConsA (gT (tK (.int 2))) gNilA))))))
  (sSeq (sSet 5 (xT (tCs pm__law_of (gConsA (gT (tV 1)) (gConsA (gT (tV 2)) gNilA)))))
  (sSeq (sFor (iRg1 (aCons (tK (.int 36)) aNil)) (gN 6) (sSet 5 (xT (tIte (bT (t2 rEqP (tCs pm__law_pick (gConsA (gT (tV 1)) (gConsA (gT (tK (.int 5))) gNilA))) (tK (.int 0)))) (tLstD (gConsA (gT (tV 5)) gNilA)) (tTupD (gConsA (gT (tV 5)) gNilA))))))
  (sSeq (sAsg (gTp 2 (gCons' (gN 13) (gCons' (gN 14) gNil'))) (gT (tV 9)))
  (sSeq (sSet 7 (xT (tLstD (gConsA (gT (tV 9)) (gConsA (gT (tCb rListP (aCons (tV 9) aNil))) (gConsA (gT (t2 rIxP (tV 11) (tK (.int 0)))) (gConsA (gT (t2 rIxP (tV 12) (tK (.int 0)))) (gConsA (gT (tTupD (gConsA (gT (tV 13)) (gConsA (gT (t2 rIxP (t2 rIxP (tV 11) (tK (.int 0))) (tK (.int 1)))) gNilA)))) (gConsA (gT (tTupD (gConsA (gT (t2 rIxP (t2 rIxP (tV 11) (tK (.int 0))) (tK (.int 0)))) (gConsA (gT (tV 14)) gNilA)))) (gConsA (gT (tTupD (gConsA (gT (tV 13)) (gConsA (gT (tSlD (tV 14) (oSome (tK (.int 1))) oNone)) gNilA)))) gNilA))))))))))
  (sSeq (sSet 7 (xT (t2 rAdd (tV 7) (tLstD (gConsA (gT (tTupD (gConsA (gT (tSlD (tV 13) (oSome (tK (.int 1))) oNone)) (gConsA (gT (tV 14)) gNilA)))) (gConsA (gT (tTupD (gConsA (gT (t2 rAdd (tV 13) (tTupD (gConsA (gT (tK (.int 1))) gNilA)))) (gConsA (gT (tV 14)) gNilA)))) (gConsA (gT (tTupD (gConsA (gT (tV 13)) (gConsA (gT (t2 rAdd (tV 14) (tTupD (gConsA (gT (tTupD (gConsA (gT (tK (.int 1))) gNilA))) gNilA)))) gNilA)))) (gConsA (gT (tTupD (gConsA (gT (tCb rListP (aCons (tV 13) aNil))) (gConsA (gT (tV 14)) gNilA)))) (gConsA (gT (tV 5)) gNilA)))))))))
  (sSeq (sSet 7 (xT (t2 rAdd (tV 7) (tLstD (gConsA (gT (tTupD (gConsA (gT (tV 13)) (gConsA (gT (tCb rListP (aCons (tV 14) aNil))) gNilA)))) (gConsA (gT (tTupD (gConsA (gT (tV 13)) (gConsA (gT (t1 rRevT (tV 14))) gNilA)))) (gConsA (gT (tTupD (gConsA (gT (tCb rTupP (aCons (tLcD (iSeq (gT (tV 13))) (gN 18) bYes (gT (t2 rAdd (tV 18) (tK (.int 1)))) [18]) aNil))) (gConsA (gT (tV 14)) gNilA)))) (gConsA (gT (tK .none)) (gConsA (gT (tTupD gNilA)) gNilA)))))))))
  (sSeq (sSet 7 (xT (t2 rAdd (tV 7) (tLstD (gConsA (gT (tTupD (gConsA (gT (t2 rMulT (tTupD (gConsA (gT (tK (.int 0))) gNilA)) (tCb rLenP (aCons (tV 13) aNil)))) (gConsA (gT (tV 14)) gNilA)))) (gConsA (gT (tTupD (gConsA (gT (t2 rMulT (tTupD (gConsA (gT (tK (.bool true))) gNilA)) (tCb rLenP (aCons (tV 13) aNil)))) (gConsA (gT (tV 14)) gNilA)))) (gConsA (gT (t2 rAdd (tV 9) (tTupD (gConsA (gT (tTupD gNilA)) gNilA)))) gNilA)))))))
  (sSeq (sSet 7 (xT (t2 rAdd (tV 7) (tLstD (gConsA (gT (tTupD (gConsA (gT (tV 13)) (gConsA (gT (tV 5)) gNilA)))) (gConsA (gT (tTupD (gConsA (gT (tV 5)) (gConsA (gT (tV 14)) gNilA)))) gNilA))))))
  (sFor (iSeq (gT (t2 rAdd (tV 7) (tLcD (iRg1 (aCons (tK (.int 25)) aNil)) (gN 17) bYes (gT (tCs (pmB 5) (gConsA (gT (tV 1)) (gConsA (gT (tV 9)) (gConsA (gT (tV 2)) gNilA))))) [17])))) (gN 8) (sSeq (sPar2 15 16 (xT (tCb rReprT (aCons (tV 8) aNil))) (xT (tCl pm__law_fault (gConsA (gT (tV 4)) (gConsA (gT (tV 8)) gNilA)))))
  (sSeq (sIf (bT (t2 rNeS (tCb rReprT (aCons (tLstD (gConsA (gT (tCl pm_judge_world (gConsA (gT (tV 4)) (gConsA (gT (tV 8)) gNilA)))) (gConsA (gT (tCl pm_is_world (gConsA (gT (tV 4)) (gConsA (gT (tV 8)) gNilA)))) gNilA))) aNil)) (tCb rReprT (aCons (tLstD (gConsA (gT (tV 16)) (gConsA (gT (t2 (rIsNP false) (tV 16) (tK .none))) gNilA))) aNil)))) (sRet (xT (tK (.bool false)))) sNil)
  (sIf (bT (t2 rNeS (tCb rReprT (aCons (tV 8) aNil)) (tV 15))) (sRet (xT (tK (.bool false)))) sNil))))))))))))))))
  (sRet (xT (t2 (rIsNP false) (tCl pm_judge_world (gConsA (gT (tTupD (gConsA (gT (tTupD (gConsA (gT (tK (.str "k"))) gNilA))) (gConsA (gT (tTupD gNilA)) gNilA)))) (gConsA (gT (tTupD (gConsA (gT (tTupD (gConsA (gT (tK (.int 2))) gNilA))) (gConsA (gT (tTupD gNilA)) gNilA)))) gNilA))) (tK .none))))))
abbrev N_law : List Str := ["script", "source", "odd", "lap", "told", "deep", "turn", "values", "value", "world", "known", "other", "more", "sizes", "rows", "shown", "fault", "look", "n"]

def dL (a2 a3 told a5 a6 a7 a8 a9 a10 a11 a12 a13 a14 a15 a16 : DV) : DEnv := [.no, .src, a2, a3, told, a5, a6, a7, a8, a9, a10, a11, a12, a13, a14, a15, a16, .no, .no]
def DEnd : DEnds := { nx := fun _ => False, rt := fun x => x = .fz (.bool true) }
abbrev Vg (d : PyData) : Prop := Vw 400000 50 d
abbrev Vc (d : PyData) : Prop := Vw 150000 45 d
theorem vg_c {d : PyData} (h : Vc d) : Vg d := h.mono (by decide) (by decide)
theorem vg_pair {a b : PyData} (h : Vc a) (g : Vc b) : Vg (.tuple [a, b]) := (VL.cons h (VL.one g)).tup.mono (by decide) (by decide)
/-- a lap's world, others, and what is deep -/
structure Lap (ks : List Str) (ts : List Tb) (sz : List Int) (rows : List PyData) (w2 w3 : PyData) (d : PyData) : Prop where
  told : ToldG ks ts
  sz1 : 1 ≤ sz.length
  sz2 : sz.length ≤ 2
  wd : WD 4 (.tuple [.tuple (szD sz), .tuple rows])
  szv : Vw 100 1 (.tuple (szD sz))
  rowv : Vw 5000 3 (.tuple rows)
  rows5 : rows.length ≤ 5
  szi : ∀ n ∈ sz, 1 ≤ n ∧ n ≤ 3
  g2 : WorldG w2
  g3 : WorldG w3
  dv : Vw 200 40 d
theorem cut_1 (ds : List PyData) : DL.cutD ds (some 1) none = ds.drop 1 := cut_from ds 1
theorem wp_law : ts_law { nx := fun _ => False, rt := fun x => x = .fz (.bool true) } ((List.replicate N_law.length DV.no).set 1 .src) := by
  show ts_law DEnd [.no, .src, .no, .no, .no, .no, .no, .no, .no, .no, .no, .no, .no, .no, .no, .no, .no, .no, .no]
  refine seq_inv (fun δ => δ = dL (.ol oddL) .no .no .no .no .no .no .no .no .no .no .no .no .no .no) (fun N hN => ?_) ?_
  · simp [CPow]
    exact hN _ rfl
  rintro δ rfl
  refine seq_inv (fun _ => True) (fun N hN => ?_) ?_
  · refine for_ok (rngL 0 3) (fun Q h => by simpa [small62] using h) (fun i δ => ∃ a2 a3 a4 a5 a6 a7 a8 a9 a10 a11 a12 a13 a14 a15 a16, a2.frz = .fz (.list oddL) ∧ a2 ≠ .no ∧ δ = dL a2 a3 a4 a5 a6 a7 a8 a9 a10 a11 a12 a13 a14 a15 a16)
      ⟨_, _, _, _, _, _, _, _, _, _, _, _, _, _, _, rfl, (fun z => by cases z), rfl⟩ ?turn ?fin
    case turn =>
      rintro i d δ hd ⟨a2, a3, a4, a5, a6, a7, a8, a9, a10, a11, a12, a13, a14, a15, a16, ho, hn, rfl⟩ N hN
      obtain ⟨_, rfl⟩ := rng_at hd
      refine ⟨show 3 < 19 by decide, ?_⟩
      show (sSeq _ _) _ (dL a2 (.fz (.int (i : Nat))) a4 a5 a6 a7 a8 a9 a10 a11 a12 a13 a14 a15 a16)
      refine seq_inv (fun δ => ∃ ks ts, ToldG ks ts ∧ δ = dL a2 (.fz (.int (i : Nat))) (.fz (toldD ks ts)) a5 a6 a7 a8 a9 a10 a11 a12 a13 a14 a15 a16) (fun N hN => ?_) ?_
      · simp [dL, pm__law_told]
        exact fun ks ts ht => hN _ ⟨ks, ts, ht, rfl⟩
      rintro δ ⟨ks, ts, ht, rfl⟩
      refine seq_inv (fun δ => ∃ w kn, WorldG w ∧ δ = dL a2 (.fz (.int (i : Nat))) (.fz (toldD ks ts)) a5 a6 a7 a8 (.fz w) (.fz kn) a11 a12 a13 a14 a15 a16) (fun N hN => ?_) ?_
      · simp [dL, pm__law_world]
        exact ⟨_, _, _, ⟨rfl, rfl⟩, ht, by decide, by decide, fun w kn hw => hN _ ⟨w, kn, hw, rfl⟩⟩
      rintro δ ⟨w, kn, hw, rfl⟩
      refine seq_inv (fun δ => ∃ w2 k2 w3 k3, WorldG w2 ∧ WorldG w3 ∧ δ = dL a2 (.fz (.int (i : Nat))) (.fz (toldD ks ts)) a5 a6 a7 a8 (.fz w) (.fz kn) (.fz (.tuple [w2, k2])) (.fz (.tuple [w3, k3])) a13 a14 a15 a16) (fun N hN => ?_) ?_
      · simp [dL, pm__law_world, pm__law_told]
        exact ⟨_, _, _, ⟨rfl, rfl⟩, ht, by decide, by decide, fun w2 k2 hw2 ks2 ts2 ht2 => ⟨_, _, _, ⟨rfl, rfl⟩, ht2, by decide, by decide, fun w3 k3 hw3 => hN _ ⟨w2, k2, w3, k3, hw2, hw3, rfl⟩⟩⟩
      rintro δ ⟨w2, k2, w3, k3, hw2, hw3, rfl⟩
      refine seq_inv (fun δ => ∃ d, Vw 100 2 d ∧ δ = dL (.fz (.list oddL)) (.fz (.int (i : Nat))) (.fz (toldD ks ts)) (.fz d) a6 a7 a8 (.fz w) (.fz kn) (.fz (.tuple [w2, k2])) (.fz (.tuple [w3, k3])) a13 a14 a15 a16) (fun N hN => ?_) ?_
      · simp [dL, ho, hn]
        exact of_odd fun x hx => hN _ ⟨x, odd_vw x hx, rfl⟩
      rintro δ ⟨d, hd, rfl⟩
      refine seq_inv (fun δ => ∃ x d a6, x.frz = .fz d ∧ x ≠ .no ∧ Vw 200 40 d ∧ δ = dL (.fz (.list oddL)) (.fz (.int (i : Nat))) (.fz (toldD ks ts)) x a6 a7 a8 (.fz w) (.fz kn) (.fz (.tuple [w2, k2])) (.fz (.tuple [w3, k3])) a13 a14 a15 a16) (fun N hN => ?_) ?_
      · refine for_ok (rngL 0 36) (fun Q h => by simpa [small62] using h) (fun j δ => j ≤ 36 ∧ ∃ x d a6, x.frz = .fz d ∧ x ≠ .no ∧ Vw (100 + j) (2 + j) d ∧ δ = dL (.fz (.list oddL)) (.fz (.int (i : Nat))) (.fz (toldD ks ts)) x a6 a7 a8 (.fz w) (.fz kn) (.fz (.tuple [w2, k2])) (.fz (.tuple [w3, k3])) a13 a14 a15 a16)
          ⟨Nat.zero_le _, _, _, _, rfl, (fun z => by cases z), hd, rfl⟩ ?t2 ?f2
        case t2 =>
          rintro j e δ he ⟨hj, x, d, a6, hx, hxn, hv, rfl⟩ N2 hN2
          obtain ⟨hj2, rfl⟩ := rng_at he
          simp [dL, pm__law_pick, pmPick, hx, hxn]
          intro c _ _
          split
          · exact hN2 _ ⟨hj2, .ol [d], _, _, rfl, (fun z => by cases z), (VL.one hv).lst, rfl⟩
          · exact hN2 _ ⟨hj2, .fz (.tuple [d]), _, _, rfl, (fun z => by cases z), (VL.one hv).tup, rfl⟩
        case f2 =>
          rintro δ ⟨_, x, d, a6, hx, hxn, hv, rfl⟩
          rw [rng_len] at hv
          exact hN _ ⟨x, d, a6, hx, hxn, hv.mono (by decide) (by decide), rfl⟩
      rintro δ ⟨x, d, a6, hx, hxn, hv, rfl⟩
      obtain ⟨n, sz, rows, rfl, hs, n1, n2, r5, hrow⟩ := hw.ex
      obtain ⟨hwd, hszv, hrowv⟩ := world_wd hs n2 r5 hrow
      have L : Lap ks ts sz rows w2 w3 d := ⟨ht, by rw [hs.len]; exact n1, by rw [hs.len]; exact n2, hwd, hszv, hrowv, r5, fun n hn => ⟨hs.lo n hn, hs.hi n hn⟩, hw2, hw3, hv⟩
      refine seq_inv (fun δ => δ = dL (.fz (.list oddL)) (.fz (.int (i : Nat))) (.fz (toldD ks ts)) x a6 a7 a8 (.fz (.tuple [.tuple (szD sz), .tuple rows])) (.fz kn) (.fz (.tuple [w2, k2])) (.fz (.tuple [w3, k3])) (.fz (.tuple (szD sz))) (.fz (.tuple rows)) a15 a16) (fun N hN => ?_) ?_
      · simp [dL]
        exact hN _ rfl
      rintro δ rfl
      obtain ⟨_, s2, r2, rfl, hs2, _, m2, r25, hrow2⟩ := hw2.ex
      obtain ⟨hwd2, hszv2, hrowv2⟩ := world_wd hs2 m2 r25 hrow2
      have vW : Vc (.tuple [.tuple (szD sz), .tuple rows]) := (wd_vw hwd).mono (by decide) (by decide)
      have vW2 : Vc (.tuple [.tuple (szD s2), .tuple r2]) := (wd_vw hwd2).mono (by decide) (by decide)
      have vS : Vc (.tuple (szD sz)) := hszv.mono (by decide) (by decide)
      have vR : Vc (.tuple rows) := hrowv.mono (by decide) (by decide)
      have vS2 : Vc (.tuple (szD s2)) := hszv2.mono (by decide) (by decide)
      have vR2 : Vc (.tuple r2) := hrowv2.mono (by decide) (by decide)
      have vD : Vc d := hv.mono (by decide) (by decide)
      have lS : VL 100 0 (szD sz) := hszv.items
      have lR : VL 5000 2 rows := hrowv.items
      have c1 : ∀ {x : PyData}, (∃ n, Vw 20 n x ∧ n ≤ 2) → Vc x := fun ⟨n, h, h2⟩ => h.mono (by decide) (by omega)
      have ct : ∀ {xs : List PyData} {N n : Nat}, VL N n xs → N ≤ 20000 → n ≤ 10 → Vc (.tuple xs) := fun h a b => h.tup.mono (by omega) (by omega)
      have cl : ∀ {xs : List PyData} {N n : Nat}, VL N n xs → N ≤ 20000 → n ≤ 10 → Vc (.list xs) := fun h a b => h.lst.mono (by omega) (by omega)
      let J : Nat → DEnv → Prop := fun m δ => ∃ vs x, vs.length ≤ m ∧ (∀ v ∈ vs, Vg v) ∧ x.frz = .fz d ∧ x ≠ .no ∧ δ = dL (.fz (.list oddL)) (.fz (.int (i : Nat))) (.fz (toldD ks ts)) x a6 (.ol vs) a8 (.fz (.tuple [.tuple (szD sz), .tuple rows])) (.fz kn) (.fz (.tuple [.tuple [.tuple (szD s2), .tuple r2], k2])) (.fz (.tuple [w3, k3])) (.fz (.tuple (szD sz))) (.fz (.tuple rows)) a15 a16
      have hz2 : (szD sz).length = sz.length := List.length_map ..
      have hz3 := L.sz2
      have hz4 := L.sz1
      obtain ⟨_, s3, r3, rfl, hs3, _, m3, r35, hrow3⟩ := hw3.ex
      have vW3 : Vc (.tuple [.tuple (szD s3), .tuple r3]) := (wd_vw (world_wd hs3 m3 r35 hrow3).1).mono (by decide) (by decide)
      have v1 : Vw 8 0 (.int 1) := vw_int (by decide)
      have addv : ∀ {vs ws : List PyData}, (∀ v ∈ vs, Vg v) → (∀ v ∈ ws, Vg v) → ∀ v ∈ vs ++ ws, Vg v := fun a b v h => (List.mem_append.mp h).elim (a v) (b v)
      have wl : VL 70000 3 [.tuple (szD sz), .tuple rows] := (wd_vw hwd).items.mono (by decide) (by decide)
      refine seq_inv (J 7) (fun N hN => ?_) ?_
      · simp [dL, cut_1]
        refine hN _ ⟨_, x, Nat.le_of_ble_eq_true rfl, fun v hm => ?_, hx, hxn, rfl⟩
        simp at hm
        rcases hm with rfl | rfl | rfl | rfl | rfl | rfl | rfl
        · exact vg_c vW
        · exact wl.lst.mono (by decide) (by decide)
        · exact vg_c vW2
        · exact vg_c vW3
        · exact vg_pair vS vR2
        · exact vg_pair vS2 vR
        · exact vg_pair vS (by rw [← List.drop_one]; exact ct (lR.drop 1) (by decide) (by decide))
      rintro δ ⟨vs, x, hvl, hvs, hx, hxn, rfl⟩
      refine seq_inv (J 12) (fun N hN => ?_) ?_
      · simp [dL, hx, hxn, cut_1]
        refine ⟨by omega, by omega, by omega, hN _ ⟨_, .fz d, ?_, addv hvs fun v hm => ?_, rfl, (fun z => by cases z), rfl⟩⟩
        · simp only [List.length_append, List.length_cons, List.length_nil]; omega
        simp at hm
        rcases hm with rfl | rfl | rfl | rfl | rfl
        · exact vg_pair (by rw [← List.drop_one]; exact ct (lS.drop 1) (by decide) (by decide)) vR
        · exact vg_pair (ct (VL.app (VL.one v1) lS) (by decide) (by decide)) vR
        · exact vg_pair vS (ct (VL.app ((VL.one (VL.one v1).tup).mono (Nat.le_refl _) (by decide)) lR) (by decide) (by decide))
        · exact vg_pair (cl lS (by decide) (by decide)) vR
        · exact vg_c vD
      rintro δ ⟨vs, x, hvl, hvs, hx, hxn, rfl⟩
      refine seq_inv (J 17) (fun N hN => ?_) ?_
      · simp [dL, hx, hxn]
        refine lc_all (fun y => Vw 20 0 y) (szD sz) (fun Q h => by simpa using h) (by rw [z_line]; omega) (fun e he C B h1 => ?_) fun ys hyl hy => ?_
        · obtain ⟨m, hm, rfl⟩ := List.mem_map.mp he
          have := L.szi m hm
          simp [wpD]
          exact h1 _ _ ((vw_int (by omega)).mono (by decide) (by decide)) rfl
        · have vy : Vc (.tuple ys) := (VL.all hy).tup.mono (by omega) (by omega)
          refine ⟨_, rfl, _, rfl, ys, rfl, ⟨_, rfl, (fun z => by cases z)⟩, _, ⟨_, rfl, rfl⟩, by simp, _, rfl, ?_⟩
          simp
          refine ⟨by omega, hN _ ⟨_, x, ?_, addv hvs fun v hm => ?_, hx, hxn, rfl⟩⟩
          · simp only [List.length_append, List.length_cons, List.length_nil]; omega
          simp at hm
          rcases hm with rfl | rfl | rfl | rfl | rfl
          · exact vg_pair vS (cl lR (by decide) (by decide))
          · exact vg_pair vS (ct lR.rev (by decide) (by decide))
          · exact vg_pair vy vR
          · exact (vw_const .none (by simp)).mono (by decide) (by decide)
          · exact (VL.nil 0 0).tup.mono (by decide) (by decide)
      rintro δ ⟨vs, x, hvl, hvs, hx, hxn, rfl⟩
      have rep : ∀ e : PyData, Vw 64 0 e → Vc (.tuple (List.replicate (szD sz).length e)) := fun e he => by
        have := (VL.all (xs := List.replicate (szD sz).length e) fun y hy => by rw [List.eq_of_mem_replicate hy]; exact he).tup
        refine this.mono ?_ (by decide)
        rw [List.length_replicate]; omega
      refine seq_inv (J 20) (fun N hN => ?_) ?_
      · simp [dL, hx, hxn]
        refine ⟨by omega, by omega, by omega, by omega, by omega, hN _ ⟨_, x, ?_, addv hvs fun v hm => ?_, hx, hxn, rfl⟩⟩
        · simp only [List.length_append, List.length_cons, List.length_nil]; omega
        simp at hm
        rcases hm with rfl | rfl | rfl
        · exact vg_pair (rep _ ((vw_int (by decide)).mono (by decide) (by decide))) vR
        · exact vg_pair (rep _ (vw_const _ (by simp))) vR
        · exact (VL.app (VL.one ((VL.nil 0 0).tup.mono (Nat.le_refl _) (by decide))) wl).tup.mono (by decide) (by decide)
      rintro δ ⟨vs, x, hvl, hvs, hx, hxn, rfl⟩
      refine seq_inv (J 22) (fun N hN => ?_) ?_
      · simp [dL, hx, hxn]
        refine ⟨by omega, hN _ ⟨_, .fz d, ?_, addv hvs fun v hm => ?_, rfl, (fun z => by cases z), rfl⟩⟩
        · simp only [List.length_append, List.length_cons, List.length_nil]; omega
        simp at hm
        rcases hm with rfl | rfl
        · exact vg_pair vS vD
        · exact vg_pair vD vR
      rintro δ ⟨vs, x, hvl, hvs, hx, hxn, rfl⟩
      refine for_dr (fun ds => ∀ v ∈ ds, Vg v) (fun Q hQ => ?_) (fun ds _ δ => ∃ a8 a15 a16, δ = dL (.fz (.list oddL)) (.fz (.int (i : Nat))) (.fz (toldD ks ts)) x a6 (.ol vs) a8 (.fz (.tuple [.tuple (szD sz), .tuple rows])) (.fz kn) (.fz (.tuple [.tuple [.tuple (szD s2), .tuple r2], k2])) (.fz (.tuple [.tuple [.tuple (szD s3), .tuple r3], k3])) (.fz (.tuple (szD sz))) (.fz (.tuple rows)) a15 a16)
        (fun ds _ => ⟨_, _, _, rfl⟩) (fun ds hds j v δ hj ⟨a8, a15, a16, e⟩ N2 hN2 => ?_) (fun ds _ δ ⟨a8, a15, a16, e⟩ => ?_)
      · simp [dL]
        refine lc_all Vg (rngL 0 25) (fun Q h => by simpa [small62] using h) (by rw [rng_len, z_line]; omega) (fun e he C B h1 => ?_) fun ys hyl hy => ?_
        · simp [wpD]
          refine ⟨_, rfl, hwd, fun z hz => h1 _ _ (hz.mono (by decide) (by decide)) rfl⟩
        · rw [rng_len] at hyl
          refine ⟨_, rfl, _, rfl, ?_⟩
          rw [za_ll]
          refine ⟨by rw [z_line]; omega, _, rfl, hQ _ fun v hm => (List.mem_append.mp hm).elim (hvs v) (hy v)⟩
      · subst e
        have hv2 := hds v (List.mem_of_getElem? hj)
        obtain ⟨sh1, sh2, sh3⟩ := hv2.show (by decide) (by decide)
        have fv := fault_vw ks ts sh3
        have bv : Vw 64 0 (.bool (isNone (fault ks ts v))) := by
          cases isNone (fault ks ts v)
          · exact vw_const _ (by simp)
          · exact vw_const _ (by simp)
        obtain ⟨sl1, sl2, _⟩ := (VL.cons fv (VL.one (bv.mono (Nat.le_refl _) (by decide)))).lst.show (by decide) (by decide)
        simp [dL, sh1, sh2, pm__law_fault, pm_judge_world, pm_is_world]
        refine ⟨ks, ts, v, ⟨rfl, rfl⟩, ht.ok, sh3, ks, ts, v, ⟨rfl, rfl⟩, ht.ok, sh3, ks, ts, v, ⟨rfl, rfl⟩, ht.ok, sh3, sl1, sl2, sl1, sl2, ?_⟩
        simp
        exact hN2 _ ⟨_, _, _, rfl⟩
      · subst e
        exact hN _ ⟨_, _, _, _, _, _, _, _, _, _, _, _, _, _, _, rfl, (fun z => by cases z), rfl⟩
    case fin =>
      rintro δ _
      exact hN _ trivial
  rintro δ _
  simp [pm_judge_world]
  refine ⟨["k"], [], _, ⟨rfl, rfl⟩, ⟨(fun t h => by cases h), (fun t h => by cases h)⟩, by unfold wide; decide, ?_⟩
  exact rfl
abbrev N__law_open_cells : List Str := ["script", "stirred", "cell", "cells"]
abbrev N__law_pick : List Str := ["source", "most", "cells", "others", "lap", "stirred"]
theorem ln_is_integer : ∀ ds R, pm_is_integer ds R → ds.length = 1 := by rintro ds R ⟨_, rfl, _⟩; rfl
theorem ln_is_entry : ∀ ds R, pm_is_entry ds R → ds.length = 2 := by rintro ds R ⟨_, _, rfl, _⟩; rfl
theorem ln_is_row : ∀ ds R, pm_is_row ds R → ds.length = 3 := by rintro ds R ⟨_, _, _, rfl, _⟩; rfl
theorem ln_is_table : ∀ ds R, pm_is_table ds R → ds.length = 3 := by rintro ds R ⟨_, _, _, rfl, _⟩; rfl
theorem ln_is_world : ∀ ds R, pm_is_world ds R → ds.length = 2 := by rintro ds R ⟨_, _, _, rfl, _⟩; rfl
theorem ln_judge_world : ∀ ds R, pm_judge_world ds R → ds.length = 2 := by rintro ds R ⟨_, _, _, rfl, _⟩; rfl
theorem ln__law_of : ∀ ds R, pm__law_of ds R → ds.length + 1 = 2 := by rintro ds R ⟨_, rfl, _⟩; rfl
theorem ln__law_told : ∀ ds R, pm__law_told ds R → ds.length + 1 = 1 := by rintro ds R ⟨rfl, _⟩; rfl
theorem ln__law_cells : ∀ ds R, pm__law_cells ds R → ds.length = 2 := by rintro ds R ⟨_, _, _, rfl, _⟩; rfl
theorem ln__law_world_of : ∀ ds R, pm__law_world_of ds R → ds.length = 3 := by rintro ds R ⟨_, _, _, _, rfl, _⟩; rfl
theorem ln__law_world : ∀ ds R, pm__law_world ds R → ds.length + 1 = 3 := by rintro ds R ⟨_, _, _, rfl, _⟩; rfl
theorem ln__law_bent (n : Nat) : ∀ ds R, (pmB (n + 1)) ds R → ds.length + 1 = 3 := by rintro ds R ⟨_, rfl, _⟩; rfl
theorem ln__law_is_int : ∀ ds R, pm__law_is_int ds R → ds.length = 1 := by rintro ds R ⟨_, rfl, _⟩; rfl
theorem ln__law_is_row : ∀ ds R, pm__law_is_row ds R → ds.length = 3 := by rintro ds R ⟨_, _, _, rfl, _⟩; rfl
theorem ln__law_is_table : ∀ ds R, pm__law_is_table ds R → ds.length = 3 := by rintro ds R ⟨_, _, _, rfl, _⟩; rfl
theorem ln__law_fault : ∀ ds R, pm__law_fault ds R → ds.length = 2 := by rintro ds R ⟨_, _, _, rfl, _⟩; rfl
structure Blts (mg : Str → Option Value) : Prop where
  isinst : mg "isinstance" = none
  int : mg "int" = none
  bool : mg "bool" = none
  tuple : mg "tuple" = none
  len : mg "len" = none
  all : mg "all" = none
  zip : mg "zip" = none
  enumerate : mg "enumerate" = none
  range : mg "range" = none
  list : mg "list" = none
  repr : mg "repr" = none
  abs : mg "abs" = none
abbrev st_is_integer : Stmt := PySem.Challenge.pw_drawnsigns_k28_worlds_judged.main.body.getD 1 (.Pass ⟨0, 0, 0, 0⟩)
theorem sc_is_integer : FnScope N_is_integer ["value"] (defScope st_is_integer) := ⟨rfl, rfl, rfl, by decide +kernel, rfl, by decide +kernel, by decide +kernel⟩
abbrev st_is_entry : Stmt := PySem.Challenge.pw_drawnsigns_k28_worlds_judged.main.body.getD 2 (.Pass ⟨0, 0, 0, 0⟩)
theorem sc_is_entry : FnScope N_is_entry ["sort", "value"] (defScope st_is_entry) := ⟨rfl, rfl, rfl, by decide +kernel, rfl, by decide +kernel, by decide +kernel⟩
abbrev st_is_row : Stmt := PySem.Challenge.pw_drawnsigns_k28_worlds_judged.main.body.getD 3 (.Pass ⟨0, 0, 0, 0⟩)
theorem sc_is_row : FnScope N_is_row ["sort", "many", "value"] (defScope st_is_row) := ⟨rfl, rfl, rfl, by decide +kernel, rfl, by decide +kernel, by decide +kernel⟩
abbrev st_is_table : Stmt := PySem.Challenge.pw_drawnsigns_k28_worlds_judged.main.body.getD 4 (.Pass ⟨0, 0, 0, 0⟩)
theorem sc_is_table : FnScope N_is_table ["table", "sizes", "value"] (defScope st_is_table) := ⟨rfl, rfl, rfl, by decide +kernel, rfl, by decide +kernel, by decide +kernel⟩
abbrev st_is_world : Stmt := PySem.Challenge.pw_drawnsigns_k28_worlds_judged.main.body.getD 5 (.Pass ⟨0, 0, 0, 0⟩)
theorem sc_is_world : FnScope N_is_world ["told", "value"] (defScope st_is_world) := ⟨rfl, rfl, rfl, by decide +kernel, rfl, by decide +kernel, by decide +kernel⟩
abbrev st_judge_world : Stmt := PySem.Challenge.pw_drawnsigns_k28_worlds_judged.main.body.getD 7 (.Pass ⟨0, 0, 0, 0⟩)
theorem sc_judge_world : FnScope N_judge_world ["told", "value"] (defScope st_judge_world) := ⟨rfl, rfl, rfl, by decide +kernel, rfl, by decide +kernel, by decide +kernel⟩
abbrev st__law_open_cells : Stmt := PySem.Challenge.pw_drawnsigns_k28_worlds_judged.main.body.getD 9 (.Pass ⟨0, 0, 0, 0⟩)
theorem sc__law_open_cells : FnScope N__law_open_cells ["script"] (defScope st__law_open_cells) := ⟨rfl, rfl, rfl, by decide +kernel, rfl, by decide +kernel, by decide +kernel⟩
abbrev st__law_pick : Stmt := PySem.Challenge.pw_drawnsigns_k28_worlds_judged.main.body.getD 10 (.Pass ⟨0, 0, 0, 0⟩)
theorem sc__law_pick : FnScope N__law_pick ["source", "most"] (defScope st__law_pick) := ⟨rfl, rfl, rfl, by decide +kernel, rfl, by decide +kernel, by decide +kernel⟩
abbrev st__law_of : Stmt := PySem.Challenge.pw_drawnsigns_k28_worlds_judged.main.body.getD 11 (.Pass ⟨0, 0, 0, 0⟩)
theorem sc__law_of : FnScope N__law_of ["source", "some"] (defScope st__law_of) := ⟨rfl, rfl, rfl, by decide +kernel, rfl, by decide +kernel, by decide +kernel⟩
abbrev st__law_told : Stmt := PySem.Challenge.pw_drawnsigns_k28_worlds_judged.main.body.getD 12 (.Pass ⟨0, 0, 0, 0⟩)
theorem sc__law_told : FnScope N__law_told ["source"] (defScope st__law_told) := ⟨rfl, rfl, rfl, by decide +kernel, rfl, by decide +kernel, by decide +kernel⟩
abbrev st__law_cells : Stmt := PySem.Challenge.pw_drawnsigns_k28_worlds_judged.main.body.getD 13 (.Pass ⟨0, 0, 0, 0⟩)
theorem sc__law_cells : FnScope N__law_cells ["told", "sizes"] (defScope st__law_cells) := ⟨rfl, rfl, rfl, by decide +kernel, rfl, by decide +kernel, by decide +kernel⟩
abbrev st__law_world_of : Stmt := PySem.Challenge.pw_drawnsigns_k28_worlds_judged.main.body.getD 14 (.Pass ⟨0, 0, 0, 0⟩)
theorem sc__law_world_of : FnScope N__law_world_of ["told", "sizes", "known"] (defScope st__law_world_of) := ⟨rfl, rfl, rfl, by decide +kernel, rfl, by decide +kernel, by decide +kernel⟩
abbrev st__law_world : Stmt := PySem.Challenge.pw_drawnsigns_k28_worlds_judged.main.body.getD 15 (.Pass ⟨0, 0, 0, 0⟩)
theorem sc__law_world : FnScope N__law_world ["source", "told", "most"] (defScope st__law_world) := ⟨rfl, rfl, rfl, by decide +kernel, rfl, by decide +kernel, by decide +kernel⟩
abbrev st__law_bent : Stmt := PySem.Challenge.pw_drawnsigns_k28_worlds_judged.main.body.getD 16 (.Pass ⟨0, 0, 0, 0⟩)
theorem sc__law_bent : FnScope N__law_bent ["source", "value", "odd"] (defScope st__law_bent) := ⟨rfl, rfl, rfl, by decide +kernel, rfl, by decide +kernel, by decide +kernel⟩
abbrev st__law_is_int : Stmt := PySem.Challenge.pw_drawnsigns_k28_worlds_judged.main.body.getD 17 (.Pass ⟨0, 0, 0, 0⟩)
theorem sc__law_is_int : FnScope N__law_is_int ["value"] (defScope st__law_is_int) := ⟨rfl, rfl, rfl, by decide +kernel, rfl, by decide +kernel, by decide +kernel⟩
abbrev st__law_is_row : Stmt := PySem.Challenge.pw_drawnsigns_k28_worlds_judged.main.body.getD 18 (.Pass ⟨0, 0, 0, 0⟩)
theorem sc__law_is_row : FnScope N__law_is_row ["sort", "many", "value"] (defScope st__law_is_row) := ⟨rfl, rfl, rfl, by decide +kernel, rfl, by decide +kernel, by decide +kernel⟩
abbrev st__law_is_table : Stmt := PySem.Challenge.pw_drawnsigns_k28_worlds_judged.main.body.getD 19 (.Pass ⟨0, 0, 0, 0⟩)
theorem sc__law_is_table : FnScope N__law_is_table ["table", "sizes", "value"] (defScope st__law_is_table) := ⟨rfl, rfl, rfl, by decide +kernel, rfl, by decide +kernel, by decide +kernel⟩
abbrev st__law_fault : Stmt := PySem.Challenge.pw_drawnsigns_k28_worlds_judged.main.body.getD 20 (.Pass ⟨0, 0, 0, 0⟩)
theorem sc__law_fault : FnScope N__law_fault ["told", "value"] (defScope st__law_fault) := ⟨rfl, rfl, rfl, by decide +kernel, rfl, by decide +kernel, by decide +kernel⟩
abbrev st_law : Stmt := PySem.Challenge.pw_drawnsigns_k28_worlds_judged.main.body.getD 21 (.Pass ⟨0, 0, 0, 0⟩)
theorem sc_law : FnScope N_law ["script"] (defScope st_law) := ⟨rfl, rfl, rfl, by decide +kernel, rfl, by decide +kernel, by decide +kernel⟩
section
variable {P : Program} {w : World} {K : PySem.W.Frag} {mg : Str → Option Value} {base : Heap} {f : Addr} {fd : FuncData}
theorem ok__law_pick (F : Fun K "_law_pick" "_law_pick" st__law_pick f fd) (B : Blts mg) : FG P w K mg base 1 f fd ["source", "most"] (spS K w pm__law_pick) := by
  refine fg_of F sc__law_pick (fun vs H Q E ⟨_, _, ds, R, e, _, rf, ⟨m, em, _⟩, _⟩ => by rw [e, List.length_cons, rf.len, em]; rfl) fun cdv A outer s H vs Q hr hG h => ?_
  obtain ⟨sr, vr, ds, R, rfl, so, rf, ⟨m, rfl, h1, h2, hR⟩, kk⟩ := h
  cases rf with
  | cons r1 r2 =>
  cases r2
  cases r1
  have hu := hr.units
  have hu1 : (A.deeper (envOfC "_law_pick" (defScope st__law_pick) s.heap.objs.size f cdv)).units + 1 < cLine := by omega
  have fin : ∀ {H' : Hp} {cs : List Int} {l mm t : Int} (n : Int), SAt H H' sr cs l mm t → 0 ≤ n → n < m → Q (.int n) H' := fun n S a b => kk _ _ _ (hR n a b) S.same S.ok (.int n)
  refine ⟨_, pss_cons (ps_if (pt_cmpR op_lt (pv 1) pe_int (nomark _)) (pss_one (ps_ret pe_int)) pss_nil)
    (pss_cons (ps_set (i := 2) sc__law_pick.nd rfl (.inl rfl) (pe_dget hu1 (pv 0) pe_str (fun _ _ => rfl)))
    (pss_cons (ps_while PassesOwn.never (PW.pt (pw_and (pt_cmpR op_lt (pe_dget hu1 (pv 0) pe_str (fun _ _ => rfl)) pe_int (nomark _)) (pw_and1 (pt_cmpR op_gt (pe_callB call_len_seq (by rfl) B.len bt_len (pa_cons (pv 2) pa_nil)) pe_int (nomark _)))))
      (pss_one (ps_dput hu1 (pv 0) pe_str (pe_bm0 PySem.F.plainAttrs_list PySem.F.slot_list_pop PySem.F.type_list_pop mt_pop (pv 2)) (by rfl))))
    (pss_cons (ps_set (i := 3) sc__law_pick.nd rfl (.inl rfl) (pe_dget hu1 (pv 0) pe_str (fun _ _ => rfl)))
    (pss_cons (ps_if (pt_cmpR op_gt (pv 3) pe_int (nomark _)) (pss_cons (ps_dput hu1 (pv 0) pe_str (pe_op op_fdiv (pv 3) (pv 1)) (by rfl)) (pss_one (ps_ret (pe_op op_mod (pe_callTy call_int1 (by rfl) B.int bt_int (pa_cons (pv 3) pa_nil)) (pv 1))))) pss_nil)
    (pss_cons (ps_dput hu1 (pv 0) pe_str (pe_op op_add (pe_dget hu1 (pv 0) pe_str (fun _ _ => rfl)) pe_int) (by rfl))
    (pss_cons (ps_set (i := 4) sc__law_pick.nd rfl (.inl rfl) (pe_dget hu1 (pv 0) pe_str (fun _ _ => rfl)))
    (pss_cons (ps_set (i := 5) sc__law_pick.nd rfl (.inl rfl) (pe_op op_mod (pe_callTy call_int1 (by rfl) B.int bt_int (pa_cons (pe_op op_add (pe_dget hu1 (pv 0) pe_str (fun _ _ => rfl)) (pe_op op_mul (pv 4) pe_int)) pa_nil)) pe_int))
    (pss_cons (ps_set (i := 5) sc__law_pick.nd rfl (.inl rfl) (pe_op op_mod (pe_callTy call_int1 (by rfl) B.int bt_int (pa_cons (pe_op op_add (pe_op op_mul (pv 5) (pv 5)) (pe_op op_mul (pv 4) pe_int)) pa_nil)) pe_int))
    (pss_one (ps_ret (pe_op op_mod (pe_callTy call_int1 (by rfl) B.int bt_int (pa_cons (pe_op op_fdiv (pv 5) pe_int) pa_nil)) (pv 1)))))))))))), ?_⟩
  obtain ⟨cs, l, mm, t, S⟩ := SAt.of so
  refine ⟨.int m, rfl, m, 2, rfl, rfl, _, rfl, ite2 (fun e => ?_) (fun e => ?_)⟩
  · exact fin 0 S (by decide) (by omega)
  refine ⟨.ref sr.d, rfl, sr.d, _, rfl, S.getC, ?_⟩
  refine (?main : (∀ (H2 : Hp) (cs : List Int) (l mm t : Int), SAt H H2 sr cs l mm t → (?rest : Hp → Prop) H2) → _) ?aft
  case main =>
    intro aft
    refine ⟨fun k σ H' => ∃ cs l mm t, σ = [some (.ref sr.d), some (.int m), some (.ref sr.c), none, none, none] ∧ SAt H H' sr cs l mm t ∧ k = cs.length, ⟨_, cs, l, mm, t, rfl, S, rfl⟩, ?_⟩
    rintro k σ H1 ⟨cs, l, mm, t, rfl, S, rfl⟩
    refine ⟨.ref sr.d, rfl, sr.d, _, rfl, S.getL, l, 2, rfl, rfl, _, rfl, ite2 (fun _ => ?_) (fun _ => by dsimp only; rw [if_neg Bool.false_ne_true]; exact aft _ _ _ _ _ S)⟩
    refine ⟨.ref sr.c, rfl, sr.c, cs.map V.int, rfl, .inl (.inl (.inl S.c)), _, 0, rfl, rfl, _, rfl, ite2 (fun e => ?_) (fun _ => by exact aft _ _ _ _ _ S)⟩
    have hl : 0 < cs.length := by
      have := of_decide_eq_true e
      rw [List.length_map] at this
      omega
    have hy : (cs.map V.int)[(cs.map V.int).length - 1]? = some (.int (cs.getLast (List.ne_nil_of_length_pos hl))) := by
      rw [List.length_map, List.getElem?_map, List.getElem?_eq_getElem (by omega), List.getLast_eq_getElem]
      rfl
    refine ⟨_, fun σ' H' h => ⟨cs.length - 1, by omega, h⟩, .ref sr.c, rfl, .inl ⟨rfl, _, .inl (.inl S.c)⟩, sr.c, _, _, rfl, rfl, S.c, hy, ?_⟩
    have S2 := S.putC (cs' := cs.dropLast)
    rw [← List.map_dropLast]
    exact ⟨.ref sr.d, rfl, sr.d, _, rfl, S2.setL _, cs.dropLast, _, mm, t, rfl, S2.putD, by rw [List.length_dropLast]⟩
  case aft =>
    intro H2 cs l mm t S
    refine ⟨.ref sr.d, rfl, sr.d, _, rfl, S.getL, ?_⟩
    refine ⟨.int l, rfl, l, 1, rfl, rfl, _, rfl, ite2 (fun e => ?_) (fun e => ?_)⟩
    · have hm := mod_at (a := l) (m := m) (by omega)
      exact ⟨.int l, rfl, .int m, rfl, l, m, rfl, rfl, ⟨by omega, h2⟩, .ref sr.d, rfl, sr.d, _, rfl, S.setL _, .int l, rfl, .inl ⟨l, rfl, .int m, rfl, l, m, rfl, rfl, by omega, fin _ S.putD hm.1 hm.2⟩⟩
    refine ⟨.ref sr.d, rfl, sr.d, _, rfl, S.getT, t, 1, rfl, rfl, .ref sr.d, rfl, sr.d, _, rfl, S.setT _, ?_⟩
    have S3 : SAt H (upd H2 sr.d (srcD sr.c l mm (t + 1))) sr cs l mm (t + 1) := S.putD
    refine ⟨.ref sr.d, rfl, sr.d, _, rfl, S3.getT, ?_⟩
    refine ⟨.ref sr.d, rfl, sr.d, _, rfl, S3.getM, .int (t + 1), rfl, t + 1, 104729, rfl, rfl, .inr ⟨by decide, by decide⟩, mm, _, rfl, rfl, .inl ⟨_, rfl, _, _, rfl, rfl, show (0 : Int) < 998244353 by decide, ?_⟩⟩
    obtain ⟨a, ha⟩ : ∃ a, a = (mm + (t + 1) * 104729) % 998244353 := ⟨_, rfl⟩
    have b1 := mod_at (a := mm + (t + 1) * 104729) (m := 998244353) (by decide)
    rw [← ha] at b1
    dsimp only
    rw [← ha]
    refine ⟨.int a, rfl, .int a, rfl, a, a, rfl, rfl, .inl ⟨by omega, by omega⟩, .int (t + 1), rfl, t + 1, 17, rfl, rfl, .inr ⟨by decide, by decide⟩, _, _, rfl, rfl, .inl ⟨_, rfl, _, _, rfl, rfl, show (0 : Int) < 2147483647 by decide, ?_⟩⟩
    dsimp only
    generalize (a * a + (t + 1) * 17) % 2147483647 = b
    have hm := mod_at (a := b / 16) (m := m) (by omega)
    exact ⟨.int b, rfl, b, 16, rfl, rfl, ⟨by decide, by decide⟩, .inl ⟨_, rfl, .int m, rfl, _, m, rfl, rfl, by omega, fin _ S3 hm.1 hm.2⟩⟩
theorem ok__law_open_cells (F : Fun K "_law_open_cells" "_law_open_cells" st__law_open_cells f fd) (B : Blts mg) : FG P w K mg base 1 f fd ["script"] (spOpen K) := by
  refine fg_of F sc__law_open_cells (fun vs H Q E ⟨_, _, e, _⟩ => by rw [e]; rfl) fun cdv A outer s H vs Q hr hG h => ?_
  obtain ⟨a, ns, rfl, hS, hl, kk⟩ := h
  have hu := hr.units
  refine ⟨_, pss_cons (ps_set (i := 1) sc__law_open_cells.nd rfl (.inl rfl) pe_int)
    (pss_cons (ps_for PassesOwn.never rfl (pi_list (pv 0)) (pg_name (i := 2) sc__law_open_cells.nd rfl (.inl rfl))
      (pss_one (ps_set (i := 1) sc__law_open_cells.nd rfl (.inl rfl) (pe_op op_mod (pe_callTy call_int1 (by rfl) B.int bt_int (pa_cons (pe_op op_add (pe_op op_add (pe_op op_mul (pv 1) pe_int) (pe_op op_mul (pv 2) pe_int)) pe_int) pa_nil)) pe_int))))
    (pss_cons (ps_setLc (i := 3) (own := [("cell", 2)]) rfl sc__law_open_cells.nd (by rfl) (by rfl) (sw_true rfl rfl rfl (by decide +kernel)) (pi_list (pv 0)) (blkOk_by (own := [("cell", 2)]) (N := N__law_open_cells) (sc := defScope st__law_open_cells) (by decide +kernel))
        (fun _ _ _ _ _ => pg_name (i := 2) sc__law_open_cells.nd rfl (.inl rfl)) (fun _ _ _ _ _ => pts_nil) (fun _ _ _ _ _ => pe_callB call_abs (by rfl) B.abs bt_abs (pa_cons (pv 2) pa_nil)))
    (pss_one (ps_ret (pe_disp (pps_cons pe_str (pe_revL (pv 3)) (pps_cons pe_str pe_int (pps_cons pe_str (pv 1) (pps_cons pe_str pe_int pps_nil)))) (by rfl) (by rfl) (by decide) (by decide)))))), ?_⟩
  refine ⟨.ref a, rfl, a, rfl, ⟨_, hS⟩, ?_⟩
  refine ⟨fun i m σ H' => m = ns.length - i ∧ i ≤ ns.length ∧ H' = H ∧ ∃ x y, σ = [some (.ref a), some (.int x), y, none], ⟨_, rfl, Nat.zero_le _, rfl, 11, none, rfl⟩, ?_⟩
  rintro i m σ H' ⟨rfl, hi, rfl, x, y, rfl⟩
  by_cases hlt : i < ns.length
  · have g : (ns.map V.int)[i]? = some (.int ns[i]) := by
      rw [List.getElem?_map, List.getElem?_eq_getElem hlt]
      rfl
    refine .inr ⟨⟨_, _, hS, g⟩, fun σ' H2 => H2 = H' ∧ ∃ x y, σ' = [some (.ref a), some (.int x), y, none], fun σ' H2 ⟨e1, e2⟩ => ⟨ns.length - (i + 1), by omega, rfl, hlt, e1, e2⟩, fun v H2 hy => ?_⟩
    obtain ⟨rfl, fv⟩ := hy
    have ev : v = .int ns[i] := Option.some.inj ((fv _ hS).symm.trans g)
    subst ev
    exact ⟨.int x, rfl, x, 69069, rfl, rfl, .inr ⟨by decide, by decide⟩, .int ns[i], rfl, ns[i], 31, rfl, rfl, .inr ⟨by decide, by decide⟩, _, _, rfl, rfl, _, 5, rfl, rfl, .inl ⟨_, rfl, _, _, rfl, rfl, show (0 : Int) < 2147483629 by decide, rfl, _, _, rfl⟩⟩
  · refine .inl ⟨⟨_, hS, by rw [List.length_map]; omega⟩, ?_⟩
    refine ⟨.ref a, rfl, a, rfl, ⟨_, hS⟩, fun D hD => ?_⟩
    have absL : ∀ i (h : i < ns.length), ((ns.take i).map fun n => V.int (if n < 0 then -n else n)) ++ [V.int (if ns[i] < 0 then -ns[i] else ns[i])] = (ns.take (i + 1)).map fun n => V.int (if n < 0 then -n else n) := fun i h => by
      rw [List.take_add_one, List.getElem?_eq_getElem h, List.map_append]
      rfl
    have sm : ∀ o, Same H' (upd H' D o) := fun o => same_upd hD
    refine lc_list (xs := ns.map V.int) (fun i H2 => H2 = upd H' D (.lst ((ns.take i).map fun n => V.int (if n < 0 then -n else n)))) rfl (fun i H2 _ e => by rw [e]; exact (sm _).seq hS) (fun i v H2 hv e => ?_) (fun H2 e => ?_)
    · subst e
      rw [List.getElem?_map] at hv
      cases hn : ns[i]? with
      | none => rw [hn] at hv; cases hv
      | some n =>
        rw [hn] at hv
        cases hv
        obtain ⟨hi2, en⟩ := List.getElem?_eq_some_iff.mp hn
        refine ⟨rfl, ?_⟩
        rw [show ((tYes : TT) = fun σ H Q => Q true H) from rfl]
        dsimp only
        rw [if_pos rfl]
        refine ⟨_, rfl, n, rfl, _, upd_same, ?_, ?_⟩
        · rw [List.length_map, List.length_take]
          exact Nat.lt_of_le_of_lt (Nat.min_le_right _ _) (Nat.lt_of_le_of_lt hl (by decide))
        · rw [L2.upd_upd, ← en, absL i hi2]
    · intro p hp
      have hp0 : p ≠ D := fun z => by rw [z, e, upd_same] at hp; cases hp
      have hD2 : (upd H2 p (.dK [])) D = some (.lst ((ns.take (ns.map V.int).length).map fun n => V.int (if n < 0 then -n else n))) := by rw [upd_ne (Ne.symm hp0), e, upd_same]
      refine ⟨.ref D, rfl, D, _, rfl, .inl (.inl hD2), fun c hc => ⟨.int x, rfl, ?_⟩⟩
      have hcp : c ≠ p := fun z => by rw [z, upd_same] at hc; cases hc
      refine ⟨by rw [upd_ne (Ne.symm hcp)]; exact upd_same, [(.inr "cells", .ref c), (.inr "left", .int 1), (.inr "mixed", .int x), (.inr "turn", .int 0)], rfl, Nat.le_of_ble_eq_true rfl, ?_⟩
      refine kk ⟨p, c⟩ _ ⟨Ne.symm hcp, ((ns.take (ns.map V.int).length).map fun n => if n < 0 then -n else n).reverse, 1, x, 0, upd_same, ?_⟩
      show (upd _ p _) c = _
      rw [upd_ne hcp, upd_same, List.map_reverse, List.map_map]
      rfl
end
section
variable {P : Program} {w : World} {K : PySem.W.Frag} {mg : Str → Option Value} {base : Heap} {f : Addr} {fd : FuncData}
theorem ok_is_integer (F : Fun K "is_integer" "is_integer" st_is_integer f fd) (B : Blts mg) : FG P w K mg base 1 f fd ["value"] (spP K w pm_is_integer) :=
  FG.pure (ts_is_integer) F sc_is_integer (fun cdv A outer s H hr hG => (ds_one (ds_ret (DE.x (de_and (de_isi (de_var 0) (by rfl) B.isinst (pe_bltn (by rfl) B.int bt_int rfl) (by decide +kernel)) (de_one (de_not (de_isi (de_var 0) (by rfl) B.isinst (pe_bltn (by rfl) B.bool bt_bool rfl) (by decide +kernel))))))))) (ln_is_integer) (wp_is_integer)
theorem ok_is_entry (F : Fun K "is_entry" "is_entry" st_is_entry f fd) (B : Blts mg) (C_is_integer : Cal P w K mg base "is_integer" 1 ["value"] (spP K w pm_is_integer)) : FG P w K mg base 2 f fd ["sort", "value"] (spP K w pm_is_entry) :=
  FG.pure (ts_is_entry) F sc_is_entry (fun cdv A outer s H hr hG => (ds_one (ds_ret (DE.x (de_and (de_callC C_is_integer hG (hr.mono (by decide)) (by rfl) (dg_cons (DE.g (de_var 1)) dg_nil)) (de_one (de_or (de_cmp (opd_eq hr.units) (de_var 0) de_str (nomark _)) (de_one (de_cmp (opd_in (room66 hr)) (de_var 1) (de_tup (dg_cons (DE.g de_int) (dg_cons (DE.g (de_un und_neg de_int)) dg_nil))) (by with_unfolding_all rfl)))))))))) (ln_is_entry) (wp_is_entry)
theorem ok_is_row (F : Fun K "is_row" "is_row" st_is_row f fd) (B : Blts mg) (C_is_entry : Cal P w K mg base "is_entry" 2 ["sort", "value"] (spP K w pm_is_entry)) : FG P w K mg base 3 f fd ["sort", "many", "value"] (spP K w pm_is_row) :=
  FG.pure (ts_is_row) F sc_is_row (fun cdv A outer s H hr hG => (ds_one (ds_ret (DE.x (de_and (de_isi (de_var 2) (by rfl) B.isinst (pe_bltn (by rfl) B.tuple bt_tuple rfl) (by decide +kernel)) (de_and (de_cmp (opd_eq hr.units) (de_callB cd_len (by rfl) B.len bt_len (da_cons (de_var 2) da_nil)) (de_var 1) (nomark _)) (de_one (de_callB (cd_all rfl) (by rfl) B.all bt_all (da_cons (PE.mono (pe_lc (own := [("x", 3)]) rfl sc_is_row.nd (di_seq (DE.g (de_var 2))) (blkOk_by (own := [("x", 3)]) (N := N_is_row) (sc := defScope st_is_row) (by decide +kernel)) (fun _ _ _ _ _ => (dt_name sc_is_row.nd rfl (.inl rfl))) (fun _ _ _ _ _ => dts_yes) (fun _ _ _ _ _ => (DE.g (de_callC C_is_entry hG (hr.mono (by decide)) (by rfl) (dg_cons (DE.g (de_var 0)) (dg_cons (DE.g (de_var 3)) dg_nil)))))) fun _ _ _ h => lc_lE (by decide) h) da_nil))))))))) (ln_is_row) (wp_is_row)
theorem ok_is_table (F : Fun K "is_table" "is_table" st_is_table f fd) (B : Blts mg) (C_is_row : Cal P w K mg base "is_row" 3 ["sort", "many", "value"] (spP K w pm_is_row)) : FG P w K mg base 4 f fd ["table", "sizes", "value"] (spP K w pm_is_table) :=
  FG.pure (ts_is_table) F sc_is_table (fun cdv A outer s H hr hG => (ds_cons (ds_asg (ps_asg (DE.g (de_var 0)) (dt_tup (pg_tup rfl (dts_cons (dt_name sc_is_table.nd rfl (.inl rfl)) (dts_cons (dt_name sc_is_table.nd rfl (.inr rfl)) (dts_cons (dt_name sc_is_table.nd rfl (.inr rfl)) dts_nil)))))))
    (ds_cons (ds_if (db_cmp (opd_eq hr.units) (de_callB cd_len (by rfl) B.len bt_len (da_cons (de_var 5) da_nil)) de_int (nomark _)) (ds_one (ds_ret (DE.x (de_callC C_is_row hG (hr.mono (by decide)) (by rfl) (dg_cons (DE.g (de_var 4)) (dg_cons (DE.g (de_ix ixd_seq (de_var 1) (de_ix ixd_seq (de_var 5) de_int (fun _ _ => rfl)) (fun _ _ => rfl))) (dg_cons (DE.g (de_var 2)) dg_nil))))))) ds_nil)
    (ds_cons (ds_if (PW.pt (dw_or (db_not (db_val (de_isi (de_var 2) (by rfl) B.isinst (pe_bltn (by rfl) B.tuple bt_tuple rfl) (by decide +kernel)))) (dw_or1 (db_cmp (opd_ne hr.units) (de_callB cd_len (by rfl) B.len bt_len (da_cons (de_var 2) da_nil)) (de_ix ixd_seq (de_var 1) (de_ix ixd_seq (de_var 5) de_int (fun _ _ => rfl)) (fun _ _ => rfl)) (nomark _))))) (ds_one (ds_ret (DE.x de_bl))) ds_nil)
    (ds_one (ds_ret (DE.x (de_callB (cd_all rfl) (by rfl) B.all bt_all (da_cons (PE.mono (pe_lc (own := [("row", 6)]) rfl sc_is_table.nd (di_seq (DE.g (de_var 2))) (blkOk_by (own := [("row", 6)]) (N := N_is_table) (sc := defScope st_is_table) (by decide +kernel)) (fun _ _ _ _ _ => (dt_name sc_is_table.nd rfl (.inl rfl))) (fun _ _ _ _ _ => dts_yes) (fun _ _ _ _ _ => (DE.g (de_callC C_is_row hG (hr.mono (by decide)) (by rfl) (dg_cons (DE.g (de_var 4)) (dg_cons (DE.g (de_ix ixd_seq (de_var 1) (de_ix ixd_seq (de_var 5) de_int (fun _ _ => rfl)) (fun _ _ => rfl))) (dg_cons (DE.g (de_var 6)) dg_nil))))))) fun _ _ _ h => lc_lE (by decide) h) da_nil))))))))) (ln_is_table) (wp_is_table)
theorem ok_is_world (F : Fun K "is_world" "is_world" st_is_world f fd) (B : Blts mg) (C_is_integer : Cal P w K mg base "is_integer" 1 ["value"] (spP K w pm_is_integer)) (C_is_table : Cal P w K mg base "is_table" 4 ["table", "sizes", "value"] (spP K w pm_is_table)) : FG P w K mg base 5 f fd ["told", "value"] (spP K w pm_is_world) :=
  FG.pure (ts_is_world) F sc_is_world (fun cdv A outer s H hr hG => (ds_cons (ds_if (PW.pt (dw_or (db_not (db_val (de_isi (de_var 1) (by rfl) B.isinst (pe_bltn (by rfl) B.tuple bt_tuple rfl) (by decide +kernel)))) (dw_or (db_cmp (opd_ne hr.units) (de_callB cd_len (by rfl) B.len bt_len (da_cons (de_var 1) da_nil)) de_int (nomark _)) (dw_or1 (db_not (db_val (de_callB (cd_all rfl) (by rfl) B.all bt_all (da_cons (PE.mono (pe_lc (own := [("part", 4)]) rfl sc_is_world.nd (di_seq (DE.g (de_var 1))) (blkOk_by (own := [("part", 4)]) (N := N_is_world) (sc := defScope st_is_world) (by decide +kernel)) (fun _ _ _ _ _ => (dt_name sc_is_world.nd rfl (.inl rfl))) (fun _ _ _ _ _ => dts_yes) (fun _ _ _ _ _ => (DE.g (de_isi (de_var 4) (by rfl) B.isinst (pe_bltn (by rfl) B.tuple bt_tuple rfl) (by decide +kernel))))) fun _ _ _ h => lc_lE (by decide) h) da_nil)))))))) (ds_one (ds_ret (DE.x de_bl))) ds_nil)
    (ds_cons (ds_asg (ps_asg (DE.g (de_var 1)) (dt_tup (pg_tup rfl (dts_cons (dt_name sc_is_world.nd rfl (.inr rfl)) (dts_cons (dt_name sc_is_world.nd rfl (.inl rfl)) dts_nil))))))
    (ds_cons (ds_if (PW.pt (dw_or (db_cmp (opd_ne hr.units) (de_callB cd_len (by rfl) B.len bt_len (da_cons (de_var 2) da_nil)) (de_callB cd_len (by rfl) B.len bt_len (da_cons (de_ix ixd_seq (de_var 0) de_int (fun _ _ => rfl)) da_nil)) (nomark _)) (dw_or1 (db_not (db_val (de_callB (cd_all rfl) (by rfl) B.all bt_all (da_cons (PE.mono (pe_lc (own := [("size", 5)]) rfl sc_is_world.nd (di_seq (DE.g (de_var 2))) (blkOk_by (own := [("size", 5)]) (N := N_is_world) (sc := defScope st_is_world) (by decide +kernel)) (fun _ _ _ _ _ => (dt_name sc_is_world.nd rfl (.inl rfl))) (fun _ _ _ _ _ => dts_yes) (fun _ _ _ _ _ => (DE.g (de_and (de_callC C_is_integer hG (hr.mono (by decide)) (by rfl) (dg_cons (DE.g (de_var 5)) dg_nil)) (de_one (de_cmp opd_gtI (de_var 5) de_int (nomark _))))))) fun _ _ _ h => lc_lE (by decide) h) da_nil))))))) (ds_one (ds_ret (DE.x de_bl))) ds_nil)
    (ds_one (ds_ret (DE.x (de_and (de_cmp (opd_eq hr.units) (de_callB cd_len (by rfl) B.len bt_len (da_cons (de_var 3) da_nil)) (de_callB cd_len (by rfl) B.len bt_len (da_cons (de_ix ixd_seq (de_var 0) de_int (fun _ _ => rfl)) da_nil)) (nomark _)) (de_one (de_callB (cd_all rfl) (by rfl) B.all bt_all (da_cons (PE.mono (pe_lc (own := [("one", 6), ("row", 7)]) rfl sc_is_world.nd (di_zip (by rfl) B.zip (dg_cons (DE.g (de_ix ixd_seq (de_var 0) de_int (fun _ _ => rfl))) (dg_cons (DE.g (de_var 3)) dg_nil))) (blkOk_by (own := [("one", 6), ("row", 7)]) (N := N_is_world) (sc := defScope st_is_world) (by decide +kernel)) (fun _ _ _ _ _ => (dt_tup (pg_tup rfl (dts_cons (dt_name sc_is_world.nd rfl (.inl rfl)) (dts_cons (dt_name sc_is_world.nd rfl (.inl rfl)) dts_nil))))) (fun _ _ _ _ _ => dts_yes) (fun _ _ _ _ _ => (DE.g (de_callC C_is_table hG (hr.mono (by decide)) (by rfl) (dg_cons (DE.g (de_var 6)) (dg_cons (DE.g (de_var 2)) (dg_cons (DE.g (de_var 7)) dg_nil))))))) fun _ _ _ h => lc_lE (by decide) h) da_nil))))))))))) (ln_is_world) (wp_is_world)
theorem ok_judge_world (F : Fun K "judge_world" "judge_world" st_judge_world f fd) (B : Blts mg) (C_is_integer : Cal P w K mg base "is_integer" 1 ["value"] (spP K w pm_is_integer)) (C_is_table : Cal P w K mg base "is_table" 4 ["table", "sizes", "value"] (spP K w pm_is_table)) : FG P w K mg base 5 f fd ["told", "value"] (spP K w pm_judge_world) :=
  FG.pure (ts_judge_world) F sc_judge_world (fun cdv A outer s H hr hG => (ds_cons (ds_if (PW.pt (dw_or (db_not (db_val (de_isi (de_var 1) (by rfl) B.isinst (pe_bltn (by rfl) B.tuple bt_tuple rfl) (by decide +kernel)))) (dw_or (db_cmp (opd_ne hr.units) (de_callB cd_len (by rfl) B.len bt_len (da_cons (de_var 1) da_nil)) de_int (nomark _)) (dw_or1 (db_not (db_val (de_callB (cd_all rfl) (by rfl) B.all bt_all (da_cons (PE.mono (pe_lc (own := [("part", 9)]) rfl sc_judge_world.nd (di_seq (DE.g (de_var 1))) (blkOk_by (own := [("part", 9)]) (N := N_judge_world) (sc := defScope st_judge_world) (by decide +kernel)) (fun _ _ _ _ _ => (dt_name sc_judge_world.nd rfl (.inl rfl))) (fun _ _ _ _ _ => dts_yes) (fun _ _ _ _ _ => (DE.g (de_isi (de_var 9) (by rfl) B.isinst (pe_bltn (by rfl) B.tuple bt_tuple rfl) (by decide +kernel))))) fun _ _ _ h => lc_lE (by decide) h) da_nil)))))))) (ds_one (ds_ret (DE.x (de_tup (dg_cons (DE.g de_str) dg_nil))))) ds_nil)
    (ds_cons (ds_asg (ps_asg (DE.g (de_var 1)) (dt_tup (pg_tup rfl (dts_cons (dt_name sc_judge_world.nd rfl (.inr rfl)) (dts_cons (dt_name sc_judge_world.nd rfl (.inl rfl)) dts_nil))))))
    (ds_cons (ds_if (db_cmp (opd_ne hr.units) (de_callB cd_len (by rfl) B.len bt_len (da_cons (de_var 3) da_nil)) (de_callB cd_len (by rfl) B.len bt_len (da_cons (de_ix ixd_seq (de_var 0) de_int (fun _ _ => rfl)) da_nil)) (nomark _)) (ds_one (ds_ret (DE.x (de_tup (dg_cons (DE.g de_str) dg_nil))))) ds_nil)
    (ds_cons (ds_for (ps_for PassesOwn.never rfl (di_enum (by rfl) B.enumerate (DE.g (de_var 3))) (dt_tup (pg_tup rfl (dts_cons (dt_name sc_judge_world.nd rfl (.inl rfl)) (dts_cons (dt_name sc_judge_world.nd rfl (.inl rfl)) dts_nil)))) (ds_one (ds_if (PW.pt (dw_or (db_not (db_val (de_callC C_is_integer hG (hr.mono (by decide)) (by rfl) (dg_cons (DE.g (de_var 6)) dg_nil)))) (dw_or1 (db_cmp opd_ltI (de_var 6) de_int (nomark _))))) (ds_one (ds_ret (DE.x (de_tup (dg_cons (DE.g de_str) (dg_cons (DE.g (de_var 5)) dg_nil)))))) ds_nil))))
    (ds_cons (ds_if (db_cmp (opd_ne hr.units) (de_callB cd_len (by rfl) B.len bt_len (da_cons (de_var 4) da_nil)) (de_callB cd_len (by rfl) B.len bt_len (da_cons (de_ix ixd_seq (de_var 0) de_int (fun _ _ => rfl)) da_nil)) (nomark _)) (ds_one (ds_ret (DE.x (de_tup (dg_cons (DE.g de_str) dg_nil))))) ds_nil)
    (ds_cons (ds_setLc (by decide) (ps_setLc (own := [("t", 7), ("row", 8)]) rfl sc_judge_world.nd (by rfl) (by rfl) (sw_true rfl rfl rfl (by decide +kernel)) (di_enum (by rfl) B.enumerate (DE.g (de_var 4))) (blkOk_by (own := [("t", 7), ("row", 8)]) (N := N_judge_world) (sc := defScope st_judge_world) (by decide +kernel)) (fun _ _ _ _ _ => (dt_tup (pg_tup rfl (dts_cons (dt_name sc_judge_world.nd rfl (.inl rfl)) (dts_cons (dt_name sc_judge_world.nd rfl (.inl rfl)) dts_nil))))) (fun _ _ _ _ _ => (dts_test (db_not (db_val (de_callC C_is_table hG (hr.mono (by decide)) (by rfl) (dg_cons (DE.g (de_ix ixd_seq (de_ix ixd_seq (de_var 0) de_int (fun _ _ => rfl)) (de_var 7) (fun _ _ => rfl))) (dg_cons (DE.g (de_var 3)) (dg_cons (DE.g (de_var 8)) dg_nil)))))))) (fun _ _ _ _ _ => (DE.g (de_var 7)))))
    (ds_one (ds_ret (DE.x (de_ite (db_cmp (opd_neZ hr.units) (de_var 2) (de_lst dg_nil) (nomark _)) (de_tup (dg_cons (DE.g de_str) (dg_cons (DE.g (de_ix ixd_seq (de_var 2) de_int (fun _ _ => rfl))) dg_nil))) de_non))))))))))) (ln_judge_world) (wp_judge_world)
theorem ok__law_of (F : Fun K "_law_of" "_law_of" st__law_of f fd) (B : Blts mg) (C__law_pick : Cal P w K mg base "_law_pick" 1 ["source", "most"] (spS K w pm__law_pick)) : FG P w K mg base 2 f fd ["source", "some"] (spS K w pm__law_of) :=
  FG.draw (ts__law_of) F sc__law_of (fun cdv A outer s H hr hG => (ds_one (ds_ret (DE.x (de_ix ixd_seq (de_var 1) (de_callCS C__law_pick hG (hr.mono (by decide)) (by rfl) (dg_cons (DE.g (de_var 0)) (dg_cons (DE.g (de_callB cd_len (by rfl) B.len bt_len (da_cons (de_var 1) da_nil))) dg_nil))) (fun _ _ => rfl)))))) (ln__law_of) (wp__law_of)
theorem ok__law_told (F : Fun K "_law_told" "_law_told" st__law_told f fd) (B : Blts mg) (C__law_pick : Cal P w K mg base "_law_pick" 1 ["source", "most"] (spS K w pm__law_pick)) : FG P w K mg base 2 f fd ["source"] (spS K w pm__law_told) :=
  FG.draw (ts__law_told) F sc__law_told (fun cdv A outer s H hr hG => (ds_cons (ds_set (i := 1) sc__law_told.nd rfl (.inl rfl) (DE.x (de_bin opd_add de_int (de_callCS C__law_pick hG (hr.mono (by decide)) (by rfl) (dg_cons (DE.g (de_var 0)) (dg_cons (DE.g de_int) dg_nil))))))
    (ds_cons (ds_set (i := 2) sc__law_told.nd rfl (.inl rfl) (DE.x (de_lst (dg_cons (DE.g (de_tup (dg_cons (DE.g de_str) (dg_cons (DE.g de_str) (dg_cons (DE.g (de_tup (dg_cons (DE.g (de_callCS C__law_pick hG (hr.mono (by decide)) (by rfl) (dg_cons (DE.g (de_var 0)) (dg_cons (DE.g (de_var 1)) dg_nil)))) dg_nil))) dg_nil))))) (dg_cons (DE.g (de_tup (dg_cons (DE.g de_str) (dg_cons (DE.g de_str) (dg_cons (DE.g (de_tup (dg_cons (DE.g (de_callCS C__law_pick hG (hr.mono (by decide)) (by rfl) (dg_cons (DE.g (de_var 0)) (dg_cons (DE.g (de_var 1)) dg_nil)))) dg_nil))) dg_nil))))) dg_nil)))))
    (ds_cons (ds_if (db_cmp (opd_eq hr.units) (de_callCS C__law_pick hG (hr.mono (by decide)) (by rfl) (dg_cons (DE.g (de_var 0)) (dg_cons (DE.g de_int) dg_nil))) de_int (nomark _)) (ds_one (ds_append (ps_expr (pe_bm PySem.F.plainAttrs_list PySem.F.slot_list_append PySem.F.type_list_append mt_append (pv 2) (pa_cons (DE.g (de_tup (dg_cons (DE.g de_str) (dg_cons (DE.g de_str) (dg_cons (DE.g (de_tup (dg_cons (DE.g (de_callCS C__law_pick hG (hr.mono (by decide)) (by rfl) (dg_cons (DE.g (de_var 0)) (dg_cons (DE.g (de_var 1)) dg_nil)))) (dg_cons (DE.g (de_callCS C__law_pick hG (hr.mono (by decide)) (by rfl) (dg_cons (DE.g (de_var 0)) (dg_cons (DE.g (de_var 1)) dg_nil)))) dg_nil)))) dg_nil))))) pa_nil))))) ds_nil)
    (ds_cons (ds_if (db_cmp (opd_eq hr.units) (de_callCS C__law_pick hG (hr.mono (by decide)) (by rfl) (dg_cons (DE.g (de_var 0)) (dg_cons (DE.g de_int) dg_nil))) de_int (nomark _)) (ds_one (ds_append (ps_expr (pe_bm PySem.F.plainAttrs_list PySem.F.slot_list_append PySem.F.type_list_append mt_append (pv 2) (pa_cons (DE.g (de_tup (dg_cons (DE.g de_str) (dg_cons (DE.g de_str) (dg_cons (DE.g (de_tup (dg_cons (DE.g (de_callCS C__law_pick hG (hr.mono (by decide)) (by rfl) (dg_cons (DE.g (de_var 0)) (dg_cons (DE.g (de_var 1)) dg_nil)))) (dg_cons (DE.g (de_callCS C__law_pick hG (hr.mono (by decide)) (by rfl) (dg_cons (DE.g (de_var 0)) (dg_cons (DE.g (de_var 1)) dg_nil)))) dg_nil)))) dg_nil))))) pa_nil))))) ds_nil)
    (ds_cons (ds_if (db_cmp (opd_eq hr.units) (de_callCS C__law_pick hG (hr.mono (by decide)) (by rfl) (dg_cons (DE.g (de_var 0)) (dg_cons (DE.g de_int) dg_nil))) de_int (nomark _)) (ds_one (ds_append (ps_expr (pe_bm PySem.F.plainAttrs_list PySem.F.slot_list_append PySem.F.type_list_append mt_append (pv 2) (pa_cons (DE.g (de_tup (dg_cons (DE.g de_str) (dg_cons (DE.g de_str) (dg_cons (DE.g (de_tup (dg_cons (DE.g (de_callCS C__law_pick hG (hr.mono (by decide)) (by rfl) (dg_cons (DE.g (de_var 0)) (dg_cons (DE.g (de_var 1)) dg_nil)))) dg_nil))) dg_nil))))) pa_nil))))) ds_nil)
    (ds_cons (ds_set (i := 3) sc__law_told.nd rfl (.inl rfl) (DE.x (de_callCS C__law_pick hG (hr.mono (by decide)) (by rfl) (dg_cons (DE.g (de_var 0)) (dg_cons (DE.g (de_callB cd_len (by rfl) B.len bt_len (da_cons (de_var 2) da_nil))) dg_nil)))))
    (ds_one (ds_ret (DE.x (de_tup (dg_cons (DE.g (de_slice (de_tup (dg_cons (DE.g de_str) (dg_cons (DE.g de_str) dg_nil))) do_none (do_some (de_var 1)))) (dg_cons (DE.g (de_callTy cd_tuple (by rfl) B.tuple bt_tuple (da_cons (de_bin opd_add (de_slice (de_var 2) (do_some (de_var 3)) do_none) (de_slice (de_var 2) do_none (do_some (de_var 3)))) da_nil))) dg_nil))))))))))))) (ln__law_told) (wp__law_told)
theorem ok__law_cells (F : Fun K "_law_cells" "_law_cells" st__law_cells f fd) (B : Blts mg) : FG P w K mg base 1 f fd ["told", "sizes"] (spP K w pm__law_cells) :=
  FG.pure (ts__law_cells) F sc__law_cells (fun cdv A outer s H hr hG => (ds_cons (ds_set (i := 2) sc__law_cells.nd rfl (.inl rfl) (DE.x (de_lst dg_nil)))
    (ds_cons (ds_for (ps_for PassesOwn.never rfl (di_enum (by rfl) B.enumerate (DE.g (de_ix ixd_seq (de_var 0) de_int (fun _ _ => rfl)))) (dt_tup (pg_tup rfl (dts_cons (dt_name sc__law_cells.nd rfl (.inr rfl)) (dts_cons (dt_tup (pg_tup rfl (dts_cons (dt_name sc__law_cells.nd rfl (.inl rfl)) (dts_cons (dt_name sc__law_cells.nd rfl (.inl rfl)) (dts_cons (dt_name sc__law_cells.nd rfl (.inl rfl)) dts_nil))))) dts_nil)))) (ds_one (ds_for (ps_for PassesOwn.never rfl (di_rg1 (by rfl) B.range (da_cons (de_ix ixd_seq (de_var 1) (de_ix ixd_seq (de_var 7) de_int (fun _ _ => rfl)) (fun _ _ => rfl)) da_nil)) (dt_name sc__law_cells.nd rfl (.inr rfl)) (ds_one (ds_if (db_cmp (opd_eq hr.units) (de_callB cd_len (by rfl) B.len bt_len (da_cons (de_var 7) da_nil)) de_int (nomark _)) (ds_one (ds_append (ps_expr (pe_bm PySem.F.plainAttrs_list PySem.F.slot_list_append PySem.F.type_list_append mt_append (pv 2) (pa_cons (DE.g (de_tup (dg_cons (DE.g (de_var 3)) (dg_cons (DE.g (de_tup (dg_cons (DE.g (de_var 4)) dg_nil))) dg_nil)))) pa_nil))))) (ds_one (ds_extend (ps_expr (pe_bm PySem.F.plainAttrs_list PySem.F.slot_list_extend PySem.F.type_list_extend mt_extend (pv 2) (pa_cons (PE.mono (pe_lc (own := [("j", 8)]) rfl sc__law_cells.nd (di_rg1 (by rfl) B.range (da_cons (de_ix ixd_seq (de_var 1) (de_ix ixd_seq (de_var 7) de_int (fun _ _ => rfl)) (fun _ _ => rfl)) da_nil)) (blkOk_by (own := [("j", 8)]) (N := N__law_cells) (sc := defScope st__law_cells) (by decide +kernel)) (fun _ _ _ _ _ => (dt_name sc__law_cells.nd rfl (.inl rfl))) (fun _ _ _ _ _ => dts_yes) (fun _ _ _ _ _ => (DE.g (de_tup (dg_cons (DE.g (de_var 3)) (dg_cons (DE.g (de_tup (dg_cons (DE.g (de_var 4)) (dg_cons (DE.g (de_var 8)) dg_nil)))) dg_nil)))))) fun _ _ _ h => lc_lE (by decide) h) pa_nil))))))))))))
    (ds_one (ds_ret (DE.x (de_var 2))))))) (ln__law_cells) (wp__law_cells)
theorem ok__law_world_of (F : Fun K "_law_world_of" "_law_world_of" st__law_world_of f fd) (B : Blts mg) : FG P w K mg base 1 f fd ["told", "sizes", "known"] (spP K w pm__law_world_of) :=
  FG.pure (ts__law_world_of) F sc__law_world_of (fun cdv A outer s H hr hG => (ds_cons (ds_set (i := 3) sc__law_world_of.nd rfl (.inl rfl) (DE.x (de_lst dg_nil)))
    (ds_cons (ds_for (ps_for PassesOwn.never rfl (di_enum (by rfl) B.enumerate (DE.g (de_ix ixd_seq (de_var 0) de_int (fun _ _ => rfl)))) (dt_tup (pg_tup rfl (dts_cons (dt_name sc__law_world_of.nd rfl (.inr rfl)) (dts_cons (dt_tup (pg_tup rfl (dts_cons (dt_name sc__law_world_of.nd rfl (.inl rfl)) (dts_cons (dt_name sc__law_world_of.nd rfl (.inl rfl)) (dts_cons (dt_name sc__law_world_of.nd rfl (.inl rfl)) dts_nil))))) dts_nil)))) (ds_one (ds_if (db_cmp (opd_eq hr.units) (de_callB cd_len (by rfl) B.len bt_len (da_cons (de_var 7) da_nil)) de_int (nomark _)) (ds_one (ds_append (ps_expr (pe_bm PySem.F.plainAttrs_list PySem.F.slot_list_append PySem.F.type_list_append mt_append (pv 3) (pa_cons (DE.g (de_callTy cd_tuple (by rfl) B.tuple bt_tuple (da_cons (PE.mono (pe_lc (own := [("i", 9)]) rfl sc__law_world_of.nd (di_rg1 (by rfl) B.range (da_cons (de_ix ixd_seq (de_var 1) (de_ix ixd_seq (de_var 7) de_int (fun _ _ => rfl)) (fun _ _ => rfl)) da_nil)) (blkOk_by (own := [("i", 9)]) (N := N__law_world_of) (sc := defScope st__law_world_of) (by decide +kernel)) (fun _ _ _ _ _ => (dt_name sc__law_world_of.nd rfl (.inl rfl))) (fun _ _ _ _ _ => dts_yes) (fun _ _ _ _ _ => (DE.g (de_dix hr.units (de_var 2) (de_tup (dg_cons (DE.g (de_var 4)) (dg_cons (DE.g (de_tup (dg_cons (DE.g (de_var 9)) dg_nil))) dg_nil))) (fun _ _ => rfl))))) fun _ _ _ h => lc_lE (by decide) h) da_nil))) pa_nil))))) (ds_cons (ds_set (i := 8) sc__law_world_of.nd rfl (.inl rfl) (DE.x (de_lst dg_nil)))
    (ds_cons (ds_for (ps_for PassesOwn.never rfl (di_rg1 (by rfl) B.range (da_cons (de_ix ixd_seq (de_var 1) (de_ix ixd_seq (de_var 7) de_int (fun _ _ => rfl)) (fun _ _ => rfl)) da_nil)) (dt_name sc__law_world_of.nd rfl (.inr rfl)) (ds_one (ds_append (ps_expr (pe_bm PySem.F.plainAttrs_list PySem.F.slot_list_append PySem.F.type_list_append mt_append (pv 8) (pa_cons (DE.g (de_callTy cd_tuple (by rfl) B.tuple bt_tuple (da_cons (PE.mono (pe_lc (own := [("j", 10)]) rfl sc__law_world_of.nd (di_rg1 (by rfl) B.range (da_cons (de_ix ixd_seq (de_var 1) (de_ix ixd_seq (de_var 7) de_int (fun _ _ => rfl)) (fun _ _ => rfl)) da_nil)) (blkOk_by (own := [("j", 10)]) (N := N__law_world_of) (sc := defScope st__law_world_of) (by decide +kernel)) (fun _ _ _ _ _ => (dt_name sc__law_world_of.nd rfl (.inl rfl))) (fun _ _ _ _ _ => dts_yes) (fun _ _ _ _ _ => (DE.g (de_dix hr.units (de_var 2) (de_tup (dg_cons (DE.g (de_var 4)) (dg_cons (DE.g (de_tup (dg_cons (DE.g (de_var 9)) (dg_cons (DE.g (de_var 10)) dg_nil)))) dg_nil))) (fun _ _ => rfl))))) fun _ _ _ h => lc_lE (by decide) h) da_nil))) pa_nil)))))))
    (ds_one (ds_append (ps_expr (pe_bm PySem.F.plainAttrs_list PySem.F.slot_list_append PySem.F.type_list_append mt_append (pv 3) (pa_cons (DE.g (de_callTy cd_tuple (by rfl) B.tuple bt_tuple (da_cons (de_var 8) da_nil))) pa_nil)))))))))))
    (ds_one (ds_ret (DE.x (de_tup (dg_cons (DE.g (de_callTy cd_tuple (by rfl) B.tuple bt_tuple (da_cons (de_var 1) da_nil))) (dg_cons (DE.g (de_callTy cd_tuple (by rfl) B.tuple bt_tuple (da_cons (de_var 3) da_nil))) dg_nil))))))))) (ln__law_world_of) (wp__law_world_of)
theorem ok__law_world (F : Fun K "_law_world" "_law_world" st__law_world f fd) (B : Blts mg) (C__law_pick : Cal P w K mg base "_law_pick" 1 ["source", "most"] (spS K w pm__law_pick)) (C__law_cells : Cal P w K mg base "_law_cells" 1 ["told", "sizes"] (spP K w pm__law_cells)) (C__law_of : Cal P w K mg base "_law_of" 2 ["source", "some"] (spS K w pm__law_of)) (C__law_world_of : Cal P w K mg base "_law_world_of" 1 ["told", "sizes", "known"] (spP K w pm__law_world_of)) : FG P w K mg base 3 f fd ["source", "told", "most"] (spS K w pm__law_world) :=
  FG.draw (ts__law_world) F sc__law_world (fun cdv A outer s H hr hG => (ds_cons (ds_par2 (ps_par (i := 4) (j := 5) rfl sc__law_world.nd rfl rfl (by decide) rfl rfl (pa_cons (DE.x (de_callTy cd_tuple (by rfl) B.tuple bt_tuple (da_cons (PE.mono (pe_lc (own := [("kind", 7)]) rfl sc__law_world.nd (di_seq (DE.g (de_ix ixd_seq (de_var 1) de_int (fun _ _ => rfl)))) (blkOk_by (own := [("kind", 7)]) (N := N__law_world) (sc := defScope st__law_world) (by decide +kernel)) (fun _ _ _ _ _ => (dt_name sc__law_world.nd rfl (.inl rfl))) (fun _ _ _ _ _ => dts_yes) (fun _ _ _ _ _ => (DE.g (de_bin opd_add de_int (de_callCS C__law_pick hG (hr.mono (by decide)) (by rfl) (dg_cons (DE.g (de_var 0)) (dg_cons (DE.g (de_var 2)) dg_nil))))))) fun _ _ _ h => lc_lE (by decide) h) da_nil))) (pa_cons (DE.x de_dict0) pa_nil)) (by rfl)))
    (ds_cons (ds_for (ps_for PassesOwn.never rfl (di_seq (DE.g (de_callC C__law_cells hG (hr.mono (by decide)) (by rfl) (dg_cons (DE.g (de_var 1)) (dg_cons (DE.g (de_var 4)) dg_nil))))) (dt_name sc__law_world.nd rfl (.inl rfl)) (ds_cons (ds_set (i := 6) sc__law_world.nd rfl (.inl rfl) (DE.x (de_cmp (opd_eq hr.units) (de_ix ixd_seq (de_ix ixd_seq (de_ix ixd_seq (de_var 1) de_int (fun _ _ => rfl)) (de_ix ixd_seq (de_var 3) de_int (fun _ _ => rfl)) (fun _ _ => rfl)) de_int (fun _ _ => rfl)) de_str (nomark _))))
    (ds_one (ds_put hr.units (DE.g (de_ite (db_val (de_var 6)) (de_bin opd_subI de_int (de_bin opd_mulI de_int (de_callCS C__law_pick hG (hr.mono (by decide)) (by rfl) (dg_cons (DE.g (de_var 0)) (dg_cons (DE.g de_int) dg_nil))))) (de_callCS C__law_of hG (hr.mono (by decide)) (by rfl) (dg_cons (DE.g (de_var 0)) (dg_cons (DE.g (de_lst (dg_cons (DE.g de_int) (dg_cons (DE.g de_int) (dg_cons (DE.g (de_un und_neg de_int)) (dg_cons (DE.g de_int) (dg_cons (DE.g de_int) (dg_cons (DE.g de_int) (dg_cons (DE.g (de_un und_neg de_int)) dg_nil))))))))) dg_nil))))) (pv 5) (DE.g (de_var 3)))))))
    (ds_one (ds_ret (DE.x (de_tup (dg_cons (DE.g (de_callC C__law_world_of hG (hr.mono (by decide)) (by rfl) (dg_cons (DE.g (de_var 1)) (dg_cons (DE.g (de_var 4)) (dg_cons (DE.g (de_var 5)) dg_nil))))) (dg_cons (DE.g (de_var 5)) dg_nil))))))))) (ln__law_world) (wp__law_world)
theorem ok__law_bent {n : Nat} (F : Fun K "_law_bent" "_law_bent" st__law_bent f fd) (B : Blts mg) {j : Nat} (hj : 2 ≤ j) (C__law_pick : Cal P w K mg base "_law_pick" 1 ["source", "most"] (spS K w pm__law_pick)) (C__law_of : Cal P w K mg base "_law_of" 2 ["source", "some"] (spS K w pm__law_of)) (C__law_bent : Cal P w K mg base "_law_bent" j ["source", "value", "odd"] (spS K w (pmB n))) : FG P w K mg base (j + 1) f fd ["source", "value", "odd"] (spS K w (pmB (n + 1))) :=
  FG.draw (ts__law_bent n) F sc__law_bent (fun cdv A outer s H hr hG => (ds_cons (ds_if (PW.pt (dw_and (db_val (de_isi (de_var 1) (by rfl) B.isinst (pe_bltn (by rfl) B.int bt_int rfl) (by decide +kernel))) (dw_and (db_not (db_val (de_isi (de_var 1) (by rfl) B.isinst (pe_bltn (by rfl) B.bool bt_bool rfl) (by decide +kernel)))) (dw_and1 (db_cmp opd_gtI (de_callCS C__law_pick hG (hr.mono (by omega)) (by rfl) (dg_cons (DE.g (de_var 0)) (dg_cons (DE.g de_int) dg_nil))) de_int (nomark _)))))) (ds_one (ds_ret (DE.x (de_bin opd_add (de_var 1) (de_callCS C__law_of hG (hr.mono (by omega)) (by rfl) (dg_cons (DE.g (de_var 0)) (dg_cons (DE.g (de_lst (dg_cons (DE.g de_int) (dg_cons (DE.g (de_un und_neg de_int)) (dg_cons (DE.g de_int) dg_nil))))) dg_nil))))))) ds_nil)
    (ds_cons (ds_if (PW.pt (dw_or (db_not (db_val (de_isi (de_var 1) (by rfl) B.isinst (pe_bltn (by rfl) B.tuple bt_tuple rfl) (by decide +kernel)))) (dw_or (db_cmp (opd_eqZ hr.units) (de_var 1) (de_tup dg_nil) (nomark _)) (dw_or1 (db_cmp (opd_eq hr.units) (de_callCS C__law_pick hG (hr.mono (by omega)) (by rfl) (dg_cons (DE.g (de_var 0)) (dg_cons (DE.g de_int) dg_nil))) de_int (nomark _)))))) (ds_one (ds_ret (DE.x (de_callCS C__law_of hG (hr.mono (by omega)) (by rfl) (dg_cons (DE.g (de_var 0)) (dg_cons (DE.g (de_var 2)) dg_nil)))))) ds_nil)
    (ds_cons (ds_par2 (ps_par (i := 3) (j := 4) rfl sc__law_bent.nd rfl rfl (by decide) rfl rfl (pa_cons (DE.x (de_callCS C__law_pick hG (hr.mono (by omega)) (by rfl) (dg_cons (DE.g (de_var 0)) (dg_cons (DE.g (de_callB cd_len (by rfl) B.len bt_len (da_cons (de_var 1) da_nil))) dg_nil)))) (pa_cons (DE.x (de_callCS C__law_pick hG (hr.mono (by omega)) (by rfl) (dg_cons (DE.g (de_var 0)) (dg_cons (DE.g de_int) dg_nil)))) pa_nil)) (by rfl)))
    (ds_cons (ds_if (db_cmp opd_ltI (de_var 4) de_int (nomark _)) (ds_one (ds_ret (DE.x (de_bin opd_add (de_bin opd_add (de_slice (de_var 1) do_none (do_some (de_var 3))) (de_tup (dg_cons (DE.g (de_callCS C__law_bent hG (hr.mono (by omega)) (by rfl) (dg_cons (DE.g (de_var 0)) (dg_cons (DE.g (de_ix ixd_seq (de_var 1) (de_var 3) (fun _ _ => rfl))) (dg_cons (DE.g (de_var 2)) dg_nil))))) dg_nil))) (de_slice (de_var 1) (do_some (de_bin opd_add (de_var 3) de_int)) do_none))))) ds_nil)
    (ds_one (ds_ret (DE.x (de_callCS C__law_of hG (hr.mono (by omega)) (by rfl) (dg_cons (DE.g (de_var 0)) (dg_cons (DE.g (de_lst (dg_cons (DE.g (de_bin opd_add (de_slice (de_var 1) do_none (do_some (de_var 3))) (de_slice (de_var 1) (do_some (de_bin opd_add (de_var 3) de_int)) do_none))) (dg_cons (DE.g (de_bin opd_add (de_slice (de_var 1) do_none (do_some (de_bin opd_add (de_var 3) de_int))) (de_slice (de_var 1) (do_some (de_var 3)) do_none))) (dg_cons (DE.g (de_revT (de_var 1))) (dg_cons (DE.g (de_callTy cd_list (by rfl) B.list bt_list (da_cons (de_var 1) da_nil))) dg_nil)))))) dg_nil))))))))))) (ln__law_bent n) (wp__law_bent n)
theorem ok__law_is_int (F : Fun K "_law_is_int" "_law_is_int" st__law_is_int f fd) (B : Blts mg) : FG P w K mg base 1 f fd ["value"] (spP K w pm__law_is_int) :=
  FG.pure (ts__law_is_int) F sc__law_is_int (fun cdv A outer s H hr hG => (ds_one (ds_ret (DE.x (de_and (de_isi (de_var 0) (by rfl) B.isinst (pe_bltn (by rfl) B.int bt_int rfl) (by decide +kernel)) (de_one (de_not (de_isi (de_var 0) (by rfl) B.isinst (pe_bltn (by rfl) B.bool bt_bool rfl) (by decide +kernel))))))))) (ln__law_is_int) (wp__law_is_int)
theorem ok__law_is_row (F : Fun K "_law_is_row" "_law_is_row" st__law_is_row f fd) (B : Blts mg) (C__law_is_int : Cal P w K mg base "_law_is_int" 1 ["value"] (spP K w pm__law_is_int)) : FG P w K mg base 2 f fd ["sort", "many", "value"] (spP K w pm__law_is_row) :=
  FG.pure (ts__law_is_row) F sc__law_is_row (fun cdv A outer s H hr hG => (ds_cons (ds_if (PW.pt (dw_or (db_not (db_val (de_isi (de_var 2) (by rfl) B.isinst (pe_bltn (by rfl) B.tuple bt_tuple rfl) (by decide +kernel)))) (dw_or (db_cmp (opd_ne hr.units) (de_callB cd_len (by rfl) B.len bt_len (da_cons (de_var 2) da_nil)) (de_var 1) (nomark _)) (dw_or1 (db_cmp (opd_neZ hr.units) (PE.mono (pe_lc (own := [("x", 3)]) rfl sc__law_is_row.nd (di_seq (DE.g (de_var 2))) (blkOk_by (own := [("x", 3)]) (N := N__law_is_row) (sc := defScope st__law_is_row) (by decide +kernel)) (fun _ _ _ _ _ => (dt_name sc__law_is_row.nd rfl (.inl rfl))) (fun _ _ _ _ _ => (dts_test (db_not (db_val (de_callC C__law_is_int hG (hr.mono (by decide)) (by rfl) (dg_cons (DE.g (de_var 3)) dg_nil)))))) (fun _ _ _ _ _ => (DE.g (de_var 3)))) fun _ _ _ h => lc_lE (by decide) h) (de_lst dg_nil) (nomark _)))))) (ds_one (ds_ret (DE.x de_bl))) ds_nil)
    (ds_one (ds_ret (DE.x (de_or (de_cmp (opd_eq hr.units) (de_var 0) de_str (nomark _)) (de_one (de_cmp (opd_eqZ hr.units) (PE.mono (pe_lc (own := [("x", 3)]) rfl sc__law_is_row.nd (di_seq (DE.g (de_var 2))) (blkOk_by (own := [("x", 3)]) (N := N__law_is_row) (sc := defScope st__law_is_row) (by decide +kernel)) (fun _ _ _ _ _ => (dt_name sc__law_is_row.nd rfl (.inl rfl))) (fun _ _ _ _ _ => (dts_test (db_cmp (opd_notIn (room66 hr)) (de_var 3) (de_tup (dg_cons (DE.g de_int) (dg_cons (DE.g (de_un und_neg de_int)) dg_nil))) (by with_unfolding_all rfl)))) (fun _ _ _ _ _ => (DE.g (de_var 3)))) fun _ _ _ h => lc_lE (by decide) h) (de_lst dg_nil) (nomark _))))))))) (ln__law_is_row) (wp__law_is_row)
theorem ok__law_is_table (F : Fun K "_law_is_table" "_law_is_table" st__law_is_table f fd) (B : Blts mg) (C__law_is_row : Cal P w K mg base "_law_is_row" 2 ["sort", "many", "value"] (spP K w pm__law_is_row)) : FG P w K mg base 3 f fd ["table", "sizes", "value"] (spP K w pm__law_is_table) :=
  FG.pure (ts__law_is_table) F sc__law_is_table (fun cdv A outer s H hr hG => (ds_cons (ds_asg (ps_asg (DE.g (de_var 0)) (dt_tup (pg_tup rfl (dts_cons (dt_name sc__law_is_table.nd rfl (.inl rfl)) (dts_cons (dt_name sc__law_is_table.nd rfl (.inr rfl)) (dts_cons (dt_name sc__law_is_table.nd rfl (.inr rfl)) dts_nil)))))))
    (ds_cons (ds_if (db_cmp (opd_eq hr.units) (de_callB cd_len (by rfl) B.len bt_len (da_cons (de_var 5) da_nil)) de_int (nomark _)) (ds_one (ds_ret (DE.x (de_callC C__law_is_row hG (hr.mono (by decide)) (by rfl) (dg_cons (DE.g (de_var 4)) (dg_cons (DE.g (de_ix ixd_seq (de_var 1) (de_ix ixd_seq (de_var 5) de_int (fun _ _ => rfl)) (fun _ _ => rfl))) (dg_cons (DE.g (de_var 2)) dg_nil))))))) ds_nil)
    (ds_cons (ds_if (PW.pt (dw_or (db_not (db_val (de_isi (de_var 2) (by rfl) B.isinst (pe_bltn (by rfl) B.tuple bt_tuple rfl) (by decide +kernel)))) (dw_or1 (db_cmp (opd_ne hr.units) (de_callB cd_len (by rfl) B.len bt_len (da_cons (de_var 2) da_nil)) (de_ix ixd_seq (de_var 1) (de_ix ixd_seq (de_var 5) de_int (fun _ _ => rfl)) (fun _ _ => rfl)) (nomark _))))) (ds_one (ds_ret (DE.x de_bl))) ds_nil)
    (ds_one (ds_ret (DE.x (de_cmp (opd_eqZ hr.units) (PE.mono (pe_lc (own := [("row", 6)]) rfl sc__law_is_table.nd (di_seq (DE.g (de_var 2))) (blkOk_by (own := [("row", 6)]) (N := N__law_is_table) (sc := defScope st__law_is_table) (by decide +kernel)) (fun _ _ _ _ _ => (dt_name sc__law_is_table.nd rfl (.inl rfl))) (fun _ _ _ _ _ => (dts_test (db_not (db_val (de_callC C__law_is_row hG (hr.mono (by decide)) (by rfl) (dg_cons (DE.g (de_var 4)) (dg_cons (DE.g (de_ix ixd_seq (de_var 1) (de_ix ixd_seq (de_var 5) de_int (fun _ _ => rfl)) (fun _ _ => rfl))) (dg_cons (DE.g (de_var 6)) dg_nil)))))))) (fun _ _ _ _ _ => (DE.g (de_var 6)))) fun _ _ _ h => lc_lE (by decide) h) (de_lst dg_nil) (nomark _))))))))) (ln__law_is_table) (wp__law_is_table)
theorem ok__law_fault (F : Fun K "_law_fault" "_law_fault" st__law_fault f fd) (B : Blts mg) (C__law_is_int : Cal P w K mg base "_law_is_int" 1 ["value"] (spP K w pm__law_is_int)) (C__law_is_table : Cal P w K mg base "_law_is_table" 3 ["table", "sizes", "value"] (spP K w pm__law_is_table)) : FG P w K mg base 4 f fd ["told", "value"] (spP K w pm__law_fault) :=
  FG.pure (ts__law_fault) F sc__law_fault (fun cdv A outer s H hr hG => (ds_cons (ds_if (PW.pt (dw_or (db_not (db_val (de_isi (de_var 1) (by rfl) B.isinst (pe_bltn (by rfl) B.tuple bt_tuple rfl) (by decide +kernel)))) (dw_or (db_cmp (opd_ne hr.units) (de_callB cd_len (by rfl) B.len bt_len (da_cons (de_var 1) da_nil)) de_int (nomark _)) (dw_or1 (db_cmp (opd_neZ hr.units) (PE.mono (pe_lc (own := [("part", 6)]) rfl sc__law_fault.nd (di_seq (DE.g (de_var 1))) (blkOk_by (own := [("part", 6)]) (N := N__law_fault) (sc := defScope st__law_fault) (by decide +kernel)) (fun _ _ _ _ _ => (dt_name sc__law_fault.nd rfl (.inl rfl))) (fun _ _ _ _ _ => (dts_test (db_not (db_val (de_isi (de_var 6) (by rfl) B.isinst (pe_bltn (by rfl) B.tuple bt_tuple rfl) (by decide +kernel)))))) (fun _ _ _ _ _ => (DE.g (de_var 6)))) fun _ _ _ h => lc_lE (by decide) h) (de_lst dg_nil) (nomark _)))))) (ds_one (ds_ret (DE.x (de_tup (dg_cons (DE.g de_str) dg_nil))))) ds_nil)
    (ds_cons (ds_if (db_cmp (opd_ne hr.units) (de_callB cd_len (by rfl) B.len bt_len (da_cons (de_ix ixd_seq (de_var 1) de_int (fun _ _ => rfl)) da_nil)) (de_callB cd_len (by rfl) B.len bt_len (da_cons (de_ix ixd_seq (de_var 0) de_int (fun _ _ => rfl)) da_nil)) (nomark _)) (ds_one (ds_ret (DE.x (de_tup (dg_cons (DE.g de_str) dg_nil))))) ds_nil)
    (ds_cons (ds_for (ps_for PassesOwn.never rfl (di_enum (by rfl) B.enumerate (DE.g (de_ix ixd_seq (de_var 1) de_int (fun _ _ => rfl)))) (dt_tup (pg_tup rfl (dts_cons (dt_name sc__law_fault.nd rfl (.inl rfl)) (dts_cons (dt_name sc__law_fault.nd rfl (.inl rfl)) dts_nil)))) (ds_one (ds_if (PW.pt (dw_or (db_not (db_val (de_callC C__law_is_int hG (hr.mono (by decide)) (by rfl) (dg_cons (DE.g (de_var 3)) dg_nil)))) (dw_or1 (db_cmp opd_ltI (de_var 3) de_int (nomark _))))) (ds_one (ds_ret (DE.x (de_tup (dg_cons (DE.g de_str) (dg_cons (DE.g (de_var 2)) dg_nil)))))) ds_nil))))
    (ds_cons (ds_if (db_cmp (opd_ne hr.units) (de_callB cd_len (by rfl) B.len bt_len (da_cons (de_ix ixd_seq (de_var 1) de_int (fun _ _ => rfl)) da_nil)) (de_callB cd_len (by rfl) B.len bt_len (da_cons (de_ix ixd_seq (de_var 0) de_int (fun _ _ => rfl)) da_nil)) (nomark _)) (ds_one (ds_ret (DE.x (de_tup (dg_cons (DE.g de_str) dg_nil))))) ds_nil)
    (ds_cons (ds_for (ps_for PassesOwn.never rfl (di_enum (by rfl) B.enumerate (DE.g (de_ix ixd_seq (de_var 1) de_int (fun _ _ => rfl)))) (dt_tup (pg_tup rfl (dts_cons (dt_name sc__law_fault.nd rfl (.inl rfl)) (dts_cons (dt_name sc__law_fault.nd rfl (.inl rfl)) dts_nil)))) (ds_one (ds_if (db_not (db_val (de_callC C__law_is_table hG (hr.mono (by decide)) (by rfl) (dg_cons (DE.g (de_ix ixd_seq (de_ix ixd_seq (de_var 0) de_int (fun _ _ => rfl)) (de_var 4) (fun _ _ => rfl))) (dg_cons (DE.g (de_ix ixd_seq (de_var 1) de_int (fun _ _ => rfl))) (dg_cons (DE.g (de_var 5)) dg_nil)))))) (ds_one (ds_ret (DE.x (de_tup (dg_cons (DE.g de_str) (dg_cons (DE.g (de_var 4)) dg_nil)))))) ds_nil))))
    (ds_one (ds_ret (DE.x de_non))))))))) (ln__law_fault) (wp__law_fault)
theorem ok_law (F : Fun K "law" "law" st_law f fd) (B : Blts mg) (C__law_told : Cal P w K mg base "_law_told" 2 ["source"] (spS K w pm__law_told)) (C__law_world : Cal P w K mg base "_law_world" 3 ["source", "told", "most"] (spS K w pm__law_world)) (C__law_of : Cal P w K mg base "_law_of" 2 ["source", "some"] (spS K w pm__law_of)) (C__law_pick : Cal P w K mg base "_law_pick" 1 ["source", "most"] (spS K w pm__law_pick)) (C__law_bent : Cal P w K mg base "_law_bent" 9 ["source", "value", "odd"] (spS K w (pmB 5))) (C__law_fault : Cal P w K mg base "_law_fault" 4 ["told", "value"] (spP K w pm__law_fault)) (C_is_world : Cal P w K mg base "is_world" 5 ["told", "value"] (spP K w pm_is_world)) (C_judge_world : Cal P w K mg base "judge_world" 5 ["told", "value"] (spP K w pm_judge_world)) (C__law_open_cells : Cal P w K mg base "_law_open_cells" 1 ["script"] (spOpen K)) : FG P w K mg base 10 f fd ["script"] (spLaw K) :=
  FG.law ts_law F sc_law (by decide) (fun cdv A outer s H hr hG => pss_cons (ps_asg (pe_callGC C__law_open_cells hG (hr.mono (by decide)) (by rfl) (pa_cons (pv 0) pa_nil)) (pg_name (i := 1) sc_law.nd rfl (.inr rfl))) (ds_cons (ds_set (i := 2) sc_law.nd rfl (.inr rfl) (DE.x (de_lst (dg_cons (DE.g de_non) (dg_cons (DE.g de_bl) (dg_cons (DE.g de_int) (dg_cons (DE.g de_int) (dg_cons (DE.g (de_un und_neg de_int)) (dg_cons (DE.g de_int) (dg_cons (DE.g de_str) (dg_cons (DE.g (de_tup dg_nil)) (dg_cons (DE.g (de_tup (dg_cons (DE.g de_int) dg_nil))) (dg_cons (DE.g (de_tup (dg_cons (DE.g de_int) (dg_cons (DE.g (de_un und_neg de_int)) dg_nil)))) (dg_cons (DE.g (de_tup (dg_cons (DE.g de_int) dg_nil))) (dg_cons (DE.g (de_tup (dg_cons (DE.g (de_tup (dg_cons (DE.g de_int) dg_nil))) dg_nil))) (dg_cons (DE.g (de_lst dg_nil)) (dg_cons (DE.g de_dict0) (dg_cons (DE.g (de_lst (dg_cons (DE.g de_int) dg_nil))) (dg_cons (DE.g (de_bin opd_powI de_int de_int)) (dg_cons (DE.g (de_tup (dg_cons (DE.g de_bl) dg_nil))) dg_nil))))))))))))))))))))
    (ds_cons (ds_for (ps_for PassesOwn.never rfl (di_rg1 (by rfl) B.range (da_cons de_int da_nil)) (dt_name sc_law.nd rfl (.inl rfl)) (ds_cons (ds_set (i := 4) sc_law.nd rfl (.inl rfl) (DE.x (de_callCS C__law_told hG (hr.mono (by decide)) (by rfl) (dg_cons (DE.g (de_var 1)) dg_nil))))
    (ds_cons (ds_asg (ps_asg (DE.g (de_callCS C__law_world hG (hr.mono (by decide)) (by rfl) (dg_cons (DE.g (de_var 1)) (dg_cons (DE.g (de_var 4)) (dg_cons (DE.g de_int) dg_nil))))) (dt_tup (pg_tup rfl (dts_cons (dt_name sc_law.nd rfl (.inr rfl)) (dts_cons (dt_name sc_law.nd rfl (.inl rfl)) dts_nil))))))
    (ds_cons (ds_par2 (ps_par (i := 11) (j := 12) rfl sc_law.nd rfl rfl (by decide) rfl rfl (pa_cons (DE.x (de_callCS C__law_world hG (hr.mono (by decide)) (by rfl) (dg_cons (DE.g (de_var 1)) (dg_cons (DE.g (de_var 4)) (dg_cons (DE.g de_int) dg_nil))))) (pa_cons (DE.x (de_callCS C__law_world hG (hr.mono (by decide)) (by rfl) (dg_cons (DE.g (de_var 1)) (dg_cons (DE.g (de_callCS C__law_told hG (hr.mono (by decide)) (by rfl) (dg_cons (DE.g (de_var 1)) dg_nil))) (dg_cons (DE.g de_int) dg_nil))))) pa_nil)) (by rfl)))
    (ds_cons (ds_set (i := 5) sc_law.nd rfl (.inl rfl) (DE.x (de_callCS C__law_of hG (hr.mono (by decide)) (by rfl) (dg_cons (DE.g (de_var 1)) (dg_cons (DE.g (de_var 2)) dg_nil)))))
    (ds_cons (ds_for (ps_for PassesOwn.never rfl (di_rg1 (by rfl) B.range (da_cons de_int da_nil)) (dt_name sc_law.nd rfl (.inl rfl)) (ds_one (ds_set (i := 5) sc_law.nd rfl (.inl rfl) (DE.x (de_ite (db_cmp (opd_eq hr.units) (de_callCS C__law_pick hG (hr.mono (by decide)) (by rfl) (dg_cons (DE.g (de_var 1)) (dg_cons (DE.g de_int) dg_nil))) de_int (nomark _)) (de_lst (dg_cons (DE.g (de_var 5)) dg_nil)) (de_tup (dg_cons (DE.g (de_var 5)) dg_nil))))))))
    (ds_cons (ds_asg (ps_asg (DE.g (de_var 9)) (dt_tup (pg_tup rfl (dts_cons (dt_name sc_law.nd rfl (.inl rfl)) (dts_cons (dt_name sc_law.nd rfl (.inl rfl)) dts_nil))))))
    (ds_cons (ds_set (i := 7) sc_law.nd rfl (.inl rfl) (DE.x (de_lst (dg_cons (DE.g (de_var 9)) (dg_cons (DE.g (de_callTy cd_list (by rfl) B.list bt_list (da_cons (de_var 9) da_nil))) (dg_cons (DE.g (de_ix ixd_seq (de_var 11) de_int (fun _ _ => rfl))) (dg_cons (DE.g (de_ix ixd_seq (de_var 12) de_int (fun _ _ => rfl))) (dg_cons (DE.g (de_tup (dg_cons (DE.g (de_var 13)) (dg_cons (DE.g (de_ix ixd_seq (de_ix ixd_seq (de_var 11) de_int (fun _ _ => rfl)) de_int (fun _ _ => rfl))) dg_nil)))) (dg_cons (DE.g (de_tup (dg_cons (DE.g (de_ix ixd_seq (de_ix ixd_seq (de_var 11) de_int (fun _ _ => rfl)) de_int (fun _ _ => rfl))) (dg_cons (DE.g (de_var 14)) dg_nil)))) (dg_cons (DE.g (de_tup (dg_cons (DE.g (de_var 13)) (dg_cons (DE.g (de_slice (de_var 14) (do_some de_int) do_none)) dg_nil)))) dg_nil))))))))))
    (ds_cons (ds_set (i := 7) sc_law.nd rfl (.inl rfl) (DE.x (de_bin opd_add (de_var 7) (de_lst (dg_cons (DE.g (de_tup (dg_cons (DE.g (de_slice (de_var 13) (do_some de_int) do_none)) (dg_cons (DE.g (de_var 14)) dg_nil)))) (dg_cons (DE.g (de_tup (dg_cons (DE.g (de_bin opd_add (de_var 13) (de_tup (dg_cons (DE.g de_int) dg_nil)))) (dg_cons (DE.g (de_var 14)) dg_nil)))) (dg_cons (DE.g (de_tup (dg_cons (DE.g (de_var 13)) (dg_cons (DE.g (de_bin opd_add (de_var 14) (de_tup (dg_cons (DE.g (de_tup (dg_cons (DE.g de_int) dg_nil))) dg_nil)))) dg_nil)))) (dg_cons (DE.g (de_tup (dg_cons (DE.g (de_callTy cd_list (by rfl) B.list bt_list (da_cons (de_var 13) da_nil))) (dg_cons (DE.g (de_var 14)) dg_nil)))) (dg_cons (DE.g (de_var 5)) dg_nil)))))))))
    (ds_cons (ds_set (i := 7) sc_law.nd rfl (.inl rfl) (DE.x (de_bin opd_add (de_var 7) (de_lst (dg_cons (DE.g (de_tup (dg_cons (DE.g (de_var 13)) (dg_cons (DE.g (de_callTy cd_list (by rfl) B.list bt_list (da_cons (de_var 14) da_nil))) dg_nil)))) (dg_cons (DE.g (de_tup (dg_cons (DE.g (de_var 13)) (dg_cons (DE.g (de_revT (de_var 14))) dg_nil)))) (dg_cons (DE.g (de_tup (dg_cons (DE.g (de_callTy cd_tuple (by rfl) B.tuple bt_tuple (da_cons (PE.mono (pe_lc (own := [("n", 18)]) rfl sc_law.nd (di_seq (DE.g (de_var 13))) (blkOk_by (own := [("n", 18)]) (N := N_law) (sc := defScope st_law) (by decide +kernel)) (fun _ _ _ _ _ => (dt_name sc_law.nd rfl (.inl rfl))) (fun _ _ _ _ _ => dts_yes) (fun _ _ _ _ _ => (DE.g (de_bin opd_add (de_var 18) de_int)))) fun _ _ _ h => lc_lE (by decide) h) da_nil))) (dg_cons (DE.g (de_var 14)) dg_nil)))) (dg_cons (DE.g de_non) (dg_cons (DE.g (de_tup dg_nil)) dg_nil)))))))))
    (ds_cons (ds_set (i := 7) sc_law.nd rfl (.inl rfl) (DE.x (de_bin opd_add (de_var 7) (de_lst (dg_cons (DE.g (de_tup (dg_cons (DE.g (de_bin opd_mulT (de_tup (dg_cons (DE.g de_int) dg_nil)) (de_callB cd_len (by rfl) B.len bt_len (da_cons (de_var 13) da_nil)))) (dg_cons (DE.g (de_var 14)) dg_nil)))) (dg_cons (DE.g (de_tup (dg_cons (DE.g (de_bin opd_mulT (de_tup (dg_cons (DE.g de_bl) dg_nil)) (de_callB cd_len (by rfl) B.len bt_len (da_cons (de_var 13) da_nil)))) (dg_cons (DE.g (de_var 14)) dg_nil)))) (dg_cons (DE.g (de_bin opd_add (de_var 9) (de_tup (dg_cons (DE.g (de_tup dg_nil)) dg_nil)))) dg_nil)))))))
    (ds_cons (ds_set (i := 7) sc_law.nd rfl (.inl rfl) (DE.x (de_bin opd_add (de_var 7) (de_lst (dg_cons (DE.g (de_tup (dg_cons (DE.g (de_var 13)) (dg_cons (DE.g (de_var 5)) dg_nil)))) (dg_cons (DE.g (de_tup (dg_cons (DE.g (de_var 5)) (dg_cons (DE.g (de_var 14)) dg_nil)))) dg_nil))))))
    (ds_one (ds_for (ps_for PassesOwn.never rfl (di_seq (DE.g (de_bin opd_add (de_var 7) (PE.mono (pe_lc (own := [("look", 17)]) rfl sc_law.nd (di_rg1 (by rfl) B.range (da_cons de_int da_nil)) (blkOk_by (own := [("look", 17)]) (N := N_law) (sc := defScope st_law) (by decide +kernel)) (fun _ _ _ _ _ => (dt_name sc_law.nd rfl (.inl rfl))) (fun _ _ _ _ _ => dts_yes) (fun _ _ _ _ _ => (DE.g (de_callCS C__law_bent hG (hr.mono (by decide)) (by rfl) (dg_cons (DE.g (de_var 1)) (dg_cons (DE.g (de_var 9)) (dg_cons (DE.g (de_var 2)) dg_nil))))))) fun _ _ _ h => lc_lE (by decide) h)))) (dt_name sc_law.nd rfl (.inl rfl)) (ds_cons (ds_par2 (ps_par (i := 15) (j := 16) rfl sc_law.nd rfl rfl (by decide) rfl rfl (pa_cons (DE.x (de_callB (cd_repr hG hr.units) (by rfl) B.repr bt_repr (da_cons (de_var 8) da_nil))) (pa_cons (DE.x (de_callC C__law_fault hG (hr.mono (by decide)) (by rfl) (dg_cons (DE.g (de_var 4)) (dg_cons (DE.g (de_var 8)) dg_nil)))) pa_nil)) (by rfl)))
    (ds_cons (ds_if (db_cmp opd_neS (de_callB (cd_repr hG hr.units) (by rfl) B.repr bt_repr (da_cons (de_lst (dg_cons (DE.g (de_callC C_judge_world hG (hr.mono (by decide)) (by rfl) (dg_cons (DE.g (de_var 4)) (dg_cons (DE.g (de_var 8)) dg_nil)))) (dg_cons (DE.g (de_callC C_is_world hG (hr.mono (by decide)) (by rfl) (dg_cons (DE.g (de_var 4)) (dg_cons (DE.g (de_var 8)) dg_nil)))) dg_nil))) da_nil)) (de_callB (cd_repr hG hr.units) (by rfl) B.repr bt_repr (da_cons (de_lst (dg_cons (DE.g (de_var 16)) (dg_cons (DE.g (de_cmp opd_isN (de_var 16) de_non (nomark _))) dg_nil))) da_nil)) (nomark _)) (ds_one (ds_ret (DE.x de_bl))) ds_nil)
    (ds_one (ds_if (db_cmp opd_neS (de_callB (cd_repr hG hr.units) (by rfl) B.repr bt_repr (da_cons (de_var 8) da_nil)) (de_var 15) (nomark _)) (ds_one (ds_ret (DE.x de_bl))) ds_nil))))))))))))))))))))
    (ds_one (ds_ret (DE.x (de_cmp opd_isN (de_callC C_judge_world hG (hr.mono (by decide)) (by rfl) (dg_cons (DE.g (de_tup (dg_cons (DE.g (de_tup (dg_cons (DE.g de_str) dg_nil))) (dg_cons (DE.g (de_tup dg_nil)) dg_nil)))) (dg_cons (DE.g (de_tup (dg_cons (DE.g (de_tup (dg_cons (DE.g de_int) dg_nil))) (dg_cons (DE.g (de_tup dg_nil)) dg_nil)))) dg_nil))) de_non (nomark _)))))))) wp_law
end
theorem all_mk {l : PySem.W.OpenLaw} {w : World} {K : PySem.W.Frag} {h : Heap} {mg : Str → Option Value} {fa f_is_integer f_is_entry f_is_row f_is_table f_is_world f_judge_world f__law_open_cells f__law_pick f__law_of f__law_told f__law_cells f__law_world_of f__law_world f__law_bent f__law_is_int f__law_is_row f__law_is_table f__law_fault f_law : Addr} (X : K.In h) (G : h.Ns mainGlobals mg) (hfa : mg "law" = some (.ref fa))
    {od_is_integer an_is_integer : Option Addr} {sl_is_integer : Array (Option Value)} {oc_is_integer kV_is_integer dc_is_integer pm0_is_integer cd_is_integer ct_is_integer : Value}
    {od_is_entry an_is_entry : Option Addr} {sl_is_entry : Array (Option Value)} {oc_is_entry kV_is_entry dc_is_entry pm0_is_entry cd_is_entry ct_is_entry : Value}
    {od_is_row an_is_row : Option Addr} {sl_is_row : Array (Option Value)} {oc_is_row kV_is_row dc_is_row pm0_is_row cd_is_row ct_is_row : Value}
    {od_is_table an_is_table : Option Addr} {sl_is_table : Array (Option Value)} {oc_is_table kV_is_table dc_is_table pm0_is_table cd_is_table ct_is_table : Value}
    {od_is_world an_is_world : Option Addr} {sl_is_world : Array (Option Value)} {oc_is_world kV_is_world dc_is_world pm0_is_world cd_is_world ct_is_world : Value}
    {od_judge_world an_judge_world : Option Addr} {sl_judge_world : Array (Option Value)} {oc_judge_world kV_judge_world dc_judge_world pm0_judge_world cd_judge_world ct_judge_world : Value}
    {od__law_open_cells an__law_open_cells : Option Addr} {sl__law_open_cells : Array (Option Value)} {oc__law_open_cells kV__law_open_cells dc__law_open_cells pm0__law_open_cells cd__law_open_cells ct__law_open_cells : Value}
    {od__law_pick an__law_pick : Option Addr} {sl__law_pick : Array (Option Value)} {oc__law_pick kV__law_pick dc__law_pick pm0__law_pick cd__law_pick ct__law_pick : Value}
    {od__law_of an__law_of : Option Addr} {sl__law_of : Array (Option Value)} {oc__law_of kV__law_of dc__law_of pm0__law_of cd__law_of ct__law_of : Value}
    {od__law_told an__law_told : Option Addr} {sl__law_told : Array (Option Value)} {oc__law_told kV__law_told dc__law_told pm0__law_told cd__law_told ct__law_told : Value}
    {od__law_cells an__law_cells : Option Addr} {sl__law_cells : Array (Option Value)} {oc__law_cells kV__law_cells dc__law_cells pm0__law_cells cd__law_cells ct__law_cells : Value}
    {od__law_world_of an__law_world_of : Option Addr} {sl__law_world_of : Array (Option Value)} {oc__law_world_of kV__law_world_of dc__law_world_of pm0__law_world_of cd__law_world_of ct__law_world_of : Value}
    {od__law_world an__law_world : Option Addr} {sl__law_world : Array (Option Value)} {oc__law_world kV__law_world dc__law_world pm0__law_world cd__law_world ct__law_world : Value}
    {od__law_bent an__law_bent : Option Addr} {sl__law_bent : Array (Option Value)} {oc__law_bent kV__law_bent dc__law_bent pm0__law_bent cd__law_bent ct__law_bent : Value}
    {od__law_is_int an__law_is_int : Option Addr} {sl__law_is_int : Array (Option Value)} {oc__law_is_int kV__law_is_int dc__law_is_int pm0__law_is_int cd__law_is_int ct__law_is_int : Value}
    {od__law_is_row an__law_is_row : Option Addr} {sl__law_is_row : Array (Option Value)} {oc__law_is_row kV__law_is_row dc__law_is_row pm0__law_is_row cd__law_is_row ct__law_is_row : Value}
    {od__law_is_table an__law_is_table : Option Addr} {sl__law_is_table : Array (Option Value)} {oc__law_is_table kV__law_is_table dc__law_is_table pm0__law_is_table cd__law_is_table ct__law_is_table : Value}
    {od__law_fault an__law_fault : Option Addr} {sl__law_fault : Array (Option Value)} {oc__law_fault kV__law_fault dc__law_fault pm0__law_fault cd__law_fault ct__law_fault : Value}
    {od_law an_law : Option Addr} {sl_law : Array (Option Value)} {oc_law kV_law dc_law pm0_law cd_law ct_law : Value}
    (a_is_integer : PySem.W.nsIn K mainGlobals "is_integer" = some (some (.ref f_is_integer))) (l_is_integer : K.lookup f_is_integer = some ⟨oc_is_integer, od_is_integer, .func (PySem.W.fnOf "is_integer" "is_integer" (defArgs st_is_integer) (defBody st_is_integer) (defScope st_is_integer) .none kV_is_integer dc_is_integer pm0_is_integer an_is_integer cd_is_integer ct_is_integer), sl_is_integer⟩)
    (c_is_integer : PySem.W.codeIn K cd_is_integer "is_integer" = true) (k_is_integer : PySem.W.keepIn K (.ref f_is_integer) = true)
    (a_is_entry : PySem.W.nsIn K mainGlobals "is_entry" = some (some (.ref f_is_entry))) (l_is_entry : K.lookup f_is_entry = some ⟨oc_is_entry, od_is_entry, .func (PySem.W.fnOf "is_entry" "is_entry" (defArgs st_is_entry) (defBody st_is_entry) (defScope st_is_entry) .none kV_is_entry dc_is_entry pm0_is_entry an_is_entry cd_is_entry ct_is_entry), sl_is_entry⟩)
    (c_is_entry : PySem.W.codeIn K cd_is_entry "is_entry" = true) (k_is_entry : PySem.W.keepIn K (.ref f_is_entry) = true)
    (a_is_row : PySem.W.nsIn K mainGlobals "is_row" = some (some (.ref f_is_row))) (l_is_row : K.lookup f_is_row = some ⟨oc_is_row, od_is_row, .func (PySem.W.fnOf "is_row" "is_row" (defArgs st_is_row) (defBody st_is_row) (defScope st_is_row) .none kV_is_row dc_is_row pm0_is_row an_is_row cd_is_row ct_is_row), sl_is_row⟩)
    (c_is_row : PySem.W.codeIn K cd_is_row "is_row" = true) (k_is_row : PySem.W.keepIn K (.ref f_is_row) = true)
    (a_is_table : PySem.W.nsIn K mainGlobals "is_table" = some (some (.ref f_is_table))) (l_is_table : K.lookup f_is_table = some ⟨oc_is_table, od_is_table, .func (PySem.W.fnOf "is_table" "is_table" (defArgs st_is_table) (defBody st_is_table) (defScope st_is_table) .none kV_is_table dc_is_table pm0_is_table an_is_table cd_is_table ct_is_table), sl_is_table⟩)
    (c_is_table : PySem.W.codeIn K cd_is_table "is_table" = true) (k_is_table : PySem.W.keepIn K (.ref f_is_table) = true)
    (a_is_world : PySem.W.nsIn K mainGlobals "is_world" = some (some (.ref f_is_world))) (l_is_world : K.lookup f_is_world = some ⟨oc_is_world, od_is_world, .func (PySem.W.fnOf "is_world" "is_world" (defArgs st_is_world) (defBody st_is_world) (defScope st_is_world) .none kV_is_world dc_is_world pm0_is_world an_is_world cd_is_world ct_is_world), sl_is_world⟩)
    (c_is_world : PySem.W.codeIn K cd_is_world "is_world" = true) (k_is_world : PySem.W.keepIn K (.ref f_is_world) = true)
    (a_judge_world : PySem.W.nsIn K mainGlobals "judge_world" = some (some (.ref f_judge_world))) (l_judge_world : K.lookup f_judge_world = some ⟨oc_judge_world, od_judge_world, .func (PySem.W.fnOf "judge_world" "judge_world" (defArgs st_judge_world) (defBody st_judge_world) (defScope st_judge_world) .none kV_judge_world dc_judge_world pm0_judge_world an_judge_world cd_judge_world ct_judge_world), sl_judge_world⟩)
    (c_judge_world : PySem.W.codeIn K cd_judge_world "judge_world" = true) (k_judge_world : PySem.W.keepIn K (.ref f_judge_world) = true)
    (a__law_open_cells : PySem.W.nsIn K mainGlobals "_law_open_cells" = some (some (.ref f__law_open_cells))) (l__law_open_cells : K.lookup f__law_open_cells = some ⟨oc__law_open_cells, od__law_open_cells, .func (PySem.W.fnOf "_law_open_cells" "_law_open_cells" (defArgs st__law_open_cells) (defBody st__law_open_cells) (defScope st__law_open_cells) .none kV__law_open_cells dc__law_open_cells pm0__law_open_cells an__law_open_cells cd__law_open_cells ct__law_open_cells), sl__law_open_cells⟩)
    (c__law_open_cells : PySem.W.codeIn K cd__law_open_cells "_law_open_cells" = true) (k__law_open_cells : PySem.W.keepIn K (.ref f__law_open_cells) = true)
    (a__law_pick : PySem.W.nsIn K mainGlobals "_law_pick" = some (some (.ref f__law_pick))) (l__law_pick : K.lookup f__law_pick = some ⟨oc__law_pick, od__law_pick, .func (PySem.W.fnOf "_law_pick" "_law_pick" (defArgs st__law_pick) (defBody st__law_pick) (defScope st__law_pick) .none kV__law_pick dc__law_pick pm0__law_pick an__law_pick cd__law_pick ct__law_pick), sl__law_pick⟩)
    (c__law_pick : PySem.W.codeIn K cd__law_pick "_law_pick" = true) (k__law_pick : PySem.W.keepIn K (.ref f__law_pick) = true)
    (a__law_of : PySem.W.nsIn K mainGlobals "_law_of" = some (some (.ref f__law_of))) (l__law_of : K.lookup f__law_of = some ⟨oc__law_of, od__law_of, .func (PySem.W.fnOf "_law_of" "_law_of" (defArgs st__law_of) (defBody st__law_of) (defScope st__law_of) .none kV__law_of dc__law_of pm0__law_of an__law_of cd__law_of ct__law_of), sl__law_of⟩)
    (c__law_of : PySem.W.codeIn K cd__law_of "_law_of" = true) (k__law_of : PySem.W.keepIn K (.ref f__law_of) = true)
    (a__law_told : PySem.W.nsIn K mainGlobals "_law_told" = some (some (.ref f__law_told))) (l__law_told : K.lookup f__law_told = some ⟨oc__law_told, od__law_told, .func (PySem.W.fnOf "_law_told" "_law_told" (defArgs st__law_told) (defBody st__law_told) (defScope st__law_told) .none kV__law_told dc__law_told pm0__law_told an__law_told cd__law_told ct__law_told), sl__law_told⟩)
    (c__law_told : PySem.W.codeIn K cd__law_told "_law_told" = true) (k__law_told : PySem.W.keepIn K (.ref f__law_told) = true)
    (a__law_cells : PySem.W.nsIn K mainGlobals "_law_cells" = some (some (.ref f__law_cells))) (l__law_cells : K.lookup f__law_cells = some ⟨oc__law_cells, od__law_cells, .func (PySem.W.fnOf "_law_cells" "_law_cells" (defArgs st__law_cells) (defBody st__law_cells) (defScope st__law_cells) .none kV__law_cells dc__law_cells pm0__law_cells an__law_cells cd__law_cells ct__law_cells), sl__law_cells⟩)
    (c__law_cells : PySem.W.codeIn K cd__law_cells "_law_cells" = true) (k__law_cells : PySem.W.keepIn K (.ref f__law_cells) = true)
    (a__law_world_of : PySem.W.nsIn K mainGlobals "_law_world_of" = some (some (.ref f__law_world_of))) (l__law_world_of : K.lookup f__law_world_of = some ⟨oc__law_world_of, od__law_world_of, .func (PySem.W.fnOf "_law_world_of" "_law_world_of" (defArgs st__law_world_of) (defBody st__law_world_of) (defScope st__law_world_of) .none kV__law_world_of dc__law_world_of pm0__law_world_of an__law_world_of cd__law_world_of ct__law_world_of), sl__law_world_of⟩)
    (c__law_world_of : PySem.W.codeIn K cd__law_world_of "_law_world_of" = true) (k__law_world_of : PySem.W.keepIn K (.ref f__law_world_of) = true)
    (a__law_world : PySem.W.nsIn K mainGlobals "_law_world" = some (some (.ref f__law_world))) (l__law_world : K.lookup f__law_world = some ⟨oc__law_world, od__law_world, .func (PySem.W.fnOf "_law_world" "_law_world" (defArgs st__law_world) (defBody st__law_world) (defScope st__law_world) .none kV__law_world dc__law_world pm0__law_world an__law_world cd__law_world ct__law_world), sl__law_world⟩)
    (c__law_world : PySem.W.codeIn K cd__law_world "_law_world" = true) (k__law_world : PySem.W.keepIn K (.ref f__law_world) = true)
    (a__law_bent : PySem.W.nsIn K mainGlobals "_law_bent" = some (some (.ref f__law_bent))) (l__law_bent : K.lookup f__law_bent = some ⟨oc__law_bent, od__law_bent, .func (PySem.W.fnOf "_law_bent" "_law_bent" (defArgs st__law_bent) (defBody st__law_bent) (defScope st__law_bent) .none kV__law_bent dc__law_bent pm0__law_bent an__law_bent cd__law_bent ct__law_bent), sl__law_bent⟩)
    (c__law_bent : PySem.W.codeIn K cd__law_bent "_law_bent" = true) (k__law_bent : PySem.W.keepIn K (.ref f__law_bent) = true)
    (a__law_is_int : PySem.W.nsIn K mainGlobals "_law_is_int" = some (some (.ref f__law_is_int))) (l__law_is_int : K.lookup f__law_is_int = some ⟨oc__law_is_int, od__law_is_int, .func (PySem.W.fnOf "_law_is_int" "_law_is_int" (defArgs st__law_is_int) (defBody st__law_is_int) (defScope st__law_is_int) .none kV__law_is_int dc__law_is_int pm0__law_is_int an__law_is_int cd__law_is_int ct__law_is_int), sl__law_is_int⟩)
    (c__law_is_int : PySem.W.codeIn K cd__law_is_int "_law_is_int" = true) (k__law_is_int : PySem.W.keepIn K (.ref f__law_is_int) = true)
    (a__law_is_row : PySem.W.nsIn K mainGlobals "_law_is_row" = some (some (.ref f__law_is_row))) (l__law_is_row : K.lookup f__law_is_row = some ⟨oc__law_is_row, od__law_is_row, .func (PySem.W.fnOf "_law_is_row" "_law_is_row" (defArgs st__law_is_row) (defBody st__law_is_row) (defScope st__law_is_row) .none kV__law_is_row dc__law_is_row pm0__law_is_row an__law_is_row cd__law_is_row ct__law_is_row), sl__law_is_row⟩)
    (c__law_is_row : PySem.W.codeIn K cd__law_is_row "_law_is_row" = true) (k__law_is_row : PySem.W.keepIn K (.ref f__law_is_row) = true)
    (a__law_is_table : PySem.W.nsIn K mainGlobals "_law_is_table" = some (some (.ref f__law_is_table))) (l__law_is_table : K.lookup f__law_is_table = some ⟨oc__law_is_table, od__law_is_table, .func (PySem.W.fnOf "_law_is_table" "_law_is_table" (defArgs st__law_is_table) (defBody st__law_is_table) (defScope st__law_is_table) .none kV__law_is_table dc__law_is_table pm0__law_is_table an__law_is_table cd__law_is_table ct__law_is_table), sl__law_is_table⟩)
    (c__law_is_table : PySem.W.codeIn K cd__law_is_table "_law_is_table" = true) (k__law_is_table : PySem.W.keepIn K (.ref f__law_is_table) = true)
    (a__law_fault : PySem.W.nsIn K mainGlobals "_law_fault" = some (some (.ref f__law_fault))) (l__law_fault : K.lookup f__law_fault = some ⟨oc__law_fault, od__law_fault, .func (PySem.W.fnOf "_law_fault" "_law_fault" (defArgs st__law_fault) (defBody st__law_fault) (defScope st__law_fault) .none kV__law_fault dc__law_fault pm0__law_fault an__law_fault cd__law_fault ct__law_fault), sl__law_fault⟩)
    (c__law_fault : PySem.W.codeIn K cd__law_fault "_law_fault" = true) (k__law_fault : PySem.W.keepIn K (.ref f__law_fault) = true)
    (a_law : PySem.W.nsIn K mainGlobals "law" = some (some (.ref f_law))) (l_law : K.lookup f_law = some ⟨oc_law, od_law, .func (PySem.W.fnOf "law" "law" (defArgs st_law) (defBody st_law) (defScope st_law) .none kV_law dc_law pm0_law an_law cd_law ct_law), sl_law⟩)
    (c_law : PySem.W.codeIn K cd_law "law" = true) (k_law : PySem.W.keepIn K (.ref f_law) = true)
    (z_isinstance : PySem.W.nsIn K mainGlobals "isinstance" = some none)
    (z_int : PySem.W.nsIn K mainGlobals "int" = some none)
    (z_bool : PySem.W.nsIn K mainGlobals "bool" = some none)
    (z_tuple : PySem.W.nsIn K mainGlobals "tuple" = some none)
    (z_len : PySem.W.nsIn K mainGlobals "len" = some none)
    (z_all : PySem.W.nsIn K mainGlobals "all" = some none)
    (z_zip : PySem.W.nsIn K mainGlobals "zip" = some none)
    (z_enumerate : PySem.W.nsIn K mainGlobals "enumerate" = some none)
    (z_range : PySem.W.nsIn K mainGlobals "range" = some none)
    (z_list : PySem.W.nsIn K mainGlobals "list" = some none)
    (z_repr : PySem.W.nsIn K mainGlobals "repr" = some none)
    (z_abs : PySem.W.nsIn K mainGlobals "abs" = some none)
    : ∃ fd : FuncData, (∀ (s : Shared) (u : Value), BindsTo s fd ⟨[u], []⟩ [("script", u)]) ∧ ∀ base : Heap, K.In base → base.Ns mainGlobals mg → FG l.prog w K mg base 10 fa fd ["script"] (spLaw K) := by
  have e := hfa.symm.trans (PySem.W.mg_of X G a_law)
  cases e
  have F_is_integer := fun_mk (st := st_is_integer) l_is_integer c_is_integer k_is_integer
  have b_is_integer := F_is_integer.binds (ps := ["value"]) fun _ _ _ _ _ _ us hl => match us, hl with | [_], _ => rfl
  have F_is_entry := fun_mk (st := st_is_entry) l_is_entry c_is_entry k_is_entry
  have b_is_entry := F_is_entry.binds (ps := ["sort", "value"]) fun _ _ _ _ _ _ us hl => match us, hl with | [_, _], _ => rfl
  have F_is_row := fun_mk (st := st_is_row) l_is_row c_is_row k_is_row
  have b_is_row := F_is_row.binds (ps := ["sort", "many", "value"]) fun _ _ _ _ _ _ us hl => match us, hl with | [_, _, _], _ => rfl
  have F_is_table := fun_mk (st := st_is_table) l_is_table c_is_table k_is_table
  have b_is_table := F_is_table.binds (ps := ["table", "sizes", "value"]) fun _ _ _ _ _ _ us hl => match us, hl with | [_, _, _], _ => rfl
  have F_is_world := fun_mk (st := st_is_world) l_is_world c_is_world k_is_world
  have b_is_world := F_is_world.binds (ps := ["told", "value"]) fun _ _ _ _ _ _ us hl => match us, hl with | [_, _], _ => rfl
  have F_judge_world := fun_mk (st := st_judge_world) l_judge_world c_judge_world k_judge_world
  have b_judge_world := F_judge_world.binds (ps := ["told", "value"]) fun _ _ _ _ _ _ us hl => match us, hl with | [_, _], _ => rfl
  have F__law_open_cells := fun_mk (st := st__law_open_cells) l__law_open_cells c__law_open_cells k__law_open_cells
  have b__law_open_cells := F__law_open_cells.binds (ps := ["script"]) fun _ _ _ _ _ _ us hl => match us, hl with | [_], _ => rfl
  have F__law_pick := fun_mk (st := st__law_pick) l__law_pick c__law_pick k__law_pick
  have b__law_pick := F__law_pick.binds (ps := ["source", "most"]) fun _ _ _ _ _ _ us hl => match us, hl with | [_, _], _ => rfl
  have F__law_of := fun_mk (st := st__law_of) l__law_of c__law_of k__law_of
  have b__law_of := F__law_of.binds (ps := ["source", "some"]) fun _ _ _ _ _ _ us hl => match us, hl with | [_, _], _ => rfl
  have F__law_told := fun_mk (st := st__law_told) l__law_told c__law_told k__law_told
  have b__law_told := F__law_told.binds (ps := ["source"]) fun _ _ _ _ _ _ us hl => match us, hl with | [_], _ => rfl
  have F__law_cells := fun_mk (st := st__law_cells) l__law_cells c__law_cells k__law_cells
  have b__law_cells := F__law_cells.binds (ps := ["told", "sizes"]) fun _ _ _ _ _ _ us hl => match us, hl with | [_, _], _ => rfl
  have F__law_world_of := fun_mk (st := st__law_world_of) l__law_world_of c__law_world_of k__law_world_of
  have b__law_world_of := F__law_world_of.binds (ps := ["told", "sizes", "known"]) fun _ _ _ _ _ _ us hl => match us, hl with | [_, _, _], _ => rfl
  have F__law_world := fun_mk (st := st__law_world) l__law_world c__law_world k__law_world
  have b__law_world := F__law_world.binds (ps := ["source", "told", "most"]) fun _ _ _ _ _ _ us hl => match us, hl with | [_, _, _], _ => rfl
  have F__law_bent := fun_mk (st := st__law_bent) l__law_bent c__law_bent k__law_bent
  have b__law_bent := F__law_bent.binds (ps := ["source", "value", "odd"]) fun _ _ _ _ _ _ us hl => match us, hl with | [_, _, _], _ => rfl
  have F__law_is_int := fun_mk (st := st__law_is_int) l__law_is_int c__law_is_int k__law_is_int
  have b__law_is_int := F__law_is_int.binds (ps := ["value"]) fun _ _ _ _ _ _ us hl => match us, hl with | [_], _ => rfl
  have F__law_is_row := fun_mk (st := st__law_is_row) l__law_is_row c__law_is_row k__law_is_row
  have b__law_is_row := F__law_is_row.binds (ps := ["sort", "many", "value"]) fun _ _ _ _ _ _ us hl => match us, hl with | [_, _, _], _ => rfl
  have F__law_is_table := fun_mk (st := st__law_is_table) l__law_is_table c__law_is_table k__law_is_table
  have b__law_is_table := F__law_is_table.binds (ps := ["table", "sizes", "value"]) fun _ _ _ _ _ _ us hl => match us, hl with | [_, _, _], _ => rfl
  have F__law_fault := fun_mk (st := st__law_fault) l__law_fault c__law_fault k__law_fault
  have b__law_fault := F__law_fault.binds (ps := ["told", "value"]) fun _ _ _ _ _ _ us hl => match us, hl with | [_, _], _ => rfl
  have F_law := fun_mk (st := st_law) l_law c_law k_law
  refine ⟨PySem.W.fnOf "law" "law" (defArgs st_law) (defBody st_law) (defScope st_law) .none kV_law dc_law pm0_law an_law cd_law ct_law, fun s v => .of_eq rfl, fun base hK hN => ?_⟩
  have B : Blts mg := ⟨PySem.W.mg_none_of X G z_isinstance, PySem.W.mg_none_of X G z_int, PySem.W.mg_none_of X G z_bool, PySem.W.mg_none_of X G z_tuple, PySem.W.mg_none_of X G z_len, PySem.W.mg_none_of X G z_all, PySem.W.mg_none_of X G z_zip, PySem.W.mg_none_of X G z_enumerate, PySem.W.mg_none_of X G z_range, PySem.W.mg_none_of X G z_list, PySem.W.mg_none_of X G z_repr, PySem.W.mg_none_of X G z_abs⟩
  have C_is_integer : Cal l.prog w K mg base "is_integer" 1 ["value"] (spP K w pm_is_integer) := ⟨⟨_, _, ok_is_integer F_is_integer B , PySem.W.mg_of X G a_is_integer, k_is_integer, b_is_integer⟩⟩
  have C_is_entry : Cal l.prog w K mg base "is_entry" 2 ["sort", "value"] (spP K w pm_is_entry) := ⟨⟨_, _, ok_is_entry F_is_entry B (C_is_integer := C_is_integer), PySem.W.mg_of X G a_is_entry, k_is_entry, b_is_entry⟩⟩
  have C_is_row : Cal l.prog w K mg base "is_row" 3 ["sort", "many", "value"] (spP K w pm_is_row) := ⟨⟨_, _, ok_is_row F_is_row B (C_is_entry := C_is_entry), PySem.W.mg_of X G a_is_row, k_is_row, b_is_row⟩⟩
  have C_is_table : Cal l.prog w K mg base "is_table" 4 ["table", "sizes", "value"] (spP K w pm_is_table) := ⟨⟨_, _, ok_is_table F_is_table B (C_is_row := C_is_row), PySem.W.mg_of X G a_is_table, k_is_table, b_is_table⟩⟩
  have C_is_world : Cal l.prog w K mg base "is_world" 5 ["told", "value"] (spP K w pm_is_world) := ⟨⟨_, _, ok_is_world F_is_world B (C_is_integer := C_is_integer) (C_is_table := C_is_table), PySem.W.mg_of X G a_is_world, k_is_world, b_is_world⟩⟩
  have C_judge_world : Cal l.prog w K mg base "judge_world" 5 ["told", "value"] (spP K w pm_judge_world) := ⟨⟨_, _, ok_judge_world F_judge_world B (C_is_integer := C_is_integer) (C_is_table := C_is_table), PySem.W.mg_of X G a_judge_world, k_judge_world, b_judge_world⟩⟩
  have C__law_open_cells : Cal l.prog w K mg base "_law_open_cells" 1 ["script"] (spOpen K) := ⟨⟨_, _, ok__law_open_cells F__law_open_cells B , PySem.W.mg_of X G a__law_open_cells, k__law_open_cells, b__law_open_cells⟩⟩
  have C__law_pick : Cal l.prog w K mg base "_law_pick" 1 ["source", "most"] (spS K w pm__law_pick) := ⟨⟨_, _, ok__law_pick F__law_pick B , PySem.W.mg_of X G a__law_pick, k__law_pick, b__law_pick⟩⟩
  have C__law_of : Cal l.prog w K mg base "_law_of" 2 ["source", "some"] (spS K w pm__law_of) := ⟨⟨_, _, ok__law_of F__law_of B (C__law_pick := C__law_pick), PySem.W.mg_of X G a__law_of, k__law_of, b__law_of⟩⟩
  have C__law_told : Cal l.prog w K mg base "_law_told" 2 ["source"] (spS K w pm__law_told) := ⟨⟨_, _, ok__law_told F__law_told B (C__law_pick := C__law_pick), PySem.W.mg_of X G a__law_told, k__law_told, b__law_told⟩⟩
  have C__law_cells : Cal l.prog w K mg base "_law_cells" 1 ["told", "sizes"] (spP K w pm__law_cells) := ⟨⟨_, _, ok__law_cells F__law_cells B , PySem.W.mg_of X G a__law_cells, k__law_cells, b__law_cells⟩⟩
  have C__law_world_of : Cal l.prog w K mg base "_law_world_of" 1 ["told", "sizes", "known"] (spP K w pm__law_world_of) := ⟨⟨_, _, ok__law_world_of F__law_world_of B , PySem.W.mg_of X G a__law_world_of, k__law_world_of, b__law_world_of⟩⟩
  have C__law_world : Cal l.prog w K mg base "_law_world" 3 ["source", "told", "most"] (spS K w pm__law_world) := ⟨⟨_, _, ok__law_world F__law_world B (C__law_pick := C__law_pick) (C__law_cells := C__law_cells) (C__law_of := C__law_of) (C__law_world_of := C__law_world_of), PySem.W.mg_of X G a__law_world, k__law_world, b__law_world⟩⟩
  have C_bent : ∀ n : Nat, Cal l.prog w K mg base "_law_bent" (n + 2) ["source", "value", "odd"] (spS K w (pmB n)) := fun n => by
    induction n with
    | zero => exact ⟨⟨_, _, fg_no fun ds R h => h, PySem.W.mg_of X G a__law_bent, k__law_bent, b__law_bent⟩⟩
    | succ n ih => exact ⟨⟨_, _, ok__law_bent F__law_bent B (hj := by omega) (C__law_pick := C__law_pick) (C__law_of := C__law_of) (C__law_bent := ih), PySem.W.mg_of X G a__law_bent, k__law_bent, b__law_bent⟩⟩
  have C__law_bent := (C_bent 5).imp (k := 9) (by decide) fun _ _ _ _ h => h
  have C__law_is_int : Cal l.prog w K mg base "_law_is_int" 1 ["value"] (spP K w pm__law_is_int) := ⟨⟨_, _, ok__law_is_int F__law_is_int B , PySem.W.mg_of X G a__law_is_int, k__law_is_int, b__law_is_int⟩⟩
  have C__law_is_row : Cal l.prog w K mg base "_law_is_row" 2 ["sort", "many", "value"] (spP K w pm__law_is_row) := ⟨⟨_, _, ok__law_is_row F__law_is_row B (C__law_is_int := C__law_is_int), PySem.W.mg_of X G a__law_is_row, k__law_is_row, b__law_is_row⟩⟩
  have C__law_is_table : Cal l.prog w K mg base "_law_is_table" 3 ["table", "sizes", "value"] (spP K w pm__law_is_table) := ⟨⟨_, _, ok__law_is_table F__law_is_table B (C__law_is_row := C__law_is_row), PySem.W.mg_of X G a__law_is_table, k__law_is_table, b__law_is_table⟩⟩
  have C__law_fault : Cal l.prog w K mg base "_law_fault" 4 ["told", "value"] (spP K w pm__law_fault) := ⟨⟨_, _, ok__law_fault F__law_fault B (C__law_is_int := C__law_is_int) (C__law_is_table := C__law_is_table), PySem.W.mg_of X G a__law_fault, k__law_fault, b__law_fault⟩⟩
  exact ok_law F_law B (C__law_told := C__law_told) (C__law_world := C__law_world) (C__law_of := C__law_of) (C__law_pick := C__law_pick) (C__law_bent := C__law_bent) (C__law_fault := C__law_fault) (C_is_world := C_is_world) (C_judge_world := C_judge_world) (C__law_open_cells := C__law_open_cells)
end K28
open PySem PySem.W PyProof.Rows
set_option maxHeartbeats 0 in
theorem PySem.Challenge.cw_drawnsigns_k28_worlds_judged_holds : PySem.Challenge.rw_drawnsigns_k28_worlds_judged.Holds := by
  w_on; o_law; k_head; (case hw => w_witness2)
  k_fill
  refine DL.walk_G (l := PySem.Challenge.rw_drawnsigns_k28_worlds_judged) (k := 10) rfl rfl ⟨rfl, by decide, by decide⟩ (fun w h Y => PySem.W.kIn_of Y) ?F
  case F =>
    intro w mg fa h KX G hmg
    refine' K28.all_mk KX G hmg ?a_is_integer ?l_is_integer ?c_is_integer ?k_is_integer ?a_is_entry ?l_is_entry ?c_is_entry ?k_is_entry ?a_is_row ?l_is_row ?c_is_row ?k_is_row ?a_is_table ?l_is_table ?c_is_table ?k_is_table ?a_is_world ?l_is_world ?c_is_world ?k_is_world ?a_judge_world ?l_judge_world ?c_judge_world ?k_judge_world ?a__law_open_cells ?l__law_open_cells ?c__law_open_cells ?k__law_open_cells ?a__law_pick ?l__law_pick ?c__law_pick ?k__law_pick ?a__law_of ?l__law_of ?c__law_of ?k__law_of ?a__law_told ?l__law_told ?c__law_told ?k__law_told ?a__law_cells ?l__law_cells ?c__law_cells ?k__law_cells ?a__law_world_of ?l__law_world_of ?c__law_world_of ?k__law_world_of ?a__law_world ?l__law_world ?c__law_world ?k__law_world ?a__law_bent ?l__law_bent ?c__law_bent ?k__law_bent ?a__law_is_int ?l__law_is_int ?c__law_is_int ?k__law_is_int ?a__law_is_row ?l__law_is_row ?c__law_is_row ?k__law_is_row ?a__law_is_table ?l__law_is_table ?c__law_is_table ?k__law_is_table ?a__law_fault ?l__law_fault ?c__law_fault ?k__law_fault ?a_law ?l_law ?c_law ?k_law ?z_isinstance ?z_int ?z_bool ?z_tuple ?z_len ?z_all ?z_zip ?z_enumerate ?z_range ?z_list ?z_repr ?z_abs
    (case a_is_integer => k_is); (case l_is_integer => k_is); (case c_is_integer => k_is); (case k_is_integer => k_is)
    (case a_is_entry => k_is); (case l_is_entry => k_is); (case c_is_entry => k_is); (case k_is_entry => k_is)
    (case a_is_row => k_is); (case l_is_row => k_is); (case c_is_row => k_is); (case k_is_row => k_is)
    (case a_is_table => k_is); (case l_is_table => k_is); (case c_is_table => k_is); (case k_is_table => k_is)
    (case a_is_world => k_is); (case l_is_world => k_is); (case c_is_world => k_is); (case k_is_world => k_is)
    (case a_judge_world => k_is); (case l_judge_world => k_is); (case c_judge_world => k_is); (case k_judge_world => k_is)
    (case a__law_open_cells => k_is); (case l__law_open_cells => k_is); (case c__law_open_cells => k_is); (case k__law_open_cells => k_is)
    (case a__law_pick => k_is); (case l__law_pick => k_is); (case c__law_pick => k_is); (case k__law_pick => k_is)
    (case a__law_of => k_is); (case l__law_of => k_is); (case c__law_of => k_is); (case k__law_of => k_is)
    (case a__law_told => k_is); (case l__law_told => k_is); (case c__law_told => k_is); (case k__law_told => k_is)
    (case a__law_cells => k_is); (case l__law_cells => k_is); (case c__law_cells => k_is); (case k__law_cells => k_is)
    (case a__law_world_of => k_is); (case l__law_world_of => k_is); (case c__law_world_of => k_is); (case k__law_world_of => k_is)
    (case a__law_world => k_is); (case l__law_world => k_is); (case c__law_world => k_is); (case k__law_world => k_is)
    (case a__law_bent => k_is); (case l__law_bent => k_is); (case c__law_bent => k_is); (case k__law_bent => k_is)
    (case a__law_is_int => k_is); (case l__law_is_int => k_is); (case c__law_is_int => k_is); (case k__law_is_int => k_is)
    (case a__law_is_row => k_is); (case l__law_is_row => k_is); (case c__law_is_row => k_is); (case k__law_is_row => k_is)
    (case a__law_is_table => k_is); (case l__law_is_table => k_is); (case c__law_is_table => k_is); (case k__law_is_table => k_is)
    (case a__law_fault => k_is); (case l__law_fault => k_is); (case c__law_fault => k_is); (case k__law_fault => k_is)
    (case a_law => k_is); (case l_law => k_is); (case c_law => k_is); (case k_law => k_is)
    (case z_isinstance => k_is); (case z_int => k_is); (case z_bool => k_is); (case z_tuple => k_is)
    (case z_len => k_is); (case z_all => k_is); (case z_zip => k_is); (case z_enumerate => k_is)
    (case z_range => k_is); (case z_list => k_is); (case z_repr => k_is); (case z_abs => k_is)
