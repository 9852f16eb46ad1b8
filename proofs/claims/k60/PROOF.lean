import PyProof.Rows.All
import Wide.All
import OpenK.AllK
import Wide.FinOn
import HandS.ForMost
import HandS.Style
import HandS.TupMul
import HandS.IsInst
import HandS.EndBits
import KE.GoesEnum
import KE.GoesMore
import PyProof.ListMulRoad
import PyProof.FactsAll.tuple_2
import HandS.DictComp
import HandS.TupLen
import KE.IntBitsLaws
import PySem.Challenge.RW_nocarry_k60_across_squares_and_factors
set_option Elab.async false
set_option linter.all false
set_option maxRecDepth 100000
set_option maxRecDepth 100000
/-! E-layer 0: data, what stands for data in a heap, states of slots, judgements. -/
namespace EL
open PySem PySem.Spec L2
abbrev Frag := PySem.W.Frag
/-- data without addresses -/
inductive D where
  | non | bl (b : Bool) | int (i : Int) | str (s : Str) | tup (ds : List D) | lst (ds : List D) | dct (ks : List Key) (ds : List D) | fdc (ks : List Key) (ds : List D)
mutual
def T (K : Frag) (H : Hp) : D → V → Prop
  | .non, v => v = .non
  | .bl b, v => v = .bl b
  | .int i, v => v = .int i
  | .str s, v => v = .str s
  | .tup ds, v => ∃ a vs, v = .ref a ∧ H a = some (.tup vs) ∧ Ts K H ds vs
  | .lst ds, v => ∃ a vs, v = .ref a ∧ SqL K H a vs ∧ Ts K H ds vs
  | .dct ks ds, v => ∃ a vs, v = .ref a ∧ Rd H a (.dK (ks.zip vs)) ∧ ks.length = vs.length ∧ Ts K H ds vs
  | .fdc ks ds, v => ∃ a vs o, v = .ref a ∧ H a = some (.frz o (.dK (ks.zip vs))) ∧ ks.length = vs.length ∧ Ts K H ds vs
def Ts (K : Frag) (H : Hp) : List D → List V → Prop
  | [], vs => vs = []
  | d :: ds, vs => ∃ v r, vs = v :: r ∧ T K H d v ∧ Ts K H ds r
end
mutual
def flat : D → Bool
  | .tup ds => flats ds
  | .lst _ => false
  | .dct _ _ => false
  | .fdc _ _ => false
  | .non => true
  | .bl _ => true
  | .int _ => true
  | .str _ => true
def flats : List D → Bool
  | [] => true
  | d :: ds => flat d && flats ds
end
theorem Same.rd {H H' : Hp} (e : Same H H') {a : Addr} {u : HO} (h : Rd H a u) : Rd H' a u := by
  rcases h with h | ⟨o, h⟩
  · exact .inl (e _ _ h)
  · exact .inr ⟨o, e _ _ h⟩
theorem Same.seqT {K : Frag} {H H' : Hp} (e : Same H H') {a : Addr} {xs : List V} (h : SqT K H a xs) : SqT K H' a xs := by
  rcases h with h | h
  · exact .inl (Same.rd e h)
  · exact .inr h
mutual
theorem T.same {K : Frag} {H H' : Hp} (e : Same H H') : ∀ {d : D} {v : V}, T K H d v → T K H' d v
  | .non, _, h => h
  | .bl _, _, h => h
  | .int _, _, h => h
  | .str _, _, h => h
  | .tup _, _, h => let ⟨a, vs, e1, h1, h2⟩ := h; ⟨a, vs, e1, e _ _ h1, Ts.same e h2⟩
  | .lst _, _, h => let ⟨a, vs, e1, h1, h2⟩ := h; ⟨a, vs, e1, L2.Same.seq e h1, Ts.same e h2⟩
  | .dct _ _, _, h => let ⟨a, vs, e1, h1, h3, h2⟩ := h; ⟨a, vs, e1, Same.rd e h1, h3, Ts.same e h2⟩
  | .fdc _ _, _, h => let ⟨a, vs, o, e1, h1, h3, h2⟩ := h; ⟨a, vs, o, e1, e _ _ h1, h3, Ts.same e h2⟩
theorem Ts.same {K : Frag} {H H' : Hp} (e : Same H H') : ∀ {ds : List D} {vs : List V}, Ts K H ds vs → Ts K H' ds vs
  | [], _, h => h
  | _ :: _, _, h => let ⟨v, r, e1, h1, h2⟩ := h; ⟨v, r, e1, T.same e h1, Ts.same e h2⟩
end
mutual
theorem T.flat {K : Frag} {H H' : Hp} (e : ∀ a vs, H a = some (.tup vs) → H' a = some (.tup vs)) : ∀ {d : D} {v : V}, flat d = true → T K H d v → T K H' d v
  | .non, _, _, h => h
  | .bl _, _, _, h => h
  | .int _, _, _, h => h
  | .str _, _, _, h => h
  | .tup _, _, f, h => let ⟨a, vs, e1, h1, h2⟩ := h; ⟨a, vs, e1, e _ _ h1, Ts.flat e (by simpa [EL.flat] using f) h2⟩
  | .lst _, _, f, _ => by simp [EL.flat] at f
  | .dct _ _, _, f, _ => by simp [EL.flat] at f
  | .fdc _ _, _, f, _ => by simp [EL.flat] at f
theorem Ts.flat {K : Frag} {H H' : Hp} (e : ∀ a vs, H a = some (.tup vs) → H' a = some (.tup vs)) : ∀ {ds : List D} {vs : List V}, flats ds = true → Ts K H ds vs → Ts K H' ds vs
  | [], _, _, h => h
  | _ :: _, _, f, h => let ⟨v, r, e1, h1, h2⟩ := h; have f' := (Bool.and_eq_true_iff.mp (by simpa [flats] using f)); ⟨v, r, e1, T.flat e f'.1 h1, Ts.flat e f'.2 h2⟩
end
theorem Ts.length {K : Frag} {H : Hp} : ∀ {ds : List D} {vs : List V}, Ts K H ds vs → vs.length = ds.length
  | [], _, h => by cases (show _ = _ from h); rfl
  | _ :: _, _, h => by obtain ⟨v, r, e1, h1, h2⟩ := h; subst e1; simp [Ts.length h2]
theorem Ts.get {K : Frag} {H : Hp} : ∀ {ds : List D} {vs : List V} {i : Nat} {d : D}, Ts K H ds vs → ds[i]? = some d → ∃ v, vs[i]? = some v ∧ T K H d v
  | [], _, _, _, _, e => by simp at e
  | _ :: _, _, 0, _, h, e => by obtain ⟨v, r, e1, h1, h2⟩ := h; subst e1; cases (show _ = _ from Option.some.inj (by simpa using e)); exact ⟨v, rfl, h1⟩
  | _ :: _, _, i + 1, _, h, e => by obtain ⟨v, r, e1, h1, h2⟩ := h; subst e1; obtain ⟨u, a, b⟩ := Ts.get h2 (i := i) (by simpa using e); exact ⟨u, by simpa using a, b⟩
theorem Ts.getV {K : Frag} {H : Hp} : ∀ {ds : List D} {vs : List V} {i : Nat} {v : V}, Ts K H ds vs → vs[i]? = some v → ∃ d, ds[i]? = some d ∧ T K H d v
  | [], _, _, _, h, e => by cases (show _ = _ from h); simp at e
  | _ :: _, _, 0, _, h, e => by obtain ⟨v, r, e1, h1, h2⟩ := h; subst e1; cases (show _ = _ from Option.some.inj (by simpa using e)); exact ⟨_, rfl, h1⟩
  | _ :: _, _, i + 1, _, h, e => by obtain ⟨v, r, e1, h1, h2⟩ := h; subst e1; obtain ⟨u, a, b⟩ := Ts.getV h2 (i := i) (by simpa using e); exact ⟨u, by simpa using a, b⟩
theorem Ts.append {K : Frag} {H : Hp} : ∀ {ds es : List D} {vs ws : List V}, Ts K H ds vs → Ts K H es ws → Ts K H (ds ++ es) (vs ++ ws)
  | [], _, _, _, h, h' => by cases (show _ = _ from h); exact h'
  | _ :: _, _, _, _, h, h' => by obtain ⟨v, r, e1, h1, h2⟩ := h; subst e1; exact ⟨v, _, rfl, h1, Ts.append h2 h'⟩
theorem Ts.one {K : Frag} {H : Hp} {d : D} {v : V} (h : T K H d v) : Ts K H [d] [v] := ⟨v, [], rfl, h, rfl⟩
theorem Ts.set {K : Frag} {H : Hp} {d : D} {v : V} (h : T K H d v) : ∀ {ds : List D} {vs : List V} (i : Nat), Ts K H ds vs → Ts K H (ds.set i d) (vs.set i v)
  | [], _, _, h' => by cases (show _ = _ from h'); rfl
  | _ :: _, _, 0, h' => by obtain ⟨v, r, e1, h1, h2⟩ := h'; subst e1; exact ⟨_, _, rfl, h, h2⟩
  | _ :: _, _, i + 1, h' => by obtain ⟨v, r, e1, h1, h2⟩ := h'; subst e1; exact ⟨_, _, rfl, h1, Ts.set h i h2⟩
theorem Ts.take {K : Frag} {H : Hp} : ∀ {ds : List D} {vs : List V} (n : Nat), Ts K H ds vs → Ts K H (ds.take n) (vs.take n)
  | _, _, 0, _ => by simp [Ts]
  | [], _, n + 1, h => by cases (show _ = _ from h); simp [Ts]
  | _ :: _, _, n + 1, h => by obtain ⟨v, r, e1, h1, h2⟩ := h; subst e1; exact ⟨_, _, rfl, h1, Ts.take n h2⟩
theorem Ts.drop {K : Frag} {H : Hp} : ∀ {ds : List D} {vs : List V} (n : Nat), Ts K H ds vs → Ts K H (ds.drop n) (vs.drop n)
  | _, _, 0, h => h
  | [], _, n + 1, h => by cases (show _ = _ from h); simp [Ts]
  | _ :: _, _, n + 1, h => by obtain ⟨v, r, e1, h1, h2⟩ := h; subst e1; exact Ts.drop n h2
theorem Ts.reverse {K : Frag} {H : Hp} : ∀ {ds : List D} {vs : List V}, Ts K H ds vs → Ts K H ds.reverse vs.reverse
  | [], _, h => by cases (show _ = _ from h); rfl
  | _ :: _, _, h => by obtain ⟨v, r, e1, h1, h2⟩ := h; subst e1; rw [List.reverse_cons, List.reverse_cons]; exact Ts.append (Ts.reverse h2) (Ts.one h1)
theorem Ts.rep {K : Frag} {H : Hp} {ds : List D} {vs : List V} (h : Ts K H ds vs) : ∀ n : Nat, Ts K H (List.replicate n ds).flatten (List.replicate n vs).flatten
  | 0 => rfl
  | n + 1 => by simp only [List.replicate_succ, List.flatten_cons]; exact Ts.append h (Ts.rep h n)
theorem Ts.ints {K : Frag} {H : Hp} : ∀ (l : List Int), Ts K H (l.map D.int) (l.map V.int)
  | [] => rfl
  | a :: l => ⟨_, _, rfl, rfl, Ts.ints l⟩
theorem Ts.ints_of {K : Frag} {H : Hp} : ∀ {l : List Int} {vs : List V}, Ts K H (l.map D.int) vs → vs = l.map V.int
  | [], _, h => h
  | a :: l, _, h => by obtain ⟨v, r, e1, h1, h2⟩ := h; subst e1; cases (show _ = _ from h1); rw [Ts.ints_of h2]; rfl
theorem Ts.bls_of {K : Frag} {H : Hp} : ∀ {l : List Bool} {vs : List V}, Ts K H (l.map D.bl) vs → vs = l.map V.bl
  | [], _, h => h
  | a :: l, _, h => by obtain ⟨v, r, e1, h1, h2⟩ := h; subst e1; cases (show _ = _ from h1); rw [Ts.bls_of h2]; rfl
theorem flats_ints : ∀ (l : List Int), flats (l.map D.int) = true
  | [] => rfl
  | a :: l => by simp only [List.map_cons, flats, flat, flats_ints l]; rfl
theorem flats_append : ∀ (a b : List D), flats (a ++ b) = (flats a && flats b)
  | [], b => by simp [flats]
  | x :: a, b => by simp only [List.cons_append, flats, flats_append a b, Bool.and_assoc]

/-- what an object's content is for data -/
def OR (K : Frag) (Hs : Hp) : D → HO → Prop
  | .lst ds, h => ∃ vs, h = .lst vs ∧ Ts K Hs ds vs
  | .dct ks ds, h => ∃ vs, h = .dK (ks.zip vs) ∧ ks.length = vs.length ∧ Ts K Hs ds vs
  | _, _ => False
theorem OR.same {K : Frag} {H H' : Hp} (e : Same H H') {d : D} {h : HO} (o : OR K H d h) : OR K H' d h := by
  cases d with
  | lst ds => obtain ⟨vs, e1, h1⟩ := o; exact ⟨vs, e1, Ts.same e h1⟩
  | dct ks ds => obtain ⟨vs, e1, e2, h1⟩ := o; exact ⟨vs, e1, e2, Ts.same e h1⟩
  | _ => exact o
/-- the data of an own object is flat -/
def flatO : D → Bool
  | .lst ds => flats ds
  | .dct _ ds => flats ds
  | _ => false
theorem OR.flat {K : Frag} {H H' : Hp} (e : ∀ a vs, H a = some (.tup vs) → H' a = some (.tup vs)) {d : D} {h : HO} (f : flatO d = true) (o : OR K H d h) : OR K H' d h := by
  cases d with
  | lst ds => obtain ⟨vs, e1, h1⟩ := o; exact ⟨vs, e1, Ts.flat e f h1⟩
  | dct ks ds => obtain ⟨vs, e1, e2, h1⟩ := o; exact ⟨vs, e1, e2, Ts.flat e f h1⟩
  | _ => exact o
theorem OR.T {K : Frag} {H : Hp} {d : D} {h : HO} {a : Addr} (o : OR K H d h) (e : H a = some h) : T K H d (.ref a) := by
  cases d with
  | lst ds => obtain ⟨vs, e1, h1⟩ := o; subst e1; exact ⟨a, vs, rfl, .of e, h1⟩
  | dct ks ds => obtain ⟨vs, e1, e2, h1⟩ := o; subst e1; exact ⟨a, vs, rfl, .inl e, e2, h1⟩
  | non => exact o.elim
  | bl _ => exact o.elim
  | int _ => exact o.elim
  | str _ => exact o.elim
  | tup _ => exact o.elim
  | fdc _ _ => exact o.elim
/-- own objects are lists or dicts -/
theorem OR.notT {K : Frag} {H : Hp} {d : D} {h : HO} (o : OR K H d h) : (∀ xs, h ≠ .tup xs) ∧ (∀ ob xs, h ≠ .frz ob (.tup xs)) := by
  cases d with
  | lst ds => obtain ⟨vs, e1, h1⟩ := o; subst e1; exact ⟨fun _ z => (nomatch z), fun _ _ z => (nomatch z)⟩
  | dct ks ds => obtain ⟨vs, e1, e2, h1⟩ := o; subst e1; exact ⟨fun _ z => (nomatch z), fun _ _ z => (nomatch z)⟩
  | non => exact o.elim
  | bl _ => exact o.elim
  | int _ => exact o.elim
  | str _ => exact o.elim
  | tup _ => exact o.elim
  | fdc _ _ => exact o.elim

/-- the state of the law's draws -/
structure DS where
  whole : Int
  count : Int
  ca : Addr
  cells : List Int
/-- what is known of a slot -/
inductive S where
  | no | sh (d : D) | own (a : Addr) (d : D) | rf (a : Addr)
/-- an expression's outcome -/
inductive R where
  | no | sh (d : D) | own (d : D) | rf (a : Addr)
def hm (dr : Option Addr) (H : Hp) : Hp := fun b => if dr = some b then none else H b
theorem hm_none (H : Hp) : hm none H = H := by funext b; unfold hm; rw [if_neg (by intro h; cases h)]
theorem hm_ne {dr : Option Addr} {H : Hp} {b : Addr} (h : dr ≠ some b) : hm dr H b = H b := by unfold hm; rw [if_neg h]
theorem hm_some {dr : Option Addr} {H : Hp} {b : Addr} {o : HO} (h : hm dr H b = some o) : dr ≠ some b ∧ H b = some o := by
  unfold hm at h
  split at h
  · cases h
  · exact ⟨by assumption, h⟩
def DrawAt (K : Frag) (Hs H : Hp) (a : Addr) (s : DS) : Prop :=
  H a = some (.dK [(.inr "whole", .int s.whole), (.inr "cells", .ref s.ca), (.inr "count", .int s.count)]) ∧ Hs s.ca = some (.lst (s.cells.map V.int))
def Ext (dr : Option Addr) (H H' : Hp) : Prop := ∀ b o, H b = some o → (dr ≠ some b → H' b = some o) ∧ ∃ o', H' b = some o'
theorem Ext.refl {dr : Option Addr} {H : Hp} : Ext dr H H := fun _ o h => ⟨fun _ => h, o, h⟩
theorem Ext.trans {dr : Option Addr} {H H1 H2 : Hp} (a : Ext dr H H1) (b : Ext dr H1 H2) : Ext dr H H2 := fun c o h => by
  obtain ⟨h1, o1, h2⟩ := a c o h
  exact ⟨fun n => (b c o (h1 n)).1 n, (b c o1 h2).2⟩
theorem Ext.of_same {dr : Option Addr} {H H' : Hp} (e : Same H H') : Ext dr H H' := fun b o h => ⟨fun _ => e b o h, o, e b o h⟩
theorem Ext.free {dr : Option Addr} {H H' : Hp} (e : Ext dr H H') {a : Addr} (h : H' a = none) : H a = none := by
  cases q : H a with
  | none => rfl
  | some o => obtain ⟨_, o', h'⟩ := e a o q; rw [h] at h'; cases h'
theorem Ext.hm {dr : Option Addr} {H H' : Hp} (e : Ext dr H H') : Same (hm dr H) (hm dr H') := fun b o h => by
  obtain ⟨n, h⟩ := hm_some h
  rw [hm_ne n]
  exact (e b o h).1 n
theorem Ext.same {H H' : Hp} (e : Ext none H H') : Same H H' := fun b o h => (e b o h).1 (by intro z; cases z)
def isT : HO → Bool
  | .tup _ => true
  | .frz _ (.tup _) => true
  | _ => false
structure Stp (dr : Option Addr) (Hs H Hs' H' : Hp) : Prop where
  ext : Ext dr H H'
  same : Same Hs Hs'
  grow : ∀ b o, Hs' b = some o → Hs b = some o ∨ H b = none ∨ isT o = true
theorem Stp.refl {dr : Option Addr} {Hs H : Hp} : Stp dr Hs H Hs H := ⟨.refl, L2.Same.refl _, fun _ _ h => .inl h⟩
theorem Stp.trans {dr : Option Addr} {Hs H Hs1 H1 Hs2 H2 : Hp} (a : Stp dr Hs H Hs1 H1) (b : Stp dr Hs1 H1 Hs2 H2) : Stp dr Hs H Hs2 H2 :=
  ⟨a.ext.trans b.ext, a.same.trans b.same, fun c o h => by
    rcases b.grow c o h with h | h | h
    · exact a.grow c o h
    · exact .inr (.inl (a.ext.free h))
    · exact .inr (.inr h)⟩
def SlotR (K : Frag) (H0 Hs H : Hp) (ov : Option (Option V)) : S → Prop
  | .no => True
  | .sh d => ∃ v, ov = some (some v) ∧ T K Hs d v
  | .own a d => ov = some (some (.ref a)) ∧ H0 a = none ∧ Hs a = none ∧ ∃ h, H a = some h ∧ OR K Hs d h
  | .rf a => ov = some (some (.ref a))
structure Env (K : Frag) (dr : Option Addr) (H0 Hs H : Hp) (σ : L2.St) (δ : List S) (s : DS) : Prop where
  ext : Ext dr H0 H
  sub : Same Hs (hm dr H)
  slot : ∀ (i : Nat) (r : S), δ[i]? = some r → SlotR K H0 Hs H σ[i]? r
  sep : ∀ (i j : Nat) (a : Addr) (d d' : D), δ[i]? = some (.own a d) → δ[j]? = some (.own a d') → i = j
  drw : ∀ a, dr = some a → DrawAt K Hs H a s
  dr0 : ∀ a, dr = some a → ∃ o, H0 a = some o
  len : δ.length ≤ σ.length
def Res (K : Frag) (H Hs' H' : Hp) (v : V) : R → Prop
  | .no => True
  | .sh d => T K Hs' d v
  | .own d => ∃ a h, v = .ref a ∧ H a = none ∧ Hs' a = none ∧ H' a = some h ∧ OR K Hs' d h
  | .rf a => v = .ref a
/-- read as data: shared, or an object whose content is shared data -/
def RT (K : Frag) (dr : Option Addr) (Hs H : Hp) (d : D) (v : V) : Prop := T K Hs d v ∨ ∃ a h, v = .ref a ∧ dr ≠ some a ∧ H a = some h ∧ OR K Hs d h
def Se (K : Frag) (dr : Option Addr) (t : TE) (δ : List S) (s : DS) (r : R) (s' : DS) : Prop :=
  ∀ H0 Hs H σ, Env K dr H0 Hs H σ δ s → ∀ Q : VK, (∀ v Hs' H', Env K dr H0 Hs' H' σ δ s' → Stp dr Hs H Hs' H' → Res K H Hs' H' v r → Q v H') → t σ H Q
def SeR (K : Frag) (dr : Option Addr) (t : TE) (δ : List S) (s : DS) (d : D) (s' : DS) : Prop :=
  ∀ H0 Hs H σ, Env K dr H0 Hs H σ δ s → ∀ Q : VK, (∀ v Hs' H', Env K dr H0 Hs' H' σ δ s' → Stp dr Hs H Hs' H' → RT K dr Hs' H' d v → Q v H') → t σ H Q
def RTs (K : Frag) (dr : Option Addr) (Hs H : Hp) : List D → List V → Prop
  | [], vs => vs = []
  | d :: ds, vs => ∃ v r, vs = v :: r ∧ RT K dr Hs H d v ∧ RTs K dr Hs H ds r
/-- an argument list -/
def SeA (K : Frag) (dr : Option Addr) (t : TA) (δ : List S) (s : DS) (ds : List D) (s' : DS) : Prop :=
  ∀ H0 Hs H σ, Env K dr H0 Hs H σ δ s → ∀ Q : List V → Hp → Prop, (∀ vs Hs' H', Env K dr H0 Hs' H' σ δ s' → Stp dr Hs H Hs' H' → RTs K dr Hs' H' ds vs → Q vs H') → t σ H Q
/-- a test -/
def SeT (K : Frag) (dr : Option Addr) (t : TT) (δ : List S) (s : DS) (b : Bool) (s' : DS) : Prop :=
  ∀ H0 Hs H σ, Env K dr H0 Hs H σ δ s → ∀ Q : Bool → Hp → Prop, (∀ Hs' H', Env K dr H0 Hs' H' σ δ s' → Stp dr Hs H Hs' H' → Q b H') → t σ H Q
inductive Out where
  | nx (δ : List S) (s : DS) | rt (r : R) (s : DS) | bk (δ : List S) (s : DS) | ct (δ : List S) (s : DS)
structure Post (K : Frag) (dr : Option Addr) (H0 Hs0 : Hp) (O : Out → Prop) (D : Ends) : Prop where
  nx : ∀ δ s, O (.nx δ s) → ∀ σ Hs H, Same Hs0 Hs → Env K dr H0 Hs H σ δ s → D.nx σ H
  rt : ∀ r s, O (.rt r s) → ∀ v Hs H, Ext dr H0 H → Same Hs (hm dr H) → (∀ a, dr = some a → DrawAt K Hs H a s) → Res K H0 Hs H v r → D.rt v H
  bk : ∀ δ s, O (.bk δ s) → ∀ σ Hs H, Same Hs0 Hs → Env K dr H0 Hs H σ δ s → D.bk σ H
  ct : ∀ δ s, O (.ct δ s) → ∀ σ Hs H, Same Hs0 Hs → Env K dr H0 Hs H σ δ s → D.ct σ H
def SS (K : Frag) (dr : Option Addr) (t : TS) (δ : List S) (s : DS) (O : Out → Prop) : Prop :=
  ∀ H0 Hs H σ, Env K dr H0 Hs H σ δ s → ∀ D : Ends, Post K dr H0 Hs O D → t D σ H
end EL
set_option maxRecDepth 100000
/-! E-layer 1: states stepped, expressions. -/
namespace EL
open PySem PySem.Spec L2
section
variable {K : Frag} {dr : Option Addr} {H0 Hs H Hs' H' : Hp} {σ : L2.St} {δ : List S} {s s' : DS}
theorem DrawAt.same {Hs1 : Hp} {a : Addr} (e : Same Hs Hs1) (d : DrawAt K Hs H a s) (h : H' a = H a) : DrawAt K Hs1 H' a s := by
  obtain ⟨h1, h2⟩ := d
  exact ⟨by rw [h]; exact h1, e _ _ h2⟩
theorem Env.ne_dr (E : Env K dr H0 Hs H σ δ s) {p : Addr} (h : H p = none) : dr ≠ some p := fun z => by
  obtain ⟨h1, _⟩ := E.drw p z
  rw [h] at h1; cases h1
theorem Env.own_ne (E : Env K dr H0 Hs H σ δ s) {i : Nat} {a : Addr} {d : D} (h : δ[i]? = some (.own a d)) : dr ≠ some a := fun z => by
  obtain ⟨o, h1⟩ := E.dr0 a z
  obtain ⟨_, h2, _⟩ := E.slot i _ h
  rw [h1] at h2; cases h2
theorem Env.stp (E : Env K dr H0 Hs H σ δ s) (st : Stp dr Hs H Hs' H') (sub : Same Hs' (hm dr H')) (dd : ∀ a, dr = some a → DrawAt K Hs' H' a s') : Env K dr H0 Hs' H' σ δ s' where
  ext := E.ext.trans st.ext
  sub := sub
  slot := fun i r h => by
    have q := E.slot i r h
    cases r with
    | no => trivial
    | sh d => obtain ⟨v, e, t⟩ := q; exact ⟨v, e, t.same st.same⟩
    | rf a => exact q
    | own a d =>
      obtain ⟨e, h0, hs, o, ho, t⟩ := q
      have nd := E.own_ne h
      have ho' : H' a = some o := (st.ext a o ho).1 nd
      refine ⟨e, h0, ?_, o, ho', t.same st.same⟩
      cases z : Hs' a with
      | none => rfl
      | some u =>
        exfalso
        have e1 := (hm_some (sub a u z)).2
        rw [ho'] at e1; cases e1
        rcases st.grow a _ z with g | g | g
        · rw [hs] at g; cases g
        · rw [ho] at g; cases g
        · have nT := t.notT
          cases o with
          | tup xs => exact nT.1 xs rfl
          | frz ob u =>
            cases u with
            | tup xs => exact nT.2 ob xs rfl
            | _ => simp [isT] at g
          | _ => simp [isT] at g
  sep := E.sep
  drw := dd
  dr0 := E.dr0
  len := E.len
/-- a new object, shared -/
theorem Env.newS (E : Env K dr H0 Hs H σ δ s) {p : Addr} (h : H p = none) (o : HO) : Env K dr H0 (upd Hs p o) (upd H p o) σ δ s ∧ Stp dr Hs H (upd Hs p o) (upd H p o) := by
  have nd := E.ne_dr h
  have hs : Hs p = none := by
    cases z : Hs p with
    | none => rfl
    | some u => have := (hm_some (E.sub p u z)).2; rw [h] at this; cases this
  have same : Same Hs (upd Hs p o) := fun b u e => by rw [upd_ne (ne_of_none e hs)]; exact e
  have ext : Ext dr H (upd H p o) := .of_same fun b u e => by rw [upd_ne (ne_of_none e h)]; exact e
  have st : Stp dr Hs H (upd Hs p o) (upd H p o) := ⟨ext, same, fun b u e => by
    by_cases q : b = p
    · subst q; exact .inr (.inl h)
    · rw [upd_ne q] at e; exact .inl e⟩
  refine ⟨E.stp st (fun b u e => ?_) (fun a z => (E.drw a z).same same ?_), st⟩
  · by_cases q : b = p
    · subst q; rw [hm_ne nd, upd_same]; rw [upd_same] at e; exact e
    · rw [upd_ne q] at e
      have e2 := hm_some (E.sub b u e)
      rw [hm_ne e2.1, upd_ne q]; exact e2.2
  · rw [upd_ne]; intro q; subst q; exact nd z
/-- a new object, not shared -/
theorem Env.newO (E : Env K dr H0 Hs H σ δ s) {p : Addr} (h : H p = none) (o : HO) : Env K dr H0 Hs (upd H p o) σ δ s ∧ Stp dr Hs H Hs (upd H p o) ∧ Hs p = none := by
  have nd := E.ne_dr h
  have hs : Hs p = none := by
    cases z : Hs p with
    | none => rfl
    | some u => have := (hm_some (E.sub p u z)).2; rw [h] at this; cases this
  have ext : Ext dr H (upd H p o) := .of_same fun b u e => by rw [upd_ne (ne_of_none e h)]; exact e
  have st : Stp dr Hs H Hs (upd H p o) := ⟨ext, L2.Same.refl _, fun b u e => .inl e⟩
  refine ⟨E.stp st (fun b u e => ?_) (fun a z => (E.drw a z).same (L2.Same.refl _) ?_), st, hs⟩
  · have e2 := hm_some (E.sub b u e)
    rw [hm_ne e2.1, upd_ne (ne_of_none e2.2 h)]; exact e2.2
  · rw [upd_ne]; intro q; subst q; exact nd z
/-- the shared part made greater: by all tuples -/
def addT (dr : Option Addr) (Hs H : Hp) : Hp := fun b => match Hs b with
  | some o => some o
  | none => match hm dr H b with
    | some o => if isT o = true then some o else none
    | none => none
theorem addT_same {dr : Option Addr} {Hs H : Hp} : Same Hs (addT dr Hs H) := fun b o h => by unfold addT; rw [h]
theorem addT_sub {dr : Option Addr} {Hs H : Hp} (e : Same Hs (hm dr H)) : Same (addT dr Hs H) (hm dr H) := fun b o h => by
  unfold addT at h
  cases q : Hs b with
  | some u => rw [q] at h; cases h; exact e b _ q
  | none =>
    rw [q] at h
    cases z : hm dr H b with
    | none => rw [z] at h; cases h
    | some u =>
      rw [z] at h
      dsimp only at h
      split at h
      · exact h
      · cases h
theorem addT_grow {dr : Option Addr} {Hs H : Hp} (b : Addr) (o : HO) (h : addT dr Hs H b = some o) : Hs b = some o ∨ isT o = true := by
  unfold addT at h
  cases q : Hs b with
  | some u => rw [q] at h; exact .inl h
  | none =>
    rw [q] at h
    cases z : hm dr H b with
    | none => rw [z] at h; cases h
    | some u =>
      rw [z] at h
      dsimp only at h
      split at h
      · cases h; exact .inr (by assumption)
      · cases h
theorem Env.addT (E : Env K dr H0 Hs H σ δ s) : Env K dr H0 (addT dr Hs H) H σ δ s ∧ Stp dr Hs H (EL.addT dr Hs H) H := by
  have st : Stp dr Hs H (EL.addT dr Hs H) H := ⟨.refl, addT_same, fun b o h => (addT_grow b o h).elim .inl fun z => .inr (.inr z)⟩
  exact ⟨E.stp st (addT_sub E.sub) fun a z => (E.drw a z).same addT_same rfl, st⟩
theorem addT_seqT {a : Addr} {xs : List V} (e : Same Hs (hm dr H)) (E : ∀ a, dr = some a → ∃ kvs, H a = some (.dK kvs)) (h : H a = some (.tup xs)) : EL.addT dr Hs H a = some (.tup xs) := by
  have nd : ∀ u, H a = some u → isT u = true → dr ≠ some a := fun u hu it z => by
    obtain ⟨kvs, q⟩ := E a z
    rw [hu] at q; cases q; simp [isT] at it
  have go : ∀ u, H a = some u → isT u = true → EL.addT dr Hs H a = some u := fun u hu it => by
    have n := nd u hu it
    unfold EL.addT
    cases q : Hs a with
    | some o => have := (hm_some (e a o q)).2; rw [hu] at this; cases this; rfl
    | none =>
      dsimp only
      rw [hm_ne n, hu]
      dsimp only
      rw [if_pos it]
  exact go _ h rfl
theorem Env.drK (E : Env K dr H0 Hs H σ δ s) : ∀ a, dr = some a → ∃ kvs, H a = some (.dK kvs) := fun a z => let ⟨h, _⟩ := E.drw a z; ⟨_, h⟩
theorem Env.dr_lt (E : Env K dr H0 Hs H σ δ s) : ∀ a, dr = some a → Hs a = none := fun a z => by
  cases q : Hs a with
  | none => rfl
  | some o => exact absurd z (hm_some (E.sub a o q)).1
/-- read: what a callee sees -/
theorem RT.full (E : Env K dr H0 Hs H σ δ s) {d : D} {v : V} (h : RT K dr Hs H d v) : T K (hm dr H) d v := by
  rcases h with h | ⟨a, o, e, n, ho, t⟩
  · exact h.same E.sub
  · subst e
    exact (t.same E.sub).T (by rw [hm_ne n]; exact ho)
theorem RT.stp {Hs1 H1 : Hp} (st : Stp dr Hs H Hs1 H1) {d : D} {v : V} (h : RT K dr Hs H d v) : RT K dr Hs1 H1 d v := by
  rcases h with h | ⟨a, o, e, n, ho, t⟩
  · exact .inl (h.same st.same)
  · exact .inr ⟨a, o, e, n, (st.ext a o ho).1 n, t.same st.same⟩
theorem RTs.full (E : Env K dr H0 Hs H σ δ s) : ∀ {ds : List D} {vs : List V}, RTs K dr Hs H ds vs → Ts K (hm dr H) ds vs
  | [], _, h => h
  | _ :: _, _, h => let ⟨v, r, e, a, b⟩ := h; ⟨v, r, e, a.full E, RTs.full E b⟩
theorem RTs.stp {Hs1 H1 : Hp} (st : Stp dr Hs H Hs1 H1) : ∀ {ds : List D} {vs : List V}, RTs K dr Hs H ds vs → RTs K dr Hs1 H1 ds vs
  | [], _, h => h
  | _ :: _, _, h => let ⟨v, r, e, a, b⟩ := h; ⟨v, r, e, a.stp st, RTs.stp st b⟩
theorem T.of_hm {d : D} {v : V} (h : T K (hm dr H) d v) : T K H d v := h.same fun b o e => (hm_some e).2
theorem Ts.of_hm {ds : List D} {vs : List V} (h : Ts K (hm dr H) ds vs) : Ts K H ds vs := h.same fun b o e => (hm_some e).2
end

section
variable {K : Frag} {dr : Option Addr} {δ : List S} {s s1 s2 s3 : DS} {t ta tb tc : TE} {d d1 d2 : D} {r : R}
/-! ### from one form of outcome to another -/
theorem ser_sh (h : Se K dr t δ s (.sh d) s1) : SeR K dr t δ s d s1 := fun H0 Hs H σ E Q q => h H0 Hs H σ E Q fun v Hs' H' E' st r => q v Hs' H' E' st (.inl r)
theorem ser_own (h : Se K dr t δ s (.own d) s1) : SeR K dr t δ s d s1 := fun H0 Hs H σ E Q q => h H0 Hs H σ E Q fun v Hs' H' E' st r => by
  obtain ⟨a, o, e, n, _, ho, t⟩ := r
  exact q v Hs' H' E' st (.inr ⟨a, o, e, E.ne_dr n, ho, t⟩)
theorem se_pub (h : Se K dr t δ s (.own d) s1) : Se K dr t δ s (.sh d) s1 := fun H0 Hs H σ E Q q => h H0 Hs H σ E Q fun v Hs' H' E' st r => by
  obtain ⟨a, o, e, n, hs, ho, t⟩ := r
  subst e
  have nd := E.ne_dr n
  have same : Same Hs' (upd Hs' a o) := fun b u e => by rw [upd_ne (ne_of_none e hs)]; exact e
  have st2 : Stp dr Hs H (upd Hs' a o) H' := ⟨st.ext, st.same.trans same, fun b u e => by
    by_cases z : b = a
    · subst z; exact .inr (.inl n)
    · rw [upd_ne z] at e; exact st.grow b u e⟩
  have E2 : Env K dr H0 (upd Hs' a o) H' σ δ s1 := E.stp st2 (fun b u e => by
    by_cases z : b = a
    · subst z; rw [upd_same] at e; rw [hm_ne nd, ← e]; exact ho
    · rw [upd_ne z] at e; exact E'.sub b u e) fun c z => (E'.drw c z).same same rfl
  exact q _ _ _ E2 st2 ((t.same same).T upd_same)
theorem se_no (h : Se K dr t δ s r s1) : Se K dr t δ s .no s1 := fun H0 Hs H σ E Q q => h H0 Hs H σ E Q fun v Hs' H' E' st _ => q v Hs' H' E' st trivial
theorem se_cast {r' : R} (h : Se K dr t δ s r s1) (e : r = r') : Se K dr t δ s r' s1 := e ▸ h
theorem ser_cast (h : SeR K dr t δ s d s1) (e : d = d1) : SeR K dr t δ s d1 s1 := e ▸ h
/-- a flat thing read is shared -/
theorem se_flat (h : SeR K dr t δ s d s1) (f : flat d = true) : Se K dr t δ s (.sh d) s1 := fun H0 Hs H σ E Q q => h H0 Hs H σ E Q fun v Hs' H' E' st r => by
  obtain ⟨E2, st2⟩ := E'.addT
  exact q v _ _ E2 (st.trans st2) ((r.full E').flat (fun a vs z => addT_seqT E'.sub E'.drK ((hm_some z).2)) f)
/-! ### names, constants -/
theorem se_var {i : Nat} (h : δ[i]? = some (.sh d)) : Se K dr (tVar i) δ s (.sh d) s := fun H0 Hs H σ E Q q => by
  obtain ⟨v, e, t⟩ := E.slot i _ h
  exact ⟨v, e, q v Hs H E .refl t⟩
theorem ser_var {i : Nat} (h : δ[i]? = some (.sh d)) : SeR K dr (tVar i) δ s d s := ser_sh (se_var h)
theorem ser_ovar {i : Nat} {a : Addr} (h : δ[i]? = some (.own a d)) : SeR K dr (tVar i) δ s d s := fun H0 Hs H σ E Q q => by
  obtain ⟨e, _, _, o, ho, t⟩ := E.slot i _ h
  exact ⟨.ref a, e, q _ Hs H E .refl (.inr ⟨a, o, rfl, E.own_ne h, ho, t⟩)⟩
theorem se_rf {i : Nat} {a : Addr} (h : δ[i]? = some (.rf a)) : Se K dr (tVar i) δ s (.rf a) s := fun H0 Hs H σ E Q q => ⟨.ref a, E.slot i _ h, q _ Hs H E .refl rfl⟩
theorem se_int {i : Int} : Se K dr (tC (.int i)) δ s (.sh (.int i)) s := fun H0 Hs H σ E Q q => q _ Hs H E .refl rfl
theorem se_bl {b : Bool} : Se K dr (tC (.bl b)) δ s (.sh (.bl b)) s := fun H0 Hs H σ E Q q => q _ Hs H E .refl rfl
theorem se_non : Se K dr (tC .non) δ s (.sh .non) s := fun H0 Hs H σ E Q q => q _ Hs H E .refl rfl
theorem se_str {x : Str} : Se K dr (tC (.str x)) δ s (.sh (.str x)) s := fun H0 Hs H σ E Q q => q _ Hs H E .refl rfl
/-! ### two ints -/
theorem se_bin {C : Int → Int → Prop} {g : Int → Int → V} {i j : Int} (ha : Se K dr ta δ s (.sh (.int i)) s1) (hb : Se K dr tb δ s1 (.sh (.int j)) s2) (hc : C i j) (hd : ∀ H, T K H d (g i j)) : Se K dr (tOp (rI C g) ta tb) δ s (.sh d) s2 := fun H0 Hs H σ E Q q =>
  ha H0 Hs H σ E _ fun v Hs1 H1 E1 st1 r1 => hb H0 Hs1 H1 σ E1 _ fun u Hs2 H2 E2 st2 r2 => ⟨i, j, r1, r2, hc, q _ _ _ E2 (st1.trans st2) (hd _)⟩
theorem se_bin0 {g : Int → Int → V} {i j : Int} (ha : Se K dr ta δ s (.sh (.int i)) s1) (hb : Se K dr tb δ s1 (.sh (.int j)) s2) (hd : ∀ H, T K H d (g i j)) : Se K dr (tOp (rI0 g) ta tb) δ s (.sh d) s2 := fun H0 Hs H σ E Q q =>
  ha H0 Hs H σ E _ fun v Hs1 H1 E1 st1 r1 => hb H0 Hs1 H1 σ E1 _ fun u Hs2 H2 E2 st2 r2 => ⟨i, j, r1, r2, q _ _ _ E2 (st1.trans st2) (hd _)⟩
theorem se_add {i j : Int} (ha : Se K dr ta δ s (.sh (.int i)) s1) (hb : Se K dr tb δ s1 (.sh (.int j)) s2) : Se K dr (tOp (rI0 fun i j => .int (i + j)) ta tb) δ s (.sh (.int (i + j))) s2 := se_bin0 ha hb fun _ => rfl
theorem se_sub {i j : Int} (ha : Se K dr ta δ s (.sh (.int i)) s1) (hb : Se K dr tb δ s1 (.sh (.int j)) s2) : Se K dr (tOp (rI0 fun i j => .int (i - j)) ta tb) δ s (.sh (.int (i - j))) s2 := se_bin0 ha hb fun _ => rfl
theorem se_mul {i j : Int} (ha : Se K dr ta δ s (.sh (.int i)) s1) (hb : Se K dr tb δ s1 (.sh (.int j)) s2) (hc : CMul i j) : Se K dr (tOp (rI CMul fun i j => .int (i * j)) ta tb) δ s (.sh (.int (i * j))) s2 := se_bin ha hb hc fun _ => rfl
theorem se_mod {i j : Int} (ha : Se K dr ta δ s (.sh (.int i)) s1) (hb : Se K dr tb δ s1 (.sh (.int j)) s2) (hc : 0 < j) : Se K dr (tOp (rI (fun _ j => 0 < j) fun i j => .int (i % j)) ta tb) δ s (.sh (.int (i % j))) s2 := se_bin ha hb hc fun _ => rfl
theorem se_div {i j : Int} (ha : Se K dr ta δ s (.sh (.int i)) s1) (hb : Se K dr tb δ s1 (.sh (.int j)) s2) (hc : CDiv i j) : Se K dr (tOp (rI CDiv fun i j => .int (i / j)) ta tb) δ s (.sh (.int (i / j))) s2 := se_bin ha hb hc fun _ => rfl
theorem se_pow {i j : Int} (ha : Se K dr ta δ s (.sh (.int i)) s1) (hb : Se K dr tb δ s1 (.sh (.int j)) s2) (hc : CPow i j) : Se K dr (tOp (rI CPow fun i j => .int (i ^ j.toNat)) ta tb) δ s (.sh (.int (i ^ j.toNat))) s2 := se_bin ha hb hc fun _ => rfl
theorem se_cmp {p : Int → Int → Bool} {i j : Int} (ha : Se K dr ta δ s (.sh (.int i)) s1) (hb : Se K dr tb δ s1 (.sh (.int j)) s2) : Se K dr (tOp (rI0 fun i j => .bl (p i j)) ta tb) δ s (.sh (.bl (p i j))) s2 := se_bin0 ha hb fun _ => rfl
theorem se_neg {i : Int} (ha : Se K dr ta δ s (.sh (.int i)) s1) : Se K dr (tUn (rU fun i => .int (-i)) ta) δ s (.sh (.int (-i))) s1 := fun H0 Hs H σ E Q q =>
  ha H0 Hs H σ E _ fun v Hs1 H1 E1 st1 r1 => ⟨i, r1, q _ _ _ E1 st1 rfl⟩
/-- == and != of scalars -/
def scalD : D → D → Bool
  | .non, .non => true | .non, .int _ => true | .int _, .non => true | .int _, .int _ => true | .bl _, .bl _ => true | .str _, .str _ => true
  | _, _ => false
def eqD : D → D → Bool
  | .non, .non => true | .int i, .int j => decide (i = j) | .bl i, .bl j => decide (i = j) | .str i, .str j => decide (i = j)
  | _, _ => false
theorem scal_of {H1 H2 : Hp} {d e : D} {v u : V} (h : scalD d e = true) (t1 : T K H1 d v) (t2 : T K H2 e u) : scal v u = true ∧ decide (v = u) = eqD d e := by
  have e1 := h
  cases d <;> cases e <;> first
    | (simp [scalD] at h; done)
    | (simp only [T] at t1 t2; subst t1 t2; simp [scal, eqD])
def isNonD : D → Bool
  | .non => true
  | _ => false
theorem T.non_iff {H1 : Hp} {d : D} {v : V} (t1 : T K H1 d v) : decide (v = .non) = isNonD d := by
  cases d <;> simp only [T] at t1 <;> first
    | (subst t1; simp [isNonD])
    | (obtain ⟨a, vs, e, _⟩ := t1; subst e; simp [isNonD])
    | (obtain ⟨a, vs, o, e, _⟩ := t1; subst e; simp [isNonD])
theorem se_eqS (ha : Se K dr ta δ s (.sh d1) s1) (hb : Se K dr tb δ s1 (.sh d2) s2) (hc : scalD d1 d2 = true) : Se K dr (tOp rEq ta tb) δ s (.sh (.bl (eqD d1 d2))) s2 := fun H0 Hs H σ E Q q =>
  ha H0 Hs H σ E _ fun v Hs1 H1 E1 st1 r1 => hb H0 Hs1 H1 σ E1 _ fun u Hs2 H2 E2 st2 r2 => by
    obtain ⟨a, b⟩ := scal_of hc r1 r2
    exact ⟨a, q _ _ _ E2 (st1.trans st2) (by rw [b]; rfl)⟩
theorem se_neS (ha : Se K dr ta δ s (.sh d1) s1) (hb : Se K dr tb δ s1 (.sh d2) s2) (hc : scalD d1 d2 = true) : Se K dr (tOp rNe ta tb) δ s (.sh (.bl (!eqD d1 d2))) s2 := fun H0 Hs H σ E Q q =>
  ha H0 Hs H σ E _ fun v Hs1 H1 E1 st1 r1 => hb H0 Hs1 H1 σ E1 _ fun u Hs2 H2 E2 st2 r2 => by
    obtain ⟨a, b⟩ := scal_of hc r1 r2
    exact ⟨a, q _ _ _ E2 (st1.trans st2) (by rw [b]; rfl)⟩
theorem se_eqI {i j : Int} (ha : Se K dr ta δ s (.sh (.int i)) s1) (hb : Se K dr tb δ s1 (.sh (.int j)) s2) : Se K dr (tOp rEq ta tb) δ s (.sh (.bl (decide (i = j)))) s2 := se_eqS ha hb rfl
theorem se_neI {i j : Int} (ha : Se K dr ta δ s (.sh (.int i)) s1) (hb : Se K dr tb δ s1 (.sh (.int j)) s2) : Se K dr (tOp rNe ta tb) δ s (.sh (.bl (!decide (i = j)))) s2 := se_neS ha hb rfl
theorem se_isN (ha : Se K dr ta δ s (.sh d) s1) : Se K dr (tOp (fun x y H Q => y = .non ∧ Q (.bl (decide (x = .non))) H) ta (tC .non)) δ s (.sh (.bl (isNonD d))) s1 := fun H0 Hs H σ E Q q =>
  ha H0 Hs H σ E _ fun v Hs1 H1 E1 st1 r1 => ⟨rfl, q _ _ _ E1 st1 (by rw [T.non_iff r1]; rfl)⟩
theorem se_notN (ha : Se K dr ta δ s (.sh d) s1) : Se K dr (tOp (fun x y H Q => y = .non ∧ Q (.bl (!decide (x = .non))) H) ta (tC .non)) δ s (.sh (.bl (!isNonD d))) s1 := fun H0 Hs H σ E Q q =>
  ha H0 Hs H σ E _ fun v Hs1 H1 E1 st1 r1 => ⟨rfl, q _ _ _ E1 st1 (by rw [T.non_iff r1]; rfl)⟩
/-- a chain of two comparisons of ints, the second one looked at only where the first holds -/
theorem se_chain {p q' : Int → Int → Bool} {i j k : Int} (ha : Se K dr ta δ s (.sh (.int i)) s1) (hb : Se K dr tb δ s1 (.sh (.int j)) s2) (hc : Se K dr tc δ s2 (.sh (.int k)) s2) :
    Se K dr (tChain (rI0 fun i j => .bl (p i j)) (rI0 fun i j => .bl (q' i j)) ta tb tc) δ s (.sh (.bl (p i j && q' j k))) s2 := fun H0 Hs H σ E Q q =>
  ha H0 Hs H σ E _ fun v Hs1 H1 E1 st1 r1 => hb H0 Hs1 H1 σ E1 _ fun u Hs2 H2 E2 st2 r2 => by
    cases r1; cases r2
    refine ⟨i, j, rfl, rfl, p i j, rfl, ?_⟩
    cases e : p i j with
    | true =>
      rw [if_pos rfl]
      refine hc H0 Hs2 H2 σ E2 _ fun w Hs3 H3 E3 st3 r3 => ?_
      cases r3
      exact ⟨j, k, rfl, rfl, q _ _ _ E3 ((st1.trans st2).trans st3) (by rw [e]; rfl)⟩
    | false =>
      rw [if_neg (by decide)]
      exact q _ _ _ E2 (st1.trans st2) (by rw [e]; rfl)
/-! ### and, or, not, if .. else as values; tests -/
theorem se_and {b c : Bool} (ha : Se K dr ta δ s (.sh (.bl b)) s1) (hb : b = true → Se K dr tb δ s1 (.sh (.bl c)) s1) : Se K dr (tAndV ta tb) δ s (.sh (.bl (b && c))) s1 := fun H0 Hs H σ E Q q =>
  ha H0 Hs H σ E _ fun v Hs1 H1 E1 st1 r1 => by
    refine ⟨b, r1, ?_⟩
    cases b with
    | true => rw [if_pos rfl]; exact hb rfl H0 Hs1 H1 σ E1 _ fun u Hs2 H2 E2 st2 r2 => q _ _ _ E2 (st1.trans st2) r2
    | false => rw [if_neg (by decide)]; exact q _ _ _ E1 st1 rfl
theorem se_or {b c : Bool} (ha : Se K dr ta δ s (.sh (.bl b)) s1) (hb : b = false → Se K dr tb δ s1 (.sh (.bl c)) s1) : Se K dr (tOrV ta tb) δ s (.sh (.bl (b || c))) s1 := fun H0 Hs H σ E Q q =>
  ha H0 Hs H σ E _ fun v Hs1 H1 E1 st1 r1 => by
    refine ⟨b, r1, ?_⟩
    cases b with
    | true => rw [if_pos rfl]; exact q _ _ _ E1 st1 rfl
    | false => rw [if_neg (by decide)]; exact hb rfl H0 Hs1 H1 σ E1 _ fun u Hs2 H2 E2 st2 r2 => q _ _ _ E2 (st1.trans st2) r2
theorem se_not {b : Bool} (ha : Se K dr ta δ s (.sh (.bl b)) s1) : Se K dr (tNotV ta) δ s (.sh (.bl (!b))) s1 := fun H0 Hs H σ E Q q =>
  ha H0 Hs H σ E _ fun v Hs1 H1 E1 st1 r1 => ⟨b, r1, q _ _ _ E1 st1 rfl⟩
theorem se_ifT {tt : TT} {c : Bool} (hc : SeT K dr tt δ s c s1) (ha : c = true → Se K dr ta δ s1 r s2) (hb : c = false → Se K dr tb δ s1 r s2) : Se K dr (tIf tt ta tb) δ s r s2 := fun H0 Hs H σ E Q q =>
  hc H0 Hs H σ E _ fun Hs1 H1 E1 st1 => by
    have mv : ∀ {v Hs' H'}, Stp dr Hs1 H1 Hs' H' → Res K H1 Hs' H' v r → Res K H Hs' H' v r := fun {v Hs' H'} st z => by
      cases r with
      | own d => obtain ⟨a, h, e, n, x⟩ := z; exact ⟨a, h, e, st1.ext.free n, x⟩
      | _ => exact z
    cases c with
    | true => rw [if_pos rfl]; exact ha rfl H0 Hs1 H1 σ E1 _ fun v Hs2 H2 E2 st2 r2 => q _ _ _ E2 (st1.trans st2) (mv st2 r2)
    | false => rw [if_neg (by decide)]; exact hb rfl H0 Hs1 H1 σ E1 _ fun v Hs2 H2 E2 st2 r2 => q _ _ _ E2 (st1.trans st2) (mv st2 r2)
theorem st_B {b : Bool} (h : Se K dr t δ s (.sh (.bl b)) s1) : SeT K dr (tB t) δ s b s1 := fun H0 Hs H σ E Q q => h H0 Hs H σ E _ fun v Hs1 H1 E1 st1 r1 => ⟨b, r1, q _ _ E1 st1⟩
theorem st_Test {b : Bool} (h : Se K dr t δ s (.sh (.bl b)) s1) : SeT K dr (tTest t) δ s b s1 := fun H0 Hs H σ E Q q => h H0 Hs H σ E _ fun v Hs1 H1 E1 st1 r1 => ⟨b, r1, q _ _ E1 st1⟩
theorem st_not {tt : TT} {b : Bool} (h : SeT K dr tt δ s b s1) : SeT K dr (tNot tt) δ s (!b) s1 := fun H0 Hs H σ E Q q => h H0 Hs H σ E _ fun Hs1 H1 E1 st1 => q _ _ E1 st1
theorem st_and {tt tu : TT} {b c : Bool} (h : SeT K dr tt δ s b s1) (h2 : b = true → SeT K dr tu δ s1 c s1) : SeT K dr (tAnd tt tu) δ s (b && c) s1 := fun H0 Hs H σ E Q q => h H0 Hs H σ E _ fun Hs1 H1 E1 st1 => by
  cases b with
  | true => rw [if_pos rfl]; exact h2 rfl H0 Hs1 H1 σ E1 _ fun Hs2 H2 E2 st2 => q _ _ E2 (st1.trans st2)
  | false => rw [if_neg (by decide)]; exact q _ _ E1 st1
theorem st_or {tt tu : TT} {b c : Bool} (h : SeT K dr tt δ s b s1) (h2 : b = false → SeT K dr tu δ s1 c s1) : SeT K dr (tOr tt tu) δ s (b || c) s1 := fun H0 Hs H σ E Q q => h H0 Hs H σ E _ fun Hs1 H1 E1 st1 => by
  cases b with
  | true => rw [if_pos rfl]; exact q _ _ E1 st1
  | false => rw [if_neg (by decide)]; exact h2 rfl H0 Hs1 H1 σ E1 _ fun Hs2 H2 E2 st2 => q _ _ E2 (st1.trans st2)
theorem st_yes : SeT K dr tYes δ s true s := fun H0 Hs H σ E Q q => q _ _ E .refl
theorem st_cast {tt : TT} {b c : Bool} (h : SeT K dr tt δ s b s1) (e : b = c) : SeT K dr tt δ s c s1 := e ▸ h
/-! ### tuples, lists made; arguments -/
theorem sa_nil : SeA K dr tNil δ s [] s := fun H0 Hs H σ E Q q => q _ _ _ E .refl rfl
theorem sa_cons {tr : TA} {ds : List D} (h : SeR K dr t δ s d s1) (hr : SeA K dr tr δ s1 ds s2) : SeA K dr (tCons t tr) δ s (d :: ds) s2 := fun H0 Hs H σ E Q q =>
  h H0 Hs H σ E _ fun v Hs1 H1 E1 st1 r1 => hr H0 Hs1 H1 σ E1 _ fun vs Hs2 H2 E2 st2 r2 => q _ _ _ E2 (st1.trans st2) ⟨v, vs, rfl, r1.stp st2, r2⟩
/-- all of them shared -/
def SeAS (K : Frag) (dr : Option Addr) (t : TA) (δ : List S) (s : DS) (ds : List D) (s' : DS) : Prop :=
  ∀ H0 Hs H σ, Env K dr H0 Hs H σ δ s → ∀ Q : List V → Hp → Prop, (∀ vs Hs' H', Env K dr H0 Hs' H' σ δ s' → Stp dr Hs H Hs' H' → Ts K Hs' ds vs → Q vs H') → t σ H Q
theorem sas_nil : SeAS K dr tNil δ s [] s := fun H0 Hs H σ E Q q => q _ _ _ E .refl rfl
theorem sas_cons {tr : TA} {ds : List D} (h : Se K dr t δ s (.sh d) s1) (hr : SeAS K dr tr δ s1 ds s2) : SeAS K dr (tCons t tr) δ s (d :: ds) s2 := fun H0 Hs H σ E Q q =>
  h H0 Hs H σ E _ fun v Hs1 H1 E1 st1 r1 => hr H0 Hs1 H1 σ E1 _ fun vs Hs2 H2 E2 st2 r2 => q _ _ _ E2 (st1.trans st2) ⟨v, vs, rfl, T.same st2.same r1, r2⟩
theorem se_tup {tr : TA} {ds : List D} (h : SeAS K dr tr δ s ds s1) (hl : ds.length ≤ sizeLine) : Se K dr (tTup tr) δ s (.sh (.tup ds)) s1 := fun H0 Hs H σ E Q q =>
  h H0 Hs H σ E _ fun vs Hs1 H1 E1 st1 r1 => ⟨by rw [r1.length]; exact hl, fun p hp => by
    obtain ⟨E2, st2⟩ := E1.newS hp (.tup vs)
    exact q _ _ _ E2 (st1.trans st2) ⟨p, vs, rfl, upd_same, r1.same st2.same⟩⟩
theorem se_lst {tr : TA} {ds : List D} (h : SeAS K dr tr δ s ds s1) (hl : ds.length ≤ sizeLine) : Se K dr (tLst tr) δ s (.own (.lst ds)) s1 := fun H0 Hs H σ E Q q =>
  h H0 Hs H σ E _ fun vs Hs1 H1 E1 st1 r1 => ⟨by rw [r1.length]; exact hl, fun p hp => by
    obtain ⟨E2, st2, hs⟩ := E1.newO hp (.lst vs)
    exact q _ _ _ E2 (st1.trans st2) ⟨p, _, rfl, st1.ext.free hp, hs, upd_same, vs, rfl, r1⟩⟩
/-! ### sequences read -/
theorem RT.tupS {Hs H : Hp} {ds : List D} {v : V} (h : RT K dr Hs H (.tup ds) v) : ∃ a vs, v = .ref a ∧ Hs a = some (.tup vs) ∧ Ts K Hs ds vs := by
  rcases h with h | ⟨a, o, e, n, ho, t⟩
  · exact h
  · exact t.elim
theorem RT.tup {Hs H : Hp} {ds : List D} {v : V} (h : RT K dr Hs H (.tup ds) v) : ∃ a vs, v = .ref a ∧ SqT K Hs a vs ∧ Ts K Hs ds vs := by
  rcases h with h | ⟨a, o, e, n, ho, t⟩
  · obtain ⟨a, vs, e, h1, h2⟩ := h; exact ⟨a, vs, e, .inl (.inl h1), h2⟩
  · exact t.elim
theorem RT.lst {H0 Hs H : Hp} {σ : L2.St} {s : DS} (E : Env K dr H0 Hs H σ δ s) {ds : List D} {v : V} (h : RT K dr Hs H (.lst ds) v) : ∃ a vs, v = .ref a ∧ SqL K H a vs ∧ Ts K Hs ds vs := by
  rcases h with ⟨a, vs, e, h1, h2⟩ | ⟨a, o, e, n, ho, vs, e2, t⟩
  · exact ⟨a, vs, e, (show Same Hs H from fun b o z => (hm_some (E.sub b o z)).2).seq h1, h2⟩
  · subst e2; exact ⟨a, vs, e, .of ho, t⟩
theorem Env.toH {H0 Hs H : Hp} {σ : L2.St} {s : DS} (E : Env K dr H0 Hs H σ δ s) : Same Hs H := fun b o z => (hm_some (E.sub b o z)).2
/-- tuple or list -/
inductive IsSeq : D → List D → Prop
  | tup (ds : List D) : IsSeq (.tup ds) ds
  | lst (ds : List D) : IsSeq (.lst ds) ds
theorem RT.seq {H0 Hs H : Hp} {σ : L2.St} {s : DS} (E : Env K dr H0 Hs H σ δ s) {ds : List D} {v : V} (q : IsSeq d ds) (h : RT K dr Hs H d v) : ∃ a vs, v = .ref a ∧ (SqL K H a vs ∨ SqT K H a vs) ∧ Ts K Hs ds vs := by
  cases q with
  | tup ds => obtain ⟨a, vs, e, h1, h2⟩ := h.tup; exact ⟨a, vs, e, .inr (Same.seqT E.toH h1), h2⟩
  | lst ds => obtain ⟨a, vs, e, h1, h2⟩ := h.lst E; exact ⟨a, vs, e, .inl h1, h2⟩
theorem se_len {ds : List D} (h : SeR K dr t δ s d s1) (q : IsSeq d ds) : Se K dr (tCB (fun xs H Q => ∃ p ys, xs = [.ref p] ∧ (SqL K H p ys ∨ SqT K H p ys) ∧ Q (.int ys.length) H) (tCons t tNil)) δ s (.sh (.int ds.length)) s1 := fun H0 Hs H σ E Q q' =>
  h H0 Hs H σ E _ fun v Hs1 H1 E1 st1 r1 => by
    obtain ⟨a, vs, e, h1, h2⟩ := r1.seq E1 q
    exact ⟨a, vs, by rw [e], h1, q' _ _ _ E1 st1 (by rw [h2.length]; rfl)⟩
theorem se_ixT {ds : List D} {i : Int} (ha : SeR K dr ta δ s (.tup ds) s1) (hb : Se K dr tb δ s1 (.sh (.int i)) s2) (hi : atI ds i = some d) : Se K dr (tOp (rIxT K) ta tb) δ s (.sh d) s2 := fun H0 Hs H σ E Q q =>
  ha H0 Hs H σ E _ fun v Hs1 H1 E1 st1 r1 => hb H0 Hs1 H1 σ E1 _ fun u Hs2 H2 E2 st2 r2 => by
    obtain ⟨a, vs, e, h1, h2⟩ := r1.tup
    obtain ⟨j, hj, hd⟩ := Option.bind_eq_some_iff.mp hi
    obtain ⟨w, hw, tw⟩ := h2.get hd
    exact ⟨a, vs, i, w, e, r2, Same.seqT E2.toH (Same.seqT st2.same h1), Option.bind_eq_some_iff.mpr ⟨j, by rw [h2.length]; exact hj, hw⟩, q _ _ _ E2 (st1.trans st2) (T.same st2.same tw)⟩
theorem se_ixL {ds : List D} {i : Int} (ha : SeR K dr ta δ s (.lst ds) s1) (hb : Se K dr tb δ s1 (.sh (.int i)) s2) (hi : atI ds i = some d) : Se K dr (tOp (rIxL K) ta tb) δ s (.sh d) s2 := fun H0 Hs H σ E Q q =>
  ha H0 Hs H σ E _ fun v Hs1 H1 E1 st1 r1 => hb H0 Hs1 H1 σ E1 _ fun u Hs2 H2 E2 st2 r2 => by
    obtain ⟨a, vs, e, h1, h2⟩ := (r1.stp st2).lst E2
    obtain ⟨j, hj, hd⟩ := Option.bind_eq_some_iff.mp hi
    obtain ⟨w, hw, tw⟩ := h2.get hd
    exact ⟨a, vs, i, w, e, r2, h1, Option.bind_eq_some_iff.mpr ⟨j, by rw [h2.length]; exact hj, hw⟩, q _ _ _ E2 (st1.trans st2) tw⟩
theorem se_list {ds : List D} (h : SeR K dr t δ s d s1) (q : IsSeq d ds) : Se K dr (tCB (fun xs H Q => ∃ p ys, xs = [.ref p] ∧ (SqL K H p ys ∨ SqT K H p ys) ∧ ∀ l, H l = none → Q (.ref l) (upd H l (.lst ys))) (tCons t tNil)) δ s (.own (.lst ds)) s1 := fun H0 Hs H σ E Q q' =>
  h H0 Hs H σ E _ fun v Hs1 H1 E1 st1 r1 => by
    obtain ⟨a, vs, e, h1, h2⟩ := r1.seq E1 q
    refine ⟨a, vs, by rw [e], h1, fun p hp => ?_⟩
    obtain ⟨E2, st2, hs⟩ := E1.newO hp (.lst vs)
    exact q' _ _ _ E2 (st1.trans st2) ⟨p, _, rfl, st1.ext.free hp, hs, upd_same, vs, rfl, h2⟩
theorem se_tuple {ds : List D} (h : SeR K dr t δ s d s1) (q : IsSeq d ds) : Se K dr (tCB (fun xs H Q => ∃ p ys, xs = [.ref p] ∧ ((SqL K H p ys ∧ ∀ l, H l = none → Q (.ref l) (upd H l (.tup ys))) ∨ (SqT K H p ys ∧ Q (.ref p) H))) (tCons t tNil)) δ s (.sh (.tup ds)) s1 := fun H0 Hs H σ E Q q' =>
  h H0 Hs H σ E _ fun v Hs1 H1 E1 st1 r1 => by
    cases q with
    | lst ds =>
      obtain ⟨a, vs, e, h1, h2⟩ := r1.lst E1
      refine ⟨a, vs, by rw [e], .inl ⟨h1, fun p hp => ?_⟩⟩
      obtain ⟨E2, st2⟩ := E1.newS hp (.tup vs)
      exact q' _ _ _ E2 (st1.trans st2) ⟨p, vs, rfl, upd_same, h2.same st2.same⟩
    | tup ds =>
      obtain ⟨a, vs, e, h1, h2⟩ := r1.tupS
      exact ⟨a, vs, by rw [e], .inr ⟨.inl (.inl (E1.toH _ _ h1)), q' _ _ _ E1 st1 ⟨a, vs, rfl, h1, h2⟩⟩⟩
theorem se_max2 {i j : Int} {tr : TA} (h : SeA K dr tr δ s [.int i, .int j] s1) : Se K dr (tCB (fun xs H Q => ∃ i j, xs = [.int i, .int j] ∧ Q (.int (if j > i then j else i)) H) tr) δ s (.sh (.int (if j > i then j else i))) s1 := fun H0 Hs H σ E Q q =>
  h H0 Hs H σ E _ fun vs Hs1 H1 E1 st1 r1 => by
    obtain ⟨v, r, e, h1, u, r', e', h2, e''⟩ := r1.full E1
    cases (show _ = _ from h1); cases (show _ = _ from h2); subst e e' e''
    exact ⟨i, j, rfl, q _ _ _ E1 st1 rfl⟩
theorem se_int1 {i : Int} (h : Se K dr t δ s (.sh (.int i)) s1) : Se K dr (tCB (fun xs H Q => (∃ i, xs = [.int i] ∧ Q (.int i) H) ∨ ∃ k, xs = [.bl k] ∧ Q (.int (if k then 1 else 0)) H) (tCons t tNil)) δ s (.sh (.int i)) s1 := fun H0 Hs H σ E Q q =>
  h H0 Hs H σ E _ fun v Hs1 H1 E1 st1 r1 => .inl ⟨i, by cases r1; rfl, q _ _ _ E1 st1 rfl⟩
theorem se_cat {ds es : List D} (ha : Se K dr ta δ s (.own (.lst ds)) s1) (hb : Se K dr tb δ s1 (.own (.lst es)) s2) (hl : ds.length + es.length ≤ sizeLine) : Se K dr (tOp rCat ta tb) δ s (.own (.lst (ds ++ es))) s2 := fun H0 Hs H σ E Q q =>
  ha H0 Hs H σ E _ fun v Hs1 H1 E1 st1 r1 => hb H0 Hs1 H1 σ E1 _ fun u Hs2 H2 E2 st2 r2 => by
    obtain ⟨a, h, e, n, hs, ho, vs, eh, t1⟩ := r1
    obtain ⟨b, h', e', n', hs', ho', vs', eh', t2⟩ := r2
    subst eh eh'
    have nd := E.ne_dr n
    refine ⟨a, b, vs, vs', e, e', (st2.ext a _ ho).1 nd, ho', by rw [t1.length, t2.length]; exact hl, fun p hp => ?_⟩
    obtain ⟨E3, st3, hs3⟩ := E2.newO hp (.lst (vs ++ vs'))
    exact q _ _ _ E3 ((st1.trans st2).trans st3) ⟨p, _, rfl, (st1.trans st2).ext.free hp, hs3, upd_same, _, rfl, (t1.same st2.same).append t2⟩
theorem se_rep {ds : List D} {k : Int} (ha : Se K dr ta δ s (.own (.lst ds)) s1) (hb : Se K dr tb δ s1 (.sh (.int k)) s2) (h1 : -(2 ^ 63) ≤ k) (h2 : k < 2 ^ 63) (hl : ds.length * k.toNat ≤ sizeLine) : Se K dr (tOp rRep ta tb) δ s (.own (.lst (List.replicate k.toNat ds).flatten)) s2 := fun H0 Hs H σ E Q q =>
  ha H0 Hs H σ E _ fun v Hs1 H1 E1 st1 r1 => hb H0 Hs1 H1 σ E1 _ fun u Hs2 H2 E2 st2 r2 => by
    obtain ⟨a, h, e, n, hs, ho, vs, eh, t1⟩ := r1
    subst eh
    have nd := E.ne_dr n
    refine ⟨a, k, vs, e, r2, (st2.ext a _ ho).1 nd, h1, h2, by rw [t1.length]; exact hl, fun p hp => ?_⟩
    obtain ⟨E3, st3, hs3⟩ := E2.newO hp (.lst (List.replicate k.toNat vs).flatten)
    exact q _ _ _ E3 ((st1.trans st2).trans st3) ⟨p, _, rfl, (st1.trans st2).ext.free hp, hs3, upd_same, _, rfl, (t1.same st2.same).rep _⟩
end
end EL
set_option maxRecDepth 100000
/-! E-layer 2: statements, loops, calls, defs. -/
namespace EL
open PySem PySem.Spec L2
section
variable {K : Frag} {dr : Option Addr} {H0 Hs H Hs' H' : Hp} {σ : L2.St} {δ : List S} {s s1 s2 : DS}
theorem Post.grow {O : Out → Prop} {D : Ends} {Hs1 : Hp} (p : Post K dr H0 Hs O D) (e : Same Hs Hs1) : Post K dr H0 Hs1 O D :=
  ⟨fun δ s h σ Hs2 H2 z => p.nx δ s h σ Hs2 H2 (e.trans z), p.rt, fun δ s h σ Hs2 H2 z => p.bk δ s h σ Hs2 H2 (e.trans z), fun δ s h σ Hs2 H2 z => p.ct δ s h σ Hs2 H2 (e.trans z)⟩
theorem Post.imp {O O' : Out → Prop} {D : Ends} (p : Post K dr H0 Hs O' D) (e : ∀ o, O o → O' o) : Post K dr H0 Hs O D :=
  ⟨fun δ s h => p.nx δ s (e _ h), fun r s h => p.rt r s (e _ h), fun δ s h => p.bk δ s (e _ h), fun δ s h => p.ct δ s (e _ h)⟩
/-- a slot stored -/
theorem Env.set (E : Env K dr H0 Hs H σ δ s) (i : Nat) {v : V} {q : S} (h : SlotR K H0 Hs H (some (some v)) q) (hs : ∀ a d, q = .own a d → ∀ j d', δ[j]? = some (.own a d') → j = i) : Env K dr H0 Hs H (σ.set i (some v)) (δ.set i q) s where
  ext := E.ext
  sub := E.sub
  slot := fun j r e => by
    by_cases z : i = j
    · subst z
      have hi : i < δ.length := by
        have := (List.getElem?_eq_some_iff.mp e).1
        simpa using this
      rw [List.getElem?_set_self hi] at e
      rw [List.getElem?_set_self (Nat.lt_of_lt_of_le hi E.len)]
      cases e; exact h
    · rw [List.getElem?_set_ne z] at e
      rw [List.getElem?_set_ne z]
      exact E.slot j r e
  sep := fun j k a d d' e1 e2 => by
    by_cases z1 : i = j
    · by_cases z2 : i = k
      · rw [← z1, ← z2]
      · subst z1
        rw [List.getElem?_set_ne z2] at e2
        have hi : i < δ.length := by
          have := (List.getElem?_eq_some_iff.mp e1).1
          simpa using this
        rw [List.getElem?_set_self hi] at e1
        cases e1
        exact (hs a d rfl k d' e2).symm
    · rw [List.getElem?_set_ne z1] at e1
      by_cases z2 : i = k
      · subst z2
        have hi : i < δ.length := by
          have := (List.getElem?_eq_some_iff.mp e2).1
          simpa using this
        rw [List.getElem?_set_self hi] at e2
        cases e2
        exact hs a d' rfl j d e1
      · rw [List.getElem?_set_ne z2] at e2
        exact E.sep j k a d d' e1 e2
  drw := E.drw
  dr0 := E.dr0
  len := by rw [List.length_set, List.length_set]; exact E.len
theorem Env.setSh (E : Env K dr H0 Hs H σ δ s) (i : Nat) {v : V} {d : D} (h : T K Hs d v) : Env K dr H0 Hs H (σ.set i (some v)) (δ.set i (.sh d)) s := E.set i ⟨v, rfl, h⟩ fun a d e => by cases e
/-- forgetting -/
def Sub : List S → List S → Prop
  | δ, [] => True
  | [], _ :: _ => False
  | r :: δ, r' :: δ' => (r' = .no ∨ r = r') ∧ Sub δ δ'
theorem Sub.get : ∀ {δ δ' : List S}, Sub δ δ' → ∀ (i : Nat) (r : S), δ'[i]? = some r → r = .no ∨ δ[i]? = some r
  | _, [], _, _, _, e => by simp at e
  | [], _ :: _, h, _, _, _ => h.elim
  | r :: δ, r' :: δ', h, 0, q, e => by
    have e' : r' = q := by simpa using e
    subst e'
    rcases h.1 with z | z
    · exact .inl z
    · subst z; exact .inr rfl
  | r :: δ, r' :: δ', h, i + 1, q, e => by
    have := Sub.get h.2 i q (by simpa using e)
    simpa using this
theorem Sub.len : ∀ {δ δ' : List S}, Sub δ δ' → δ'.length ≤ δ.length
  | _, [], _ => Nat.zero_le _
  | [], _ :: _, h => h.elim
  | r :: δ, r' :: δ', h => by simpa using Sub.len h.2
theorem Sub.refl : ∀ δ : List S, Sub δ δ
  | [] => trivial
  | _ :: δ => ⟨.inr rfl, Sub.refl δ⟩
theorem Env.weak (E : Env K dr H0 Hs H σ δ s) {δ' : List S} (h : Sub δ δ') : Env K dr H0 Hs H σ δ' s where
  ext := E.ext
  sub := E.sub
  slot := fun i r e => (h.get i r e).elim (fun z => by subst z; trivial) fun z => E.slot i r z
  sep := fun i j a d d' e1 e2 => E.sep i j a d d' ((h.get i _ e1).elim (fun z => by cases z) id) ((h.get j _ e2).elim (fun z => by cases z) id)
  drw := E.drw
  dr0 := E.dr0
  len := Nat.le_trans h.len E.len
/-- an own object written -/
theorem Env.write (E : Env K dr H0 Hs H σ δ s) {i : Nat} {a : Addr} {d d' : D} {h' : HO} (hi : δ[i]? = some (.own a d)) (o : OR K Hs d' h') : Env K dr H0 Hs (upd H a h') σ (δ.set i (.own a d')) s where
  ext := fun b o e => by
    obtain ⟨_, h0, _⟩ := E.slot i _ hi
    have nb : b ≠ a := ne_of_none e h0
    rw [upd_ne nb]
    exact E.ext b o e
  sub := fun b o e => by
    obtain ⟨_, _, hs, _⟩ := E.slot i _ hi
    have nb : b ≠ a := ne_of_none e hs
    have := hm_some (E.sub b o e)
    rw [hm_ne this.1, upd_ne nb]; exact this.2
  slot := fun j r e => by
    obtain ⟨q1, q2, q3, q4⟩ := E.slot i _ hi
    by_cases z : i = j
    · subst z
      rw [List.getElem?_set_self (List.getElem?_eq_some_iff.mp hi).1] at e
      cases e
      exact ⟨q1, q2, q3, h', upd_same, o⟩
    · rw [List.getElem?_set_ne z] at e
      have q := E.slot j r e
      cases r with
      | own b d2 =>
        obtain ⟨p1, p2, p3, h2, p4, p5⟩ := q
        have nb : b ≠ a := fun y => by subst y; exact z (E.sep i j _ _ _ hi e)
        exact ⟨p1, p2, p3, h2, by rw [upd_ne nb]; exact p4, p5⟩
      | _ => exact q
  sep := fun j k b d1 d2 e1 e2 => by
    have sm : ∀ {j : Nat} {b : Addr} {d1 : D}, (δ.set i (.own a d'))[j]? = some (.own b d1) → ∃ d3, δ[j]? = some (.own b d3) := fun {j b d1} e => by
      by_cases z : i = j
      · subst z
        rw [List.getElem?_set_self (List.getElem?_eq_some_iff.mp hi).1] at e
        cases e; exact ⟨_, hi⟩
      · rw [List.getElem?_set_ne z] at e; exact ⟨_, e⟩
    obtain ⟨d3, e3⟩ := sm e1
    obtain ⟨d4, e4⟩ := sm e2
    exact E.sep j k b d3 d4 e3 e4
  drw := fun b z => by
    have nb : b ≠ a := fun y => E.own_ne hi (by rw [← y]; exact z)
    exact (E.drw b z).same (L2.Same.refl _) (by rw [upd_ne nb])
  dr0 := E.dr0
  len := by rw [List.length_set]; exact E.len
end

section
variable {K : Frag} {dr : Option Addr} {δ : List S} {s s1 s2 : DS} {O O' : Out → Prop} {t u : TS} {te ti : TE}
theorem ss_mono (h : SS K dr t δ s O) (e : ∀ o, O o → O' o) : SS K dr t δ s O' := fun H0 Hs H σ E D p => h H0 Hs H σ E D (p.imp e)
theorem ss_weak {δ' : List S} (h : SS K dr t δ' s O) (w : Sub δ δ') : SS K dr t δ s O := fun H0 Hs H σ E D p => h H0 Hs H σ (E.weak w) D p
/-- what is asked ahead of u -/
def Thn (K : Frag) (dr : Option Addr) (u : TS) (O : Out → Prop) : Out → Prop
  | .nx δ s => SS K dr u δ s O
  | .rt r s => O (.rt r s)
  | .bk δ s => O (.bk δ s)
  | .ct δ s => O (.ct δ s)
theorem ss_seq (h : SS K dr t δ s (Thn K dr u O)) : SS K dr (tSeq t u) δ s O := fun H0 Hs H σ E D p =>
  h H0 Hs H σ E { D with nx := u D } ⟨fun δ1 s1 z σ1 Hs1 H1 e E1 => z H0 Hs1 H1 σ1 E1 D (p.grow e), p.rt, p.bk, p.ct⟩
theorem ss_next (h : O (.nx δ s)) : SS K dr tNext δ s O := fun H0 Hs H σ E D p => p.nx _ _ h _ _ _ (L2.Same.refl _) E
theorem ss_break (h : O (.bk δ s)) : SS K dr tBreak δ s O := fun H0 Hs H σ E D p => p.bk _ _ h _ _ _ (L2.Same.refl _) E
theorem ss_cont (h : O (.ct δ s)) : SS K dr tCont δ s O := fun H0 Hs H σ E D p => p.ct _ _ h _ _ _ (L2.Same.refl _) E
/-! ### stores -/
theorem ss_set {d : D} {i : Nat} (h : Se K dr te δ s (.sh d) s1) (k : O (.nx (δ.set i (.sh d)) s1)) : SS K dr (tAsg te (gName i)) δ s O := fun H0 Hs H σ E D p =>
  h H0 Hs H σ E _ fun v Hs1 H1 E1 st1 r1 => p.nx _ _ k _ _ _ st1.same (E1.setSh i r1)
theorem ss_setO {d : D} {i : Nat} (h : Se K dr te δ s (.own d) s1) (k : ∀ a, O (.nx (δ.set i (.own a d)) s1)) : SS K dr (tAsg te (gName i)) δ s O := fun H0 Hs H σ E D p =>
  h H0 Hs H σ E _ fun v Hs1 H1 E1 st1 r1 => by
    obtain ⟨a, o, e, n, hs, ho, t⟩ := r1
    subst e
    refine p.nx _ _ (k a) _ _ _ st1.same (E1.set i ⟨rfl, E.ext.free n, hs, o, ho, t⟩ fun a' d' e j d'' ej => ?_)
    cases e
    obtain ⟨_, _, _, o2, ho2, _⟩ := E.slot j _ ej
    rw [n] at ho2; cases ho2
theorem ss_setR {a : Addr} {i : Nat} (h : Se K dr te δ s (.rf a) s1) (k : O (.nx (δ.set i (.rf a)) s1)) : SS K dr (tAsg te (gName i)) δ s O := fun H0 Hs H σ E D p =>
  h H0 Hs H σ E _ fun v Hs1 H1 E1 st1 r1 => p.nx _ _ k _ _ _ st1.same (E1.set i (v := v) (q := .rf a) (by rw [show v = .ref a from r1]; rfl) fun a d e => by cases e)
theorem ss_setN {i : Nat} {r : R} (h : Se K dr te δ s r s1) (k : O (.nx (δ.set i .no) s1)) : SS K dr (tAsg te (gName i)) δ s O := fun H0 Hs H σ E D p =>
  h H0 Hs H σ E _ fun v Hs1 H1 E1 st1 r1 => p.nx _ _ k _ _ _ st1.same (E1.set i (v := v) (q := .no) trivial fun a d e => by cases e)
theorem ss_drop {r : R} (h : Se K dr te δ s r s1) (k : O (.nx δ s1)) : SS K dr (tDrop te) δ s O := fun H0 Hs H σ E D p =>
  h H0 Hs H σ E _ fun v Hs1 H1 E1 st1 r1 => p.nx _ _ k _ _ _ st1.same E1
/-- what a result is in a slot -/
inductive Sto : R → S → Prop
  | sh (d : D) : Sto (.sh d) (.sh d)
  | own (a : Addr) (d : D) : Sto (.own d) (.own a d)
theorem Res.keep {H Hs1 H1 Hs2 H2 H0 : Hp} {σ : L2.St} {v : V} {r : R} (E2 : Env K dr H0 Hs2 H2 σ δ s) (nd : ∀ a, H a = none → dr ≠ some a) (st : Stp dr Hs1 H1 Hs2 H2) (h : Res K H Hs1 H1 v r) : Res K H Hs2 H2 v r := by
  cases r with
  | no => trivial
  | sh d => exact T.same st.same h
  | rf a => exact h
  | own d =>
    obtain ⟨a, o, e, n, hs, ho, t⟩ := h
    have ho2 := (st.ext a o ho).1 (nd a n)
    refine ⟨a, o, e, n, ?_, ho2, t.same st.same⟩
    cases z : Hs2 a with
    | none => rfl
    | some u =>
      exfalso
      have e1 := (hm_some (E2.sub a u z)).2
      rw [ho2] at e1; cases e1
      rcases st.grow a _ z with g | g | g
      · rw [hs] at g; cases g
      · rw [ho] at g; cases g
      · have nT := t.notT
        cases o with
        | tup xs => exact nT.1 xs rfl
        | frz ob u =>
          cases u with
          | tup xs => exact nT.2 ob xs rfl
          | _ => simp [isT] at g
        | _ => simp [isT] at g
theorem Res.slot {H Hs1 H1 H0 : Hp} {v : V} {r : R} {q : S} (ext : Ext dr H0 H) (h : Res K H Hs1 H1 v r) (st : Sto r q) (hq : ∀ a d, q = .own a d → v = .ref a) : SlotR K H0 Hs1 H1 (some (some v)) q := by
  cases st with
  | sh d => exact ⟨v, rfl, h⟩
  | own a d =>
    obtain ⟨b, o, e, n, hs, ho, t⟩ := h
    have e2 := hq a d rfl
    rw [e] at e2; cases e2
    exact ⟨by rw [e], ext.free n, hs, o, ho, t⟩
/-- a, b = x, y -/
theorem ss_par {i j : Nat} {ta tb : TE} {r1 r2 : R} (ha : Se K dr ta δ s r1 s1) (hb : Se K dr tb δ s1 r2 s2) (e1 : ∃ q, Sto r1 q) (e2 : ∃ q, Sto r2 q) (k : ∀ q1 q2, Sto r1 q1 → Sto r2 q2 → O (.nx ((δ.set i q1).set j q2) s2)) :
    SS K dr (tPar i j (tCons ta (tCons tb tNil))) δ s O := fun H0 Hs H σ E D p =>
  ha H0 Hs H σ E _ fun v Hs1 H1 E1 st1 q1 => hb H0 Hs1 H1 σ E1 _ fun w Hs2 H2 E2 st2 q2 => by
    refine ⟨v, w, rfl, ?_⟩
    have a1 : Res K H Hs2 H2 v r1 := q1.keep E2 (fun a => E.ne_dr) st2
    have pick : ∀ {r : R} {v : V} {H Hs1 H1 : Hp}, (∃ q, Sto r q) → Res K H Hs1 H1 v r → ∃ q, Sto r q ∧ ∀ a d, q = .own a d → v = .ref a := fun {r v H Hs1 H1} hq hr => by
      obtain ⟨q, hq⟩ := hq
      cases hq with
      | sh d => exact ⟨_, .sh d, fun a d e => by cases e⟩
      | own a d => obtain ⟨b, o, e, _⟩ := hr; exact ⟨_, .own b d, fun a' d' e' => by cases e'; exact e⟩
    obtain ⟨x1, t1, y1⟩ := pick e1 a1
    obtain ⟨x2, t2, y2⟩ := pick e2 q2
    have E3 : Env K dr H0 Hs2 H2 (σ.set i (some v)) (δ.set i x1) s2 := E2.set i (a1.slot E.ext t1 y1) fun a d e l d' el => by
      subst e
      cases t1
      obtain ⟨b, o, e, n, _⟩ := a1
      have := y1 a d rfl
      rw [e] at this; cases this
      obtain ⟨_, _, _, o2, ho2, _⟩ := E.slot l _ el
      rw [n] at ho2; cases ho2
    refine p.nx _ _ (k x1 x2 t1 t2) _ _ _ (st1.same.trans st2.same) (E3.set j (q2.slot E1.ext t2 y2) fun a d e l d' el => ?_)
    subst e
    cases t2
    obtain ⟨b, o, e, n, _⟩ := q2
    have := y2 a d rfl
    rw [e] at this; cases this
    exfalso
    by_cases z : i = l
    · subst z
      have hi : i < δ.length := by
        have := (List.getElem?_eq_some_iff.mp el).1
        simpa using this
      rw [List.getElem?_set_self hi] at el
      cases el
      cases t1
      obtain ⟨b', o', e', n', _, ho', _⟩ := q1
      have := y1 a d' rfl
      rw [e'] at this; cases this
      rw [n] at ho'; cases ho'
    · rw [List.getElem?_set_ne z] at el
      obtain ⟨_, _, _, o2, ho2, _⟩ := E1.slot l _ el
      rw [n] at ho2; cases ho2
theorem ss_parSS {i j : Nat} {ta tb : TE} {d1 d2 : D} (ha : Se K dr ta δ s (.sh d1) s1) (hb : Se K dr tb δ s1 (.sh d2) s2) (k : O (.nx ((δ.set i (.sh d1)).set j (.sh d2)) s2)) : SS K dr (tPar i j (tCons ta (tCons tb tNil))) δ s O :=
  ss_par ha hb ⟨_, .sh _⟩ ⟨_, .sh _⟩ fun q1 q2 h1 h2 => by cases h1; cases h2; exact k
theorem ss_parOS {i j : Nat} {ta tb : TE} {d1 d2 : D} (ha : Se K dr ta δ s (.own d1) s1) (hb : Se K dr tb δ s1 (.sh d2) s2) (k : ∀ a, O (.nx ((δ.set i (.own a d1)).set j (.sh d2)) s2)) : SS K dr (tPar i j (tCons ta (tCons tb tNil))) δ s O :=
  ss_par ha hb ⟨_, .own 0 _⟩ ⟨_, .sh _⟩ fun q1 q2 h1 h2 => by cases h1; cases h2; exact k _
theorem ss_parSO {i j : Nat} {ta tb : TE} {d1 d2 : D} (ha : Se K dr ta δ s (.sh d1) s1) (hb : Se K dr tb δ s1 (.own d2) s2) (k : ∀ a, O (.nx ((δ.set i (.sh d1)).set j (.own a d2)) s2)) : SS K dr (tPar i j (tCons ta (tCons tb tNil))) δ s O :=
  ss_par ha hb ⟨_, .sh _⟩ ⟨_, .own 0 _⟩ fun q1 q2 h1 h2 => by cases h1; cases h2; exact k _
theorem ss_parOO {i j : Nat} {ta tb : TE} {d1 d2 : D} (ha : Se K dr ta δ s (.own d1) s1) (hb : Se K dr tb δ s1 (.own d2) s2) (k : ∀ a b, O (.nx ((δ.set i (.own a d1)).set j (.own b d2)) s2)) : SS K dr (tPar i j (tCons ta (tCons tb tNil))) δ s O :=
  ss_par ha hb ⟨_, .own 0 _⟩ ⟨_, .own 0 _⟩ fun q1 q2 h1 h2 => by cases h1; cases h2; exact k _ _
/-! ### return, if -/
theorem ss_ret {r : R} (h : Se K dr te δ s r s1) (k : O (.rt r s1)) : SS K dr (tRet te) δ s O := fun H0 Hs H σ E D p =>
  h H0 Hs H σ E _ fun v Hs1 H1 E1 st1 r1 => p.rt _ _ k _ _ _ E1.ext E1.sub E1.drw (by
    cases r with
    | own d => obtain ⟨a, o, e, n, x⟩ := r1; exact ⟨a, o, e, E.ext.free n, x⟩
    | _ => exact r1)
theorem ss_retO {i : Nat} {a : Addr} {d : D} (h : δ[i]? = some (.own a d)) (k : O (.rt (.own d) s)) : SS K dr (tRet (tVar i)) δ s O := fun H0 Hs H σ E D p => by
  obtain ⟨e, h0, hs, o, ho, t⟩ := E.slot i _ h
  exact ⟨.ref a, e, p.rt _ _ k _ _ _ E.ext E.sub E.drw ⟨a, o, rfl, h0, hs, ho, t⟩⟩
theorem ss_retN (k : O (.rt (.sh .non) s)) : SS K dr tRetN δ s O := fun H0 Hs H σ E D p => p.rt _ _ k _ _ _ E.ext E.sub E.drw rfl
theorem ss_if {tt : TT} {b : Bool} (h : SeT K dr tt δ s b s1) (h1 : b = true → SS K dr t δ s1 O) (h2 : b = false → SS K dr u δ s1 O) : SS K dr (tIfS tt t u) δ s O := fun H0 Hs H σ E D p =>
  h H0 Hs H σ E _ fun Hs1 H1 E1 st1 => by
    cases b with
    | true => rw [if_pos rfl]; exact h1 rfl H0 Hs1 H1 σ E1 D (p.grow st1.same)
    | false => rw [if_neg (by decide)]; exact h2 rfl H0 Hs1 H1 σ E1 D (p.grow st1.same)
/-! ### own lists changed -/
theorem ss_append {j : Nat} {a : Addr} {xs : List D} {d : D} (hj : δ[j]? = some (.own a (.lst xs))) (h : Se K dr te δ s (.sh d) s1) (hl : xs.length < sizeLine) (k : O (.nx (δ.set j (.own a (.lst (xs ++ [d])))) s1)) :
    SS K dr (tDrop (tBM K "list" rAppend (tVar j) (tCons te tNil))) δ s O := fun H0 Hs H σ E D p => by
  obtain ⟨e, h0, hs, o, ho, vs, eo, t⟩ := E.slot j _ hj
  subst eo
  refine ⟨.ref a, e, .inl ⟨rfl, vs, .of ho⟩, ?_⟩
  refine h H0 Hs H σ E _ fun v Hs1 H1 E1 st1 r1 => ?_
  obtain ⟨e, h0, hs, o, ho, vs, eo, t⟩ := E1.slot j _ hj
  subst eo
  refine ⟨a, vs, v, rfl, rfl, ho, by rw [t.length]; exact hl, p.nx _ _ k _ _ _ st1.same (E1.write hj ⟨_, rfl, t.append (.one r1)⟩)⟩
theorem ss_setIx {j m : Nat} {a : Addr} {xs : List D} {d : D} {i : Int} (hj : δ[j]? = some (.own a (.lst xs))) (h : Se K dr te δ s (.sh d) s1) (hi : Se K dr ti δ s1 (.sh (.int i)) s2) (hx : ixN xs.length i = some m) (k : O (.nx (δ.set j (.own a (.lst (xs.set m d)))) s2)) :
    SS K dr (tAsg te (gSub (tVar j) ti rSetL)) δ s O := fun H0 Hs H σ E D p =>
  h H0 Hs H σ E _ fun v Hs1 H1 E1 st1 r1 => by
    obtain ⟨e, h0, hs, o, ho, vs, eo, t⟩ := E1.slot j _ hj
    refine ⟨.ref a, e, ?_⟩
    refine hi H0 Hs1 H1 σ E1 _ fun w Hs2 H2 E2 st2 r2 => ?_
    obtain ⟨e, h0, hs, o, ho, vs, eo, t⟩ := E2.slot j _ hj
    subst eo
    exact ⟨a, vs, i, m, rfl, r2, ho, by rw [t.length]; exact hx, p.nx _ _ k _ _ _ (st1.same.trans st2.same) (E2.write hj ⟨_, rfl, t.set (T.same st2.same r1) m⟩)⟩
theorem ixN_nat {n m : Nat} (h : m < n) : ixN n (m : Int) = some m := by
  unfold ixN
  rw [if_pos (by omega), if_pos (by omega)]
  simp
theorem ixN_of {n : Nat} {i : Int} {m : Nat} (e : i = m) (h : m < n) : ixN n i = some m := by subst e; exact ixN_nat h
theorem atI_of {α : Type} {xs : List α} {i : Int} {m : Nat} {v : α} (e : i = m) (h : xs[m]? = some v) : atI xs i = some v := by subst e; exact atI_nat h
/-! ### for -/
/-- a value assigned to a target -/
def SG (K : Frag) (dr : Option Addr) (g : TG) (d : D) (δ δ' : List S) : Prop :=
  ∀ H0 Hs H σ s v, Env K dr H0 Hs H σ δ s → T K Hs d v → ∀ Q : L2.St → Hp → Prop, (∀ σ', Env K dr H0 Hs H σ' δ' s → Q σ' H) → g v σ H Q
theorem sg_name {i : Nat} {d : D} : SG K dr (gName i) d δ (δ.set i (.sh d)) := fun H0 Hs H σ s v E t Q q => q _ (E.setSh i t)
theorem sg_tup2 {i j : Nat} {d1 d2 : D} : SG K dr (gTup K 2 (gCons (gName i) (gCons (gName j) gNil))) (.tup [d1, d2]) δ ((δ.set i (.sh d1)).set j (.sh d2)) := fun H0 Hs H σ s v E t Q q => by
  obtain ⟨a, vs, e, h, v1, r, e1, t1, v2, r2, e2, t2, e3⟩ := t
  cases (show _ = _ from e3); subst e1 e2
  exact ⟨a, _, e, .inl (.inl (E.toH _ _ h)), rfl, v1, _, rfl, v2, _, rfl, rfl, q _ ((E.setSh i t1).setSh j t2)⟩
def LoopO (I : List S → DS → Prop) (O : Out → Prop) : Out → Prop
  | .nx δ s => I δ s
  | .ct δ s => I δ s
  | .bk δ s => O (.nx δ s)
  | .rt r s => O (.rt r s)
/-- what an iterator gives at each turn -/
def JOk (K : Frag) (dr : Option Addr) (H0 Hs1 : Hp) (J : It) (n : Nat) (it : Nat → D) (I : Nat → List S → DS → Prop) : Prop :=
  ∀ i δ s Hs H σ, I i δ s → i ≤ n → Env K dr H0 Hs H σ δ s → Same Hs1 Hs → (n ≤ i → J.stop i H) ∧ (i < n → J.go i H ∧ ∀ x H', J.yld i H x H' → (H' = H ∧ T K Hs (it i) x) ∨ ∃ p vs, H p = none ∧ H' = upd H p (.tup vs) ∧ T K (upd Hs p (.tup vs)) (it i) x)
theorem for_gen {J : It} {n : Nat} {it : Nat → D} {g : TG} {tb : TS} {I : Nat → List S → DS → Prop} {H0 Hs1 H1 : Hp} {σ : L2.St} {D : Ends} (hJ : JOk K dr H0 Hs1 J n it I) (E : Env K dr H0 Hs1 H1 σ δ s) (h0 : I 0 δ s)
    (hs : ∀ i δ s, i < n → I i δ s → ∃ δ', SG K dr g (it i) δ δ' ∧ SS K dr tb δ' s (LoopO (I (i + 1)) O)) (hd : ∀ δ s, I n δ s → O (.nx δ s)) (p : Post K dr H0 Hs1 O D) :
    ∃ W : Nat → Nat → L2.St → Hp → Prop, (∃ m, W 0 m σ H1) ∧ ∀ i m σ H, W i m σ H →
      (J.stop i H ∧ D.nx σ H) ∨ (J.go i H ∧ ∃ N : L2.St → Hp → Prop, (∀ σ' H', N σ' H' → ∃ m', m' < m ∧ W (i + 1) m' σ' H') ∧ ∀ x H', J.yld i H x H' → g x σ H' fun σ2 H2 => tb { D with nx := N, ct := N, bk := D.nx } σ2 H2) := by
  refine ⟨fun i m σ H => m = n - i ∧ i ≤ n ∧ ∃ Hs δ s, Same Hs1 Hs ∧ I i δ s ∧ Env K dr H0 Hs H σ δ s, ⟨n, by simp, Nat.zero_le _, Hs1, δ, s, L2.Same.refl _, h0, E⟩, ?_⟩
  rintro i m σ H ⟨rfl, hi, Hs, δ, s, hS, hI, E⟩
  obtain ⟨j1, j2⟩ := hJ i δ s Hs H σ hI hi E hS
  by_cases hlt : i < n
  · obtain ⟨g1, g2⟩ := j2 hlt
    refine .inr ⟨g1, fun σ' H' => ∃ Hs δ s, Same Hs1 Hs ∧ I (i + 1) δ s ∧ Env K dr H0 Hs H' σ' δ s, fun σ' H' z => ⟨n - (i + 1), by omega, rfl, hlt, z⟩, fun x H' y => ?_⟩
    obtain ⟨δ', hg, hb⟩ := hs i δ s hlt hI
    have go : ∀ Hs', Same Hs Hs' → Env K dr H0 Hs' H' σ δ s → T K Hs' (it i) x → g x σ H' fun σ2 H2 => tb { D with nx := fun σ' H' => ∃ Hs δ s, Same Hs1 Hs ∧ I (i + 1) δ s ∧ Env K dr H0 Hs H' σ' δ s, ct := fun σ' H' => ∃ Hs δ s, Same Hs1 Hs ∧ I (i + 1) δ s ∧ Env K dr H0 Hs H' σ' δ s, bk := D.nx } σ2 H2 := fun Hs' hS' E' t =>
      hg H0 Hs' H' σ s x E' t _ fun σ2 E2 => hb H0 Hs' H' σ2 E2 _ ⟨fun δ3 s3 z σ3 Hs3 H3 e E3 => ⟨Hs3, δ3, s3, (hS.trans hS').trans e, z, E3⟩, p.rt, fun δ3 s3 z σ3 Hs3 H3 e E3 => p.nx _ _ z _ _ _ ((hS.trans hS').trans e) E3, fun δ3 s3 z σ3 Hs3 H3 e E3 => ⟨Hs3, δ3, s3, (hS.trans hS').trans e, z, E3⟩⟩
    rcases g2 x H' y with ⟨e, t⟩ | ⟨q, vs, hq, e, t⟩
    · subst e; exact go Hs (L2.Same.refl _) E t
    · subst e
      obtain ⟨E', st⟩ := E.newS hq (.tup vs)
      exact go _ st.same E' t
  · have e : i = n := by omega
    subst e
    exact .inl ⟨j1 (Nat.le_refl _), p.nx _ _ (hd _ _ hI) _ _ _ hS E⟩
/-- an iterable -/
def SeI (K : Frag) (dr : Option Addr) (wi : TI) (δ : List S) (s : DS) (n : Nat) (it : Nat → D) (s' : DS) (C : Nat → List S → DS → Prop) : Prop :=
  ∀ H0 Hs H σ, Env K dr H0 Hs H σ δ s → ∀ R : It → Hp → Prop, (∀ J Hs' H', Env K dr H0 Hs' H' σ δ s' → Stp dr Hs H Hs' H' → (∀ I : Nat → List S → DS → Prop, (∀ i δ s, I i δ s → C i δ s) → JOk K dr H0 Hs' J n it I) → R J H') → wi σ H R
theorem ss_for {wi : TI} {g : TG} {tb : TS} {n : Nat} {it : Nat → D} {C I : Nat → List S → DS → Prop} (hi : SeI K dr wi δ s n it s1 C) (hC : ∀ i δ s, I i δ s → C i δ s) (h0 : I 0 δ s1)
    (hs : ∀ i δ s, i < n → I i δ s → ∃ δ', SG K dr g (it i) δ δ' ∧ SS K dr tb δ' s (LoopO (I (i + 1)) O)) (hd : ∀ δ s, I n δ s → O (.nx δ s)) : SS K dr (tFor wi g tb) δ s O := fun H0 Hs H σ E D p =>
  hi H0 Hs H σ E _ fun J Hs' H' E' st hJ => for_gen (hJ I hC) E' h0 hs hd (p.grow st.same)
/-- the state is told by the turn -/
theorem ss_forF {wi : TI} {g : TG} {tb : TS} {n : Nat} {it : Nat → D} {C : Nat → List S → DS → Prop} (F G : Nat → List S) (hi : SeI K dr wi δ s n it s1 C) (hC : ∀ i, C i (F i) s1) (h0 : Sub δ (F 0))
    (hg : ∀ i, i < n → SG K dr g (it i) (F i) (G i)) (hs : ∀ i, i < n → SS K dr tb (G i) s1 (LoopO (fun δ s => s = s1 ∧ Sub δ (F (i + 1))) O)) (hd : O (.nx (F n) s1)) : SS K dr (tFor wi g tb) δ s O := by
  intro H0 Hs H σ E D p
  refine hi H0 Hs H σ E _ fun J Hs' H' E' st hJ => ?_
  refine for_gen (O := O) (I := fun i δ s => s = s1 ∧ δ = F i) (hJ (fun i δ s => s = s1 ∧ δ = F i) fun i δ s h => by obtain ⟨rfl, rfl⟩ := h; exact hC i) (E'.weak h0) ⟨rfl, rfl⟩ (fun i δ s hlt hI => ?_) (fun δ s hI => by obtain ⟨rfl, rfl⟩ := hI; exact hd) (p.grow st.same)
  obtain ⟨rfl, rfl⟩ := hI
  refine ⟨G i, hg i hlt, ?_⟩
  intro H0 Hs H σ E D p
  refine hs i hlt H0 Hs H σ E D ⟨fun δ' s' z σ' Hs' H' e E' => ?_, p.rt, p.bk, fun δ' s' z σ' Hs' H' e E' => ?_⟩
  · exact p.nx (F (i + 1)) s' ⟨z.1, rfl⟩ σ' Hs' H' e (E'.weak z.2)
  · exact p.ct (F (i + 1)) s' ⟨z.1, rfl⟩ σ' Hs' H' e (E'.weak z.2)
def CTrue : Nat → List S → DS → Prop := fun _ _ _ => True
theorem JOk_range {H0 Hs1 : Hp} {lo : Int} {n : Nat} {I : Nat → List S → DS → Prop} : JOk K dr H0 Hs1 (Itr lo n) n (fun i => .int (lo + i)) I := fun i δ s Hs H σ _ hi E _ =>
  ⟨fun h => h, fun h => ⟨h, fun x H' y => .inl ⟨y.1, y.2⟩⟩⟩
theorem JOk_rangeC {H0 Hs1 : Hp} {lo c : Int} {n : Nat} {I : Nat → List S → DS → Prop} : JOk K dr H0 Hs1 (Itc lo c n) n (fun i => .int (lo + (i : Nat) * c)) I := fun i δ s Hs H σ _ hi E _ =>
  ⟨fun h => h, fun h => ⟨h, fun x H' y => .inl ⟨y.1, y.2⟩⟩⟩
theorem si_range1 {ta : TE} {j : Int} (h : Se K dr ta δ s (.sh (.int j)) s1) (h1 : -(2 ^ 62) ≤ j) (h2 : j < 2 ^ 62) : SeI K dr (iRng1 (tCons ta tNil)) δ s j.toNat (fun i => .int (0 + i)) s1 CTrue := fun H0 Hs H σ E R q =>
  h H0 Hs H σ E _ fun v Hs1 H1 E1 st1 r1 => ⟨j, by cases r1; rfl, h1, h2, q _ _ _ E1 st1 fun I _ => JOk_range⟩
theorem si_range2 {ta tb : TE} {i j : Int} (ha : Se K dr ta δ s (.sh (.int i)) s1) (hb : Se K dr tb δ s1 (.sh (.int j)) s2) (hh : -(2 ^ 62) ≤ i ∧ i < 2 ^ 62 ∧ -(2 ^ 62) ≤ j ∧ j < 2 ^ 62) : SeI K dr (iRng2 (tCons ta (tCons tb tNil))) δ s (j - i).toNat (fun k => .int (i + k)) s2 CTrue := fun H0 Hs H σ E R q =>
  ha H0 Hs H σ E _ fun v Hs1 H1 E1 st1 r1 => hb H0 Hs1 H1 σ E1 _ fun w Hs2 H2 E2 st2 r2 => ⟨i, j, by cases r1; cases r2; rfl, hh, q _ _ _ E2 (st1.trans st2) fun I _ => JOk_range⟩
/-- downward by 1 -/
theorem si_range3 {ta tb tc : TE} {i j : Int} (ha : Se K dr ta δ s (.sh (.int i)) s1) (hb : Se K dr tb δ s1 (.sh (.int j)) s2) (hc : Se K dr tc δ s2 (.sh (.int (-1))) s2) (h1 : -(2 ^ 62) ≤ i) (h2 : i < 2 ^ 62) (h3 : -(2 ^ 62) ≤ j) (h4 : j < 2 ^ 62) : SeI K dr (iRng3 (tCons ta (tCons tb (tCons tc tNil)))) δ s (i - j).toNat (fun k => .int (i + (k : Nat) * (-1))) s2 CTrue := fun H0 Hs H σ E R q =>
  ha H0 Hs H σ E _ fun v Hs1 H1 E1 st1 r1 => hb H0 Hs1 H1 σ E1 _ fun w Hs2 H2 E2 st2 r2 => hc H0 Hs2 H2 σ E2 _ fun x Hs3 H3 E3 st3 r3 => ⟨i, j, -1, _, by cases r1; cases r2; cases r3; rfl, RgC.neg h1 h2 h3 h4, q _ _ _ E3 ((st1.trans st2).trans st3) fun I _ => JOk_rangeC⟩
theorem si_tup {t : TE} {ds : List D} (h : SeR K dr t δ s (.tup ds) s1) : SeI K dr (iTup K t) δ s ds.length (fun i => ds.getD i .non) s1 CTrue := fun H0 Hs H σ E R q =>
  h H0 Hs H σ E _ fun v Hs1 H1 E1 st1 r1 => by
    obtain ⟨a, vs, e, h1, h2⟩ := r1.tup
    refine ⟨a, e, ⟨vs, Same.seqT E1.toH h1⟩, q _ _ _ E1 st1 fun I _ i δ s Hs H σ _ hi E2 sm => ?_⟩
    have sq : SqT K H a vs := Same.seqT E2.toH (Same.seqT sm h1)
    refine ⟨fun hn => ⟨vs, sq, by rw [h2.length]; exact hn⟩, fun hn => ?_⟩
    obtain ⟨w, hw, tw⟩ := h2.get (i := i) (d := ds[i]) (List.getElem?_eq_getElem hn)
    refine ⟨⟨vs, w, sq, hw⟩, fun x H' y => .inl ⟨y.1, ?_⟩⟩
    have := y.2 vs sq
    rw [hw] at this; cases this
    show T K Hs (ds.getD i .non) w
    rw [List.getD_eq_getElem?_getD, List.getElem?_eq_getElem hn]
    exact T.same sm tw
theorem si_lst {t : TE} {ds : List D} (h : Se K dr t δ s (.sh (.lst ds)) s1) : SeI K dr (iList K t) δ s ds.length (fun i => ds.getD i .non) s1 CTrue := fun H0 Hs H σ E R q =>
  h H0 Hs H σ E _ fun v Hs1 H1 E1 st1 r1 => by
    obtain ⟨a, vs, e, h1, h2⟩ := r1
    refine ⟨a, e, ⟨vs, E1.toH.seq h1⟩, q _ _ _ E1 st1 fun I _ i δ s Hs H σ _ hi E2 sm => ?_⟩
    have sq : SqL K H a vs := E2.toH.seq (sm.seq h1)
    refine ⟨fun hn => ⟨vs, sq, by rw [h2.length]; exact hn⟩, fun hn => ?_⟩
    obtain ⟨w, hw, tw⟩ := h2.get (i := i) (d := ds[i]) (List.getElem?_eq_getElem hn)
    refine ⟨⟨vs, w, sq, hw⟩, fun x H' y => .inl ⟨y.1, ?_⟩⟩
    have := y.2 vs sq
    rw [hw] at this; cases this
    show T K Hs (ds.getD i .non) w
    rw [List.getD_eq_getElem?_getD, List.getElem?_eq_getElem hn]
    exact T.same sm tw
/-- over an own list of a slot, which stays -/
theorem si_own {j : Nat} {a : Addr} {ds : List D} (h : δ[j]? = some (.own a (.lst ds))) : SeI K dr (iList K (tVar j)) δ s ds.length (fun i => ds.getD i .non) s fun _ δ _ => δ[j]? = some (.own a (.lst ds)) := fun H0 Hs H σ E R q => by
  obtain ⟨e, h0, hs, o, ho, vs, eo, t⟩ := E.slot j _ h
  subst eo
  refine ⟨.ref a, e, a, rfl, ⟨vs, .of ho⟩, q _ _ _ E .refl fun I hC i δ s Hs H σ hI hi E2 sm => ?_⟩
  obtain ⟨e, h0, hs, o, ho, vs, eo, t⟩ := E2.slot j _ (hC _ _ _ hI)
  subst eo
  refine ⟨fun hn => ⟨vs, .of ho, by rw [t.length]; exact hn⟩, fun hn => ?_⟩
  obtain ⟨w, hw, tw⟩ := t.get (i := i) (d := ds[i]) (List.getElem?_eq_getElem hn)
  refine ⟨⟨vs, w, .of ho, hw⟩, fun x H' y => .inl ⟨y.1, ?_⟩⟩
  have := y.2 vs (.of ho)
  rw [hw] at this; cases this
  show T K Hs (ds.getD i .non) w
  rw [List.getD_eq_getElem?_getD, List.getElem?_eq_getElem hn]
  exact tw
/-! ### while -/
theorem ss_while {tt : TT} {tb : TS} (I : Nat → List S → DS → Prop) {m : Nat} (h0 : I m δ s)
    (hs : ∀ m δ s, I m δ s → ∃ b s1, SeT K dr tt δ s b s1 ∧ (b = true → SS K dr tb δ s1 (LoopO (fun δ' s' => ∃ m', m' < m ∧ I m' δ' s') O)) ∧ (b = false → O (.nx δ s1))) : SS K dr (tWhile tt tb) δ s O := fun H0 Hs1 H1 σ E D p => by
  refine ⟨fun m σ H => ∃ Hs δ s, Same Hs1 Hs ∧ I m δ s ∧ Env K dr H0 Hs H σ δ s, ⟨m, Hs1, δ, s, L2.Same.refl _, h0, E⟩, ?_⟩
  rintro m σ H ⟨Hs, δ, s, hS, hI, E⟩
  obtain ⟨b, s1, hc, hb, hn⟩ := hs m δ s hI
  refine hc H0 Hs H σ E _ fun Hs2 H2 E2 st2 => ?_
  have hS2 := hS.trans st2.same
  cases b with
  | true =>
    rw [if_pos rfl]
    refine ⟨fun σ' H' => ∃ m', m' < m ∧ ∃ Hs δ s, Same Hs1 Hs ∧ I m' δ s ∧ Env K dr H0 Hs H' σ' δ s, fun σ' H' z => z, ?_⟩
    refine hb rfl H0 Hs2 H2 σ E2 _ ⟨fun δ3 s3 z σ3 Hs3 H3 e E3 => ?_, p.rt, fun δ3 s3 z σ3 Hs3 H3 e E3 => p.nx _ _ z _ _ _ (hS2.trans e) E3, fun δ3 s3 z σ3 Hs3 H3 e E3 => ?_⟩
    · obtain ⟨m', hm, z⟩ := z; exact ⟨m', hm, Hs3, δ3, s3, hS2.trans e, z, E3⟩
    · obtain ⟨m', hm, z⟩ := z; exact ⟨m', hm, Hs3, δ3, s3, hS2.trans e, z, E3⟩
  | false =>
    rw [if_neg (by decide)]
    exact p.nx _ _ (hn rfl) _ _ _ hS2 E2
end
end EL
set_option maxRecDepth 100000
set_option maxHeartbeats 4000000
/-! E-layer 3: rules that the hand layer lacks (tuples: enumerate, whole and turned slices, small repetitions, nothing on the left). -/
namespace EL
open PySem PySem.Spec PyProof.Rows L2
abbrev StL := L2.St
section raw
variable {prog : Program} {w : World} {A : Around} {E : Value → Shared → Prop} {s : Shared}
set_option maxHeartbeats 1000000 in
theorem meets_enumerate_new1 {v : Value} {o : Obj} {H : Heap → Prop} (B : Begins v o H) :
    Meets (Builtin.«enumerate.__new__» ⟨[.type "enumerate", v], []⟩) (fun _ R s => H s.heap ∧
      R (.ok (.ret (.ref (s.heap.push o).objs.size))) { s with heap := (s.heap.push o).push { cls := .type "enumerate", data := .fields #[.none, .bool false, .ref s.heap.objs.size, rawInt 0, .none, .none] } }) :=
  .of_wp fun prog w A R s h => by
    obtain ⟨hp, g, d, tk, os⟩ := s; obtain ⟨h1, h⟩ := h
    have hsub := sub_enumerate
    have q1 : ∀ {A' : Around} {E : Value → Shared → Prop} {Q : Value → Shared → Prop}, Q (.ref hp.objs.size) ⟨hp.push o, g, d, tk, os⟩ → wpAny (model prog w) A' (pyIter v) Q E ⟨hp, g, d, tk, os⟩ :=
      fun q => B.iter prog w _ _ ⟨hp, g, d, tk, os⟩ _ h1 q
    wp_walk using q1
    refine wpAny_stack_any fun st => wpAny_pure ?_
    split
    · rename_i c _ _ _ _ _
      cases (c == Value.type "enumerate")
      · wp_walk using q1
        exact ⟨_, rfl, h⟩
      · wp_walk using q1
        exact ⟨_, rfl, h⟩
    · wp_walk using q1
      exact ⟨_, rfl, h⟩
theorem enum_begins1 {v : Value} {o : Obj} {H : Heap → Prop} {Q : Value → Shared → Prop} (B : Begins v o H) (h1 : H s.heap)
    (h : ∀ h', IsEnum h' (s.heap.objs.size + 1) s.heap.objs.size 0 .none → h'.get? s.heap.objs.size = some o → h'.objs.size = s.heap.objs.size + 2 →
      (∀ b o, s.heap.get? b = some o → h'.get? b = some o) → Q (.ref (s.heap.objs.size + 1)) { s with heap := h' }) :
    wpAny (model prog w) A (call (.type "enumerate") [v]) Q E s := by
  refine callType_new F.called_enumerate (by decide) (F.typeCall_enumerate_1 _) (F.newCall_enumerate_1 _) (fun obj => F.args_object_init_2 obj _) F.entry_enumerate_new
    (meets_enumerate_new1 B) ⟨h1, ?_⟩
  have hz : (s.heap.push o).objs.size = s.heap.objs.size + 1 := Heap.size_push ..
  show _ ∧ _
  rw [hz]
  have he : IsEnum ((s.heap.push o).push { cls := .type "enumerate", data := .fields #[.none, .bool false, .ref s.heap.objs.size, rawInt 0, .none, .none] }) (s.heap.objs.size + 1) s.heap.objs.size 0 .none := by
    have := Heap.get?_push_size (s.heap.push o) (o := { cls := .type "enumerate", data := .fields #[.none, .bool false, .ref s.heap.objs.size, rawInt 0, .none, .none] }) rfl
    rw [hz] at this; exact this
  refine ⟨⟨_, he, rfl⟩, h _ he (Heap.get?_push_of_some _ (Heap.get?_push_size _ B.free)) (by rw [Heap.size_push, hz]) fun b o x => Heap.get?_push_of_some _ (Heap.get?_push_of_some _ x)⟩
end raw
/-- the tuple at a, in new pairs -/
def IteT (K : Frag) (a : Addr) : It :=
  ⟨fun i H => ∃ (xs : List V) (x : V), SqT K H a xs ∧ xs[i]? = some x, fun i H v H' => ∃ T x, v = .ref T ∧ H T = none ∧ H' = upd H T (.tup [.int (i : Nat), x]) ∧ ∀ xs, SqT K H a xs → xs[i]? = some x, fun i H => ∃ xs : List V, SqT K H a xs ∧ xs.length = i⟩
theorem turn_enumT {P : Program} {w : World} {K : Frag} {elts : List Expr} {kk : Nat} {tpos : Pos} (a e it : Addr) (hai : a ≠ it) (hae : a ≠ e) :
    Turn P w K (.Tuple elts kk tpos) (IteT K a) [e, it] e (fun i h => (∃ old, IsEnum h e it ((i : Nat) : Int) old) ∧ h.IsTupleIter it a i ∧ e ≠ it) where
  mem := by simp
  obj := fun i h st b hb => by
    obtain ⟨⟨old, he⟩, ⟨o, ho, hc, hd⟩, _⟩ := st
    have e' : b = e ∨ b = it := by simpa using hb
    rcases e' with z | z
    · rw [z]; exact ⟨_, he, fun v q => nomatch q⟩
    · rw [z]; exact ⟨o, ho, fun v q => by rw [hd] at q; cases q⟩
  keep := fun i h h' st k => let ⟨⟨old, he⟩, hi, hne⟩ := st; ⟨⟨old, k e (by simp) _ he⟩, hi.at fun o q => k it (by simp) o q, hne⟩
  item := by
    intro X hP hw hK hc i pins s σ H E I hf st hg
    subst hP hw hK
    obtain ⟨⟨old, he⟩, hit, hne⟩ := st
    obtain ⟨xs, x, hq, hx⟩ := hg
    obtain ⟨its, rv, p, hz⟩ := I.tuple hq
    obtain ⟨u, hu, ru⟩ := rv.get hx
    have hlt : i < its.toArray.size := by
      rw [List.size_toArray]
      exact (List.getElem?_eq_some_iff.mp hu).1
    have hel : e < s.heap.objs.size := Heap.lt_size he
    have hil : it < s.heap.objs.size := by obtain ⟨_, q, _⟩ := hit; exact Heap.lt_size q
    have hef : e ∉ [it, a] := fun q => by
      have q' : e = it ∨ e = a := by simpa using q
      rcases q' with z | z
      · exact hne z
      · exact hae z.symm
    refine wpAny_pyNext_enum_itemD (Draws.tuple (prog := X.prog) (w := X.w) (A := X.A.in1) (I.ok.hd hc) it a hai its.toArray) he ⟨hit, p⟩ hlt hne hef fun x' h' tk hx' ho hit' hT hsz hk => ?_
    have ex : x' = u := by
      have h1 : its[i]? = some x' := by simpa using hx'
      rw [hu] at h1; exact (Option.some.inj h1).symm
    subst ex
    refine ⟨_, rfl, wpAny_letOwnedTupleGo_enum (s := { s with heap := h', toks := tk + 1 }) ho fun h'' he' sb => ?_⟩
    have hT2 : h''.get? s.heap.objs.size = some { cls := .type "tuple", data := .seq #[.int i tk, x'] } := (sb.2 _ (Nat.ne_of_gt hel)).trans hT
    have new : ObjOk X.prog X.w (upd H s.heap.objs.size (.tup [.int (i : Nat), x])) h'' s.heap.objs.size (.tup [.int (i : Nat), x]) :=
      ⟨by show 2 ≤ sizeLine; decide, [.int i tk, x'], .cons ⟨_, rfl⟩ (.cons ru .nil), ⟨_, hT2, rfl, _, rfl⟩⟩
    have I1 : Inv X pins σ (upd H s.heap.objs.size (.tup [.int (i : Nat), x])) { s with heap := h'', toks := tk + 1 } :=
      I.turnedNew (ch := [e, it]) (fun b ob hb q => (sb.2 b (fun z => hb (by simp [z]))).trans (hk b ob (fun z => hb (by simp [z])) (fun z => hb (by simp [z])) q)) hf (Nat.le_refl _) new
    refine ⟨.ref s.heap.objs.size, _, I1, rfl, ⟨_, x, rfl, I.hok.fresh (Nat.le_refl _), rfl, fun ys hy => by rw [I.tuple_inj hy hq]; exact hx⟩, ⟨⟨x', ?_⟩, hit'.1.at fun o q => (sb.2 it (Ne.symm hne)).trans q, hne⟩, fun b hb => ?_⟩
    · have e1 : ((i + 1 : Nat) : Int) = (i : Int) + 1 := by omega
      rw [e1]; exact he'
    · have hb' : b < s.heap.objs.size := by
        have e' : b = e ∨ b = it := by simpa using hb
        rcases e' with z | z
        · rw [z]; exact hel
        · rw [z]; exact hil
      rw [upd_ne (Nat.ne_of_lt hb')]
      exact (hf b hb).1
  done := by
    intro X hP hw hK hc i pins s σ H E I hf st hg
    subst hP hw hK
    obtain ⟨⟨old, he⟩, hit, hne⟩ := st
    obtain ⟨xs, hq, hx⟩ := hg
    obtain ⟨its, rv, p, hz⟩ := I.tuple hq
    obtain ⟨f0, f1, f2, f3, f4, f5⟩ := hf it (by simp)
    have hl := rv.length
    have e1 : its.toArray.size = i := by rw [List.size_toArray]; omega
    exact wpAny_pyNext_enum_endD (Draws.tuple (prog := X.prog) (w := X.w) (A := X.A.in1) (I.ok.hd hc) it a hai its.toArray) he ⟨by rw [e1]; exact hit, p⟩ fun h' eb => ⟨rfl, I.turned (t' := s.toks) (fun b o hb q => eb b o hb q) f0 f1 f3 f4 f5⟩
  self := fun A i s Q E st h => let ⟨⟨_, he⟩, _⟩ := st; wpAny_pyIter_enum he h
def iEnumT (K : Frag) (ta : TA) : TI := fun σ H R => ta σ H fun vs H1 => ∃ a xs, vs = [.ref a] ∧ SqT K H1 a xs ∧ R (IteT K a) H1
theorem pi_enumT {X : Cx} {e : Expr} {ta : TA} {p pos tpos : Pos} {elts : List Expr} {kk : Nat} (hg : Gl X "enumerate") (hm : X.mg "enumerate" = none) (ha : PA X [e] ta) (hs : starEach [e] X.env = [(false, eval e X.env)] := by rfl) :
    PI X (.Tuple elts kk tpos) (.Call (.Name "enumerate" p) [e] [] pos) (iEnumT X.K ta) := by
  refine ⟨fun pins s σ H R I h => ?_⟩
  refine Call_ (ld_blt I hg hm boot_enumerate (PyProof.Rows.callWith_type1 (thn (ha.run pos pins s σ H _ I h) fun us s1 ⟨vs, H1, I1, r1, q1⟩ => ?_) hs rfl))
  obtain ⟨a, xs, ex, hq, q⟩ := q1
  subst ex
  cases r1 with
  | cons r rr =>
    cases rr
    cases r
    obtain ⟨its, rv, p', hz⟩ := I1.tuple hq
    have la : a < s1.heap.objs.size := p'.lt
    refine enum_begins1 (begins_tuple a its.toArray) p' fun h' he hit hsz hk => wpAny_pyIter_enum he ?_
    have I2 : Inv X pins σ H1 { s1 with heap := h' } := I1.kept (t' := s1.toks) hk
    refine ⟨s1.heap.objs.size + 1, [s1.heap.objs.size + 1, s1.heap.objs.size], _, _, H1, rfl, I2, turn_enumT a (s1.heap.objs.size + 1) s1.heap.objs.size (Nat.ne_of_lt la) (Nat.ne_of_lt (Nat.lt_succ_of_lt la)), ⟨⟨.none, he⟩, ⟨_, hit, rfl, rfl⟩, Nat.succ_ne_self _⟩, fun b hb => ?_, q⟩
    have e' : b = s1.heap.objs.size + 1 ∨ b = s1.heap.objs.size := by simpa using hb
    have hle : s1.heap.objs.size ≤ b := by
      rcases e' with z | z
      · rw [z]; exact Nat.le_add_right _ _
      · rw [z]; exact Nat.le_refl _
    exact I1.fpOk hle (I1.hok.fresh hle)
/-! ### slices of tuples -/
section
variable {prog : Program} {w : World} {A : Around} {E : Value → Shared → Prop} {s : Shared}
theorem getItem_tuple_whole {t sl : Addr} {items : Array Value} {vl vu : Value} {lo hi : Option Int} {Q : Value → Shared → Prop} (ht : IsTup s.heap t items) (hs : s.heap.IsSliceOf sl vl vu .none) (pl : IsPart vl lo) (pu : IsPart vu hi)
    (hw : HT.sIx items.size 0 lo = 0 ∧ HT.sIx items.size items.size hi = items.size) (h : Q (.ref t) s) : wpAny (model prog w) A (getItem (.ref t) (.ref sl)) Q E s := by
  obtain ⟨os, hos, hcs, hds⟩ := id hs
  have hTs : s.TypeIs (.ref sl) "slice" := ⟨os, hos, hcs⟩
  unfold getItem
  try with_reducible refine wpAny_holding ?_
  first | refine wpAny_bind (wpAny_pure ?_) | skip
  refine wpAny_bind (wpAny_sequenceKey ht.typeIs (by decide) ?_)
  refine wpAny_bind (wpAny_callSpecial?_slot (name := Str.ofString "__getitem__") ht.typeIs PyProof.Rows.slot_tuple_getitem
    (wpAny_call_entry PyProof.Rows.slot_tuple_getitem ht.typeIs entry_tuple_getitem ?_ (args_tuple_getitem _ _)))
  show wpAny _ _ (Builtin.Tuple.tupleItemsOf (.ref t) >>= _) _ _ s
  refine wpAny_bind (tupleItemsOf_ ht ?_)
  refine wpAny_bind (wpAny_typeOf hTs ?_)
  rw [if_pos (by decide)]
  refine wpAny_bind (HT.sliceApplied_gen hs pl pu ?_)
  have hyes : ((((HT.sIx items.size 0 lo : Nat) : Int) == 0 && (1 : Int) == 1 && (HT.sIx items.size items.size hi - HT.sIx items.size 0 lo) == items.size) = true) := by
    rw [hw.1, hw.2]; simp
  show wpAny _ _ (if (((HT.sIx items.size 0 lo : Nat) : Int) == 0 && (1 : Int) == 1 && (HT.sIx items.size items.size hi - HT.sIx items.size 0 lo) == items.size) = true then _ else _) _ _ s
  rw [if_pos hyes]
  unfold Builtin.Tuple.tupleIsExact
  refine wpAny_bind (wpAny_bind (wpAny_typeOf ht.typeIs (wpAny_pure ?_)))
  show wpAny _ _ (if (Value.type "tuple" == Value.type "tuple") = true then _ else _) _ _ s
  rw [if_pos (by decide)]
  first
    | exact wpAny_bind (wpAny_rule (wpAny_pure ⟨_, rfl, wpAny_pure h⟩))
    | exact wpAny_bind (wpAny_rule (wpAny_bind (wpAny_pure ⟨_, rfl, wpAny_pure h⟩)))
    | exact wpAny_bind (wpAny_rule (wpAny_bind (wpAny_pure (wpAny_pure ⟨_, rfl, wpAny_pure h⟩))))
theorem sliceApplied_rev {sl : Addr} {n : Nat} {vs : Value} {Q : Int × Int × Nat → Shared → Prop} (hs : s.heap.IsSliceOf sl .none .none vs) (ps : IsPart vs (some (-1)))
    (h : Q ((n : Int) - 1, -1, n) s) : wpAny (model prog w) A (Builtin.Slice.sliceApplied (.ref sl) (pure (n : Int))) Q E s := by
  obtain ⟨os, hos, hcs, hds⟩ := id hs
  unfold Builtin.Slice.sliceApplied Builtin.Slice.sliceFields
  refine wpAny_bind (wpAny_bind (wpAny_field hos hds (x := .none) rfl (wpAny_bind (wpAny_field hos hds (x := .none) rfl (wpAny_bind (wpAny_field hos hds (x := vs) rfl (wpAny_pure ?_)))))))
  refine wpAny_bind (HT.slicePart_ ps ?_)
  show wpAny _ _ (if ((-1 : Int) == 0) = true then _ else _) _ _ s
  rw [if_neg (by decide)]
  refine wpAny_bind (slicePart_none (wpAny_bind (slicePart_none (wpAny_bind (wpAny_pure ?_)))))
  show wpAny _ _ (match Builtin.Slice.sliceAdjust none none (-1) (n : Int) with | (lo, hi) => pure (lo, (-1 : Int), Builtin.Slice.slicePlaces lo hi (-1))) _ _ s
  have e1 : Builtin.Slice.sliceAdjust none none (-1) (n : Int) = ((n : Int) - 1, -1) := rfl
  rw [e1]
  show wpAny _ _ (pure ((n : Int) - 1, (-1 : Int), Builtin.Slice.slicePlaces ((n : Int) - 1) (-1) (-1))) _ _ s
  have e2 : Builtin.Slice.slicePlaces ((n : Int) - 1) (-1) (-1) = n := by
    unfold Builtin.Slice.slicePlaces
    rw [if_neg (by decide)]
    by_cases hn : n = 0
    · subst hn; decide
    · rw [if_pos (by omega)]
      show ((((n : Int) - 1 - -1 - 1) / 1) + 1).toNat = n
      rw [Int.ediv_one]; omega
  rw [e2]
  exact wpAny_pure h
theorem pick_rev (xs : Array Value) : ((List.range xs.size).filterMap fun (k : Nat) => xs[(((xs.size : Int) - 1) + (k : Int) * (-1)).toNat]?).toArray = xs.toList.reverse.toArray := by
  congr 1
  have e : (fun (k : Nat) => xs[(((xs.size : Int) - 1) + (k : Int) * (-1)).toNat]?) = fun k => xs[xs.size - 1 - k]? := by
    funext k
    have : (((xs.size : Int) - 1) + (k : Int) * (-1)).toNat = xs.size - 1 - k := by omega
    rw [this]
  rw [e]
  have h1 := PySem.W.krv_all xs
  have h2 := PySem.W.krv_range xs.size
  calc (List.range xs.size).filterMap (fun k => xs[xs.size - 1 - k]?) = ((List.range xs.size).map (fun k => xs.size - 1 - k)).filterMap (xs[·]?) := by rw [List.filterMap_map]; rfl
    _ = (List.range xs.size).reverse.filterMap (xs[·]?) := by rw [h2]
    _ = ((List.range xs.size).filterMap (xs[·]?)).reverse := by rw [List.filterMap_reverse]
    _ = xs.toList.reverse := by rw [h1]
theorem getItem_tuple_rev {t sl : Addr} {items : Array Value} {vs : Value} {Q : Value → Shared → Prop} (ht : IsTup s.heap t items) (hs : s.heap.IsSliceOf sl .none .none vs) (ps : IsPart vs (some (-1)))
    (h : Q (.ref s.heap.objs.size) { s with heap := s.heap.push { cls := .type "tuple", data := .seq items.toList.reverse.toArray } }) (hsz : items.size ≤ sizeLine) : wpAny (model prog w) A (getItem (.ref t) (.ref sl)) Q E s := by
  have htake : sizeOk (.seq items.toList.reverse.toArray) := by
    show items.toList.reverse.toArray.size ≤ sizeLine
    rw [List.size_toArray, List.length_reverse, Array.length_toList]; exact hsz
  obtain ⟨os, hos, hcs, hds⟩ := id hs
  have hTs : s.TypeIs (.ref sl) "slice" := ⟨os, hos, hcs⟩
  unfold getItem
  try with_reducible refine wpAny_holding ?_
  first | refine wpAny_bind (wpAny_pure ?_) | skip
  refine wpAny_bind (wpAny_sequenceKey ht.typeIs (by decide) ?_)
  refine wpAny_bind (wpAny_callSpecial?_slot (name := Str.ofString "__getitem__") ht.typeIs PyProof.Rows.slot_tuple_getitem
    (wpAny_call_entry PyProof.Rows.slot_tuple_getitem ht.typeIs entry_tuple_getitem ?_ (args_tuple_getitem _ _)))
  show wpAny _ _ (Builtin.Tuple.tupleItemsOf (.ref t) >>= _) _ _ s
  refine wpAny_bind (tupleItemsOf_ ht ?_)
  refine wpAny_bind (wpAny_typeOf hTs ?_)
  rw [if_pos (by decide)]
  refine wpAny_bind (sliceApplied_rev hs ps ?_)
  have hno : ¬ ((((items.size : Int) - 1) == 0 && (-1 : Int) == 1 && items.size == items.size) = true) := by
    intro q
    rw [Bool.and_eq_true, Bool.and_eq_true] at q
    exact absurd q.1.2 (by decide)
  show wpAny _ _ (if (((items.size : Int) - 1) == 0 && (-1 : Int) == 1 && items.size == items.size) = true then _ else _) _ _ s
  rw [if_neg hno, pick_rev]
  first
    | exact wpAny_bind (m := Builtin.Tuple.tupleExact _) (wpAny_newObj_type (wpAny_pure ⟨_, rfl, wpAny_pure h⟩) htake)
    | exact wpAny_bind (m := Builtin.Tuple.tupleExact _) (wpAny_newObj_type (wpAny_bind (wpAny_pure (wpAny_pure ⟨_, rfl, wpAny_pure h⟩))) htake)
    | exact wpAny_bind (wpAny_bind (m := Builtin.Tuple.tupleExact _) (wpAny_newObj_type (wpAny_pure (wpAny_pure ⟨_, rfl, wpAny_pure h⟩)) htake))
    | exact wpAny_bind (wpAny_bind (m := Builtin.Tuple.tupleExact _) (wpAny_newObj_type (wpAny_pure ⟨_, rfl, wpAny_pure h⟩) htake))
end
/-- t[lo:hi] of a tuple: the whole is the tuple itself -/
def rSlW (K : Frag) : V → Option Int → Option Int → Hp → VK → Prop := fun x lo hi H Q => ∃ a xs, x = .ref a ∧ SqT K H a xs ∧
  ((HT.sIx xs.length 0 lo = 0 ∧ HT.sIx xs.length xs.length hi = xs.length) → Q (.ref a) H) ∧ ∀ p, H p = none → Q (.ref p) (upd H p (.tup (cutV xs lo hi)))
theorem sl_tupW {X : Cx} : SlR X (rSlW X.K) := by
  intro pins s σ H x v vl vu lo hi sl Q I rx hs pl pu h
  obtain ⟨a, xs, rfl, hx, q1, q2⟩ := h
  by_cases hw : HT.sIx xs.length 0 lo = 0 ∧ HT.sIx xs.length xs.length hi = xs.length
  · cases rx
    obtain ⟨its, r, ht, hz⟩ := I.tuple hx
    have hlen : its.toArray.size = xs.length := by rw [List.size_toArray]; exact r.length.symm
    exact ⟨"tuple", _, PyProof.Rows.slot_tuple_getitem.lookup, ht.typeIs, getItem_tuple_whole ht hs pl pu (by rw [hlen]; exact hw) ⟨.ref a, H, I, rfl, q1 hw⟩⟩
  · exact sl_tup pins s σ H _ v vl vu lo hi sl Q I rx hs pl pu ⟨a, xs, rfl, hx, hw, q2⟩
def tRevT (K : Frag) (te : TE) : TE := fun σ H Q => te σ H fun x H1 => ∃ a xs, x = .ref a ∧ SqT K H1 a xs ∧ ∀ p, H1 p = none → Q (.ref p) (upd H1 p (.tup xs.reverse))
theorem pe_revT {X : Cx} {e : Expr} {te : TE} {k : Nat} {p1 p2 p3 pos : Pos} (he : PE X e te) : PE X (.Subscript e (.Slice none none (some (.UnaryOp .USub (.Constant (.int 1) k p1) p2)) p3) pos) (tRevT X.K te) := by
  refine ⟨fun pins s σ H Q I h => ?_⟩
  refine Subscript_ (thn (he.run pins s σ H _ I h) fun v s1 ⟨x, H1, I1, r1, q1⟩ => ?_)
  obtain ⟨a, xs, ex, hx, q⟩ := q1
  subst ex
  cases r1
  have hst : PO X (some (.UnaryOp .USub (.Constant (.int 1) k p1) p2)) (tPart (tUn (rU fun i => .int (-i)) (tC (.int 1)))) := po_some (pe_un un_neg pe_int)
  refine wpAny_Slice ?_
  rw [evalPart_none]
  refine wpAny_pure (wpAny_pure ?_)
  refine thn (hst.run pins s1 σ H1 (fun o H4 => o = some (-1) ∧ H4 = H1) I1 ⟨1, rfl, -1, rfl, rfl, rfl⟩) fun vs s4 ⟨o, H4, I4, ps, eo, e4⟩ => ?_
  subst eo e4
  have I5 : Inv X pins σ H4 { s4 with heap := s4.heap.push { cls := .type "slice", data := .fields #[.none, .none, vs] } } := I4.kept (t' := s4.toks) fun b ob q => Heap.get?_push_of_some _ q
  obtain ⟨its, r, ht, hz⟩ := I5.tuple hx
  have hlen := r.length
  show wpAny (model X.prog X.w) X.A (subscriptTail e (.Slice none none (some (.UnaryOp .USub (.Constant (.int 1) k p1) p2)) p3) (.ref a) (.ref s4.heap.objs.size)) (EP X pins σ Q) X.xe { s4 with heap := s4.heap.push { cls := .type "slice", data := .fields #[.none, .none, vs] } }
  refine tail_any (ops := [.ref a, .ref s4.heap.objs.size]) ht.typeIs PyProof.Rows.slot_tuple_getitem.lookup ?_ (by with_unfolding_all rfl)
  refine getItem_tuple_rev ht (Heap.IsSliceOf.new _ .none .none vs) ps ?_ (by rw [List.size_toArray]; omega)
  refine ⟨.ref _, _, I5.laid (t' := s4.toks) (o := .tup xs.reverse) (fun b ob q => Heap.get?_push_of_some _ q) (Nat.le_refl _) ?_, rfl, q _ (I5.hok.fresh (Nat.le_refl _))⟩
  exact ⟨by rw [List.length_reverse]; exact hz, _, r.reverse, IsTup.new _ _⟩
/-! ### () + t -/
theorem tuple_addW0 (l b : Addr) (items items2 : Array Value) (n n2 : Nat) (dd dd2 : Option Addr) (sl sl2 : Array (Option Value)) (hc0 : items.isEmpty = true) :
    Meets (Builtin.«tuple.__add__» ⟨[.ref l, .ref b], []⟩) (fun _ R s => s.heap.get? l = some { cls := .type "tuple", dict := dd, data := .seq items n, slots := sl } ∧ s.heap.get? b = some { cls := .type "tuple", dict := dd2, data := .seq items2 n2, slots := sl2 } ∧ R (.ok (.ret (Value.ref b))) { s with heap := s.heap, toks := s.toks }) :=
  .of_wp fun prog w A R s h => by obtain ⟨hp, g, d, tk, os⟩ := s; obtain ⟨hl, hb, h⟩ := h; have f1 := AutoSeq1.idx_int; have f2 := AutoSeq1.sub_tuple_tuple; have f3 := AutoSeq1.sub_list_list; have f4 := AutoSeq1.sub_tuple_list; have f5 := AutoSeq1.sub_list_tuple; wp_walk using wpAny_loadPart' hl, wpAny_loadPart' hb; exact ⟨_, rfl, h⟩
/-- t + u of tuples, whatever they hold -/
def rCatA (K : Frag) : R2 := fun x y H Q => ∃ a b xs ys, x = .ref a ∧ y = .ref b ∧ SqT K H a xs ∧ SqT K H b ys ∧ xs.length + ys.length ≤ sizeLine ∧
  (xs = [] → Q (.ref b) H) ∧ (ys = [] → Q (.ref a) H) ∧ (∀ p, H p = none → Q (.ref p) (upd H p (.tup (xs ++ ys))))
theorem op_catA {X : Cx} : OpR X (binaryOp .Add) (rCatA X.K) := by
  intro pins s σ H x y v u Q I rx ry h
  obtain ⟨a, b, xs, ys, rfl, rfl, ha, hb, hz, q0, q1, q2⟩ := h
  by_cases hx : xs = []
  · cases rx
    cases ry
    obtain ⟨its, r1, p1, _⟩ := I.tuple ha
    obtain ⟨its2, r2, p2, _⟩ := I.tuple hb
    obtain ⟨⟨cls, dd, data, sl⟩, ho, hc, n, hd⟩ := id p1
    obtain ⟨⟨cls2, dd2, data2, sl2⟩, ho2, hc2, n2, hd2⟩ := id p2
    simp only at hc hd hc2 hd2
    subst hc hd hc2 hd2
    have e : its = [] := r1.nil_iff.mpr hx
    exact concat_meets ⟨_, ho, rfl⟩ ⟨_, ho2, rfl⟩ noFill_tuple_add seq_tuple_add PySem.F.slot_tuple_add PySem.F.entry_tuple_add (PySem.F.args_tuple_add_2 _ _)
      (tuple_addW0 a b its.toArray its2.toArray n n2 dd dd2 sl sl2 (by simp [e])) ⟨ho, ho2, ⟨.ref b, H, I, rfl, q0 hx⟩⟩
  · exact op_catT pins s σ H _ _ v u Q I rx ry ⟨a, b, xs, ys, rfl, rfl, ha, hb, hx, hz, q1, fun _ => q2⟩
/-! ### t * k for small k -/
theorem tuple_mulW1 (l : Addr) (items : Array Value) (n : Nat) (dd : Option Addr) (sl : Array (Option Value)) (x : Int) (u : Tok) (c0 : (decide (x < -(2 ^ 63)) || decide (x ≥ 2 ^ 63)) = false) (c1 : (items.isEmpty || x == 1) = true) :
    Meets (Builtin.«tuple.__mul__» ⟨[.ref l, .int x u], []⟩) (fun _ R s => s.heap.get? l = some { cls := .type "tuple", dict := dd, data := .seq items n, slots := sl } ∧
      R (.ok (.ret (Value.ref l))) { s with heap := s.heap, toks := s.toks }) :=
  .of_wp fun prog w A R s h => by
    obtain ⟨hp, g, d, tk, os⟩ := s
    obtain ⟨hl, h⟩ := h
    have f1 := AutoSeq1.idx_int
    wp_walk using wpAny_loadPart' hl
    repeat (first
      | (refine wpAny_ite_false (decide_eq_false (by rw [c0]; exact Bool.false_ne_true)) ?_; wp_walk using wpAny_loadPart' hl)
      | (refine wpAny_ite_true (decide_eq_true c1) ?_; wp_walk using wpAny_loadPart' hl))
    exact ⟨_, rfl, h⟩
theorem tuple_mulW0 (l : Addr) (items : Array Value) (n : Nat) (dd : Option Addr) (sl : Array (Option Value)) (x : Int) (u : Tok) (c0 : (decide (x < -(2 ^ 63)) || decide (x ≥ 2 ^ 63)) = false) (c1 : (items.isEmpty || x == 1) = false) (c2 : (decide (x ≤ 0) || items.isEmpty) = true) :
    Meets (Builtin.«tuple.__mul__» ⟨[.ref l, .int x u], []⟩) (fun _ R s => s.heap.get? l = some { cls := .type "tuple", dict := dd, data := .seq items n, slots := sl } ∧
      R (.ok (.ret (Value.ref s.heap.objs.size))) { s with heap := s.heap.push { cls := Value.type "tuple", data := Data.seq #[] }, toks := s.toks }) :=
  .of_wp fun prog w A R s h => by
    obtain ⟨hp, g, d, tk, os⟩ := s
    obtain ⟨hl, h⟩ := h
    have f1 := AutoSeq1.idx_int
    wp_walk using wpAny_loadPart' hl
    repeat (first
      | (refine wpAny_ite_false (decide_eq_false (by rw [c0]; exact Bool.false_ne_true)) ?_; wp_walk using wpAny_loadPart' hl)
      | (refine wpAny_ite_false (decide_eq_false (by rw [c1]; exact Bool.false_ne_true)) ?_; wp_walk using wpAny_loadPart' hl)
      | (refine wpAny_ite_true (decide_eq_true c2) ?_; wp_walk using wpAny_loadPart' hl))
    exact ⟨_, rfl, h⟩
/-- t * k of a tuple that is not empty, k from 0 to 1000 -/
def rRepA (K : Frag) : R2 := fun x y H Q => ∃ l k xs, x = .ref l ∧ y = .int k ∧ SqT K H l xs ∧ xs ≠ [] ∧ 0 ≤ k ∧ k ≤ 1000 ∧ xs.length ≤ 1000 ∧ (k = 1 → Q (.ref l) H) ∧ ∀ p, H p = none → Q (.ref p) (upd H p (.tup (List.replicate k.toNat xs).flatten))
theorem op_repA {X : Cx} : OpR X (binaryOp .Mult) (rRepA X.K) := by
  intro pins s σ H x y v u Q I rx ry h
  obtain ⟨l, k, xs, rfl, rfl, hT, hne, h1, h2, hz, q1, q⟩ := h
  by_cases hk : 2 ≤ k
  · exact op_repT pins s σ H _ _ v u Q I rx ry ⟨l, k, xs, rfl, rfl, hT, hne, hk, h2, hz, q⟩
  cases rx
  obtain ⟨t, rfl⟩ := ry
  obtain ⟨its, r, ⟨⟨cls, dd, data, sl⟩, ho, hc, n, hd⟩, hs⟩ := I.tuple hT
  simp only at hc hd
  subst hc hd
  have hle : its.length = xs.length := r.length.symm
  have hn : its ≠ [] := fun e => hne (by
    rw [e] at hle
    exact List.eq_nil_of_length_eq_zero hle.symm)
  have hi : its.toArray.isEmpty = false := by
    cases its with
    | nil => exact absurd rfl hn
    | cons a b => rfl
  have c0 : (decide (k < -(2 ^ 63)) || decide (k ≥ 2 ^ 63)) = false := by
    rw [decide_eq_false (by omega), decide_eq_false (by omega)] <;> rfl
  by_cases hk1 : k = 1
  · refine wpAny_binaryOp_repeat_ref (T := "tuple") (U := "int") (by decide) ⟨_, ho, rfl⟩ (fun s' => typeIs_int s' k t) noFill_tuple_mul F.fills_int_mul F.slot_int_rmul repeat_tuple F.slot_int_index.lookup
      (call_meets F.slot_int_rmul (typeIs_int s k t) F.entry_int_rmul (F.args_int_rmul_2 _ _) (int_rmul_tuple k t l its.toArray n dd sl)
        ⟨ho, rfl, ⟨_, ho, rfl⟩, call_meets F.slot_tuple_mul ⟨_, ho, rfl⟩ F.entry_tuple_mul (F.args_tuple_mul_2 _ _) (tuple_mulW1 l its.toArray n dd sl k t c0 (by rw [hi, hk1]; rfl)) ⟨ho, ?_⟩⟩)
    exact ⟨.ref l, H, I.tok _, rfl, q1 hk1⟩
  · have hk0 : k = 0 := by omega
    refine wpAny_binaryOp_repeat_ref (T := "tuple") (U := "int") (by decide) ⟨_, ho, rfl⟩ (fun s' => typeIs_int s' k t) noFill_tuple_mul F.fills_int_mul F.slot_int_rmul repeat_tuple F.slot_int_index.lookup
      (call_meets F.slot_int_rmul (typeIs_int s k t) F.entry_int_rmul (F.args_int_rmul_2 _ _) (int_rmul_tuple k t l its.toArray n dd sl)
        ⟨ho, rfl, ⟨_, ho, rfl⟩, call_meets F.slot_tuple_mul ⟨_, ho, rfl⟩ F.entry_tuple_mul (F.args_tuple_mul_2 _ _) (tuple_mulW0 l its.toArray n dd sl k t c0 (by rw [hi, hk0]; rfl) (by rw [hi, hk0]; rfl)) ⟨ho, ?_⟩⟩)
    have q' := q s.heap.objs.size (I.hok.fresh (Nat.le_refl _))
    rw [hk0] at q'
    refine ⟨.ref s.heap.objs.size, _, I.laid (t' := s.toks) (o := .tup []) (fun b ob q => Heap.get?_push_of_some _ q) (Nat.le_refl _) ?_, rfl, q'⟩
    exact ⟨Nat.zero_le _, [], .nil, IsTup.new _ _⟩
end EL
set_option maxRecDepth 100000
set_option maxHeartbeats 1000000
/-! E-layer 4: more sources, comprehensions, calls, defs. -/
namespace EL
open PySem PySem.Spec L2
section
variable {K : Frag} {dr : Option Addr} {δ : List S} {s s1 s2 : DS} {O O' : Out → Prop} {t u ta tb : TE}
/-! ### enumerate, zip -/
theorem si_enumL {ds : List D} (h : Se K dr t δ s (.sh (.lst ds)) s1) : SeI K dr (iEnum K (tCons t tNil)) δ s ds.length (fun i => .tup [.int (i : Nat), ds.getD i .non]) s1 CTrue := fun H0 Hs H σ E R q =>
  h H0 Hs H σ E _ fun v Hs1 H1 E1 st1 r1 => by
    obtain ⟨a, vs, e, h1, h2⟩ := r1
    refine ⟨a, vs, by rw [e], E1.toH.seq h1, q _ _ _ E1 st1 fun I _ i δ s Hs H σ _ hi E2 sm => ?_⟩
    have sq : SqL K H a vs := E2.toH.seq (sm.seq h1)
    refine ⟨fun hn => ⟨vs, sq, by rw [h2.length]; exact hn⟩, fun hn => ?_⟩
    obtain ⟨w, hw, tw⟩ := h2.get (i := i) (d := ds[i]) (List.getElem?_eq_getElem hn)
    refine ⟨⟨vs, w, sq, hw⟩, fun x H' y => .inr ?_⟩
    obtain ⟨p, y1, ex, hp, eH, y2⟩ := y
    have := y2 vs sq
    rw [hw] at this; cases this
    obtain ⟨_, st⟩ := E2.newS hp (.tup [.int (i : Nat), w])
    refine ⟨p, _, hp, eH, p, _, ex, upd_same, _, _, rfl, rfl, w, _, rfl, ?_, rfl⟩
    rw [List.getD_eq_getElem?_getD, List.getElem?_eq_getElem hn]
    exact T.same st.same (T.same sm tw)
theorem si_enumT {ds : List D} (h : SeR K dr t δ s (.tup ds) s1) : SeI K dr (iEnumT K (tCons t tNil)) δ s ds.length (fun i => .tup [.int (i : Nat), ds.getD i .non]) s1 CTrue := fun H0 Hs H σ E R q =>
  h H0 Hs H σ E _ fun v Hs1 H1 E1 st1 r1 => by
    obtain ⟨a, vs, e, h1, h2⟩ := r1.tup
    refine ⟨a, vs, by rw [e], Same.seqT E1.toH h1, q _ _ _ E1 st1 fun I _ i δ s Hs H σ _ hi E2 sm => ?_⟩
    have sq : SqT K H a vs := Same.seqT E2.toH (Same.seqT sm h1)
    refine ⟨fun hn => ⟨vs, sq, by rw [h2.length]; omega⟩, fun hn => ?_⟩
    obtain ⟨w, hw, tw⟩ := h2.get (i := i) (d := ds[i]) (List.getElem?_eq_getElem hn)
    refine ⟨⟨vs, w, sq, hw⟩, fun x H' y => .inr ?_⟩
    obtain ⟨p, y1, ex, hp, eH, y2⟩ := y
    have := y2 vs sq
    rw [hw] at this; cases this
    obtain ⟨_, st⟩ := E2.newS hp (.tup [.int (i : Nat), w])
    refine ⟨p, _, hp, eH, p, _, ex, upd_same, _, _, rfl, rfl, w, _, rfl, ?_, rfl⟩
    rw [List.getD_eq_getElem?_getD, List.getElem?_eq_getElem hn]
    exact T.same st.same (T.same sm tw)
/-- over an own list of a slot -/
theorem si_enumO {j : Nat} {a : Addr} {ds : List D} (h : δ[j]? = some (.own a (.lst ds))) : SeI K dr (iEnum K (tCons (tVar j) tNil)) δ s ds.length (fun i => .tup [.int (i : Nat), ds.getD i .non]) s fun _ δ _ => δ[j]? = some (.own a (.lst ds)) := fun H0 Hs H σ E R q => by
  obtain ⟨e, h0, hs, o, ho, vs, eo, t⟩ := E.slot j _ h
  subst eo
  refine ⟨.ref a, e, a, vs, rfl, .of ho, q _ _ _ E .refl fun I hC i δ s Hs H σ hI hi E2 sm => ?_⟩
  obtain ⟨e, h0, hs, o, ho, vs, eo, t⟩ := E2.slot j _ (hC _ _ _ hI)
  subst eo
  refine ⟨fun hn => ⟨vs, .of ho, by rw [t.length]; exact hn⟩, fun hn => ?_⟩
  obtain ⟨w, hw, tw⟩ := t.get (i := i) (d := ds[i]) (List.getElem?_eq_getElem hn)
  refine ⟨⟨vs, w, .of ho, hw⟩, fun x H' y => .inr ?_⟩
  obtain ⟨p, y1, ex, hp, eH, y2⟩ := y
  have := y2 vs (.of ho)
  rw [hw] at this; cases this
  obtain ⟨_, st⟩ := E2.newS hp (.tup [.int (i : Nat), w])
  refine ⟨p, _, hp, eH, p, _, ex, upd_same, _, _, rfl, rfl, w, _, rfl, ?_, rfl⟩
  rw [List.getD_eq_getElem?_getD, List.getElem?_eq_getElem hn]
  exact T.same st.same tw
/-- zip of two own lists that stand in slots -/
theorem si_zipO {j k : Nat} {a b : Addr} {ds es : List D} (hl : ds.length = es.length) (h : δ[j]? = some (.own a (.lst ds))) (h2 : δ[k]? = some (.own b (.lst es))) :
    SeI K dr (iZip K (tCons (tVar j) (tCons (tVar k) tNil))) δ s ds.length (fun i => .tup [ds.getD i .non, es.getD i .non]) s fun _ δ _ => δ[j]? = some (.own a (.lst ds)) ∧ δ[k]? = some (.own b (.lst es)) := fun H0 Hs H σ E R q => by
  obtain ⟨e, h0, hs, o, ho, vs, eo, t⟩ := E.slot j _ h
  obtain ⟨e', h0', hs', o', ho', ws, eo', t'⟩ := E.slot k _ h2
  subst eo eo'
  refine ⟨.ref a, e, .ref b, e', a, b, vs, ws, rfl, .of ho, .of ho', q _ _ _ E .refl fun I hC i δ s Hs H σ hI hi E2 sm => ?_⟩
  obtain ⟨c1, c2⟩ := hC _ _ _ hI
  obtain ⟨e, h0, hs, o, ho, vs, eo, t⟩ := E2.slot j _ c1
  obtain ⟨e', h0', hs', o', ho', ws, eo', t'⟩ := E2.slot k _ c2
  subst eo eo'
  refine ⟨fun hn => ⟨vs, ws, .of ho, .of ho', .inl (by rw [t.length]; exact hn)⟩, fun hn => ?_⟩
  have hn' : i < es.length := by omega
  obtain ⟨w, hw, tw⟩ := t.get (i := i) (d := ds[i]) (List.getElem?_eq_getElem hn)
  obtain ⟨w', hw', tw'⟩ := t'.get (i := i) (d := es[i]) (List.getElem?_eq_getElem hn')
  refine ⟨⟨vs, ws, w, w', .of ho, .of ho', hw, hw'⟩, fun x H' y => .inr ?_⟩
  obtain ⟨p, y1, y2, ex, hp, eH, z1, z2⟩ := y
  have e1 := z1 vs (.of ho)
  have e2 := z2 ws (.of ho')
  rw [hw] at e1; rw [hw'] at e2; cases e1; cases e2
  obtain ⟨_, st⟩ := E2.newS hp (.tup [w, w'])
  refine ⟨p, _, hp, eH, p, _, ex, upd_same, w, _, rfl, ?_, w', _, rfl, ?_, rfl⟩
  · rw [List.getD_eq_getElem?_getD, List.getElem?_eq_getElem hn]; exact T.same st.same tw
  · rw [List.getD_eq_getElem?_getD, List.getElem?_eq_getElem hn']; exact T.same st.same tw'
/-! ### slices, sums of tuples -/
theorem se_cut {ds : List D} {k : Int} (h : SeR K dr t δ s (.tup ds) s1) (hu : Se K dr u δ s1 (.sh (.int k)) s2) (h0 : 0 ≤ k) : Se K dr (tSl (rSlW K) t tNoPart (tPart u)) δ s (.sh (.tup (ds.take k.toNat))) s2 := fun H0 Hs H σ E Q q =>
  h H0 Hs H σ E _ fun v Hs1 H1 E1 st1 r1 => hu H0 Hs1 H1 σ E1 _ fun w Hs2 H2 E2 st2 r2 => by
    obtain ⟨a, vs, e, h1, h2⟩ := r1.tupS
    have cut : cutV vs none (some k) = vs.take k.toNat := by
      unfold cutV
      rw [HT.sIx_none]
      have : HT.sIx vs.length vs.length (some k) = min k.toNat vs.length := by
        show (if k < 0 then _ else _) = _
        rw [if_neg (by omega)]
      rw [this, List.drop_zero, Nat.sub_zero, ← List.take_eq_take_min]
    refine ⟨k, r2, a, vs, e, .inl (.inl (E2.toH _ _ (st2.same _ _ h1))), fun hw => ?_, fun p hp => ?_⟩
    · refine q _ _ _ E2 (st1.trans st2) ⟨a, vs, rfl, st2.same _ _ h1, ?_⟩
      have h3 : (if k < 0 then (k + (vs.length : Int)).toNat else min k.toNat vs.length) = vs.length := hw.2
      rw [if_neg (by omega)] at h3
      rw [List.take_of_length_le (by rw [← h2.length]; omega)]
      exact h2.same st2.same
    · rw [cut]
      obtain ⟨E3, st3⟩ := E2.newS hp (.tup (vs.take k.toNat))
      exact q _ _ _ E3 ((st1.trans st2).trans st3) ⟨p, _, rfl, upd_same, ((h2.take k.toNat).same st2.same).same st3.same⟩
/-- row[:k] of a list, kept as a new list -/
theorem se_cutL {ds : List D} {k : Int} (h : SeR K dr t δ s (.lst ds) s1) (hu : Se K dr u δ s1 (.sh (.int k)) s2) (h0 : 0 ≤ k) : Se K dr (tSl (rSlL K) t tNoPart (tPart u)) δ s (.own (.lst (ds.take k.toNat))) s2 := fun H0 Hs H σ E Q q =>
  h H0 Hs H σ E _ fun v Hs1 H1 E1 st1 r1 => hu H0 Hs1 H1 σ E1 _ fun w Hs2 H2 E2 st2 r2 => by
    obtain ⟨a, vs, e, h1, h2⟩ := (r1.stp st2).lst E2
    have cut : cutV vs none (some k) = vs.take k.toNat := by
      unfold cutV
      rw [HT.sIx_none]
      have : HT.sIx vs.length vs.length (some k) = min k.toNat vs.length := by
        show (if k < 0 then _ else _) = _
        rw [if_neg (by omega)]
      rw [this, List.drop_zero, Nat.sub_zero, ← List.take_eq_take_min]
    refine ⟨k, r2, a, vs, e, h1, fun p hp => ?_⟩
    rw [cut]
    obtain ⟨E3, st3, hs⟩ := E2.newO hp (.lst (vs.take k.toNat))
    exact q _ _ _ E3 ((st1.trans st2).trans st3) ⟨p, _, rfl, (st1.trans st2).ext.free hp, hs, upd_same, _, rfl, h2.take k.toNat⟩
theorem se_revT {ds : List D} (h : SeR K dr t δ s (.tup ds) s1) : Se K dr (tRevT K t) δ s (.sh (.tup ds.reverse)) s1 := fun H0 Hs H σ E Q q =>
  h H0 Hs H σ E _ fun v Hs1 H1 E1 st1 r1 => by
    obtain ⟨a, vs, e, h1, h2⟩ := r1.tupS
    refine ⟨a, vs, e, .inl (.inl (E1.toH _ _ h1)), fun p hp => ?_⟩
    obtain ⟨E3, st3⟩ := E1.newS hp (.tup vs.reverse)
    exact q _ _ _ E3 (st1.trans st3) ⟨p, _, rfl, upd_same, (h2.same st3.same).reverse⟩
theorem se_catT {ds es : List D} (ha : SeR K dr ta δ s (.tup ds) s1) (hb : SeR K dr tb δ s1 (.tup es) s2) (hl : ds.length + es.length ≤ sizeLine) : Se K dr (tOp (rCatA K) ta tb) δ s (.sh (.tup (ds ++ es))) s2 := fun H0 Hs H σ E Q q =>
  ha H0 Hs H σ E _ fun v Hs1 H1 E1 st1 r1 => hb H0 Hs1 H1 σ E1 _ fun w Hs2 H2 E2 st2 r2 => by
    obtain ⟨a, vs, e, h1, h2⟩ := r1.tupS
    obtain ⟨b, ws, e', h1', h2'⟩ := r2.tupS
    refine ⟨a, b, vs, ws, e, e', .inl (.inl (E2.toH _ _ (st2.same _ _ h1))), .inl (.inl (E2.toH _ _ h1')), by rw [h2.length, h2'.length]; exact hl, fun z => ?_, fun z => ?_, fun p hp => ?_⟩
    · have z' : ds = [] := List.eq_nil_of_length_eq_zero (by rw [← h2.length, z]; rfl)
      subst z'
      exact q _ _ _ E2 (st1.trans st2) ⟨b, ws, rfl, h1', h2'⟩
    · have z' : es = [] := List.eq_nil_of_length_eq_zero (by rw [← h2'.length, z]; rfl)
      subst z'
      rw [List.append_nil] at q
      exact q _ _ _ E2 (st1.trans st2) ⟨a, vs, rfl, st2.same _ _ h1, h2.same st2.same⟩
    · obtain ⟨E3, st3⟩ := E2.newS hp (.tup (vs ++ ws))
      exact q _ _ _ E3 ((st1.trans st2).trans st3) ⟨p, _, rfl, upd_same, ((h2.same st2.same).same st3.same).append (h2'.same st3.same)⟩
theorem se_repT {ds : List D} {k : Int} (ha : SeR K dr ta δ s (.tup ds) s1) (hb : Se K dr tb δ s1 (.sh (.int k)) s2) (hn : ds ≠ []) (h0 : 0 ≤ k) (h1 : k ≤ 1000) (hl : ds.length ≤ 1000) : Se K dr (tOp (rRepA K) ta tb) δ s (.sh (.tup (List.replicate k.toNat ds).flatten)) s2 := fun H0 Hs H σ E Q q =>
  ha H0 Hs H σ E _ fun v Hs1 H1 E1 st1 r1 => hb H0 Hs1 H1 σ E1 _ fun w Hs2 H2 E2 st2 r2 => by
    obtain ⟨a, vs, e, h1', h2⟩ := r1.tupS
    refine ⟨a, k, vs, e, r2, .inl (.inl (E2.toH _ _ (st2.same _ _ h1'))), fun z => hn (List.eq_nil_of_length_eq_zero (by rw [← h2.length, z]; rfl)), h0, h1, by rw [h2.length]; exact hl, fun z => ?_, fun p hp => ?_⟩
    · subst z
      have e1 : (List.replicate (1 : Int).toNat ds).flatten = ds := by
        show (List.replicate 1 ds).flatten = ds
        simp
      rw [e1] at q
      exact q _ _ _ E2 (st1.trans st2) ⟨a, vs, rfl, st2.same _ _ h1', h2.same st2.same⟩
    · obtain ⟨E3, st3⟩ := E2.newS hp (.tup (List.replicate k.toNat vs).flatten)
      exact q _ _ _ E3 ((st1.trans st2).trans st3) ⟨p, _, rfl, upd_same, ((h2.same st2.same).same st3.same).rep _⟩
/-! ### == of data -/
mutual
def toPy : D → PyData
  | .non => .none
  | .bl b => .bool b
  | .int i => .int i
  | .str x => .str x
  | .tup ds => .tuple (toPys ds)
  | .lst ds => .list (toPys ds)
  | .dct _ _ => .none
  | .fdc _ _ => .none
def toPys : List D → List PyData
  | [] => []
  | d :: ds => toPy d :: toPys ds
end
mutual
def noDct : D → Bool
  | .tup ds => noDcts ds
  | .lst ds => noDcts ds
  | .dct _ _ => false
  | .fdc _ _ => false
  | .non => true
  | .bl _ => true
  | .int _ => true
  | .str _ => true
def noDcts : List D → Bool
  | [] => true
  | d :: ds => noDct d && noDcts ds
end
mutual
theorem T.dp {H : Hp} : ∀ {d : D} {v : V}, noDct d = true → T K H d v → Dp K H v (toPy d)
  | .non, _, _, h => by cases (show _ = _ from h); exact .non
  | .bl _, _, _, h => by cases (show _ = _ from h); exact .bl _
  | .int _, _, _, h => by cases (show _ = _ from h); exact .int _
  | .str _, _, _, h => by cases (show _ = _ from h); exact .str _
  | .tup _, _, f, h => by obtain ⟨a, vs, e1, h1, h2⟩ := h; subst e1; exact .tup (.inl (.inl h1)) (Ts.dp (by simpa [noDct] using f) h2)
  | .lst _, _, f, h => by obtain ⟨a, vs, e1, h1, h2⟩ := h; subst e1; exact .lst h1 (Ts.dp (by simpa [noDct] using f) h2)
  | .dct _ _, _, f, h => by simp [noDct] at f
  | .fdc _ _, _, f, h => by simp [noDct] at f
theorem Ts.dp {H : Hp} : ∀ {ds : List D} {vs : List V}, noDcts ds = true → Ts K H ds vs → DpAll K H vs (toPys ds)
  | [], _, _, h => by cases (show _ = _ from h); exact .nil
  | _ :: _, _, f, h => by
    obtain ⟨v, r, e1, h1, h2⟩ := h
    subst e1
    have f' := Bool.and_eq_true_iff.mp (by simpa [noDcts] using f)
    exact .cons (T.dp f'.1 h1) (Ts.dp f'.2 h2)
end
theorem se_eqP {d1 d2 : D} (ha : SeR K dr ta δ s d1 s1) (hb : SeR K dr tb δ s1 d2 s2) (n1 : noDct d1 = true) (n2 : noDct d2 = true) (h1 : SeqAt.shaped (toPy d1) = true) (h2 : SeqAt.shaped (toPy d2) = true) : Se K dr (tOp (rEqD K) ta tb) δ s (.sh (.bl (PyData.eqv (toPy d1) (toPy d2)))) s2 := fun H0 Hs H σ E Q q =>
  ha H0 Hs H σ E _ fun v Hs1 H1 E1 st1 r1 => hb H0 Hs1 H1 σ E1 _ fun w Hs2 H2 E2 st2 r2 =>
    ⟨_, _, T.dp n1 (T.of_hm ((r1.stp st2).full E2)), T.dp n2 (T.of_hm (r2.full E2)), h1, h2, q _ _ _ E2 (st1.trans st2) rfl⟩
theorem se_neP {d1 d2 : D} (ha : SeR K dr ta δ s d1 s1) (hb : SeR K dr tb δ s1 d2 s2) (n1 : noDct d1 = true) (n2 : noDct d2 = true) (h1 : SeqAt.shaped (toPy d1) = true) (h2 : SeqAt.shaped (toPy d2) = true) : Se K dr (tOp (rNeD K) ta tb) δ s (.sh (.bl (!PyData.eqv (toPy d1) (toPy d2)))) s2 := fun H0 Hs H σ E Q q =>
  ha H0 Hs H σ E _ fun v Hs1 H1 E1 st1 r1 => hb H0 Hs1 H1 σ E1 _ fun w Hs2 H2 E2 st2 r2 =>
    ⟨_, _, T.dp n1 (T.of_hm ((r1.stp st2).full E2)), T.dp n2 (T.of_hm (r2.full E2)), h1, h2, q _ _ _ E2 (st1.trans st2) rfl⟩
/-! ### list comprehensions -/
def wipeS (δ : List S) : List Nat → List S
  | [] => δ
  | v :: vs => (wipeS δ vs).set v .no
theorem Env.wiped {H0 Hs H : Hp} {σ : L2.St} (E : Env K dr H0 Hs H σ δ s) : ∀ vs : List Nat, Env K dr H0 Hs H (L2.wipe σ vs) (wipeS δ vs) s
  | [] => E
  | v :: vs => by
    have E' := Env.wiped E vs
    refine ⟨E'.ext, E'.sub, fun i r e => ?_, fun i j a d d' e1 e2 => ?_, E'.drw, E'.dr0, by rw [show L2.wipe σ (v :: vs) = (L2.wipe σ vs).set v none from rfl, show wipeS δ (v :: vs) = (wipeS δ vs).set v .no from rfl, List.length_set, List.length_set]; exact E'.len⟩
    · have e0 : ((wipeS δ vs).set v .no)[i]? = some r := e
      by_cases z : v = i
      · subst z
        have hi : v < (wipeS δ vs).length := by
          have := (List.getElem?_eq_some_iff.mp e0).1
          simpa using this
        rw [List.getElem?_set_self hi] at e0
        cases e0; trivial
      · rw [List.getElem?_set_ne z] at e0
        show SlotR K H0 Hs H ((L2.wipe σ vs).set v none)[i]? r
        rw [List.getElem?_set_ne z]
        exact E'.slot i r e0
    · have g : ∀ {i : Nat} {a : Addr} {d : D}, ((wipeS δ vs).set v .no)[i]? = some (.own a d) → (wipeS δ vs)[i]? = some (.own a d) := fun {i a d} e0 => by
        by_cases z : v = i
        · subst z
          have hi : v < (wipeS δ vs).length := by
            have := (List.getElem?_eq_some_iff.mp e0).1
            simpa using this
          rw [List.getElem?_set_self hi] at e0
          cases e0
        · rw [List.getElem?_set_ne z] at e0; exact e0
      exact E'.sep i j a d d' (g e1) (g e2)
/-- what a comprehension has collected before turn i -/
def lcAcc (b : Nat → Bool) (e : Nat → D) : Nat → List D
  | 0 => []
  | i + 1 => if b i = true then lcAcc b e i ++ [e i] else lcAcc b e i
theorem lcAcc_length (b : Nat → Bool) (e : Nat → D) : ∀ i, (lcAcc b e i).length ≤ i
  | 0 => Nat.le_refl _
  | i + 1 => by
    have := lcAcc_length b e i
    unfold lcAcc
    split
    · rw [List.length_append]; exact Nat.succ_le_succ this
    · omega
theorem wipe_get {σ : L2.St} {i : Nat} : ∀ vs : List Nat, (L2.wipe σ vs)[i]? = if i ∈ vs then σ[i]?.map (fun _ => none) else σ[i]?
  | [] => by rw [if_neg (by simp)]; rfl
  | v :: vs => by
    show ((L2.wipe σ vs).set v none)[i]? = _
    by_cases z : v = i
    · subst z
      rw [if_pos (by simp)]
      by_cases hv : v < σ.length
      · rw [List.getElem?_set_self (by rw [L2.wipe_length]; exact hv), List.getElem?_eq_getElem hv]; rfl
      · rw [List.getElem?_eq_none (by rw [List.length_set, L2.wipe_length]; omega), List.getElem?_eq_none (by omega)]; rfl
    · rw [List.getElem?_set_ne z, wipe_get vs]
      by_cases h : i ∈ vs
      · rw [if_pos h, if_pos (by simp [h])]
      · rw [if_neg h, if_neg (by simp only [List.mem_cons, not_or]; exact ⟨fun e => z e.symm, h⟩)]
theorem wipe_idem (σ : L2.St) (vs : List Nat) : L2.wipe (L2.wipe σ vs) vs = L2.wipe σ vs := by
  apply List.ext_getElem?
  intro i
  rw [wipe_get, wipe_get]
  by_cases h : i ∈ vs
  · rw [if_pos h, if_pos h]; cases σ[i]? <;> rfl
  · rw [if_neg h, if_neg h]
theorem wipe_set (σ : L2.St) (vs : List Nat) {i : Nat} (v : Option V) (h : i ∈ vs) : L2.wipe (σ.set i v) vs = L2.wipe σ vs := by
  apply List.ext_getElem?
  intro j
  rw [wipe_get, wipe_get]
  by_cases z : i = j
  · subst z
    rw [if_pos h, if_pos h]
    by_cases hv : i < σ.length
    · rw [List.getElem?_set_self hv, List.getElem?_eq_getElem hv]; rfl
    · rw [List.getElem?_eq_none (by rw [List.length_set]; omega), List.getElem?_eq_none (by omega)]
  · rw [List.getElem?_set_ne z]
/-- a target that stores in the comprehension's own slots alone -/
def GOwn (g : TG) (vs : List Nat) : Prop := ∀ v σ H (Q : L2.St → Hp → Prop), g v σ H Q → g v σ H fun σ2 H2 => L2.wipe σ2 vs = L2.wipe σ vs ∧ Q σ2 H2
theorem gown_name {i : Nat} {vs : List Nat} (h : i ∈ vs) : GOwn (gName i) vs := fun v σ H Q q => ⟨wipe_set _ _ _ h, q⟩
theorem gown_tup2 {i j : Nat} {vs : List Nat} (hi : i ∈ vs) (hj : j ∈ vs) : GOwn (gTup K 2 (gCons (gName i) (gCons (gName j) gNil))) vs := fun v σ H Q h => by
  obtain ⟨a, xs, e, h1, hl, v1, r, e1, v2, r2, e2, e3, h⟩ := h
  exact ⟨a, xs, e, h1, hl, v1, r, e1, v2, r2, e2, e3, by rw [wipe_set _ _ _ hj, wipe_set _ _ _ hi], h⟩
theorem keepD {Hs H Hs' H' : Hp} {a : Addr} {acc : List V} (st : Stp dr Hs H Hs' H') (sub : Same Hs' (hm dr H')) (n : dr ≠ some a) (h1 : Hs a = none) (h2 : H a = some (.lst acc)) : Hs' a = none ∧ H' a = some (.lst acc) := by
  have h3 := (st.ext a _ h2).1 n
  refine ⟨?_, h3⟩
  cases z : Hs' a with
  | none => rfl
  | some u =>
    exfalso
    have e1 := (hm_some (sub a u z)).2
    rw [h3] at e1; cases e1
    rcases st.grow a _ z with g | g | g
    · rw [h1] at g; cases g
    · rw [h2] at g; cases g
    · simp [isT] at g
theorem Env.updD {H0 Hs H : Hp} {σ : L2.St} {a : Addr} {h : HO} (E : Env K dr H0 Hs H σ δ s) (h0 : H0 a = none) (hs : Hs a = none) (nd : dr ≠ some a) (no : ∀ (i : Nat) (d : D), δ[i]? ≠ some (.own a d)) : Env K dr H0 Hs (upd H a h) σ δ s where
  ext := fun b o e => by rw [upd_ne (ne_of_none e h0)]; exact E.ext b o e
  sub := fun b o e => by
    have := hm_some (E.sub b o e)
    rw [hm_ne this.1, upd_ne (ne_of_none e hs)]; exact this.2
  slot := fun i r e => by
    have q := E.slot i r e
    cases r with
    | own b d =>
      obtain ⟨q1, q2, q3, o, q4, q5⟩ := q
      have nb : b ≠ a := fun z => by subst z; exact no i d e
      exact ⟨q1, q2, q3, o, by rw [upd_ne nb]; exact q4, q5⟩
    | _ => exact q
  sep := E.sep
  drw := fun b z => (E.drw b z).same (L2.Same.refl _) (by rw [upd_ne]; intro y; subst y; exact nd z)
  dr0 := E.dr0
  len := E.len
theorem Stp.updD {Hs H Hs' H' : Hp} {a : Addr} {h : HO} (st : Stp dr Hs H Hs' H') (hn : H a = none) : Stp dr Hs H Hs' (upd H' a h) :=
  ⟨fun b o e => by rw [upd_ne (ne_of_none e hn)]; exact st.ext b o e, st.same, st.grow⟩
theorem se_lc {wi : TI} {g : TG} {tt : TT} {te : TE} {vs : List Nat} {n : Nat} {it : Nat → D} {C : Nat → List S → DS → Prop} (b : Nat → Bool) (e : Nat → D) (sq sm : Nat → DS) (δc : Nat → List S)
    (hi : SeI K dr wi δ s n it (sq 0) C) (hC : ∀ i, C i δ (sq i)) (hg : ∀ i, i < n → SG K dr g (it i) (wipeS δ vs) (δc i)) (hw : GOwn g vs) (ht : ∀ i, i < n → SeT K dr tt (δc i) (sq i) (b i) (sm i))
    (he : ∀ i, i < n → b i = true → Se K dr te (δc i) (sm i) (.sh (e i)) (sq (i + 1))) (hs : ∀ i, i < n → b i = false → sm i = sq (i + 1)) (hl : n < sizeLine) :
    Se K dr (tLc wi g tt te vs) δ s (.own (.lst (lcAcc b e n))) (sq n) := fun H0 Hs H σ E Q q =>
  hi H0 Hs H σ E _ fun J Hs1 H1 E1 st1 hJ Dd hD => by
    have nd := E1.ne_dr hD
    have hDH : H Dd = none := st1.ext.free hD
    have hD0 : H0 Dd = none := E1.ext.free hD
    have no : ∀ (i : Nat) (d : D), δ[i]? ≠ some (.own Dd d) := fun i d z => by
      obtain ⟨_, _, _, o, ho, _⟩ := E1.slot i _ z
      rw [hD] at ho; cases ho
    have jok := hJ (fun i δ' s' => s' = sq i ∧ δ' = δ) fun i δ' s' h => by obtain ⟨rfl, rfl⟩ := h; exact hC i
    refine ⟨fun i m Hc => m = n - i ∧ i ≤ n ∧ ∃ Hsc acc, Env K dr H0 Hsc Hc σ δ (sq i) ∧ Same Hs1 Hsc ∧ Stp dr Hs H Hsc Hc ∧ Hsc Dd = none ∧ Hc Dd = some (.lst acc) ∧ Ts K Hsc (lcAcc b e i) acc, ⟨n, by simp, Nat.zero_le _, Hs1, [], ?_⟩, ?_⟩
    · obtain ⟨E2, st2, hs2⟩ := E1.newO hD (.lst [])
      exact ⟨E2, L2.Same.refl _, st1.trans st2, hs2, upd_same, rfl⟩
    rintro i m Hc ⟨rfl, hin, Hsc, acc, Ec, sc, stc, hsD, hcD, tacc⟩
    obtain ⟨j1, j2⟩ := jok i δ (sq i) Hsc Hc σ ⟨rfl, rfl⟩ hin Ec sc
    by_cases hlt : i < n
    · obtain ⟨g1, g2⟩ := j2 hlt
      refine .inr ⟨g1, fun Hc' => i + 1 ≤ n ∧ ∃ Hsc acc, Env K dr H0 Hsc Hc' σ δ (sq (i + 1)) ∧ Same Hs1 Hsc ∧ Stp dr Hs H Hsc Hc' ∧ Hsc Dd = none ∧ Hc' Dd = some (.lst acc) ∧ Ts K Hsc (lcAcc b e (i + 1)) acc, fun Hc' z => ⟨n - (i + 1), by omega, rfl, z.1, z.2⟩, fun x Hx y => ?_⟩
      have go : ∀ Hsx, Env K dr H0 Hsx Hx σ δ (sq i) → Stp dr Hsc Hc Hsx Hx → T K Hsx (it i) x → g x (L2.wipe σ vs) Hx fun σ2 H2 => L2.wipe σ2 vs = L2.wipe σ vs ∧ tt σ2 H2 fun b' H3 =>
          if b' = true then te σ2 H3 fun y H4 => ∃ acc, H4 Dd = some (.lst acc) ∧ acc.length < sizeLine ∧ i + 1 ≤ n ∧ ∃ Hsc acc', Env K dr H0 Hsc (upd H4 Dd (.lst (acc ++ [y]))) σ δ (sq (i + 1)) ∧ Same Hs1 Hsc ∧ Stp dr Hs H Hsc (upd H4 Dd (.lst (acc ++ [y]))) ∧ Hsc Dd = none ∧ upd H4 Dd (.lst (acc ++ [y])) Dd = some (.lst acc') ∧ Ts K Hsc (lcAcc b e (i + 1)) acc'
          else i + 1 ≤ n ∧ ∃ Hsc acc, Env K dr H0 Hsc H3 σ δ (sq (i + 1)) ∧ Same Hs1 Hsc ∧ Stp dr Hs H Hsc H3 ∧ Hsc Dd = none ∧ H3 Dd = some (.lst acc) ∧ Ts K Hsc (lcAcc b e (i + 1)) acc := by
        intro Hsx Ex stx tx
        obtain ⟨hxs, hxD⟩ := keepD stx Ex.sub nd hsD hcD
        have main := hg i hlt H0 Hsx Hx (L2.wipe σ vs) (sq i) x (Ex.wiped vs) tx (fun σ2 H2 => tt σ2 H2 fun b' H3 =>
          if b' = true then te σ2 H3 fun y H4 => ∃ acc, H4 Dd = some (.lst acc) ∧ acc.length < sizeLine ∧ i + 1 ≤ n ∧ ∃ Hsc acc', Env K dr H0 Hsc (upd H4 Dd (.lst (acc ++ [y]))) σ δ (sq (i + 1)) ∧ Same Hs1 Hsc ∧ Stp dr Hs H Hsc (upd H4 Dd (.lst (acc ++ [y]))) ∧ Hsc Dd = none ∧ upd H4 Dd (.lst (acc ++ [y])) Dd = some (.lst acc') ∧ Ts K Hsc (lcAcc b e (i + 1)) acc'
          else i + 1 ≤ n ∧ ∃ Hsc acc, Env K dr H0 Hsc H3 σ δ (sq (i + 1)) ∧ Same Hs1 Hsc ∧ Stp dr Hs H Hsc H3 ∧ Hsc Dd = none ∧ H3 Dd = some (.lst acc) ∧ Ts K Hsc (lcAcc b e (i + 1)) acc) fun σ2 E2 => by
            refine ht i hlt H0 Hsx Hx σ2 E2 _ fun Hs3 H3 E3 st3 => ?_
            obtain ⟨h3s, h3D⟩ := keepD st3 E3.sub nd hxs hxD
            cases hb : b i with
            | true =>
              rw [if_pos rfl]
              refine he i hlt hb H0 Hs3 H3 σ2 E3 _ fun y Hs4 H4 E4 st4 r4 => ?_
              obtain ⟨h4s, h4D⟩ := keepD st4 E4.sub nd h3s h3D
              have st34 := st3.trans st4
              have E5 : Env K dr H0 Hs4 H4 σ δ (sq (i + 1)) := Ex.stp st34 E4.sub E4.drw
              refine ⟨acc, h4D, ?_, hlt, Hs4, acc ++ [y], E5.updD hD0 h4s nd no, (sc.trans stx.same).trans st34.same, ((stc.trans stx).trans st34).updD hDH, h4s, upd_same, ?_⟩
              · rw [tacc.length]
                exact Nat.lt_of_le_of_lt (Nat.le_trans (lcAcc_length b e i) hin) hl
              · show Ts K Hs4 (if b i = true then _ else _) _
                rw [if_pos hb]
                exact (tacc.same (stx.same.trans st34.same)).append (.one r4)
            | false =>
              rw [if_neg (by decide)]
              have e1 := hs i hlt hb
              have E5 : Env K dr H0 Hs3 H3 σ δ (sm i) := Ex.stp st3 E3.sub E3.drw
              refine ⟨hlt, Hs3, acc, by rw [← e1]; exact E5, (sc.trans stx.same).trans st3.same, (stc.trans stx).trans st3, h3s, h3D, ?_⟩
              show Ts K Hs3 (if b i = true then _ else _) _
              rw [if_neg (by rw [hb]; decide)]
              exact tacc.same (stx.same.trans st3.same)
        have r := hw x (L2.wipe σ vs) Hx _ main
        rw [wipe_idem] at r
        exact r
      rcases g2 x Hx y with ⟨e1, t⟩ | ⟨p, ws, hp, e1, t⟩
      · subst e1; exact go Hsc Ec .refl t
      · subst e1
        obtain ⟨E', st⟩ := Ec.newS hp (.tup ws)
        exact go _ E' st t
    · have e1 : i = n := by omega
      subst e1
      exact .inl ⟨j1 (Nat.le_refl _), q _ _ _ Ec stc ⟨Dd, _, rfl, hDH, hsD, hcD, acc, rfl, tacc⟩⟩
/-! ### calls of defs -/
def Ret (K : Frag) (H H' : Hp) (v : V) : R → Prop
  | .sh d => flat d = true ∧ T K H' d v
  | .own d => flatO d = true ∧ ∃ a h, v = .ref a ∧ H a = none ∧ H' a = some h ∧ OR K H' d h
  | _ => False
def okR : R → Bool
  | .sh d => flat d
  | .own d => flatO d
  | _ => false
/-- a def of data alone: rel arguments result -/
def spR (K : Frag) (rel : List D → R → Prop) : Sp := fun vs H Q _ => ∃ ds r, rel ds r ∧ Ts K H ds vs ∧ ∀ v H', Same H H' → Ret K H H' v r → Q v H'
/-- a def whose first argument is the draw -/
def spD (K : Frag) (rel : List D → DS → R → DS → Prop) : Sp := fun vs H Q _ => ∃ a ds s r s', rel ds s r s' ∧ (∃ ws, vs = .ref a :: ws ∧ Ts K (hm (some a) H) ds ws) ∧ DrawAt K (hm (some a) H) H a s ∧
  ∀ v H', Ext (some a) H H' → DrawAt K (hm (some a) H') H' a s' → Ret K H H' v r → Q v H'
theorem ret_res {H0 Hs H Hs1 H1 H2 : Hp} {σ : L2.St} {v : V} {r : R} (E2 : Env K dr H0 Hs1 H2 σ δ s) (st1 : Stp dr Hs H Hs1 H1) (st2 : Stp dr Hs1 H1 Hs1 H2) (hs : ∀ a, H1 a = none → Hs1 a = none) (x : Ret K H1 H2 v r) :
    ∃ Hs3, Env K dr H0 Hs3 H2 σ δ s ∧ Stp dr Hs H Hs3 H2 ∧ Res K H Hs3 H2 v r := by
  obtain ⟨E3, st3⟩ := E2.addT
  refine ⟨_, E3, (st1.trans st2).trans st3, ?_⟩
  have up : ∀ a vs, H2 a = some (.tup vs) → EL.addT dr Hs1 H2 a = some (.tup vs) := fun a vs z => addT_seqT E2.sub E2.drK z
  cases r with
  | sh d => exact x.2.flat up x.1
  | own d =>
    obtain ⟨f, a, h, e, n, ho, t⟩ := x
    refine ⟨a, h, e, st1.ext.free n, ?_, ho, t.flat up f⟩
    cases z : EL.addT dr Hs1 H2 a with
    | none => rfl
    | some u =>
      exfalso
      have e1 := (hm_some (E3.sub a u z)).2
      rw [ho] at e1; cases e1
      rcases addT_grow a _ z with g | g
      · rw [hs a n] at g; cases g
      · have nT := t.notT
        cases h with
        | tup xs => exact nT.1 xs rfl
        | frz ob u =>
          cases u with
          | tup xs => exact nT.2 ob xs rfl
          | _ => simp [isT] at g
        | _ => simp [isT] at g
  | no => exact x.elim
  | rf a => exact x.elim
theorem se_call {rel : List D → R → Prop} {ta : TA} {ds : List D} {r : R} {Ex : XK} (h : SeA K dr ta δ s ds s1) (hr : rel ds r) : Se K dr (tCall (spR K rel) [] Ex ta) δ s r s1 := fun H0 Hs H σ E Q q =>
  h H0 Hs H σ E _ fun vs Hs1 H1 E1 st1 r1 => by
    refine ⟨ds, r, hr, by rw [List.append_nil]; exact Ts.of_hm (r1.full E1), fun v H2 sm x => ?_⟩
    have st2 : Stp dr Hs1 H1 Hs1 H2 := ⟨.of_same sm, L2.Same.refl _, fun _ _ z => .inl z⟩
    have E2 : Env K dr H0 Hs1 H2 σ δ s1 := E1.stp st2 (fun b o e => st2.ext.hm b o (E1.sub b o e)) fun a z => by
      obtain ⟨h1, h2⟩ := E1.drw a z
      exact ⟨sm _ _ h1, h2⟩
    obtain ⟨Hs3, E3, st3, r3⟩ := ret_res E2 st1 st2 (fun a n => by
      cases z : Hs1 a with
      | none => rfl
      | some o => have := (hm_some (E1.sub a o z)).2; rw [n] at this; cases this) x
    exact q v Hs3 H2 E3 st3 r3
theorem se_callD {rel : List D → DS → R → DS → Prop} {ta : TA} {ds : List D} {r : R} {i : Nat} {a : Addr} {Ex : XK} (hd : dr = some a) (hi : δ[i]? = some (.rf a)) (h : SeA K dr ta δ s ds s1) (hr : rel ds s1 r s2) (hc : s2.ca = s1.ca ∧ s2.cells = s1.cells) : Se K dr (tCall (spD K rel) [] Ex (tCons (tVar i) ta)) δ s r s2 := fun H0 Hs H σ E Q q => by
  refine ⟨.ref a, E.slot i _ hi, ?_⟩
  refine h H0 Hs H σ E _ fun vs Hs1 H1 E1 st1 r1 => ?_
  subst hd
  refine ⟨a, ds, s1, r, s2, hr, ⟨vs, by rw [List.append_nil], r1.full E1⟩, (E1.drw a rfl).same E1.sub rfl, fun v H2 ext dd x => ?_⟩
  have st2 : Stp (some a) Hs1 H1 Hs1 H2 := ⟨ext, L2.Same.refl _, fun _ _ z => .inl z⟩
  have E2 : Env K (some a) H0 Hs1 H2 σ δ s2 := by
    refine E1.stp st2 (fun b o e => ext.hm b o (E1.sub b o e)) fun a' z => ?_
    cases z
    exact ⟨dd.1, by rw [hc.1, hc.2]; exact (E1.drw a rfl).2⟩
  obtain ⟨Hs3, E3, st3, r3⟩ := ret_res E2 st1 st2 (fun a n => by
      cases z : Hs1 a with
      | none => rfl
      | some o => have := (hm_some (E1.sub a o z)).2; rw [n] at this; cases this) x
  exact q v Hs3 H2 E3 st3 r3
end
end EL
set_option maxRecDepth 100000
set_option maxHeartbeats 1000000
/-! E-layer 5: defs. -/
namespace EL
open PySem PySem.Spec L2
def ds0 : DS := ⟨0, 0, 0, []⟩
def stS (n : Nat) (ds : List D) : List S := ds.map S.sh ++ List.replicate (n - ds.length) S.no
def stD (n : Nat) (a : Addr) (ds : List D) : List S := .rf a :: (ds.map S.sh ++ List.replicate (n - (ds.length + 1)) S.no)
def RetO (r : R) : Out → Prop
  | .rt r' _ => r' = r
  | .nx _ _ => r = .sh .non
  | _ => False
def RetD (r : R) (s : DS) : Out → Prop
  | .rt r' s' => r' = r ∧ s' = s
  | .nx _ s' => r = .sh .non ∧ s' = s
  | _ => False
theorem res_ret {K : Frag} {dr : Option Addr} {H0 Hs H : Hp} {v : V} {r : R} (sub : Same Hs (hm dr H)) (ok : okR r = true) (x : Res K H0 Hs H v r) : Ret K H0 H v r := by
  have e : Same Hs H := fun b o z => (hm_some (sub b o z)).2
  cases r with
  | sh d => exact ⟨ok, T.same e x⟩
  | own d => obtain ⟨a, h, e1, n, _, ho, t⟩ := x; exact ⟨ok, a, h, e1, n, ho, t.same e⟩
  | no => cases ok
  | rf a => cases ok
theorem start_get {N : List Str} {vs : List V} {i : Nat} {v : V} (h : vs[i]? = some v) : (L2.start N vs)[i]? = some (some v) := by
  unfold L2.start
  have hi : i < vs.length := (List.getElem?_eq_some_iff.mp h).1
  rw [List.getElem?_append_left (by rw [List.length_map]; exact hi), List.getElem?_map, h]; rfl
theorem stS_get {n : Nat} {ds : List D} {i : Nat} {r : S} (h : (stS n ds)[i]? = some r) : r = .no ∨ ∃ d, ds[i]? = some d ∧ r = .sh d := by
  unfold stS at h
  by_cases hi : i < ds.length
  · rw [List.getElem?_append_left (by rw [List.length_map]; exact hi), List.getElem?_map, List.getElem?_eq_getElem hi] at h
    right; exact ⟨ds[i], List.getElem?_eq_getElem hi, (Option.some.inj h).symm⟩
  · rw [List.getElem?_append_right (by rw [List.length_map]; omega)] at h
    left
    have := List.mem_of_getElem? h
    exact List.eq_of_mem_replicate this
section
variable {P : Program} {w : World} {K : Frag} {mg : Str → Option Value} {base : Heap}
/-- a def of data -/
theorem fn_R {x qual : Str} {st : Stmt} {f : Addr} {fd : FuncData} {N ps : List Str} {k : Nat} {rel : List D → R → Prop} (F : L2.Fun K x qual st f fd) (S : FnScope N ps (defScope st))
    (hlen : ∀ ds r, rel ds r → ds.length = ps.length ∧ okR r = true)
    (hb : ∀ (cdv : Value) (A : Around) (outer : List PySem.Env) (s : Shared) (H : Hp) (E : XK), Room k (A.deeper (PyProof.Rows.envOfC qual (defScope st) s.heap.objs.size f cdv)) →
      ∃ t, PSs (cxOf CX0 P w K mg base N qual (defScope st) f cdv A outer s H E).nox (defBody st) t ∧ ∀ ds r, rel ds r → SS K none t (stS N.length ds) ds0 (RetO r)) : FnOk P w K mg base CX0 (k + 1) f fd ps (spR K rel) := by
  refine F.ok S (fun vs H Q E h => ?_) (fun cdv A outer s H vs Q E hr h => ?_)
  · obtain ⟨ds, r, h1, h2, _⟩ := h
    rw [h2.length]; exact (hlen _ _ h1).1
  · obtain ⟨ds, r, h1, h2, h3⟩ := h
    obtain ⟨t, ht, hs⟩ := hb cdv A outer s H E hr
    obtain ⟨hl, ok⟩ := hlen _ _ h1
    refine ⟨t, ht, ?_⟩
    have N_le : ds.length ≤ N.length := by
      have := congrArg List.length S.pre
      rw [List.length_take] at this
      omega
    have E0 : EL.Env K none H H H (L2.start N vs) (stS N.length ds) ds0 := by
      refine ⟨.refl, by rw [hm_none]; exact L2.Same.refl _, fun i r e => ?_, fun i j a d d' e _ => ?_, fun a z => (nomatch z), fun a z => (nomatch z), ?_⟩
      · rcases stS_get e with z | ⟨d, hd, z⟩
        · subst z; trivial
        · subst z
          obtain ⟨v, hv, tv⟩ := h2.get hd
          exact ⟨v, start_get hv, tv⟩
      · rcases stS_get e with z | ⟨d, hd, z⟩ <;> cases z
      · unfold stS L2.start
        rw [List.length_append, List.length_append, List.length_map, List.length_map, List.length_replicate, List.length_replicate, h2.length]
        exact Nat.le_refl _
    refine hs ds r h1 H H H (L2.start N vs) E0 _ ⟨fun δ' s' z σ' Hs' H' _ E' => ?_, fun r' s' z v Hs' H' ext sub _ x => ?_, fun δ' s' z => z.elim, fun δ' s' z => z.elim⟩
    · have e1 : r = .sh .non := z
      subst e1
      exact h3 .non H' E'.ext.same ⟨rfl, rfl⟩
    · have e1 : r' = r := z
      subst e1
      exact h3 v H' ext.same (res_ret sub ok x)
/-- a def whose first argument is the draw -/
theorem fn_D {x qual : Str} {st : Stmt} {f : Addr} {fd : FuncData} {N ps : List Str} {k : Nat} {rel : List D → DS → R → DS → Prop} (F : L2.Fun K x qual st f fd) (S : FnScope N ps (defScope st))
    (hlen : ∀ ds s r s', rel ds s r s' → ds.length + 1 = ps.length ∧ okR r = true)
    (hb : ∀ (cdv : Value) (A : Around) (outer : List PySem.Env) (s : Shared) (H : Hp) (E : XK), Room k (A.deeper (PyProof.Rows.envOfC qual (defScope st) s.heap.objs.size f cdv)) →
      ∃ t, PSs (cxOf CX0 P w K mg base N qual (defScope st) f cdv A outer s H E).nox (defBody st) t ∧ ∀ a ds s r s', rel ds s r s' → SS K (some a) t (stD N.length a ds) s (RetD r s')) : FnOk P w K mg base CX0 (k + 1) f fd ps (spD K rel) := by
  refine F.ok S (fun vs H Q E h => ?_) (fun cdv A outer s H vs Q E hr h => ?_)
  · obtain ⟨a, ds, s, r, s', h1, ⟨ws, e, h2⟩, _⟩ := h
    subst e
    rw [List.length_cons, h2.length]; exact (hlen _ _ _ _ h1).1
  · obtain ⟨a, ds, s1, r, s', h1, ⟨ws, e, h2⟩, hd, h3⟩ := h
    subst e
    obtain ⟨t, ht, hs⟩ := hb cdv A outer s H E hr
    obtain ⟨hl, ok⟩ := hlen _ _ _ _ h1
    refine ⟨t, ht, ?_⟩
    have N_le : ds.length + 1 ≤ N.length := by
      have := congrArg List.length S.pre
      rw [List.length_take] at this
      omega
    have E0 : EL.Env K (some a) H (hm (some a) H) H (L2.start N (.ref a :: ws)) (stD N.length a ds) s1 := by
      have g : ∀ {i : Nat} {r : EL.S}, (stD N.length a ds)[i]? = some r → (i = 0 ∧ r = .rf a) ∨ ∃ j, i = j + 1 ∧ (r = .no ∨ ∃ d, ds[j]? = some d ∧ r = .sh d) := fun {i r} e => by
        cases i with
        | zero => left; exact ⟨rfl, (Option.some.inj e).symm⟩
        | succ j =>
          right
          refine ⟨j, rfl, ?_⟩
          have e' : (stS (N.length - 1) ds)[j]? = some r := by
            rw [show stS (N.length - 1) ds = ds.map EL.S.sh ++ List.replicate (N.length - (ds.length + 1)) EL.S.no by unfold stS; congr 2; omega]
            exact e
          exact stS_get e'
      refine ⟨.refl, L2.Same.refl _, fun i r e => ?_, fun i j a d d' e _ => ?_, fun a' z => by cases z; exact hd, fun a' z => by cases z; exact ⟨_, hd.1⟩, ?_⟩
      · rcases g e with ⟨rfl, rfl⟩ | ⟨j, rfl, z | ⟨d, hd', z⟩⟩
        · exact start_get rfl
        · subst z; trivial
        · subst z
          obtain ⟨v, hv, tv⟩ := h2.get hd'
          exact ⟨v, start_get (by simpa using hv), tv⟩
      · rcases g e with ⟨rfl, z⟩ | ⟨j, rfl, z | ⟨d, hd', z⟩⟩ <;> cases z
      · unfold stD L2.start
        simp only [List.length_append, List.length_map, List.length_replicate, List.length_cons, h2.length]
        omega
    refine hs a ds s1 r s' h1 H _ H _ E0 _ ⟨fun δ' s2 z σ' Hs' H' _ E' => ?_, fun r' s2 z v Hs' H' ext sub dd x => ?_, fun δ' s' z => z.elim, fun δ' s' z => z.elim⟩
    · obtain ⟨e1, e2⟩ : r = .sh .non ∧ s2 = s' := z
      subst e1 e2
      exact h3 .non H' E'.ext ((E'.drw a rfl).same E'.sub rfl) ⟨rfl, rfl⟩
    · obtain ⟨e1, e2⟩ : r' = r ∧ s2 = s' := z
      subst e1 e2
      exact h3 v H' ext ((dd a rfl).same sub rfl) (res_ret sub ok x)
end
/-! ### dicts by keys -/
def lookD : List Key → List D → Key → Option D
  | k' :: ks, d :: ds, k => if k' = k then some d else lookD ks ds k
  | _, _, _ => none
def putDs : List Key → List D → Key → D → List D
  | k' :: ks, d :: ds, k, e => if k' = k then e :: ds else d :: putDs ks ds k e
  | _, _, _, e => [e]
def putKs : List Key → Key → List Key
  | [], k => [k]
  | k' :: ks, k => if k' = k then k' :: ks else k' :: putKs ks k
section
variable {K : Frag} {dr : Option Addr} {δ : List S} {s s1 s2 s3 : DS} {O : Out → Prop} {td ty te : TE}
theorem lookD_some {H : Hp} : ∀ {ks : List Key} {ds : List D} {vs : List V} {k : Key} {d : D}, Ts K H ds vs → lookD ks ds k = some d → ∃ v, valV (ks.zip vs) k = some v ∧ T K H d v
  | [], _, _, _, _, _, h => by unfold lookD at h; cases h
  | _ :: _, [], _, _, _, _, h => by unfold lookD at h; cases h
  | k' :: ks, d' :: ds, _, k, d, t, h => by
    obtain ⟨v, r, e, t1, t2⟩ := t
    subst e
    unfold lookD at h
    by_cases z : k' = k
    · rw [if_pos z] at h; cases h
      exact ⟨v, valV_pos z, t1⟩
    · rw [if_neg z] at h
      obtain ⟨u, a, b⟩ := lookD_some t2 h
      exact ⟨u, by rw [List.zip_cons_cons, valV_neg z]; exact a, b⟩
theorem lookD_none {H : Hp} : ∀ {ks : List Key} {ds : List D} {vs : List V} {k : Key}, ks.length = vs.length → Ts K H ds vs → lookD ks ds k = none → valV (ks.zip vs) k = none
  | [], _, _, _, _, _, _ => rfl
  | _ :: _, [], _, _, l, t, _ => by cases (show _ = _ from t); cases l
  | k' :: ks, d' :: ds, _, k, l, t, h => by
    obtain ⟨v, r, e, t1, t2⟩ := t
    subst e
    unfold lookD at h
    by_cases z : k' = k
    · rw [if_pos z] at h; cases h
    · rw [if_neg z] at h
      rw [List.zip_cons_cons, valV_neg z]
      exact lookD_none (by simpa using l) t2 h
theorem RT.dct {H0 Hs H : Hp} {σ : L2.St} (E : Env K dr H0 Hs H σ δ s) {ks : List Key} {ds : List D} {v : V} (h : RT K dr Hs H (.dct ks ds) v) : ∃ a vs, v = .ref a ∧ Rd H a (.dK (ks.zip vs)) ∧ ks.length = vs.length ∧ Ts K Hs ds vs := by
  rcases h with ⟨a, vs, e, h1, h2, h3⟩ | ⟨a, o, e, n, ho, vs, e2, h2, t⟩
  · exact ⟨a, vs, e, Same.rd E.toH h1, h2, h3⟩
  · subst e2; exact ⟨a, vs, e, .inl ho, h2, t⟩
theorem T.key {H : Hp} {k : Key} {v : V} {d : D} (hk : d = (match k with | .inl i => D.int i | .inr x => D.str x)) (t : T K H d v) : v = kV k := by
  subst hk
  cases k with
  | inl i => exact t
  | inr x => exact t
/-- d[k] -/
theorem se_dget {ks : List Key} {ds : List D} {k : Key} {d dk : D} (hd : SeR K dr td δ s (.dct ks ds) s1) (hy : Se K dr ty δ s1 (.sh dk) s2) (hk : dk = (match k with | .inl i => D.int i | .inr x => D.str x)) (hl : lookD ks ds k = some d) : Se K dr (tDGet td ty) δ s (.sh d) s2 := fun H0 Hs H σ E Q q =>
  hd H0 Hs H σ E _ fun v Hs1 H1 E1 st1 r1 => hy H0 Hs1 H1 σ E1 _ fun u Hs2 H2 E2 st2 r2 => by
    obtain ⟨a, vs, e, h1, h2, h3⟩ := (r1.stp st2).dct E2
    obtain ⟨x, hx, tx⟩ := lookD_some h3 hl
    exact ⟨a, x, e, .inl ⟨_, k, h1, T.key hk r2, hx.symm⟩, q _ _ _ E2 (st1.trans st2) tx⟩
theorem se_din {ks : List Key} {ds : List D} {k : Key} {dk : D} (hy : Se K dr ty δ s (.sh dk) s1) (hd : SeR K dr td δ s1 (.dct ks ds) s2) (hk : dk = (match k with | .inl i => D.int i | .inr x => D.str x)) : Se K dr (tDIn ty td) δ s (.sh (.bl (lookD ks ds k).isSome)) s2 := fun H0 Hs H σ E Q q =>
  hy H0 Hs H σ E _ fun u Hs1 H1 E1 st1 r1 => hd H0 Hs1 H1 σ E1 _ fun v Hs2 H2 E2 st2 r2 => by
    obtain ⟨a, vs, e, h1, h2, h3⟩ := r2.dct E2
    refine ⟨a, valV (ks.zip vs) k, e, .inl ⟨_, k, h1, T.key hk r1, rfl⟩, q _ _ _ E2 (st1.trans st2) ?_⟩
    cases z : lookD ks ds k with
    | none => rw [lookD_none h2 h3 z]; rfl
    | some d => obtain ⟨x, hx, tx⟩ := lookD_some h3 z; rw [hx]; rfl
theorem put_zip {H : Hp} {d : D} {x : V} (tx : T K H d x) : ∀ {ks : List Key} {ds : List D} {vs : List V} {k : Key}, ks.Nodup → ks.length = vs.length → Ts K H ds vs → ∃ ws, putK (ks.zip vs) k x = (putKs ks k).zip ws ∧ (putKs ks k).length = ws.length ∧ Ts K H (putDs ks ds k d) ws
  | [], ds, vs, k, _, l, t => by
    have : vs = [] := List.eq_nil_of_length_eq_zero (by simpa using l.symm)
    subst this
    exact ⟨[x], rfl, rfl, by unfold putDs; exact .one tx⟩
  | _ :: _, [], _, _, _, l, t => by cases (show _ = _ from t); cases l
  | k' :: ks, d' :: ds, _, k, nd, l, t => by
    obtain ⟨v, r, e, t1, t2⟩ := t
    subst e
    have nd' := (List.nodup_cons.mp nd)
    have l' : ks.length = r.length := by simpa using l
    by_cases z : k' = k
    · subst z
      refine ⟨x :: r, ?_, ?_, ?_⟩
      · unfold putKs
        rw [if_pos rfl]
        unfold putK
        rw [if_pos (by simp), List.zip_cons_cons, List.zip_cons_cons, List.map_cons, if_pos rfl]
        congr 1
        have : ∀ (ks : List Key) (r : List V), k' ∉ ks → (ks.zip r).map (fun kv => if kv.1 = k' then (kv.1, x) else kv) = ks.zip r := by
          intro ks
          induction ks with
          | nil => intro r _; rfl
          | cons a ks ih =>
            intro r h
            cases r with
            | nil => rfl
            | cons b r =>
              rw [List.zip_cons_cons, List.map_cons, if_neg (fun e => h (List.mem_cons.mpr (.inl (show a = k' from e).symm))), ih r (fun m => h (List.mem_cons_of_mem _ m))]
        exact this ks r nd'.1
      · unfold putKs; rw [if_pos rfl]; simpa using l
      · unfold putDs; rw [if_pos rfl]; exact ⟨x, r, rfl, tx, t2⟩
    · obtain ⟨ws, e1, e2, e3⟩ := put_zip tx (k := k) nd'.2 l' t2
      refine ⟨v :: ws, ?_, ?_, ?_⟩
      · unfold putKs
        rw [if_neg z, List.zip_cons_cons, List.zip_cons_cons, ← e1]
        unfold putK
        by_cases y : ((ks.zip r).any fun kv => decide (kv.1 = k)) = true
        · rw [if_pos (by rw [List.any_cons, y]; simp), if_pos y, List.map_cons, if_neg z]
        · rw [if_neg (by rw [List.any_cons, decide_eq_false z, Bool.false_or]; exact y), if_neg y]; rfl
      · unfold putKs; rw [if_neg z, List.length_cons, List.length_cons, e2]
      · unfold putDs; rw [if_neg z]; exact ⟨v, ws, rfl, t1, e3⟩
theorem putKs_nodup : ∀ {ks : List Key} {k : Key}, ks.Nodup → (putKs ks k).Nodup
  | [], k, _ => by unfold putKs; simp
  | k' :: ks, k, h => by
    unfold putKs
    by_cases z : k' = k
    · rw [if_pos z]; exact h
    · rw [if_neg z]
      have h' := List.nodup_cons.mp h
      have mem : ∀ {ks : List Key} {x : Key}, x ∈ putKs ks k → x ∈ ks ∨ x = k := by
        intro ks
        induction ks with
        | nil => intro x hx; unfold putKs at hx; right; simpa using hx
        | cons a ks ih =>
          intro x hx
          unfold putKs at hx
          by_cases y : a = k
          · rw [if_pos y] at hx; left; exact hx
          · rw [if_neg y] at hx
            rcases List.mem_cons.mp hx with e | e
            · left; simp [e]
            · rcases ih e with e | e
              · left; exact List.mem_cons_of_mem _ e
              · right; exact e
      refine List.nodup_cons.mpr ⟨fun m => ?_, putKs_nodup h'.2⟩
      rcases mem m with e | e
      · exact h'.1 e
      · exact z e
/-- d[k] = v of an own dict -/
theorem ss_dput {j : Nat} {a : Addr} {ks : List Key} {ds : List D} {k : Key} {d dk : D} (hj : δ[j]? = some (.own a (.dct ks ds))) (h : Se K dr te δ s (.sh d) s1) (hy : Se K dr ty δ s1 (.sh dk) s2) (hk : dk = (match k with | .inl i => D.int i | .inr x => D.str x)) (nd : ks.Nodup) (hl : ks.length < sizeLine)
    (c : O (.nx (δ.set j (.own a (.dct (putKs ks k) (putDs ks ds k d)))) s2)) : SS K dr (sDPut (tVar j) ty te) δ s O := fun H0 Hs H σ E D p =>
  h H0 Hs H σ E _ fun v Hs1 H1 E1 st1 r1 => by
    obtain ⟨e, h0, hs, o, ho, vs, eo, l, t⟩ := E1.slot j _ hj
    refine ⟨.ref a, e, ?_⟩
    refine hy H0 Hs1 H1 σ E1 _ fun w Hs2 H2 E2 st2 r2 => ?_
    obtain ⟨e, h0, hs, o, ho, vs, eo, l, t⟩ := E2.slot j _ hj
    subst eo
    obtain ⟨ws, e1, e2, e3⟩ := put_zip (T.same st2.same r1) (k := k) nd l t
    refine ⟨a, _, rfl, .inl ⟨_, k, ho, T.key hk r2, ?_, rfl⟩, p.nx _ _ c _ _ _ (st1.same.trans st2.same) (E2.write hj ⟨ws, by rw [e1], e2, e3⟩)⟩
    rw [List.length_zip, ← l, Nat.min_self]; exact hl
theorem se_dnew : Se K dr tDNewK δ s (.own (.dct [] [])) s := fun H0 Hs H σ E Q q p hp => by
  obtain ⟨E2, st2, hs⟩ := E.newO hp (.dK [])
  exact q _ _ _ E2 st2 ⟨p, _, rfl, hp, hs, upd_same, [], rfl, rfl, rfl⟩
/-- {2: 7, 3: 5, 5: 4}[x], written ints -/
def menuT (l : List (Int × Int)) : List (TE × TE) := l.map fun kv => (tC (.int kv.1), tC (.int kv.2))
theorem menu_pairs {l : List (Int × Int)} : ∀ {σ : L2.St} {H : Hp} {Q : List (V × V) → Hp → Prop}, Q (l.map fun kv => (V.int kv.1, V.int kv.2)) H → tPairs (menuT l) σ H Q := by
  induction l with
  | nil => intro σ H Q h; exact h
  | cons a l ih => intro σ H Q h; exact ih h
theorem merge_new : ∀ (l acc : List (Key × V)), (acc ++ l).map (·.1) |>.Nodup → mergeK acc l = acc ++ l
  | [], acc, _ => by show acc = acc ++ []; rw [List.append_nil]
  | a :: l, acc, h => by
    show mergeK (putK acc a.1 a.2) l = _
    have hn : valV acc a.1 = none := by
      have h1 : a.1 ∉ acc.map (·.1) := by
        rw [List.map_append, List.nodup_append] at h
        intro m
        exact h.2.2 _ m _ (by simp) rfl
      cases z : valV acc a.1 with
      | none => rfl
      | some v =>
        exfalso
        have y : (acc.any fun kv => decide (kv.1 = a.1)) = true := by rw [valV_any, z]; rfl
        obtain ⟨kv, m, e⟩ := List.any_eq_true.mp y
        exact h1 (List.mem_map.mpr ⟨kv, m, of_decide_eq_true e⟩)
    rw [putK_new _ hn, merge_new l _ (by simpa using h)]
    simp
theorem se_menu {l : List (Int × Int)} (hn : (l.map (·.1)).Nodup) (hl : l.length ≤ 15) : Se K dr (tDisp (menuT l)) δ s (.own (.dct (l.map fun kv => .inl kv.1) (l.map fun kv => .int kv.2))) s := fun H0 Hs H σ E Q q p hp => by
  obtain ⟨E2, st2, hs⟩ := E.newO hp (.dK (l.map fun kv => (Sum.inl kv.1, V.int kv.2)))
  refine menu_pairs ⟨upd_same, l.map fun kv => (Sum.inl kv.1, V.int kv.2), by rw [List.map_map]; rfl, by rw [List.length_map]; exact hl, ?_⟩
  rw [upd_upd, merge_new _ _ (by
    rw [List.nil_append, List.map_map]
    have : (Prod.fst ∘ fun kv : Int × Int => ((Sum.inl kv.1 : Key), V.int kv.2)) = (Sum.inl ∘ Prod.fst) := rfl
    rw [this, ← List.map_map]
    exact (List.pairwise_map.mpr ((List.nodup_iff_pairwise_ne.mp hn).imp fun h e => h (Sum.inl.inj e)))), List.nil_append]
  refine q _ _ _ E2 st2 ⟨p, _, rfl, hp, hs, upd_same, l.map fun kv => V.int kv.2, ?_, by simp, ?_⟩
  · have : ∀ l : List (Int × Int), (l.map fun kv => ((Sum.inl kv.1 : Key), V.int kv.2)) = (l.map fun kv => (Sum.inl kv.1 : Key)).zip (l.map fun kv => V.int kv.2) := by
      intro l
      induction l with
      | nil => rfl
      | cons a l ih => rw [List.map_cons, List.map_cons, List.map_cons, List.zip_cons_cons, ih]
    rw [this]
  · have := Ts.ints (K := K) (H := Hs) (l.map (·.2))
    rw [List.map_map, List.map_map] at this
    exact this
end
end EL
set_option maxRecDepth 100000
set_option maxHeartbeats 1000000
/-! E-layer 6: calls by name, isinstance, constants of the module, in. -/
namespace EL
open PySem PySem.Spec L2
/-- a def of the text and its promise -/
structure Fk (P : Program) (w : World) (K : Frag) (mg : Str → Option Value) (base : Heap) (x : Str) (ps : List Str) (k : Nat) (sp : Sp) : Prop where
  ex : ∃ (f : Addr) (fd : FuncData), mg x = some (.ref f) ∧ PySem.W.keepIn K (.ref f) = true ∧ Binds K fd ps [] ∧ FnOk P w K mg base CX0 k f fd ps sp
theorem pe_f {X : Cx} {x : Str} {ps : List Str} {k j : Nat} {sp : Sp} {p pos : Pos} {e : Expr} {es : List Expr} {t : TA} (h : Fk X.prog X.w X.K X.mg X.base x ps k sp) (hr : Room j X.A) (hj : k ≤ j) (hg : Gl X x) (ha : PA X (e :: es) t) (hdb : (x == ("__debug__" : Str)) = false := by decide)
    (he : starEach (e :: es) X.env = (false, eval e X.env) :: starEach es X.env := by rfl) (hpl : (backTo pos (starEach es X.env)).any (·.1) = false := by rfl) : PE X (.Call (.Name x p) (e :: es) [] pos) (tCall sp [] E0 t) := by
  obtain ⟨f, fd, h1, h2, h3, h4⟩ := h.ex
  exact pe_call h4 (hr.mono hj) hg h1 h2 h3 .nil pass0 ha hdb he hpl
/-! ### isinstance -/
def tyName : D → String
  | .non => "NoneType"
  | .bl _ => "bool"
  | .int _ => "int"
  | .str _ => "str"
  | .tup _ => "tuple"
  | .lst _ => "list"
  | .dct _ _ => "dict"
  | .fdc _ _ => "dict"
theorem T.tyx {K : Frag} {H : Hp} {d : D} {v : V} (h : T K H d v) : TyX K H v (.type (tyName d)) := by
  cases d with
  | non => cases (show _ = _ from h); exact .base .non
  | bl b => cases (show _ = _ from h); exact .base (.bl b)
  | int i => cases (show _ = _ from h); exact .base (.int i)
  | str s => cases (show _ = _ from h); exact .base (.str s)
  | tup ds =>
    obtain ⟨a, vs, e, h1, _⟩ := h
    subst e
    exact .base (.tup h1)
  | lst ds =>
    obtain ⟨a, vs, e, h1, _⟩ := h
    subst e
    rcases h1 with (h1 | ⟨o, h1⟩) | ⟨o, its, n, h1, h2, _⟩
    · exact .base (.lst h1)
    · exact .base (.frz h1)
    · exact .kList h1 h2
  | dct ks ds =>
    obtain ⟨a, vs, e, h1, _⟩ := h
    subst e
    rcases h1 with h1 | ⟨o, h1⟩
    · exact .base (.dK h1)
    · exact .fDict h1
  | fdc ks ds =>
    obtain ⟨a, vs, o, e, h1, _⟩ := h
    subst e
    exact .fDict h1
section
variable {K : Frag} {dr : Option Addr} {δ : List S} {s s1 s2 : DS} {ta tb : TE} {d : D}
theorem se_isi {c : String} {b : Bool} (ha : SeR K dr ta δ s d s1) (hk : kitB (tyName d) c = some b) : Se K dr (tCB (rIsi K) (tCons ta (tCons (tC (.ty c)) tNil))) δ s (.sh (.bl b)) s1 := fun H0 Hs H σ E Q q =>
  ha H0 Hs H σ E _ fun v Hs1 H1 E1 st1 r1 => ⟨v, .ty c, _, .type c, b, rfl, .ty c, (T.of_hm (r1.full E1)).tyx, kit_ty hk, q _ _ _ E1 st1 rfl⟩
/-! ### constants of the module -/
def tMod (K : Frag) (l : List Int) : TE := fun _ H Q => ∀ a, (∀ H, SqT K H a (l.map V.int)) → Q (.ref a) H
/-! ### in -/
theorem inV_ints (i : Int) : ∀ l : List Int, inV (.int i) (l.map V.int) = l.contains i
  | [] => rfl
  | a :: l => by
    have := inV_ints i l
    unfold inV at this ⊢
    rw [List.map_cons, List.any_cons, this, List.contains_cons]
    congr 1
    show (a == i) = (i == a)
    rw [Bool.eq_iff_iff, beq_iff_eq, beq_iff_eq]
    exact ⟨Eq.symm, Eq.symm⟩
theorem flat_ints : ∀ l : List Int, (l.map V.int).all flatV = true
  | [] => rfl
  | a :: l => by rw [List.map_cons, List.all_cons, flat_ints l]; rfl
theorem se_inI {neg : Bool} {i : Int} {l : List Int} {ds : D} (ha : Se K dr ta δ s (.sh (.int i)) s1) (hb : SeR K dr tb δ s1 ds s2) (q : IsSeq ds (l.map .int)) : Se K dr (tOp (rIn K neg) ta tb) δ s (.sh (.bl (if neg then !l.contains i else l.contains i))) s2 := fun H0 Hs H σ E Q q' =>
  ha H0 Hs H σ E _ fun v Hs1 H1 E1 st1 r1 => hb H0 Hs1 H1 σ E1 _ fun u Hs2 H2 E2 st2 r2 => by
    obtain ⟨a, vs, e, h1, h2⟩ := r2.seq E2 q
    have e2 := h2.ints_of
    subst e2
    cases (show v = .int i from r1)
    refine ⟨a, _, e, h1, rfl, flat_ints l, q' _ _ _ E2 (st1.trans st2) ?_⟩
    rw [inV_ints]; rfl
theorem se_inM {neg : Bool} {i : Int} {l : List Int} (ha : Se K dr ta δ s (.sh (.int i)) s1) : Se K dr (tOp (rIn K neg) ta (tMod K l)) δ s (.sh (.bl (if neg then !l.contains i else l.contains i))) s1 := fun H0 Hs H σ E Q q' =>
  ha H0 Hs H σ E _ fun v Hs1 H1 E1 st1 r1 => fun a h1 => by
    cases (show v = .int i from r1)
    refine ⟨a, _, rfl, .inr (h1 _), rfl, flat_ints l, q' _ _ _ E1 st1 ?_⟩
    rw [inV_ints]; rfl
end
theorem pe_modI {X : Cx} {x : Str} {i : Int} {pos : Pos} (m : ∃ t, X.mg x = some (.int i t)) (hg : Gl X x) (hd : (x == ("__debug__" : Str)) = false := by decide) : PE X (.Name x pos) (tC (.int i)) := by
  obtain ⟨t, m⟩ := m
  exact pe_glob hg m ⟨t, rfl⟩ hd
theorem pe_modT {X : Cx} {x : Str} {l : List Int} {pos : Pos} (m : ∃ a, X.mg x = some (.ref a) ∧ ∀ H, SqT X.K H a (l.map V.int)) (hg : Gl X x) (hd : (x == ("__debug__" : Str)) = false := by decide) : PE X (.Name x pos) (tMod X.K l) := by
  obtain ⟨a, m, h⟩ := m
  exact ⟨fun pins s σ H Q I q => (pe_glob (v := .ref a) (pos := pos) hg m rfl hd).run pins s σ H Q I (q a h)⟩
end EL
set_option maxRecDepth 100000
set_option maxHeartbeats 1000000
/-! E-layer 7: several stores at once. -/
namespace EL
open PySem PySem.Spec L2
section
variable {K : Frag} {dr : Option Addr} {δ : List S} {s s1 s2 s3 : DS} {O : Out → Prop} {te : TE}
theorem Res.start {H H1 Hs' H' : Hp} {v : V} {r : R} (e : Ext dr H H1) (x : Res K H1 Hs' H' v r) : Res K H Hs' H' v r := by
  cases r with
  | own d => obtain ⟨a, h, e1, n, y⟩ := x; exact ⟨a, h, e1, e.free n, y⟩
  | _ => exact x
def addrOf : S → List Addr
  | .own a _ => [a]
  | _ => []
/-- stores one after another: no own object in two slots -/
theorem Env.set1 {H0 Hs H H' : Hp} {σ : L2.St} (E : Env K dr H0 Hs H' σ δ s) {A : List Addr} (hA : ∀ (l : Nat) (a : Addr) (d : D), δ[l]? = some (.own a d) → H a ≠ none ∨ a ∈ A) (i : Nat) {v : V} {r : R} {q : S}
    (x : Res K H Hs H' v r) (st : Sto r q) (hq : ∀ a d, q = .own a d → v = .ref a ∧ a ∉ A) (ext : Ext dr H0 H) :
    Env K dr H0 Hs H' (σ.set i (some v)) (δ.set i q) s ∧ ∀ (l : Nat) (a : Addr) (d : D), (δ.set i q)[l]? = some (.own a d) → H a ≠ none ∨ a ∈ addrOf q ++ A := by
  refine ⟨E.set i (x.slot ext st fun a d e => (hq a d e).1) fun a d e l d' el => ?_, fun l a d e => ?_⟩
  · exfalso
    subst e
    cases st
    obtain ⟨b, o, e, n, _⟩ := x
    have := (hq a d rfl).1
    rw [e] at this; cases this
    rcases hA l a d' el with z | z
    · exact z n
    · exact (hq a d rfl).2 z
  · by_cases z : i = l
    · subst z
      have hi : i < δ.length := by
        have := (List.getElem?_eq_some_iff.mp e).1
        simpa using this
      rw [List.getElem?_set_self hi] at e
      cases e
      right; simp [addrOf]
    · rw [List.getElem?_set_ne z] at e
      rcases hA l a d e with y | y
      · exact .inl y
      · right; exact List.mem_append_right _ y
theorem own_there {H0 Hs H : Hp} {σ : L2.St} (E : Env K dr H0 Hs H σ δ s) : ∀ (l : Nat) (a : Addr) (d : D), δ[l]? = some (.own a d) → H a ≠ none ∨ a ∈ ([] : List Addr) := fun l a d e => by
  obtain ⟨_, _, _, o, ho, _⟩ := E.slot l _ e
  left; rw [ho]; simp
theorem pickS {r : R} {v : V} {H Hs1 H1 : Hp} (hq : ∃ q, Sto r q) (x : Res K H Hs1 H1 v r) : ∃ q, Sto r q ∧ (∀ a d, q = .own a d → v = .ref a) := by
  obtain ⟨q, hq⟩ := hq
  cases hq with
  | sh d => exact ⟨_, .sh d, fun a d e => by cases e⟩
  | own a d => obtain ⟨b, o, e, _⟩ := x; exact ⟨_, .own b d, fun a' d' e' => by cases e'; exact e⟩
def Apart (r1 r2 : R) (v w : V) : Prop := ∀ d1 d2, r1 = .own d1 → r2 = .own d2 → v ≠ w
theorem apart_of {H H1 Hs1 Hs2 H2 : Hp} {v w : V} {r1 r2 : R} (x : Res K H Hs1 H1 v r1) (y : Res K H1 Hs2 H2 w r2) : Apart r1 r2 v w := fun d1 d2 e1 e2 z => by
  subst e1 e2
  obtain ⟨a, o, e, _, _, ho, _⟩ := x
  obtain ⟨b, o', e', n', _⟩ := y
  rw [e, e'] at z; cases z
  rw [ho] at n'; cases n'
theorem sto2 {H0 Hs H H' : Hp} {σ : L2.St} {i j : Nat} {v w : V} {r1 r2 : R} (E : Env K dr H0 Hs H' σ δ s) (hA : ∀ (l : Nat) (a : Addr) (d : D), δ[l]? = some (.own a d) → H a ≠ none ∨ a ∈ ([] : List Addr)) (ext : Ext dr H0 H)
    (x1 : Res K H Hs H' v r1) (x2 : Res K H Hs H' w r2) (n12 : Apart r1 r2 v w) (e1 : ∃ q, Sto r1 q) (e2 : ∃ q, Sto r2 q) :
    ∃ q1 q2, Sto r1 q1 ∧ Sto r2 q2 ∧ Env K dr H0 Hs H' ((σ.set i (some v)).set j (some w)) ((δ.set i q1).set j q2) s := by
  obtain ⟨q1, t1, y1⟩ := pickS e1 x1
  obtain ⟨q2, t2, y2⟩ := pickS e2 x2
  obtain ⟨E1, hA1⟩ := E.set1 hA i x1 t1 (fun a d e => ⟨y1 a d e, by simp⟩) ext
  obtain ⟨E2, hA2⟩ := E1.set1 hA1 j x2 t2 (fun a d e => ⟨y2 a d e, fun m => by
    cases t1 with
    | sh d1 => simp [addrOf] at m
    | own b d1 =>
      cases t2 with
      | sh d2 => cases e
      | own c d2 =>
        cases e
        have : a = b := by simpa [addrOf] using m
        subst this
        exact n12 _ _ rfl rfl ((y1 _ _ rfl).trans (y2 _ _ rfl).symm)⟩) ext
  exact ⟨q1, q2, t1, t2, E2⟩
theorem sto3 {H0 Hs H H' : Hp} {σ : L2.St} {i j l : Nat} {v w u : V} {r1 r2 r3 : R} (E : Env K dr H0 Hs H' σ δ s) (hA : ∀ (l : Nat) (a : Addr) (d : D), δ[l]? = some (.own a d) → H a ≠ none ∨ a ∈ ([] : List Addr)) (ext : Ext dr H0 H)
    (x1 : Res K H Hs H' v r1) (x2 : Res K H Hs H' w r2) (x3 : Res K H Hs H' u r3) (n12 : Apart r1 r2 v w) (n13 : Apart r1 r3 v u) (n23 : Apart r2 r3 w u) (e1 : ∃ q, Sto r1 q) (e2 : ∃ q, Sto r2 q) (e3 : ∃ q, Sto r3 q) :
    ∃ q1 q2 q3, Sto r1 q1 ∧ Sto r2 q2 ∧ Sto r3 q3 ∧ Env K dr H0 Hs H' (((σ.set i (some v)).set j (some w)).set l (some u)) (((δ.set i q1).set j q2).set l q3) s := by
  obtain ⟨q1, t1, y1⟩ := pickS e1 x1
  obtain ⟨q2, t2, y2⟩ := pickS e2 x2
  obtain ⟨q3, t3, y3⟩ := pickS e3 x3
  obtain ⟨E1, hA1⟩ := E.set1 hA i x1 t1 (fun a d e => ⟨y1 a d e, by simp⟩) ext
  have ne : ∀ {r r' : R} {q q' : S} {v v' : V} {a : Addr} {d : D}, Sto r q → Sto r' q' → (∀ a d, q = .own a d → v = .ref a) → (∀ a d, q' = .own a d → v' = .ref a) → Apart r r' v v' → q' = .own a d → a ∉ addrOf q := fun {r r' q q' v v' a d} t t' y y' n e m => by
    cases t with
    | sh d1 => simp [addrOf] at m
    | own b d1 =>
      cases t' with
      | sh d2 => cases e
      | own c d2 =>
        cases e
        have : a = b := by simpa [addrOf] using m
        subst this
        exact n _ _ rfl rfl ((y _ _ rfl).trans (y' _ _ rfl).symm)
  obtain ⟨E2, hA2⟩ := E1.set1 hA1 j x2 t2 (fun a d e => ⟨y2 a d e, fun m => by
    rw [List.append_nil] at m
    exact ne t1 t2 y1 y2 n12 e m⟩) ext
  obtain ⟨E3, hA3⟩ := E2.set1 hA2 l x3 t3 (fun a d e => ⟨y3 a d e, fun m => by
    rw [List.append_nil] at m
    rcases List.mem_append.mp m with m | m
    · exact ne t2 t3 y2 y3 n23 e m
    · exact ne t1 t3 y1 y3 n13 e m⟩) ext
  exact ⟨q1, q2, q3, t1, t2, t3, E3⟩
/-- a, b, c = x, y, z -/
theorem ss_par3 {i j l : Nat} {ta tb tc : TE} {r1 r2 r3 : R} (ha : Se K dr ta δ s r1 s1) (hb : Se K dr tb δ s1 r2 s2) (hc : Se K dr tc δ s2 r3 s3) (e1 : ∃ q, Sto r1 q) (e2 : ∃ q, Sto r2 q) (e3 : ∃ q, Sto r3 q)
    (k : ∀ q1 q2 q3, Sto r1 q1 → Sto r2 q2 → Sto r3 q3 → O (.nx (((δ.set i q1).set j q2).set l q3) s3)) : SS K dr (tPar3 i j l (tCons ta (tCons tb (tCons tc tNil)))) δ s O := fun H0 Hs H σ E D p =>
  ha H0 Hs H σ E _ fun v Hs1 H1 E1 st1 x1 => hb H0 Hs1 H1 σ E1 _ fun w Hs2 H2 E2 st2 x2 => hc H0 Hs2 H2 σ E2 _ fun u Hs3 H3 E3 st3 x3 => by
    have z1 : Res K H Hs2 H2 v r1 := x1.keep E2 (fun a => E.ne_dr) st2
    have n12 := apart_of x1 x2
    have n13 : Apart r1 r3 v u := apart_of z1 x3
    have n23 := apart_of x2 x3
    obtain ⟨q1, q2, q3, t1, t2, t3, E4⟩ := sto3 (i := i) (j := j) (l := l) E3 (own_there E) E.ext (z1.keep E3 (fun a => E.ne_dr) st3) (Res.start st1.ext (x2.keep E3 (fun a => E1.ne_dr) st3)) (Res.start (st1.ext.trans st2.ext) x3) n12 n13 n23 e1 e2 e3
    exact ⟨v, w, u, rfl, p.nx _ _ (k q1 q2 q3 t1 t2 t3) _ _ _ ((st1.same.trans st2.same).trans st3.same) E4⟩
/-- the same where a name is captured: by a tuple -/
theorem ss_tas3 {i j l : Nat} {ta tb tc : TE} {r1 r2 r3 : R} (ha : Se K dr ta δ s r1 s1) (hb : Se K dr tb δ s1 r2 s2) (hc : Se K dr tc δ s2 r3 s3) (e1 : ∃ q, Sto r1 q) (e2 : ∃ q, Sto r2 q) (e3 : ∃ q, Sto r3 q)
    (k : ∀ q1 q2 q3, Sto r1 q1 → Sto r2 q2 → Sto r3 q3 → O (.nx (((δ.set i q1).set j q2).set l q3) s3)) : SS K dr (tAsg (tTup (tCons ta (tCons tb (tCons tc tNil)))) (gTup K 3 (gCons (gName i) (gCons (gName j) (gCons (gName l) gNil))))) δ s O := fun H0 Hs H σ E D p =>
  ha H0 Hs H σ E _ fun v Hs1 H1 E1 st1 x1 => hb H0 Hs1 H1 σ E1 _ fun w Hs2 H2 E2 st2 x2 => hc H0 Hs2 H2 σ E2 _ fun u Hs3 H3 E3 st3 x3 => ⟨by show 3 ≤ sizeLine; decide, fun t ht => by
    have z1 : Res K H Hs2 H2 v r1 := x1.keep E2 (fun a => E.ne_dr) st2
    have n12 := apart_of x1 x2
    have n13 : Apart r1 r3 v u := apart_of z1 x3
    have n23 := apart_of x2 x3
    obtain ⟨E4, st4, _⟩ := E3.newO ht (.tup [v, w, u])
    have st34 := st3.trans st4
    obtain ⟨q1, q2, q3, t1, t2, t3, E5⟩ := sto3 (i := i) (j := j) (l := l) E4 (own_there E) E.ext (z1.keep E4 (fun a => E.ne_dr) st34) (Res.start st1.ext (x2.keep E4 (fun a => E1.ne_dr) st34)) (Res.start (st1.ext.trans st2.ext) (x3.keep E4 (fun a => E2.ne_dr) st4)) n12 n13 n23 e1 e2 e3
    exact ⟨t, [v, w, u], rfl, .of upd_same, rfl, v, _, rfl, w, _, rfl, u, _, rfl, rfl, p.nx _ _ (k q1 q2 q3 t1 t2 t3) _ _ _ ((st1.same.trans st2.same).trans st3.same) E5⟩⟩
theorem ss_tas2 {i j : Nat} {ta tb : TE} {r1 r2 : R} (ha : Se K dr ta δ s r1 s1) (hb : Se K dr tb δ s1 r2 s2) (e1 : ∃ q, Sto r1 q) (e2 : ∃ q, Sto r2 q)
    (k : ∀ q1 q2, Sto r1 q1 → Sto r2 q2 → O (.nx ((δ.set i q1).set j q2) s2)) : SS K dr (tAsg (tTup (tCons ta (tCons tb tNil))) (gTup K 2 (gCons (gName i) (gCons (gName j) gNil)))) δ s O := fun H0 Hs H σ E D p =>
  ha H0 Hs H σ E _ fun v Hs1 H1 E1 st1 x1 => hb H0 Hs1 H1 σ E1 _ fun w Hs2 H2 E2 st2 x2 => ⟨by show 2 ≤ sizeLine; decide, fun t ht => by
    have n12 := apart_of x1 x2
    obtain ⟨E4, st4, _⟩ := E2.newO ht (.tup [v, w])
    obtain ⟨q1, q2, t1, t2, E5⟩ := sto2 (i := i) (j := j) E4 (own_there E) E.ext (x1.keep E4 (fun a => E.ne_dr) (st2.trans st4)) (Res.start st1.ext (x2.keep E4 (fun a => E1.ne_dr) st4)) n12 e1 e2
    exact ⟨t, [v, w], rfl, .of upd_same, rfl, v, _, rfl, w, _, rfl, rfl, p.nx _ _ (k q1 q2 t1 t2) _ _ _ (st1.same.trans st2.same) E5⟩⟩
/-- a value unpacked, or stored where a target says -/
theorem ss_asgG {d : D} {g : TG} {δ' : List S} (h : Se K dr te δ s (.sh d) s1) (hg : SG K dr g d δ δ') (k : O (.nx δ' s1)) : SS K dr (tAsg te g) δ s O := fun H0 Hs H σ E D p =>
  h H0 Hs H σ E _ fun v Hs1 H1 E1 st1 r1 => hg H0 Hs1 H1 σ s1 v E1 r1 _ fun σ' E' => p.nx _ _ k _ _ _ st1.same E'
theorem se_min2 {i j : Int} {tr : TA} (h : SeA K dr tr δ s [.int i, .int j] s1) : Se K dr (tCB (fun xs H Q => ∃ i j, xs = [.int i, .int j] ∧ Q (.int (if j < i then j else i)) H) tr) δ s (.sh (.int (if j < i then j else i))) s1 := fun H0 Hs H σ E Q q =>
  h H0 Hs H σ E _ fun vs Hs1 H1 E1 st1 r1 => by
    obtain ⟨v, r, e, h1, u, r', e', h2, e''⟩ := r1.full E1
    cases (show _ = _ from h1); cases (show _ = _ from h2); subst e e' e''
    exact ⟨i, j, rfl, q _ _ _ E1 st1 rfl⟩
/-- a dead place -/
theorem ss_dead {t : TS} (h : False) : SS K dr t δ s O := h.elim
/-- the same result both ways -/
theorem ss_ifB {tt : TT} {t u : TS} (b : Bool) (h : SeT K dr tt δ s b s1) (h1 : b = true → SS K dr t δ s1 O) (h2 : b = false → SS K dr u δ s1 O) : SS K dr (tIfS tt t u) δ s O := ss_if h h1 h2
end
end EL
/-! E8: lists by functions; comprehensions without state. -/
namespace EL
open PySem PySem.Spec L2
theorem lcAcc_eq (b : Nat → Bool) (e : Nat → D) : ∀ n, lcAcc b e n = ((List.range n).filter b).map e
  | 0 => rfl
  | n + 1 => by
    rw [List.range_succ, List.filter_append, List.map_append, ← lcAcc_eq b e n]
    show (if b n = true then _ else _) = _
    cases h : b n
    · simp [List.filter, h]
    · simp [List.filter, h]
theorem filter_tt {α : Type} (l : List α) : l.filter (fun _ => true) = l := by
  induction l with
  | nil => rfl
  | cons a l ih => rw [List.filter_cons_of_pos rfl, ih]
section
variable {K : Frag} {dr : Option Addr} {δ : List S} {s s1 : DS}
theorem se_lcP {wi : TI} {g : TG} {tt : TT} {te : TE} {vs : List Nat} {n : Nat} {it : Nat → D} {C : Nat → List S → DS → Prop} (b : Nat → Bool) (e : Nat → D) (δc : Nat → List S)
    (hi : SeI K dr wi δ s n it s C) (hC : ∀ i, C i δ s) (hg : ∀ i, i < n → SG K dr g (it i) (wipeS δ vs) (δc i)) (hw : GOwn g vs) (ht : ∀ i, i < n → SeT K dr tt (δc i) s (b i) s)
    (he : ∀ i, i < n → b i = true → Se K dr te (δc i) s (.sh (e i)) s) (hl : n < sizeLine) :
    Se K dr (tLc wi g tt te vs) δ s (.own (.lst (((List.range n).filter b).map e))) s := by
  rw [← lcAcc_eq]
  exact se_lc b e (fun _ => s) (fun _ => s) δc hi hC hg hw ht he (fun _ _ _ => rfl) hl
/-- no test -/
theorem se_lcM {wi : TI} {g : TG} {te : TE} {vs : List Nat} {n : Nat} {it : Nat → D} {C : Nat → List S → DS → Prop} (e : Nat → D) (δc : Nat → List S)
    (hi : SeI K dr wi δ s n it s C) (hC : ∀ i, C i δ s) (hg : ∀ i, i < n → SG K dr g (it i) (wipeS δ vs) (δc i)) (hw : GOwn g vs)
    (he : ∀ i, i < n → Se K dr te (δc i) s (.sh (e i)) s) (hl : n < sizeLine) :
    Se K dr (tLc wi g tYes te vs) δ s (.own (.lst ((List.range n).map e))) s := by
  have := se_lcP (K := K) (dr := dr) (δ := δ) (s := s) (tt := tYes) (te := te) (fun _ => true) e δc hi hC hg hw (fun _ _ => st_yes) (fun i h _ => he i h) hl
  rwa [filter_tt] at this
end
/-- a list of L numbers by a function -/
def fI (L : Nat) (f : Nat → Int) : List D := (List.range L).map fun t => .int (f t)
theorem fI_len {L : Nat} {f : Nat → Int} : (fI L f).length = L := by unfold fI; simp
theorem fI_get {L m : Nat} {f : Nat → Int} (h : m < L) : (fI L f)[m]? = some (.int (f m)) := by unfold fI; simp [h]
theorem fI_at {L m : Nat} {f : Nat → Int} {i : Int} (e : i = m) (h : m < L) : atI (fI L f) i = some (.int (f m)) := atI_of e (fI_get h)
theorem fI_set {L m : Nat} {f : Nat → Int} {x : Int} : (fI L f).set m (.int x) = fI L (fun t => if t = m then x else f t) := by
  apply List.ext_getElem?
  intro i
  rw [List.getElem?_set, fI_len]
  by_cases h : i < L
  · rw [fI_get h]
    by_cases e : m = i
    · subst e; rw [if_pos rfl, if_pos h, fI_get h, if_pos rfl]
    · rw [if_neg e, fI_get h, if_neg (fun z => e z.symm)]
  · have h1 : ∀ g : Nat → Int, (fI L g)[i]? = none := fun g => by rw [List.getElem?_eq_none]; rw [fI_len]; omega
    rw [h1, h1]
    by_cases e : m = i
    · rw [if_pos e, if_neg (by omega)]
    · rw [if_neg e]
theorem fI_congr {L : Nat} {f g : Nat → Int} (h : ∀ t, t < L → f t = g t) : fI L f = fI L g := by
  unfold fI
  apply List.map_congr_left
  intro a ha
  rw [h a (List.mem_range.mp ha)]
theorem fI_getD {L m : Nat} {f : Nat → Int} (h : m < L) : (fI L f).getD m .non = .int (f m) := by
  rw [List.getD_eq_getElem?_getD, fI_get h]; rfl
theorem fI_nats (l : List Nat) : (l.map fun (x : Nat) => D.int x) = fI l.length fun t => (l.getD t 0 : Nat) := by
  apply List.ext_getElem?
  intro i
  by_cases h : i < l.length
  · rw [fI_get h]; simp [h, List.getD_eq_getElem?_getD]
  · rw [List.getElem?_eq_none (by simp; omega), List.getElem?_eq_none (by rw [fI_len]; omega)]
theorem fI_map (L : Nat) (f : Nat → Nat) : fI L (fun t => (f t : Nat)) = ((List.range L).map f).map fun (x : Nat) => D.int x := by
  unfold fI; rw [List.map_map]; rfl
theorem fI_zero {L : Nat} : (List.replicate L [D.int 0]).flatten = fI L fun _ => 0 := by
  unfold fI
  induction L with
  | zero => rfl
  | succ L ih =>
    rw [List.replicate_succ', List.flatten_append, ih, List.range_succ, List.map_append]; rfl
theorem fI_cat {L M : Nat} {f : Nat → Int} : fI L f ++ fI M (fun _ => 0) = fI (L + M) fun t => if t < L then f t else 0 := by
  apply List.ext_getElem?
  intro i
  by_cases h : i < L
  · rw [List.getElem?_append_left (by rw [fI_len]; exact h), fI_get h, fI_get (by omega), if_pos h]
  · rw [List.getElem?_append_right (by rw [fI_len]; omega), fI_len]
    by_cases h2 : i < L + M
    · rw [fI_get h2, fI_get (by omega), if_neg h]
    · rw [List.getElem?_eq_none (by rw [fI_len]; omega), List.getElem?_eq_none (by rw [fI_len]; omega)]
end EL
/-! E9: dicts frozen, walked, made by comprehensions -/
namespace EL
open PySem PySem.Spec L2
/-- a dict just made, frozen for good -/
def tFrz (t : TE) : TE := fun σ H Q => t σ H fun v H1 => ∃ d kvs, v = .ref d ∧ H1 d = some (.dK kvs) ∧ ∀ od, Q v (upd H1 d (.frz od (.dK kvs)))
theorem pe_frz {X : Cx} {e : Expr} {t : TE} (h : PE X e t) : PE X e (tFrz t) := by
  refine ⟨fun pins s σ H Q I hw => ?_⟩
  refine thn (h.run pins s σ _ _ I hw) fun v s1 ⟨x, H1, I2, r, d, kvs, e2, hd, q⟩ => ?_
  obtain ⟨od, I3⟩ := I2.lock hd trivial
  exact ⟨x, _, I3, r, q od⟩
section
variable {K : Frag} {dr : Option Addr} {δ : List S} {s s1 s2 : DS} {t ta tb td ty : TE}
theorem se_frz {ks : List Key} {ds : List D} (h : Se K dr t δ s (.own (.dct ks ds)) s1) : Se K dr (tFrz t) δ s (.sh (.fdc ks ds)) s1 := fun H0 Hs H σ E Q q => h H0 Hs H σ E _ fun v Hs1 H1 E1 st1 r1 => by
  obtain ⟨a, o, e, n, hs, ho, vs, eo, l, t⟩ := r1
  subst e eo
  have nd := E.ne_dr n
  refine ⟨a, ks.zip vs, rfl, ho, fun od => ?_⟩
  have same : Same Hs1 (upd Hs1 a (.frz od (.dK (ks.zip vs)))) := fun b u e => by rw [upd_ne (ne_of_none e hs)]; exact e
  have st2 : Stp dr Hs H (upd Hs1 a (.frz od (.dK (ks.zip vs)))) (upd H1 a (.frz od (.dK (ks.zip vs)))) := ⟨fun b u e => by
      obtain ⟨g1, o1, g2⟩ := st1.ext b u e
      have z : b ≠ a := fun z => by subst z; rw [n] at e; cases e
      rw [upd_ne z]; exact ⟨g1, o1, g2⟩, st1.same.trans same, fun b u e => by
    by_cases z : b = a
    · subst z; exact .inr (.inl n)
    · rw [upd_ne z] at e; exact st1.grow b u e⟩
  have E2 : Env K dr H0 (upd Hs1 a (.frz od (.dK (ks.zip vs)))) (upd H1 a (.frz od (.dK (ks.zip vs)))) σ δ s1 := E.stp st2 (fun b u e => by
    by_cases z : b = a
    · subst z; rw [upd_same] at e; rw [hm_ne nd, upd_same]; exact e
    · rw [upd_ne z] at e
      have := hm_some (E1.sub b u e)
      rw [hm_ne this.1, upd_ne z]; exact this.2) fun c z => (E1.drw c z).same same (by rw [upd_ne]; intro y; subst y; exact nd z)
  exact q _ _ _ E2 st2 ⟨a, vs, od, rfl, upd_same, l, t.same same⟩
/-- the frozen dict's keys, one after another -/
def keyD : Key → D
  | .inl i => .int i
  | .inr x => .str x
theorem T_key {H : Hp} (k : Key) : T K H (keyD k) (kV k) := by cases k <;> rfl
theorem si_keys {ks : List Key} {ds : List D} (h : Se K dr t δ s (.sh (.fdc ks ds)) s1) : SeI K dr (iKeys t) δ s ks.length (fun i => (ks.map keyD).getD i .non) s1 CTrue := fun H0 Hs H σ E R q =>
  h H0 Hs H σ E _ fun v Hs1 H1 E1 st1 r1 => by
    obtain ⟨a, vs, o, e, h1, hl, h2⟩ := r1
    have hz : (ks.zip vs).length = ks.length := by rw [List.length_zip, hl, Nat.min_self]
    refine ⟨a, o, e, .inl ⟨ks.zip vs, E1.toH _ _ h1, q _ Hs1 H1 E1 st1 fun I _ i δ' s' Hs2 H2 σ2 _ hi E2 sm => ?_⟩⟩
    have h3 : H2 a = some (.frz o (.dK (ks.zip vs))) := E2.toH _ _ (sm _ _ h1)
    refine ⟨fun hn => ⟨h3, by rw [hz]; omega⟩, fun hn => ⟨⟨h3, by rw [hz]; exact hn⟩, fun x Hx y => ?_⟩⟩
    obtain ⟨e1, k, w, hk, e2⟩ := y
    subst e1 e2
    refine .inl ⟨rfl, ?_⟩
    rw [List.getElem?_zip_eq_some] at hk
    show T K Hs2 ((ks.map keyD).getD i .non) _
    rw [List.getD_eq_getElem?_getD, List.getElem?_map, hk.1]
    exact T_key k
def dcK (kf : Nat → Key) : Nat → List Key
  | 0 => []
  | i + 1 => putKs (dcK kf i) (kf i)
def dcD (kf : Nat → Key) (ef : Nat → D) : Nat → List D
  | 0 => []
  | i + 1 => putDs (dcK kf i) (dcD kf ef i) (kf i) (ef i)
theorem putKs_len : ∀ (ks : List Key) (k : Key), (putKs ks k).length ≤ ks.length + 1
  | [], k => Nat.le_refl _
  | k' :: ks, k => by
    unfold putKs
    by_cases z : k' = k
    · rw [if_pos z]; exact Nat.le_succ _
    · rw [if_neg z, List.length_cons, List.length_cons]; have := putKs_len ks k; omega
theorem dcK_len (kf : Nat → Key) : ∀ i, (dcK kf i).length ≤ i
  | 0 => Nat.le_refl _
  | i + 1 => Nat.le_trans (putKs_len _ _) (by have := dcK_len kf i; omega)
theorem dcK_nodup (kf : Nat → Key) : ∀ i, (dcK kf i).Nodup
  | 0 => List.nodup_nil
  | i + 1 => putKs_nodup (dcK_nodup kf i)
theorem keepK {Hs H Hs' H' : Hp} {a : Addr} {acc : List (Key × V)} (st : Stp dr Hs H Hs' H') (sub : Same Hs' (hm dr H')) (n : dr ≠ some a) (h1 : Hs a = none) (h2 : H a = some (.dK acc)) : Hs' a = none ∧ H' a = some (.dK acc) := by
  have h3 := (st.ext a _ h2).1 n
  refine ⟨?_, h3⟩
  cases z : Hs' a with
  | none => rfl
  | some u =>
    exfalso
    have e1 := (hm_some (sub a u z)).2
    rw [h3] at e1; cases e1
    rcases st.grow a _ z with g | g | g
    · rw [h1] at g; cases g
    · rw [h2] at g; cases g
    · simp [isT] at g
theorem T.keyV {H : Hp} {k : Key} {v : V} (h : T K H (keyD k) v) : v = kV k := by cases k <;> exact h
theorem se_dc {wi : TI} {g : TG} {tk tv : TE} {vs : List Nat} {n : Nat} {it : Nat → D} {C : Nat → List S → DS → Prop} (kf : Nat → Key) (ef : Nat → D) (δc : Nat → List S)
    (hi : SeI K dr wi δ s n it s C) (hC : ∀ i, C i δ s) (hg : ∀ i, i < n → SG K dr g (it i) (wipeS δ vs) (δc i)) (hw : GOwn g vs)
    (hk : ∀ i, i < n → Se K dr tk (δc i) s (.sh (keyD (kf i))) s) (he : ∀ i, i < n → Se K dr tv (δc i) s (.sh (ef i)) s) (hl : n < sizeLine) :
    Se K dr (tDc wi g tYes tk tv vs) δ s (.own (.dct (dcK kf n) (dcD kf ef n))) s := fun H0 Hs H σ E Q q =>
  hi H0 Hs H σ E _ fun J Hs1 H1 E1 st1 hJ Dd hD => by
    have nd := E1.ne_dr hD
    have hDH : H Dd = none := st1.ext.free hD
    have hD0 : H0 Dd = none := E1.ext.free hD
    have no : ∀ (i : Nat) (d : D), δ[i]? ≠ some (.own Dd d) := fun i d z => by
      obtain ⟨_, _, _, o, ho, _⟩ := E1.slot i _ z
      rw [hD] at ho; cases ho
    have jok := hJ (fun i δ' s' => s' = s ∧ δ' = δ) fun i δ' s' h => by obtain ⟨rfl, rfl⟩ := h; exact hC i
    refine ⟨fun i m Hc => m = n - i ∧ i ≤ n ∧ ∃ Hsc ws, Env K dr H0 Hsc Hc σ δ s ∧ Same Hs1 Hsc ∧ Stp dr Hs H Hsc Hc ∧ Hsc Dd = none ∧ Hc Dd = some (.dK ((dcK kf i).zip ws)) ∧ (dcK kf i).length = ws.length ∧ Ts K Hsc (dcD kf ef i) ws, ⟨n, by simp, Nat.zero_le _, Hs1, [], ?_⟩, ?_⟩
    · obtain ⟨E2, st2, hs2⟩ := E1.newO hD (.dK [])
      exact ⟨E2, L2.Same.refl _, st1.trans st2, hs2, upd_same, rfl, rfl⟩
    rintro i m Hc ⟨rfl, hin, Hsc, ws, Ec, sc, stc, hsD, hcD, hlen, tacc⟩
    obtain ⟨j1, j2⟩ := jok i δ s Hsc Hc σ ⟨rfl, rfl⟩ hin Ec sc
    by_cases hlt : i < n
    · obtain ⟨g1, g2⟩ := j2 hlt
      let Nx : Hp → Prop := fun Hc' => i + 1 ≤ n ∧ ∃ Hsc ws, Env K dr H0 Hsc Hc' σ δ s ∧ Same Hs1 Hsc ∧ Stp dr Hs H Hsc Hc' ∧ Hsc Dd = none ∧ Hc' Dd = some (.dK ((dcK kf (i + 1)).zip ws)) ∧ (dcK kf (i + 1)).length = ws.length ∧ Ts K Hsc (dcD kf ef (i + 1)) ws
      refine .inr ⟨g1, Nx, fun Hc' z => ⟨n - (i + 1), by omega, rfl, z.1, z.2⟩, fun x Hx y => ?_⟩
      let fin : L2.St → Hp → Prop := fun σ2 H2 => tYes σ2 H2 fun b' H3 => if b' = true then tk σ2 H3 fun y H4 => tv σ2 H4 fun z H5 => ∃ kvs k, y = kV k ∧ H5 Dd = some (.dK kvs) ∧ kvs.length < sizeLine ∧ Nx (upd H5 Dd (.dK (putK kvs k z))) else Nx H3
      have go : ∀ Hsx, Env K dr H0 Hsx Hx σ δ s → Stp dr Hsc Hc Hsx Hx → T K Hsx (it i) x → g x (L2.wipe σ vs) Hx fun σ2 H2 => L2.wipe σ2 vs = L2.wipe σ vs ∧ fin σ2 H2 := by
        intro Hsx Ex stx tx
        obtain ⟨hxs, hxD⟩ := keepK stx Ex.sub nd hsD hcD
        have main := hg i hlt H0 Hsx Hx (L2.wipe σ vs) s x (Ex.wiped vs) tx fin fun σ2 E2 => by
            show tYes σ2 Hx _
            refine (st_yes (K := K) (dr := dr) (δ := δc i) (s := s)) H0 Hsx Hx σ2 E2 _ fun Hs3 H3 E3 st3 => ?_
            obtain ⟨h3s, h3D⟩ := keepK st3 E3.sub nd hxs hxD
            rw [if_pos rfl]
            refine hk i hlt H0 Hs3 H3 σ2 E3 _ fun y Hs4 H4 E4 st4 r4 => ?_
            obtain ⟨h4s, h4D⟩ := keepK st4 E4.sub nd h3s h3D
            refine he i hlt H0 Hs4 H4 σ2 E4 _ fun z Hs5 H5 E5 st5 r5 => ?_
            obtain ⟨h5s, h5D⟩ := keepK st5 E5.sub nd h4s h4D
            have st35 := (st3.trans st4).trans st5
            have E6 : Env K dr H0 Hs5 H5 σ δ s := Ex.stp st35 E5.sub E5.drw
            obtain ⟨us, e1, e2, e3⟩ := put_zip (k := kf i) r5 (dcK_nodup kf i) hlen (tacc.same (stx.same.trans st35.same))
            refine ⟨_, kf i, T.keyV r4, h5D, ?_, hlt, Hs5, us, E6.updD hD0 h5s nd no, (sc.trans stx.same).trans st35.same, ((stc.trans stx).trans st35).updD hDH, h5s, ?_, e2, e3⟩
            · rw [List.length_zip, hlen, Nat.min_self, ← hlen]
              exact Nat.lt_of_le_of_lt (Nat.le_trans (dcK_len kf i) hin) hl
            · rw [upd_same, e1]; rfl
        have r := hw x (L2.wipe σ vs) Hx _ main
        rw [wipe_idem] at r
        exact r
      rcases g2 x Hx y with ⟨e1, t⟩ | ⟨p, ws', hp, e1, t⟩
      · subst e1; exact go Hsc Ec .refl t
      · subst e1
        obtain ⟨E', st⟩ := Ec.newS hp (.tup ws')
        exact go _ E' st t
    · have e1 : i = n := by omega
      subst e1
      exact .inl ⟨j1 (Nat.le_refl _), q _ _ _ Ec stc ⟨Dd, _, rfl, hDH, hsD, hcD, ws, rfl, hlen, tacc⟩⟩
end
end EL
/-! M0: numbers in base p are polynomials: figures are coefficients. -/
namespace M
/-- the i-th figure -/
def cf (p n i : Nat) : Nat := n / p ^ i % p
def dgF (p : Nat) : Nat → Nat → List Nat
  | 0, _ => []
  | f + 1, n => if n = 0 then [] else n % p :: dgF p f (n / p)
/-- figures, that of least worth first -/
def dg (p n : Nat) : List Nat := dgF p n n
/-- the number of a row -/
def nv (p : Nat) : List Nat → Nat
  | [] => 0
  | c :: l => c + p * nv p l
def len (p n : Nat) : Nat := (dg p n).length
section
variable {p : Nat}
theorem div_lt (hp : 2 ≤ p) {n : Nat} (h : n ≠ 0) : n / p < n := Nat.div_lt_self (Nat.pos_of_ne_zero h) hp
/-- induction by figures -/
theorem ind (hp : 2 ≤ p) {P : Nat → Prop} (h0 : P 0) (h : ∀ c x, c < p → P x → P (c + p * x)) (n : Nat) : P n := by
  induction n using Nat.strongRecOn with
  | ind n ih =>
    by_cases e : n = 0
    · subst e; exact h0
    · have := h (n % p) (n / p) (Nat.mod_lt _ (by omega)) (ih _ (div_lt hp e))
      rwa [Nat.mod_add_div] at this
theorem dgF_eq (hp : 2 ≤ p) : ∀ f n, n ≤ f → ∀ g, n ≤ g → dgF p f n = dgF p g n
  | 0, n, h, g, _ => by
    have : n = 0 := by omega
    subst this
    cases g <;> simp [dgF]
  | f + 1, n, h, 0, h' => by
    have : n = 0 := by omega
    subst this
    simp [dgF]
  | f + 1, n, h, g + 1, h' => by
    unfold dgF
    by_cases e : n = 0
    · simp [e]
    · rw [if_neg e, if_neg e]
      have := div_lt hp e
      rw [dgF_eq hp f (n / p) (by omega) g (by omega)]
theorem dg_zero : dg p 0 = [] := rfl
theorem dg_pos (hp : 2 ≤ p) {n : Nat} (h : n ≠ 0) : dg p n = n % p :: dg p (n / p) := by
  unfold dg
  cases n with
  | zero => exact absurd rfl h
  | succ n =>
    show (if n + 1 = 0 then [] else (n + 1) % p :: dgF p n ((n + 1) / p)) = _
    rw [if_neg h]
    have := div_lt hp h
    rw [dgF_eq hp n ((n + 1) / p) (by omega) ((n + 1) / p) (Nat.le_refl _)]
theorem cons_mod (hp : 2 ≤ p) {c x : Nat} (h : c < p) : (c + p * x) % p = c := by
  rw [Nat.add_mul_mod_self_left, Nat.mod_eq_of_lt h]
theorem cons_div (hp : 2 ≤ p) {c x : Nat} (h : c < p) : (c + p * x) / p = x := by
  rw [Nat.add_mul_div_left _ _ (by omega), Nat.div_eq_of_lt h, Nat.zero_add]
theorem cons_ne (hp : 2 ≤ p) {c x : Nat} (h : c ≠ 0 ∨ x ≠ 0) : c + p * x ≠ 0 := by
  intro e
  have h1 : c = 0 := by omega
  have h2 : p * x = 0 := by omega
  rcases Nat.mul_eq_zero.mp h2 with z | z
  · omega
  · rcases h with h | h
    · exact h h1
    · exact h z
theorem dg_cons (hp : 2 ≤ p) {c x : Nat} (h : c < p) (h0 : c ≠ 0 ∨ x ≠ 0) : dg p (c + p * x) = c :: dg p x := by
  rw [dg_pos hp (cons_ne hp h0), cons_mod hp h, cons_div hp h]
theorem nv_dg (hp : 2 ≤ p) (n : Nat) : nv p (dg p n) = n := by
  refine ind hp (P := fun n => nv p (dg p n) = n) rfl (fun c x hc ih => ?_) n
  by_cases e : c ≠ 0 ∨ x ≠ 0
  · rw [dg_cons hp hc e]; show c + p * nv p (dg p x) = _; rw [ih]
  · have e1 : c = 0 := by omega
    have e2 : x = 0 := by omega
    subst e1 e2; rfl
theorem dg_lt (hp : 2 ≤ p) (n : Nat) : ∀ c ∈ dg p n, c < p := by
  refine ind hp (P := fun n => ∀ c ∈ dg p n, c < p) (by simp [dg_zero]) (fun c x hc ih => ?_) n
  by_cases e : c ≠ 0 ∨ x ≠ 0
  · rw [dg_cons hp hc e]
    intro d hd
    rcases List.mem_cons.mp hd with rfl | hd
    · exact hc
    · exact ih d hd
  · have e1 : c = 0 := by omega
    have e2 : x = 0 := by omega
    subst e1 e2; simp [dg_zero]
/-- noughts at the end cut -/
def trim : List Nat → List Nat
  | [] => []
  | c :: l => if c = 0 ∧ trim l = [] then [] else c :: trim l
theorem dg_nv (hp : 2 ≤ p) : ∀ l : List Nat, (∀ c ∈ l, c < p) → dg p (nv p l) = trim l
  | [], _ => rfl
  | c :: l, h => by
    have ih := dg_nv hp l fun d hd => h d (List.mem_cons_of_mem _ hd)
    have hc := h c List.mem_cons_self
    show dg p (c + p * nv p l) = if c = 0 ∧ trim l = [] then [] else c :: trim l
    by_cases e : c ≠ 0 ∨ nv p l ≠ 0
    · rw [dg_cons hp hc e, ih, if_neg]
      rintro ⟨z, y⟩
      rcases e with e | e
      · exact e z
      · rw [y] at ih
        have := nv_dg hp (nv p l)
        rw [ih] at this
        exact e this.symm
    · have e1 : c = 0 := by omega
      have e2 : nv p l = 0 := by omega
      rw [e2] at ih ⊢
      subst e1
      rw [if_pos ⟨rfl, ih.symm⟩]; rfl
theorem trim_dg (hp : 2 ≤ p) (n : Nat) : trim (dg p n) = dg p n := by
  rw [← dg_nv hp (dg p n) (dg_lt hp n), nv_dg hp]
theorem len_zero : len p 0 = 0 := rfl
theorem len_pos (hp : 2 ≤ p) {n : Nat} (h : n ≠ 0) : len p n = len p (n / p) + 1 := by
  unfold len; rw [dg_pos hp h]; rfl
theorem len_cons (hp : 2 ≤ p) {c x : Nat} (h : c < p) (h0 : c ≠ 0 ∨ x ≠ 0) : len p (c + p * x) = len p x + 1 := by
  unfold len; rw [dg_cons hp h h0]; rfl
theorem len_eq_zero (hp : 2 ≤ p) {n : Nat} : len p n = 0 ↔ n = 0 := by
  constructor
  · intro h
    by_cases e : n = 0
    · exact e
    · rw [len_pos hp e] at h; omega
  · rintro rfl; rfl
/-! ### figures by places -/
theorem cf_zero (i : Nat) : cf p 0 i = 0 := by unfold cf; rw [Nat.zero_div, Nat.zero_mod]
theorem cf_lt (hp : 2 ≤ p) (n i : Nat) : cf p n i < p := Nat.mod_lt _ (by omega)
theorem cf_0 (n : Nat) : cf p n 0 = n % p := by unfold cf; rw [Nat.pow_zero, Nat.div_one]
theorem cf_succ (n i : Nat) : cf p n (i + 1) = cf p (n / p) i := by
  unfold cf; rw [Nat.pow_succ, Nat.mul_comm, Nat.div_div_eq_div_mul]
theorem cf_cons0 (hp : 2 ≤ p) {c x : Nat} (h : c < p) : cf p (c + p * x) 0 = c := by rw [cf_0, cons_mod hp h]
theorem cf_consS (hp : 2 ≤ p) {c x : Nat} (h : c < p) (i : Nat) : cf p (c + p * x) (i + 1) = cf p x i := by rw [cf_succ, cons_div hp h]
theorem ext (hp : 2 ≤ p) {a b : Nat} (h : ∀ i, cf p a i = cf p b i) : a = b := by
  revert b
  refine ind hp (P := fun a => ∀ {b}, (∀ i, cf p a i = cf p b i) → a = b) ?_ ?_ a
  · intro b
    refine ind hp (P := fun b => (∀ i, cf p 0 i = cf p b i) → 0 = b) (fun _ => rfl) (fun c x hc ih h => ?_) b
    have h0 := h 0
    rw [cf_zero, cf_cons0 hp hc] at h0
    have := ih fun i => by have := h (i + 1); rw [cf_zero, cf_consS hp hc] at this; rw [cf_zero]; exact this
    rw [← h0, ← this]; simp
  · intro c x hc ih b h
    have e : b = b % p + p * (b / p) := (Nat.mod_add_div b p).symm
    have h0 := h 0
    rw [cf_cons0 hp hc, cf_0] at h0
    have := ih (b := b / p) fun i => by have := h (i + 1); rw [cf_consS hp hc, cf_succ] at this; exact this
    rw [e, ← h0, ← this]
theorem dg_getD (hp : 2 ≤ p) (n i : Nat) : (dg p n).getD i 0 = cf p n i := by
  revert i
  refine ind hp (P := fun n => ∀ i, (dg p n).getD i 0 = cf p n i) (fun i => by rw [dg_zero, cf_zero]; rfl) (fun c x hc ih i => ?_) n
  by_cases e : c ≠ 0 ∨ x ≠ 0
  · rw [dg_cons hp hc e]
    cases i with
    | zero => rw [cf_cons0 hp hc]; rfl
    | succ i => rw [cf_consS hp hc, ← ih i]; rfl
  · have e1 : c = 0 := by omega
    have e2 : x = 0 := by omega
    subst e1 e2; rw [show 0 + p * 0 = 0 by simp, dg_zero, cf_zero]; rfl
theorem cf_nv (hp : 2 ≤ p) : ∀ (l : List Nat) (i : Nat), (∀ c ∈ l, c < p) → cf p (nv p l) i = l.getD i 0
  | [], i, _ => by show cf p 0 i = _; rw [cf_zero]; rfl
  | c :: l, 0, h => by
    show cf p (c + p * nv p l) 0 = c
    rw [cf_cons0 hp (h c List.mem_cons_self)]
  | c :: l, i + 1, h => by
    show cf p (c + p * nv p l) (i + 1) = l.getD i 0
    rw [cf_consS hp (h c List.mem_cons_self), cf_nv hp l i fun d hd => h d (List.mem_cons_of_mem _ hd)]
theorem cf_ge (hp : 2 ≤ p) {n i : Nat} (h : len p n ≤ i) : cf p n i = 0 := by
  rw [← dg_getD hp, List.getD_eq_getElem?_getD, List.getElem?_eq_none h]; rfl
theorem dg_get (hp : 2 ≤ p) {n i : Nat} (h : i < len p n) : (dg p n)[i]? = some (cf p n i) := by
  rw [← dg_getD hp, List.getD_eq_getElem?_getD, List.getElem?_eq_getElem h]; rfl
theorem lead_ne (hp : 2 ≤ p) {n : Nat} (h : n ≠ 0) : cf p n (len p n - 1) ≠ 0 := by
  revert h
  refine ind hp (P := fun n => n ≠ 0 → cf p n (len p n - 1) ≠ 0) (fun h => absurd rfl h) (fun c x hc ih h => ?_) n
  have e : c ≠ 0 ∨ x ≠ 0 := by
    rcases Nat.eq_zero_or_pos c with z | z
    · right; intro y; subst z y; exact h (by simp)
    · left; omega
  rw [len_cons hp hc e, Nat.add_sub_cancel]
  by_cases hx : x = 0
  · subst hx
    rw [len_zero, cf_cons0 hp hc]
    rcases e with e | e
    · exact e
    · exact absurd rfl e
  · have hl : len p x ≠ 0 := fun z => hx ((len_eq_zero hp).mp z)
    have : len p x = (len p x - 1) + 1 := by omega
    rw [this, cf_consS hp hc]
    exact ih hx
theorem len_le_of (hp : 2 ≤ p) {n k : Nat} (h : ∀ i, k ≤ i → cf p n i = 0) : len p n ≤ k := by
  by_cases e : n = 0
  · subst e; rw [len_zero]; omega
  · have := lead_ne hp e
    rcases Nat.lt_or_ge k (len p n) with z | z
    · exact absurd (h (len p n - 1) (by omega)) this
    · exact z
theorem lt_pow_len (hp : 2 ≤ p) (n : Nat) : n < p ^ len p n := by
  refine ind hp (P := fun n => n < p ^ len p n) (by rw [len_zero]; simp) (fun c x hc ih => ?_) n
  by_cases e : c ≠ 0 ∨ x ≠ 0
  · rw [len_cons hp hc e, Nat.pow_succ]
    calc c + p * x < p + p * x := by omega
      _ = p * (x + 1) := by rw [Nat.mul_add, Nat.mul_one, Nat.add_comm]
      _ ≤ p * p ^ len p x := Nat.mul_le_mul_left _ ih
      _ = _ := Nat.mul_comm _ _
  · have e1 : c = 0 := by omega
    have e2 : x = 0 := by omega
    subst e1 e2; rw [show 0 + p * 0 = 0 by simp, len_zero]; simp
theorem pow_len_le (hp : 2 ≤ p) {n : Nat} (h : n ≠ 0) : p ^ (len p n - 1) ≤ n := by
  revert h
  refine ind hp (P := fun n => n ≠ 0 → p ^ (len p n - 1) ≤ n) (fun h => absurd rfl h) (fun c x hc ih h => ?_) n
  have e : c ≠ 0 ∨ x ≠ 0 := by
    rcases Nat.eq_zero_or_pos c with z | z
    · right; intro y; subst z y; exact h (by simp)
    · left; omega
  rw [len_cons hp hc e, Nat.add_sub_cancel]
  by_cases hx : x = 0
  · subst hx
    rw [len_zero]; simp; omega
  · have hl : len p x ≠ 0 := fun z => hx ((len_eq_zero hp).mp z)
    have : len p x = (len p x - 1) + 1 := by omega
    rw [this, Nat.pow_succ]
    calc p ^ (len p x - 1) * p ≤ x * p := Nat.mul_le_mul_right _ (ih hx)
      _ = p * x := Nat.mul_comm _ _
      _ ≤ _ := Nat.le_add_left _ _
theorem len_le_iff (hp : 2 ≤ p) {n k : Nat} : len p n ≤ k ↔ n < p ^ k := by
  constructor
  · intro h; exact Nat.lt_of_lt_of_le (lt_pow_len hp n) (Nat.pow_le_pow_right (by omega) h)
  · intro h
    by_cases e : n = 0
    · subst e; rw [len_zero]; omega
    · rcases Nat.lt_or_ge k (len p n) with z | z
      · have h1 := pow_len_le hp e
        have h2 : p ^ k ≤ p ^ (len p n - 1) := Nat.pow_le_pow_right (by omega) (by omega)
        omega
      · exact z
end
end M
/-! M1: sums, products: a commutative ring. -/
namespace M
def addF (p : Nat) : Nat → Nat → Nat → Nat
  | 0, _, _ => 0
  | f + 1, a, b => if a = 0 then b else if b = 0 then a else (a % p + b % p) % p + p * addF p f (a / p) (b / p)
/-- without carries: the sum, a figure times a number, the product, the difference -/
def padd (p a b : Nat) : Nat := addF p (a + 1) a b
def sclF (p c : Nat) : Nat → Nat → Nat
  | 0, _ => 0
  | f + 1, a => if a = 0 then 0 else c * (a % p) % p + p * sclF p c f (a / p)
def scl (p c a : Nat) : Nat := sclF p c a a
def mulF (p : Nat) : Nat → Nat → Nat → Nat
  | 0, _, _ => 0
  | f + 1, a, b => if a = 0 then 0 else padd p (scl p (a % p) b) (p * mulF p f (a / p) b)
def pmul (p a b : Nat) : Nat := mulF p a a b
def pneg (p a : Nat) : Nat := scl p (p - 1) a
def psub (p a b : Nat) : Nat := padd p a (pneg p b)
section
variable {p : Nat}
theorem addF_eq (hp : 2 ≤ p) : ∀ f a b, a < f → ∀ g, a < g → addF p f a b = addF p g a b
  | 0, a, b, h, g, _ => by omega
  | f + 1, a, b, h, 0, h' => by omega
  | f + 1, a, b, h, g + 1, h' => by
    unfold addF
    by_cases e : a = 0
    · rw [if_pos e, if_pos e]
    · have := div_lt hp e
      rw [if_neg e, if_neg e, addF_eq hp f (a / p) (b / p) (by omega) g (by omega)]
theorem zero_padd (b : Nat) : padd p 0 b = b := by unfold padd addF; rw [if_pos rfl]
theorem padd_zero (a : Nat) : padd p a 0 = a := by
  unfold padd addF
  by_cases e : a = 0
  · rw [if_pos e, e]
  · rw [if_neg e, if_pos rfl]
theorem padd_eq (hp : 2 ≤ p) (a b : Nat) : padd p a b = (a % p + b % p) % p + p * padd p (a / p) (b / p) := by
  by_cases e : a = 0
  · subst e
    rw [zero_padd, Nat.zero_mod, Nat.zero_div, zero_padd, Nat.zero_add, Nat.mod_mod, Nat.mod_add_div]
  · by_cases e' : b = 0
    · subst e'
      rw [padd_zero, Nat.zero_mod, Nat.zero_div, padd_zero, Nat.add_zero, Nat.mod_mod, Nat.mod_add_div]
    · have := div_lt hp e
      show (if a = 0 then b else if b = 0 then a else _) = _
      rw [if_neg e, if_neg e', addF_eq hp a (a / p) (b / p) (by omega) (a / p + 1) (by omega)]
      rfl
theorem padd_cons (hp : 2 ≤ p) {c d x y : Nat} (hc : c < p) (hd : d < p) : padd p (c + p * x) (d + p * y) = (c + d) % p + p * padd p x y := by
  rw [padd_eq hp, cons_mod hp hc, cons_mod hp hd, cons_div hp hc, cons_div hp hd]
theorem mod_lt' (hp : 2 ≤ p) (c : Nat) : c % p < p := Nat.mod_lt _ (by omega)
/-- two at once -/
theorem ind2 (hp : 2 ≤ p) {P : Nat → Nat → Prop} (h0 : ∀ b, P 0 b) (h0' : ∀ a, P a 0) (h : ∀ c d x y, c < p → d < p → P x y → P (c + p * x) (d + p * y)) (a b : Nat) : P a b := by
  revert b
  refine ind hp (P := fun a => ∀ b, P a b) h0 (fun c x hc ih b => ?_) a
  by_cases e : b = 0
  · subst e; exact h0' _
  · have := h c (b % p) x (b / p) hc (mod_lt' hp b) (ih _)
    rwa [Nat.mod_add_div] at this
theorem padd_comm (hp : 2 ≤ p) (a b : Nat) : padd p a b = padd p b a := by
  refine ind2 hp (P := fun a b => padd p a b = padd p b a) (fun b => by rw [zero_padd, padd_zero]) (fun a => by rw [zero_padd, padd_zero]) (fun c d x y hc hd ih => ?_) a b
  rw [padd_cons hp hc hd, padd_cons hp hd hc, ih, Nat.add_comm c d]
theorem padd_assoc (hp : 2 ≤ p) (a b c : Nat) : padd p (padd p a b) c = padd p a (padd p b c) := by
  revert c
  refine ind2 hp (P := fun a b => ∀ c, padd p (padd p a b) c = padd p a (padd p b c)) (fun b c => by rw [zero_padd, zero_padd]) (fun a c => by rw [padd_zero, zero_padd]) (fun c d x y hc hd ih z => ?_) a b
  have e : z = z % p + p * (z / p) := (Nat.mod_add_div z p).symm
  rw [e, padd_cons hp hc hd, padd_cons hp (mod_lt' hp _) (mod_lt' hp z), padd_cons hp hd (mod_lt' hp z), padd_cons hp hc (mod_lt' hp _), ih]
  congr 1
  rw [Nat.mod_add_mod, Nat.add_assoc, Nat.add_mod_mod]
/-! ### a figure times a number -/
theorem sclF_eq (hp : 2 ≤ p) {c : Nat} : ∀ f a, a ≤ f → ∀ g, a ≤ g → sclF p c f a = sclF p c g a
  | 0, a, h, g, _ => by
    have : a = 0 := by omega
    subst this
    cases g <;> simp [sclF]
  | f + 1, a, h, 0, h' => by
    have : a = 0 := by omega
    subst this
    simp [sclF]
  | f + 1, a, h, g + 1, h' => by
    unfold sclF
    by_cases e : a = 0
    · rw [if_pos e, if_pos e]
    · have := div_lt hp e
      rw [if_neg e, if_neg e, sclF_eq hp f (a / p) (by omega) g (by omega)]
theorem scl_zero (c : Nat) : scl p c 0 = 0 := rfl
theorem scl_eq (hp : 2 ≤ p) (c a : Nat) : scl p c a = c * (a % p) % p + p * scl p c (a / p) := by
  by_cases e : a = 0
  · subst e
    rw [Nat.zero_mod, Nat.zero_div, scl_zero]; simp
  · have := div_lt hp e
    unfold scl
    have h : sclF p c a a = sclF p c ((a - 1) + 1) a := sclF_eq hp _ _ (Nat.le_refl _) _ (by omega)
    rw [h]
    show (if a = 0 then 0 else _) = _
    rw [if_neg e, sclF_eq hp (a - 1) (a / p) (by omega) (a / p) (Nat.le_refl _)]
theorem scl_cons (hp : 2 ≤ p) {c d x : Nat} (hd : d < p) : scl p c (d + p * x) = c * d % p + p * scl p c x := by
  rw [scl_eq hp, cons_mod hp hd, cons_div hp hd]
theorem zero_scl (hp : 2 ≤ p) (a : Nat) : scl p 0 a = 0 := by
  refine ind hp (P := fun a => scl p 0 a = 0) rfl (fun c x hc ih => ?_) a
  rw [scl_cons hp hc, ih]; simp
theorem one_scl (hp : 2 ≤ p) (a : Nat) : scl p 1 a = a := by
  refine ind hp (P := fun a => scl p 1 a = a) rfl (fun c x hc ih => ?_) a
  rw [scl_cons hp hc, ih, Nat.one_mul, Nat.mod_eq_of_lt hc]
theorem scl_mod (hp : 2 ≤ p) (c a : Nat) : scl p (c % p) a = scl p c a := by
  refine ind hp (P := fun a => scl p (c % p) a = scl p c a) rfl (fun d x hd ih => ?_) a
  rw [scl_cons hp hd, scl_cons hp hd, ih, Nat.mod_mul_mod]
theorem scl_scl (hp : 2 ≤ p) (c d a : Nat) : scl p c (scl p d a) = scl p (c * d) a := by
  refine ind hp (P := fun a => scl p c (scl p d a) = scl p (c * d) a) rfl (fun e x he ih => ?_) a
  rw [scl_cons hp he, scl_cons hp he, scl_cons hp (mod_lt' hp _), ih, Nat.mul_mod_mod, Nat.mul_assoc]
theorem scl_padd (hp : 2 ≤ p) (c a b : Nat) : scl p c (padd p a b) = padd p (scl p c a) (scl p c b) := by
  refine ind2 hp (P := fun a b => scl p c (padd p a b) = padd p (scl p c a) (scl p c b)) (fun b => by rw [zero_padd, scl_zero, zero_padd]) (fun a => by rw [padd_zero, scl_zero, padd_zero]) (fun d e x y hd he ih => ?_) a b
  rw [padd_cons hp hd he, scl_cons hp (mod_lt' hp _), scl_cons hp hd, scl_cons hp he, padd_cons hp (mod_lt' hp _) (mod_lt' hp _), ih]
  congr 1
  rw [Nat.mul_mod_mod, Nat.mul_add, ← Nat.add_mod]
theorem add_scl (hp : 2 ≤ p) (c d a : Nat) : scl p (c + d) a = padd p (scl p c a) (scl p d a) := by
  refine ind hp (P := fun a => scl p (c + d) a = padd p (scl p c a) (scl p d a)) (by rw [scl_zero, scl_zero, scl_zero, zero_padd]) (fun e x he ih => ?_) a
  rw [scl_cons hp he, scl_cons hp he, scl_cons hp he, padd_cons hp (mod_lt' hp _) (mod_lt' hp _), ih]
  congr 1
  rw [Nat.add_mul, ← Nat.add_mod]
theorem scl_shift (hp : 2 ≤ p) (c a : Nat) : scl p c (p * a) = p * scl p c a := by
  have := scl_cons hp (c := c) (d := 0) (x := a) (by omega)
  simpa using this
theorem padd_shift (hp : 2 ≤ p) (a b : Nat) : padd p (p * a) (p * b) = p * padd p a b := by
  have := padd_cons hp (c := 0) (d := 0) (x := a) (y := b) (by omega) (by omega)
  simpa using this
theorem padd_pneg (hp : 2 ≤ p) (a : Nat) : padd p a (pneg p a) = 0 := by
  unfold pneg
  have h := add_scl hp 1 (p - 1) a
  rw [one_scl hp] at h
  rw [← h, ← scl_mod hp, show (1 + (p - 1)) % p = 0 by rw [show 1 + (p - 1) = p by omega, Nat.mod_self], zero_scl hp]
/-! ### products -/
theorem mulF_eq (hp : 2 ≤ p) : ∀ f a b, a ≤ f → ∀ g, a ≤ g → mulF p f a b = mulF p g a b
  | 0, a, b, h, g, _ => by
    have : a = 0 := by omega
    subst this
    cases g <;> simp [mulF]
  | f + 1, a, b, h, 0, h' => by
    have : a = 0 := by omega
    subst this
    simp [mulF]
  | f + 1, a, b, h, g + 1, h' => by
    unfold mulF
    by_cases e : a = 0
    · rw [if_pos e, if_pos e]
    · have := div_lt hp e
      rw [if_neg e, if_neg e, mulF_eq hp f (a / p) b (by omega) g (by omega)]
theorem zero_pmul (b : Nat) : pmul p 0 b = 0 := rfl
theorem pmul_eq (hp : 2 ≤ p) (a b : Nat) : pmul p a b = padd p (scl p (a % p) b) (p * pmul p (a / p) b) := by
  by_cases e : a = 0
  · subst e
    rw [Nat.zero_mod, Nat.zero_div, zero_pmul, zero_scl hp, Nat.mul_zero, zero_padd]
  · have := div_lt hp e
    have h : pmul p a b = mulF p ((a - 1) + 1) a b := mulF_eq hp _ _ _ (Nat.le_refl _) _ (by omega)
    rw [h]
    show (if a = 0 then 0 else _) = _
    rw [if_neg e, mulF_eq hp (a - 1) (a / p) b (by omega) (a / p) (Nat.le_refl _)]
    rfl
theorem cons_pmul (hp : 2 ≤ p) {c x : Nat} (hc : c < p) (b : Nat) : pmul p (c + p * x) b = padd p (scl p c b) (p * pmul p x b) := by
  rw [pmul_eq hp, cons_mod hp hc, cons_div hp hc]
theorem pmul_zero (hp : 2 ≤ p) (a : Nat) : pmul p a 0 = 0 := by
  refine ind hp (P := fun a => pmul p a 0 = 0) rfl (fun c x hc ih => ?_) a
  rw [cons_pmul hp hc, ih, scl_zero, Nat.mul_zero, zero_padd]
theorem pmul_padd (hp : 2 ≤ p) (a b c : Nat) : pmul p a (padd p b c) = padd p (pmul p a b) (pmul p a c) := by
  refine ind hp (P := fun a => pmul p a (padd p b c) = padd p (pmul p a b) (pmul p a c)) (by simp only [zero_pmul, zero_padd]) (fun d x hd ih => ?_) a
  rw [cons_pmul hp hd, cons_pmul hp hd, cons_pmul hp hd, ih, scl_padd hp, ← padd_shift hp]
  rw [padd_assoc hp, padd_assoc hp]
  congr 1
  rw [← padd_assoc hp, ← padd_assoc hp, padd_comm hp (scl p d c)]
theorem shift_pmul (hp : 2 ≤ p) (a b : Nat) : pmul p (p * a) b = p * pmul p a b := by
  have := cons_pmul hp (c := 0) (x := a) (by omega) b
  rw [zero_scl hp, zero_padd] at this
  simpa using this
theorem pmul_shift (hp : 2 ≤ p) (a b : Nat) : pmul p a (p * b) = p * pmul p a b := by
  refine ind hp (P := fun a => pmul p a (p * b) = p * pmul p a b) (by simp only [zero_pmul, Nat.mul_zero]) (fun c x hc ih => ?_) a
  rw [cons_pmul hp hc, cons_pmul hp hc, ih, scl_shift hp, padd_shift hp]
theorem pmul_const (hp : 2 ≤ p) (a : Nat) {c : Nat} (hc : c < p) : pmul p a c = scl p c a := by
  refine ind hp (P := fun a => pmul p a c = scl p c a) (by rw [zero_pmul, scl_zero]) (fun d x hd ih => ?_) a
  have e : scl p d c = c * d % p := by
    have := scl_cons hp (c := d) (d := c) (x := 0) hc
    rw [Nat.mul_zero, Nat.add_zero, scl_zero, Nat.mul_zero, Nat.add_zero, Nat.mul_comm] at this
    exact this
  rw [cons_pmul hp hd, ih, scl_cons hp hd, e]
  have := padd_cons hp (c := c * d % p) (d := 0) (x := 0) (y := scl p c x) (mod_lt' hp _) (by omega)
  rw [Nat.mul_zero, Nat.add_zero, Nat.mod_mod, zero_padd, Nat.zero_add] at this
  exact this
theorem pmul_cons (hp : 2 ≤ p) (a : Nat) {c x : Nat} (hc : c < p) : pmul p a (c + p * x) = padd p (scl p c a) (p * pmul p a x) := by
  have e : c + p * x = padd p c (p * x) := by
    have := padd_cons hp (c := c) (d := 0) (x := 0) (y := x) hc (by omega)
    rw [Nat.mul_zero, Nat.add_zero, Nat.mod_eq_of_lt hc, zero_padd, Nat.zero_add] at this
    exact this.symm
  rw [e, pmul_padd hp, pmul_shift hp, pmul_const hp a hc]
theorem pmul_comm (hp : 2 ≤ p) (a b : Nat) : pmul p a b = pmul p b a := by
  revert b
  refine ind hp (P := fun a => ∀ b, pmul p a b = pmul p b a) (fun b => by rw [zero_pmul, pmul_zero hp]) (fun c x hc ih b => ?_) a
  rw [cons_pmul hp hc, pmul_cons hp b hc, ih]
theorem padd_pmul (hp : 2 ≤ p) (a b c : Nat) : pmul p (padd p a b) c = padd p (pmul p a c) (pmul p b c) := by
  rw [pmul_comm hp, pmul_padd hp, pmul_comm hp c a, pmul_comm hp c b]
theorem scl_pmul (hp : 2 ≤ p) (c a b : Nat) : pmul p (scl p c a) b = scl p c (pmul p a b) := by
  refine ind hp (P := fun a => pmul p (scl p c a) b = scl p c (pmul p a b)) (by rw [scl_zero, zero_pmul, scl_zero]) (fun d x hd ih => ?_) a
  rw [scl_cons hp hd, cons_pmul hp (mod_lt' hp _), cons_pmul hp hd, ih, scl_padd hp, scl_shift hp, scl_scl hp, scl_mod hp]
theorem pmul_assoc (hp : 2 ≤ p) (a b c : Nat) : pmul p (pmul p a b) c = pmul p a (pmul p b c) := by
  refine ind hp (P := fun a => pmul p (pmul p a b) c = pmul p a (pmul p b c)) (by simp only [zero_pmul]) (fun d x hd ih => ?_) a
  rw [cons_pmul hp hd, cons_pmul hp hd, padd_pmul hp, scl_pmul hp, shift_pmul hp, ih]
theorem pmul_one (hp : 2 ≤ p) (a : Nat) : pmul p a 1 = a := by rw [pmul_const hp a (by omega), one_scl hp]
/-! ### figures of these -/
theorem cf_padd (hp : 2 ≤ p) (a b i : Nat) : cf p (padd p a b) i = (cf p a i + cf p b i) % p := by
  revert i
  refine ind2 hp (P := fun a b => ∀ i, cf p (padd p a b) i = (cf p a i + cf p b i) % p) (fun b i => by rw [zero_padd, cf_zero, Nat.zero_add, Nat.mod_eq_of_lt (cf_lt hp _ _)]) (fun a i => by rw [padd_zero, cf_zero, Nat.add_zero, Nat.mod_eq_of_lt (cf_lt hp _ _)]) (fun c d x y hc hd ih i => ?_) a b
  rw [padd_cons hp hc hd]
  cases i with
  | zero => rw [cf_cons0 hp (mod_lt' hp _), cf_cons0 hp hc, cf_cons0 hp hd]
  | succ i => rw [cf_consS hp (mod_lt' hp _), cf_consS hp hc, cf_consS hp hd, ih]
theorem cf_scl (hp : 2 ≤ p) (c a i : Nat) : cf p (scl p c a) i = c * cf p a i % p := by
  revert i
  refine ind hp (P := fun a => ∀ i, cf p (scl p c a) i = c * cf p a i % p) (fun i => by rw [scl_zero, cf_zero]; simp) (fun d x hd ih i => ?_) a
  rw [scl_cons hp hd]
  cases i with
  | zero => rw [cf_cons0 hp (mod_lt' hp _), cf_cons0 hp hd]
  | succ i => rw [cf_consS hp (mod_lt' hp _), cf_consS hp hd, ih]
theorem cf_shift (hp : 2 ≤ p) (a i : Nat) : cf p (p * a) (i + 1) = cf p a i := by
  have := cf_consS hp (c := 0) (x := a) (by omega) i
  simpa using this
theorem cf_shift0 (hp : 2 ≤ p) (a : Nat) : cf p (p * a) 0 = 0 := by
  have := cf_cons0 hp (c := 0) (x := a) (by omega)
  simpa using this
theorem cf_pow (hp : 2 ≤ p) (a k i : Nat) : cf p (p ^ k * a) i = if i < k then 0 else cf p a (i - k) := by
  revert i
  induction k with
  | zero => intro i; rw [Nat.pow_zero, Nat.one_mul, if_neg (by omega), Nat.sub_zero]
  | succ k ih =>
    intro i
    rw [Nat.pow_succ, Nat.mul_comm (p ^ k), Nat.mul_assoc]
    cases i with
    | zero => rw [cf_shift0 hp, if_pos (by omega)]
    | succ i =>
      rw [cf_shift hp, ih]
      by_cases h : i < k
      · rw [if_pos h, if_pos (by omega)]
      · rw [if_neg h, if_neg (by omega)]; congr 1; omega
/-- sum over i < n -/
def sm (f : Nat → Nat) : Nat → Nat
  | 0 => 0
  | n + 1 => sm f n + f n
theorem sm_congr {f g : Nat → Nat} : ∀ n, (∀ i, i < n → f i = g i) → sm f n = sm g n
  | 0, _ => rfl
  | n + 1, h => by unfold sm; rw [sm_congr n fun i hi => h i (by omega), h n (by omega)]
theorem sm_shift (f : Nat → Nat) : ∀ n, sm f (n + 1) = f 0 + sm (fun i => f (i + 1)) n
  | 0 => by simp [sm]
  | n + 1 => by
    show sm f (n + 1) + f (n + 1) = f 0 + (sm (fun i => f (i + 1)) n + f (n + 1))
    rw [sm_shift f n]; omega
theorem sm_zero {f : Nat → Nat} : ∀ n, (∀ i, i < n → f i = 0) → sm f n = 0
  | 0, _ => rfl
  | n + 1, h => by unfold sm; rw [sm_zero n fun i hi => h i (by omega), h n (by omega)]
theorem cf_pmul (hp : 2 ≤ p) (a b k : Nat) : cf p (pmul p a b) k = sm (fun i => cf p a i * cf p b (k - i)) (k + 1) % p := by
  revert k
  refine ind hp (P := fun a => ∀ k, cf p (pmul p a b) k = sm (fun i => cf p a i * cf p b (k - i)) (k + 1) % p) (fun k => by
    rw [zero_pmul, cf_zero, sm_zero _ fun i _ => by rw [cf_zero, Nat.zero_mul]]; simp) (fun c x hc ih k => ?_) a
  rw [cons_pmul hp hc, cf_padd hp, cf_scl hp]
  cases k with
  | zero =>
    rw [cf_shift0 hp]
    show (c * cf p b 0 % p + 0) % p = (0 + cf p (c + p * x) 0 * cf p b (0 - 0)) % p
    rw [cf_cons0 hp hc]; simp
  | succ k =>
    rw [cf_shift hp, ih, sm_shift (fun i => cf p (c + p * x) i * cf p b (k + 1 - i)), cf_cons0 hp hc, Nat.sub_zero, ← Nat.add_mod]
    congr 2
    apply sm_congr
    intro i hi
    rw [cf_consS hp hc]
    congr 2
    omega
end
end M
/-! M2: the ring as a type, for grind. -/
namespace M
class Bs (p : Nat) : Prop where
  two : 2 ≤ p
@[ext] structure Po (p : Nat) where
  n : Nat
deriving DecidableEq
namespace Po
variable {p : Nat}
instance : Add (Po p) := ⟨fun a b => ⟨padd p a.n b.n⟩⟩
instance : Mul (Po p) := ⟨fun a b => ⟨pmul p a.n b.n⟩⟩
instance : Neg (Po p) := ⟨fun a => ⟨pneg p a.n⟩⟩
instance : Sub (Po p) := ⟨fun a b => ⟨psub p a.n b.n⟩⟩
instance : NatCast (Po p) := ⟨fun k => ⟨k % p⟩⟩
instance (k : Nat) : OfNat (Po p) k := ⟨⟨k % p⟩⟩
instance : IntCast (Po p) := ⟨fun i => match i with
  | .ofNat k => (k : Po p)
  | .negSucc k => -((k + 1 : Nat) : Po p)⟩
instance : SMul Nat (Po p) := ⟨fun k a => (k : Po p) * a⟩
instance : SMul Int (Po p) := ⟨fun k a => (k : Po p) * a⟩
def pw (a : Po p) : Nat → Po p
  | 0 => 1
  | k + 1 => pw a k * a
instance : HPow (Po p) Nat (Po p) := ⟨pw⟩
theorem add_n (a b : Po p) : (a + b).n = padd p a.n b.n := rfl
theorem mul_n (a b : Po p) : (a * b).n = pmul p a.n b.n := rfl
theorem neg_n (a : Po p) : (-a).n = pneg p a.n := rfl
theorem sub_n (a b : Po p) : (a - b).n = psub p a.n b.n := rfl
theorem nat_n (k : Nat) : ((k : Nat) : Po p).n = k % p := rfl
theorem ofNat_n (k : Nat) : (OfNat.ofNat k : Po p).n = k % p := rfl
variable [hp : Bs p]
theorem zero_n : (0 : Po p).n = 0 := Nat.zero_mod p
theorem one_n : (1 : Po p).n = 1 := Nat.mod_eq_of_lt hp.two
theorem padd_lt {c d : Nat} (hc : c < p) (hd : d < p) : padd p c d = (c + d) % p := by
  have := padd_cons hp.two (c := c) (d := d) (x := 0) (y := 0) hc hd
  rw [Nat.mul_zero, Nat.add_zero, Nat.add_zero, zero_padd, Nat.mul_zero, Nat.add_zero] at this
  exact this
theorem pmul_lt (c : Nat) {d : Nat} (hd : d < p) (hc : c < p) : pmul p c d = c * d % p := by
  have e := pmul_const hp.two c hd
  have e2 := scl_cons hp.two (c := d) (d := c) (x := 0) hc
  rw [Nat.mul_zero, Nat.add_zero, scl_zero, Nat.mul_zero, Nat.add_zero] at e2
  rw [e, e2, Nat.mul_comm]
theorem neg_neg (a : Po p) : -(-a) = a := Po.ext (by
  have hp := hp.two
  have h1 := padd_pneg hp a.n
  have h2 := padd_pneg hp (pneg p a.n)
  show pneg p (pneg p a.n) = a.n
  calc pneg p (pneg p a.n) = padd p (padd p a.n (pneg p a.n)) (pneg p (pneg p a.n)) := by rw [h1, zero_padd]
    _ = padd p a.n (padd p (pneg p a.n) (pneg p (pneg p a.n))) := padd_assoc hp _ _ _
    _ = a.n := by rw [h2, padd_zero])
theorem neg_mul (a b : Po p) : -a * b = -(a * b) := Po.ext (by show pmul p (pneg p a.n) b.n = pneg p (pmul p a.n b.n); unfold pneg; rw [scl_pmul hp.two])
theorem neg_zero : -(0 : Po p) = 0 := Po.ext (by show pneg p (0 : Po p).n = (0 : Po p).n; rw [zero_n]; rfl)
theorem intCast_neg' (i : Int) : ((-i : Int) : Po p) = -((i : Int) : Po p) := by
  cases i with
  | ofNat k =>
    cases k with
    | zero => show ((0 : Nat) : Po p) = -((0 : Nat) : Po p); exact neg_zero.symm
    | succ k => rfl
  | negSucc k => show ((k + 1 : Nat) : Po p) = - -((k + 1 : Nat) : Po p); rw [neg_neg]
instance ring : Lean.Grind.CommRing (Po p) where
  add_zero a := Po.ext (by rw [add_n, zero_n, padd_zero])
  add_comm a b := Po.ext (by rw [add_n, add_n, padd_comm hp.two])
  add_assoc a b c := Po.ext (by simp only [add_n]; exact padd_assoc hp.two _ _ _)
  mul_assoc a b c := Po.ext (by simp only [mul_n]; exact pmul_assoc hp.two _ _ _)
  mul_one a := Po.ext (by rw [mul_n, one_n, pmul_one hp.two])
  one_mul a := Po.ext (by rw [mul_n, one_n, pmul_comm hp.two, pmul_one hp.two])
  mul_comm a b := Po.ext (by rw [mul_n, mul_n, pmul_comm hp.two])
  left_distrib a b c := Po.ext (by simp only [mul_n, add_n]; exact pmul_padd hp.two _ _ _)
  right_distrib a b c := Po.ext (by simp only [mul_n, add_n]; exact padd_pmul hp.two _ _ _)
  zero_mul a := Po.ext (by rw [mul_n, zero_n, zero_pmul])
  mul_zero a := Po.ext (by rw [mul_n, zero_n, pmul_zero hp.two])
  pow_zero a := rfl
  pow_succ a n := rfl
  ofNat_succ k := Po.ext (by
    rw [add_n, one_n, ofNat_n, ofNat_n, padd_lt (mod_lt' hp.two _) (by have := hp.two; omega), Nat.mod_add_mod])
  ofNat_eq_natCast k := rfl
  neg_add_cancel a := Po.ext (by rw [add_n, neg_n, zero_n, padd_comm hp.two, padd_pneg hp.two])
  sub_eq_add_neg a b := rfl
  neg_zsmul i a := by
    show ((-i : Int) : Po p) * a = -(((i : Int) : Po p) * a)
    rw [intCast_neg', neg_mul]
  intCast_neg i := intCast_neg' i
end Po
example (p : Nat) [Bs p] (a b c : Po p) (h : a * b = c + 1) : a * (b + a) = 1 + c + a * a := by grind
end M
/-! M3: rows in loops. -/
namespace M
theorem trim_nil : trim [] = [] := rfl
theorem trim_concat_zero : ∀ l : List Nat, trim (l ++ [0]) = trim l
  | [] => rfl
  | c :: l => by show (if c = 0 ∧ trim (l ++ [0]) = [] then [] else c :: trim (l ++ [0])) = _; rw [trim_concat_zero l]; rfl
theorem trim_concat_ne {d : Nat} (h : d ≠ 0) : ∀ l : List Nat, trim (l ++ [d]) = l ++ [d]
  | [] => by show (if d = 0 ∧ trim [] = [] then [] else d :: trim []) = _; rw [if_neg (fun z => h z.1)]; rfl
  | c :: l => by
    show (if c = 0 ∧ trim (l ++ [d]) = [] then [] else c :: trim (l ++ [d])) = _
    rw [trim_concat_ne h l, if_neg (fun z => by simp at z)]; rfl
theorem trim_take_zero {l : List Nat} {k : Nat} (h : l[k]? = some 0) : trim (l.take (k + 1)) = trim (l.take k) := by
  rw [List.take_add_one, h]; exact trim_concat_zero _
theorem trim_take_ne {l : List Nat} {k c : Nat} (h : l[k]? = some c) (hc : c ≠ 0) : trim (l.take (k + 1)) = l.take (k + 1) := by
  rw [List.take_add_one, h]; exact trim_concat_ne hc _
theorem nv_append {p : Nat} : ∀ (l m : List Nat), nv p (l ++ m) = nv p l + p ^ l.length * nv p m
  | [], m => by simp [nv]
  | c :: l, m => by
    show c + p * nv p (l ++ m) = c + p * nv p l + p ^ (l.length + 1) * nv p m
    rw [nv_append l m, Nat.mul_add, Nat.pow_succ, Nat.mul_comm (p ^ l.length) p, Nat.mul_assoc]; omega
theorem nv_zeros {p : Nat} : ∀ k, nv p (List.replicate k 0) = 0
  | 0 => rfl
  | k + 1 => by show 0 + p * nv p (List.replicate k 0) = 0; rw [nv_zeros k]; simp
theorem nv_trim {p : Nat} (hp : 2 ≤ p) {l : List Nat} (h : ∀ c ∈ l, c < p) : nv p (trim l) = nv p l := by
  rw [← dg_nv hp l h, nv_dg hp]
/-- the rows of two lists with figures are one if their figures are -/
theorem trim_eq {p : Nat} (hp : 2 ≤ p) {l : List Nat} {n : Nat} (h : ∀ c ∈ l, c < p) (e : ∀ i, l.getD i 0 = cf p n i) : trim l = dg p n := by
  rw [← dg_nv hp l h]
  congr 1
  exact ext hp fun i => by rw [cf_nv hp l i h, e]
abbrev Bp (p : Nat) : Prop := p = 2 ∨ p = 3 ∨ p = 5
theorem Bp.two {p : Nat} (h : Bp p) : 2 ≤ p := by rcases h with h | h | h <;> omega
theorem Bp.le {p : Nat} (h : Bp p) : p ≤ 5 := by rcases h with h | h | h <;> omega
/-- the figure that makes 1 with c -/
def inv (p c : Nat) : Nat := ((List.range p).filter fun x => x * c % p == 1).headD 0
theorem inv_spec {p c : Nat} (hp : Bp p) (h : c % p ≠ 0) : inv p c < p ∧ 0 < inv p c ∧ inv p c * c % p = 1 := by
  have key : ∀ c, c < p → c ≠ 0 → inv p c < p ∧ 0 < inv p c ∧ inv p c * c % p = 1 := by
    rcases hp with rfl | rfl | rfl <;> decide
  have e : inv p c = inv p (c % p) := by
    unfold inv
    congr 1
    apply List.filter_congr
    intro x _
    rw [Nat.mul_mod_mod]
  have := key (c % p) (Nat.mod_lt _ (by have := hp.two; omega)) h
  rw [e]
  rw [Nat.mul_mod_mod] at this
  exact this
/-- plain: a figure times it, 1 the first figure -/
def lead (p a : Nat) : Nat := cf p a (len p a - 1)
def plain (p a : Nat) : Nat := scl p (inv p (lead p a)) a
/-- the same figures at p times their places -/
def spread (p a : Nat) : Nat := nv (p ^ p) (dg p a)
end M
/-! M4: division with a rest. -/
namespace M
variable {p : Nat}
theorem cf_psub (hp : 2 ≤ p) (a b i : Nat) : ((cf p (psub p a b) i : Nat) : Int) = ((cf p a i : Int) - cf p b i) % (p : Int) := by
  unfold psub pneg
  rw [cf_padd hp, cf_scl hp, Nat.add_mod_mod]
  have e : ((p - 1 : Nat) : Int) = (p : Int) - 1 := by omega
  rw [Int.natCast_emod, Int.natCast_add, Int.natCast_mul, e]
  have : (cf p a i : Int) + ((p : Int) - 1) * (cf p b i) = ((cf p a i : Int) - cf p b i) + (p : Int) * (cf p b i) := by grind
  rw [this, Int.add_mul_emod_self_left]
theorem cf_psub0 (hp : 2 ≤ p) {a b i : Nat} (h : cf p b i = 0) : cf p (psub p a b) i = cf p a i := by
  have := cf_psub hp a b i
  rw [h] at this
  have h2 := cf_lt hp a i
  have h3 : ((cf p a i : Int) - (0 : Nat)) % (p : Int) = cf p a i := by
    rw [Int.natCast_zero, Int.sub_zero]; exact Int.emod_eq_of_lt (by omega) (by omega)
  omega
theorem cf_small {c : Nat} (hp : 2 ≤ p) (h : c < p) (i : Nat) : cf p c i = if i = 0 then c else 0 := by
  cases i with
  | zero => rw [cf_0, Nat.mod_eq_of_lt h]; rfl
  | succ i => rw [cf_succ, Nat.div_eq_of_lt h, cf_zero]; rfl
/-- k steps of the long division from place k - 1 on -/
def figD (p b k r : Nat) : Nat := cf p r (k + len p b - 1) * inv p (lead p b) % p
def dmG (p b : Nat) : Nat → Nat → Nat → Nat × Nat
  | 0, q, r => (q, r)
  | k + 1, q, r => dmG p b k (padd p q (p ^ k * figD p b k r)) (psub p r (scl p (figD p b k r) (p ^ k * b)))
def dm (p a b : Nat) : Nat × Nat := dmG p b (len p a + 1 - len p b) 0 a
def pdiv (p a b : Nat) : Nat := (dm p a b).1
def pmod (p a b : Nat) : Nat := (dm p a b).2
theorem len_shift (hp : 2 ≤ p) {b : Nat} (h : b ≠ 0) (k : Nat) : len p (p ^ k * b) = k + len p b := by
  induction k with
  | zero => rw [Nat.pow_zero, Nat.one_mul, Nat.zero_add]
  | succ k ih =>
    have : p ^ (k + 1) * b = p * (p ^ k * b) := by rw [Nat.pow_succ, Nat.mul_comm (p ^ k) p, Nat.mul_assoc]
    have hne : p ^ k * b ≠ 0 := Nat.mul_ne_zero (Nat.ne_of_gt (Nat.pow_pos (by omega))) h
    have e := len_cons hp (c := 0) (x := p ^ k * b) (by omega) (.inr hne)
    rw [Nat.zero_add] at e
    rw [this, e, ih]; omega
theorem scl_pow (hp : 2 ≤ p) (c : Nat) (a : Nat) : ∀ k, scl p c (p ^ k * a) = p ^ k * scl p c a
  | 0 => by rw [Nat.pow_zero, Nat.one_mul, Nat.one_mul]
  | k + 1 => by
    have e : ∀ x, p ^ (k + 1) * x = p * (p ^ k * x) := fun x => by rw [Nat.pow_succ, Nat.mul_comm (p ^ k) p, Nat.mul_assoc]
    rw [e, e, scl_shift hp, scl_pow hp c a k]
theorem pow_pmul (hp : 2 ≤ p) (a b : Nat) : ∀ k, pmul p (p ^ k * a) b = p ^ k * pmul p a b
  | 0 => by rw [Nat.pow_zero, Nat.one_mul, Nat.one_mul]
  | k + 1 => by
    have e : ∀ x, p ^ (k + 1) * x = p * (p ^ k * x) := fun x => by rw [Nat.pow_succ, Nat.mul_comm (p ^ k) p, Nat.mul_assoc]
    rw [e, e, shift_pmul hp, pow_pmul hp a b k]
theorem len_eq_of (hp : 2 ≤ p) {n k : Nat} (h : ∀ i, k ≤ i → cf p n i = 0) (h2 : cf p n (k - 1) ≠ 0) (h0 : 0 < k) : len p n = k := by
  have h1 := len_le_of hp h
  by_cases z : len p n ≤ k - 1
  · exact (h2 (cf_ge hp z)).elim
  · omega
theorem len_padd_le (hp : 2 ≤ p) {a b k : Nat} (ha : len p a ≤ k) (hb : len p b ≤ k) : len p (padd p a b) ≤ k := len_le_of hp fun i hi => by
  rw [cf_padd hp, cf_ge hp (show len p a ≤ i by omega), cf_ge hp (show len p b ≤ i by omega)]; exact Nat.zero_mod _
theorem len_padd_lt (hp : 2 ≤ p) {a b : Nat} (h : len p a < len p b) : len p (padd p a b) = len p b := by
  refine len_eq_of hp (fun i hi => ?_) ?_ (by omega)
  · rw [cf_padd hp, cf_ge hp (show len p a ≤ i by omega), cf_ge hp hi]; exact Nat.zero_mod _
  · rw [cf_padd hp, cf_ge hp (show len p a ≤ len p b - 1 by omega), Nat.zero_add, Nat.mod_eq_of_lt (cf_lt hp _ _)]
    exact lead_ne hp (fun z => by rw [z, len_zero] at h; omega)
theorem len_scl_le (hp : 2 ≤ p) (c a : Nat) : len p (scl p c a) ≤ len p a := len_le_of hp fun i hi => by
  rw [cf_scl hp, cf_ge hp hi, Nat.mul_zero, Nat.zero_mod]
theorem mul_ne_p (hp : Bp p) {c d : Nat} (hc : c % p ≠ 0) (hd : d % p ≠ 0) : c * d % p ≠ 0 := by
  have key : ∀ c, c < p → ∀ d, d < p → c ≠ 0 → d ≠ 0 → c * d % p ≠ 0 := by
    rcases hp with rfl | rfl | rfl <;> decide
  have h0 : 0 < p := by have := hp.two; omega
  have := key (c % p) (Nat.mod_lt _ h0) (d % p) (Nat.mod_lt _ h0) hc hd
  rwa [← Nat.mul_mod] at this
theorem len_scl (hp : Bp p) {c a : Nat} (hc : c % p ≠ 0) (ha : a ≠ 0) : len p (scl p c a) = len p a := by
  have h2 := hp.two
  refine len_eq_of h2 (fun i hi => ?_) ?_ (Nat.pos_of_ne_zero fun z => ha ((len_eq_zero h2).mp z))
  · rw [cf_scl h2, cf_ge h2 hi, Nat.mul_zero, Nat.zero_mod]
  · rw [cf_scl h2]
    exact mul_ne_p hp hc (by rw [Nat.mod_eq_of_lt (cf_lt h2 _ _)]; exact lead_ne h2 ha)
theorem len_pmul (hp : Bp p) {b : Nat} (hb : b ≠ 0) (a : Nat) : a ≠ 0 → len p (pmul p a b) + 1 = len p a + len p b := by
  have h2 := hp.two
  have hl : len p b ≠ 0 := fun e => hb ((len_eq_zero h2).mp e)
  refine ind h2 (P := fun a => a ≠ 0 → len p (pmul p a b) + 1 = len p a + len p b) (fun h => (h rfl).elim) (fun c x hc ih ha => ?_) a
  rw [cons_pmul h2 hc]
  by_cases hx : x = 0
  · subst hx
    have hc0 : c ≠ 0 := fun z => ha (by rw [z]; simp)
    rw [zero_pmul, Nat.mul_zero, padd_zero, Nat.add_zero, len_scl hp (by rw [Nat.mod_eq_of_lt hc]; exact hc0) hb]
    have e : len p c = 1 := by
      have := len_cons h2 (x := 0) hc (.inl hc0)
      rw [Nat.mul_zero, Nat.add_zero, len_zero] at this; exact this
    change len p b + 1 = len p c + len p b
    rw [e]; omega
  · have ih := ih hx
    have hlx : len p x ≠ 0 := fun e => hx ((len_eq_zero h2).mp e)
    have hne : pmul p x b ≠ 0 := fun z => by rw [z, len_zero] at ih; omega
    have e1 : len p (p * pmul p x b) = len p (pmul p x b) + 1 := by
      have := len_cons h2 (c := 0) (x := pmul p x b) (by omega) (.inr hne)
      rwa [Nat.zero_add] at this
    have := len_scl_le h2 c b
    rw [len_padd_lt h2 (by omega), e1, len_cons h2 hc (.inr hx)]; omega
theorem lead_lt (hp : 2 ≤ p) (b : Nat) : lead p b < p := cf_lt hp _ _
theorem lead_pos (hp : 2 ≤ p) {b : Nat} (h : b ≠ 0) : lead p b ≠ 0 := lead_ne hp h
theorem len_ne (hp : 2 ≤ p) {b : Nat} (h : b ≠ 0) : len p b ≠ 0 := fun e => h ((len_eq_zero hp).mp e)
/-- a step takes the first figure away -/
theorem step_len (hp : Bp p) {b : Nat} (hb : b ≠ 0) {k r : Nat} (hr : len p r ≤ k + len p b) : len p (psub p r (scl p (figD p b k r) (p ^ k * b))) ≤ k + len p b - 1 := by
  have h2 := hp.two
  have hl := len_ne h2 hb
  refine len_le_of h2 fun i hi => ?_
  have e := cf_psub h2 r (scl p (figD p b k r) (p ^ k * b)) i
  rw [cf_scl h2, cf_pow h2] at e
  by_cases hi2 : k + len p b ≤ i
  · rw [cf_ge h2 (show len p r ≤ i by omega), if_neg (by omega), cf_ge h2 (show len p b ≤ i - k by omega)] at e
    simp at e; exact e
  · have hi3 : i = k + len p b - 1 := by omega
    subst hi3
    rw [if_neg (by omega), show k + len p b - 1 - k = len p b - 1 by omega] at e
    change _ = (_ - (((figD p b k r * lead p b % p : Nat)) : Int)) % (p : Int) at e
    have hs := inv_spec hp (c := lead p b) (by rw [Nat.mod_eq_of_lt (lead_lt h2 b)]; exact lead_pos h2 hb)
    have : figD p b k r * lead p b % p = cf p r (k + len p b - 1) := by
      unfold figD
      rw [Nat.mod_mul_mod, Nat.mul_assoc, Nat.mul_mod, hs.2.2, Nat.mul_one, Nat.mod_mod, Nat.mod_eq_of_lt (cf_lt h2 _ _)]
    rw [this, Int.sub_self, Int.zero_emod] at e
    omega
theorem dmG_spec (hp : Bp p) {b : Nat} (hb : b ≠ 0) : ∀ k q r, len p r ≤ k + len p b - 1 → len p (dmG p b k q r).2 < len p b ∧ padd p (pmul p (dmG p b k q r).1 b) (dmG p b k q r).2 = padd p (pmul p q b) r := by
  have h2 := hp.two
  have hl := len_ne h2 hb
  haveI : Bs p := ⟨h2⟩
  intro k
  induction k with
  | zero => intro q r h; exact ⟨by unfold dmG; simp; omega, rfl⟩
  | succ k ih =>
    intro q r h
    unfold dmG
    have := ih (padd p q (p ^ k * figD p b k r)) (psub p r (scl p (figD p b k r) (p ^ k * b))) (step_len hp hb (by omega))
    refine ⟨this.1, this.2.trans ?_⟩
    have hc : figD p b k r < p := Nat.mod_lt _ (by omega)
    have e1 : scl p (figD p b k r) (p ^ k * b) = pmul p (p ^ k * figD p b k r) b := by
      rw [scl_pow h2, pow_pmul h2, pmul_comm h2, pmul_const h2 b hc]
    rw [e1]
    have : ((⟨q⟩ + ⟨p ^ k * figD p b k r⟩) * ⟨b⟩ + (⟨r⟩ - ⟨p ^ k * figD p b k r⟩ * ⟨b⟩) : Po p) = ⟨q⟩ * ⟨b⟩ + ⟨r⟩ := by grind
    exact congrArg Po.n this
theorem dm_spec (hp : Bp p) (a : Nat) {b : Nat} (hb : b ≠ 0) : len p (pmod p a b) < len p b ∧ padd p (pmul p (pdiv p a b) b) (pmod p a b) = a := by
  have hl := len_ne hp.two hb
  have := dmG_spec hp hb (len p a + 1 - len p b) 0 a (by omega)
  rw [zero_pmul, zero_padd] at this
  exact this
theorem psub_self (hp : 2 ≤ p) (a : Nat) : psub p a a = 0 := padd_pneg hp a
theorem pmul_eq_zero (hp : Bp p) {a b : Nat} (h : pmul p a b = 0) : a = 0 ∨ b = 0 := by
  by_cases ha : a = 0
  · exact .inl ha
  · by_cases hb : b = 0
    · exact .inr hb
    · have h2 := hp.two
      have := len_pmul hp hb a ha
      rw [h, len_zero] at this
      have := len_ne h2 ha
      have := len_ne h2 hb
      omega
theorem len_psub_le (hp : 2 ≤ p) {a b k : Nat} (ha : len p a ≤ k) (hb : len p b ≤ k) : len p (psub p a b) ≤ k :=
  len_padd_le hp ha (Nat.le_trans (len_scl_le hp _ _) hb)
theorem dm_unique (hp : Bp p) {a b q r : Nat} (hb : b ≠ 0) (hr : len p r < len p b) (e : padd p (pmul p q b) r = a) : pdiv p a b = q ∧ pmod p a b = r := by
  have h2 := hp.two
  haveI : Bs p := ⟨h2⟩
  subst e
  obtain ⟨h1, h3⟩ := dm_spec hp (padd p (pmul p q b) r) hb
  generalize pdiv p (padd p (pmul p q b) r) b = q' at *
  generalize pmod p (padd p (pmul p q b) r) b = r' at *
  have k1 : (⟨q'⟩ - ⟨q⟩ : Po p) * ⟨b⟩ = ⟨r⟩ - ⟨r'⟩ := by
    have h3 : (⟨q'⟩ * ⟨b⟩ + ⟨r'⟩ : Po p) = ⟨q⟩ * ⟨b⟩ + ⟨r⟩ := Po.ext h3
    grind
  have k2 : pmul p (psub p q' q) b = psub p r r' := congrArg Po.n k1
  have k3 : psub p q' q = 0 := by
    by_cases z : psub p q' q = 0
    · exact z
    · have := len_pmul hp hb _ z
      rw [k2] at this
      have := len_ne h2 z
      have := len_psub_le h2 (k := len p b - 1) (a := r) (b := r') (by omega) (by omega)
      omega
  have k4 : q' = q := by
    have h3 : (⟨q'⟩ - ⟨q⟩ : Po p) = 0 := Po.ext (by rw [Po.zero_n]; exact k3)
    have : (⟨q'⟩ : Po p) = ⟨q⟩ := by grind
    exact congrArg Po.n this
  refine ⟨k4, ?_⟩
  subst k4
  have h3 : (⟨q'⟩ * ⟨b⟩ + ⟨r'⟩ : Po p) = ⟨q'⟩ * ⟨b⟩ + ⟨r⟩ := Po.ext h3
  have : (⟨r'⟩ : Po p) = ⟨r⟩ := by grind
  exact congrArg Po.n this
end M
/-! M5: the factors as the program finds them -/
namespace M
variable {p : Nat}
/-- how often q goes into l: what is left, how often -/
def outF (p q : Nat) : Nat → Nat → Nat → Nat × Nat
  | 0, l, e => (l, e)
  | f + 1, l, e => if len p q ≤ len p l ∧ pmod p l q = 0 then outF p q f (pdiv p l q) (e + 1) else (l, e)
def out (p q l : Nat) : Nat × Nat := outF p q (len p l) l 0
abbrev FS : Type := Nat × List (Nat × Nat)
def facRow (p : Nat) (st : FS) (q : Nat) : FS := ((out p q st.1).1, if 0 < (out p q st.1).2 then st.2 ++ [(q, (out p q st.1).2)] else st.2)
def facI (p k : Nat) (st : FS) (i : Nat) : FS := ((List.range i).map fun j => p ^ k + j).foldl (facRow p) st
theorem facI_zero (p k : Nat) (st : FS) : facI p k st 0 = st := rfl
theorem facI_succ (p k : Nat) (st : FS) (i : Nat) : facI p k st (i + 1) = facRow p (facI p k st i) (p ^ k + i) := by
  unfold facI; rw [List.range_succ, List.map_append, List.foldl_append]; rfl
def facLoop (p : Nat) : Nat → Nat → FS → FS
  | 0, _, st => st
  | f + 1, k, st => if 2 * k < len p st.1 then facLoop p f (k + 1) (facI p k st (p ^ k)) else st
def idxs (l : Nat) (fs : List (Nat × Nat)) : List Nat := (List.range fs.length).filter fun i => decide ((fs.getD i (0, 0)).1 = l)
def facFin (st : FS) : List Nat → List (Nat × Nat)
  | [] => st.2 ++ [(st.1, 1)]
  | i :: _ => st.2.set i (st.1, (st.2.getD i (0, 0)).2 + 1)
def facEnd (p : Nat) (st : FS) : List (Nat × Nat) := if 1 < len p st.1 then facFin st (idxs st.1 st.2) else st.2
def fac (p n : Nat) : List (Nat × Nat) := facEnd p (facLoop p (len p n) 1 (plain p n, []))
/-- the law's own way -/
def lfacEnd (p : Nat) (st : FS) : List (Nat × Nat) :=
  if 1 < len p st.1 then (st.2.filter fun x => !decide (x.1 = st.1)) ++ [(st.1, 1 + ((st.2.filter fun x => decide (x.1 = st.1)).map (·.2)).sum)] else st.2
def lfac (p n : Nat) : List (Nat × Nat) := lfacEnd p (facLoop p (len p n - 1) 1 (plain p n, []))
theorem div_out (hp : Bp p) {l q : Nat} (hl : l ≠ 0) (hq : 2 ≤ len p q) (h : pmod p l q = 0) : pdiv p l q ≠ 0 ∧ len p (pdiv p l q) + len p q = len p l + 1 := by
  have h2 := hp.two
  have q0 : q ≠ 0 := fun z => by rw [z, len_zero] at hq; omega
  have := (dm_spec hp l q0).2
  rw [h, padd_zero] at this
  have d0 : pdiv p l q ≠ 0 := fun z => by rw [z, zero_pmul] at this; exact hl this.symm
  refine ⟨d0, ?_⟩
  have e := len_pmul hp q0 _ d0
  rw [this] at e; omega
theorem outF_len (hp : Bp p) {q : Nat} (hq : 2 ≤ len p q) : ∀ f l e, l ≠ 0 → len p (outF p q f l e).1 ≤ len p l ∧ (outF p q f l e).1 ≠ 0
  | 0, l, e, h => ⟨Nat.le_refl _, h⟩
  | f + 1, l, e, h => by
    unfold outF
    by_cases z : len p q ≤ len p l ∧ pmod p l q = 0
    · rw [if_pos z]
      have := div_out hp h hq z.2
      have ih := outF_len hp hq f (pdiv p l q) (e + 1) this.1
      exact ⟨by omega, ih.2⟩
    · rw [if_neg z]; exact ⟨Nat.le_refl _, h⟩
theorem len_pw (hp : Bp p) {k i : Nat} (hi : i < p ^ k) : len p (p ^ k + i) = k + 1 := by
  have h2 := hp.two
  have h1 : len p (p ^ k + i) ≤ k + 1 := by
    rw [len_le_iff h2, Nat.pow_succ]
    have : p ^ k * 2 ≤ p ^ k * p := Nat.mul_le_mul_left _ h2
    omega
  have h3 : ¬ len p (p ^ k + i) ≤ k := by rw [len_le_iff h2]; omega
  omega
theorem facRow_len (hp : Bp p) {st : FS} {q : Nat} (hq : 2 ≤ len p q) (h : st.1 ≠ 0) : len p (facRow p st q).1 ≤ len p st.1 ∧ (facRow p st q).1 ≠ 0 := outF_len hp hq _ _ _ h
theorem facI_len (hp : Bp p) {k : Nat} (hk : 1 ≤ k) {st : FS} (h : st.1 ≠ 0) : ∀ i, i ≤ p ^ k → len p (facI p k st i).1 ≤ len p st.1 ∧ (facI p k st i).1 ≠ 0
  | 0, _ => ⟨Nat.le_refl _, h⟩
  | i + 1, hi => by
    rw [facI_succ]
    have ih := facI_len hp hk h i (by omega)
    have := facRow_len hp (st := facI p k st i) (q := p ^ k + i) (by rw [len_pw hp (by omega)]; omega) ih.2
    exact ⟨Nat.le_trans this.1 ih.1, this.2⟩
theorem outF_one (f l e : Nat) (q : Nat) : outF p q (f + 1) l e = if len p q ≤ len p l ∧ pmod p l q = 0 then outF p q f (pdiv p l q) (e + 1) else (l, e) := rfl
def outS (p q : Nat) (x : Nat × Nat) : Nat × Nat := if len p q ≤ len p x.1 ∧ pmod p x.1 q = 0 then (pdiv p x.1 q, x.2 + 1) else x
theorem outF_back (q : Nat) : ∀ f l e, outF p q (f + 1) l e = outS p q (outF p q f l e)
  | 0, l, e => rfl
  | f + 1, l, e => by
    rw [outF_one]
    by_cases z : len p q ≤ len p l ∧ pmod p l q = 0
    · rw [if_pos z, outF_back q f, outF_one, if_pos z]
    · rw [if_neg z, outF_one, if_neg z]; unfold outS; rw [if_neg z]
theorem outF_fuel (hp : Bp p) {q : Nat} (hq : 2 ≤ len p q) : ∀ f g l e, l ≠ 0 → len p l ≤ f → len p l ≤ g → outF p q f l e = outF p q g l e
  | 0, g, l, e, h, h1, _ => (len_ne hp.two h (by omega)).elim
  | f + 1, 0, l, e, h, _, h1 => (len_ne hp.two h (by omega)).elim
  | f + 1, g + 1, l, e, h, h1, h3 => by
    rw [outF_one, outF_one]
    by_cases z : len p q ≤ len p l ∧ pmod p l q = 0
    · have := div_out hp h hq z.2
      rw [if_pos z, if_pos z, outF_fuel hp hq f g _ _ this.1 (by omega) (by omega)]
    · rw [if_neg z, if_neg z]
theorem outF_cnt (hp : Bp p) {q : Nat} (hq : 2 ≤ len p q) : ∀ f l e, l ≠ 0 → len p (outF p q f l e).1 + (outF p q f l e).2 ≤ len p l + e
  | 0, l, e, h => Nat.le_refl _
  | f + 1, l, e, h => by
    unfold outF
    by_cases z : len p q ≤ len p l ∧ pmod p l q = 0
    · rw [if_pos z]
      have := div_out hp h hq z.2
      have ih := outF_cnt hp hq f (pdiv p l q) (e + 1) this.1
      omega
    · rw [if_neg z]; exact Nat.le_refl _
theorem facRow_cnt (hp : Bp p) {st : FS} {q : Nat} (hq : 2 ≤ len p q) (h : st.1 ≠ 0) : (facRow p st q).2.length + len p (facRow p st q).1 ≤ st.2.length + len p st.1 := by
  have := outF_cnt hp hq (len p st.1) st.1 0 h
  show (if 0 < (out p q st.1).2 then st.2 ++ [(q, (out p q st.1).2)] else st.2).length + len p (out p q st.1).1 ≤ _
  unfold out
  by_cases z : 0 < (outF p q (len p st.1) st.1 0).2
  · rw [if_pos z, List.length_append]; show _ + 1 + _ ≤ _; omega
  · rw [if_neg z]; omega
theorem facI_cnt (hp : Bp p) {k : Nat} (hk : 1 ≤ k) {st : FS} (h : st.1 ≠ 0) : ∀ i, i ≤ p ^ k → (facI p k st i).2.length + len p (facI p k st i).1 ≤ st.2.length + len p st.1
  | 0, _ => Nat.le_refl _
  | i + 1, hi => by
    rw [facI_succ]
    have ih := facI_cnt hp hk h i (by omega)
    have := facRow_cnt hp (st := facI p k st i) (q := p ^ k + i) (by rw [len_pw hp (by omega)]; omega) (facI_len hp hk h i (by omega)).2
    omega
/-- two times of p ^ k go into the number -/
theorem pk_le (hp : Bp p) {k n : Nat} (hn : n ≠ 0) (hb : n ≤ 100000000) (h : 2 * k < len p n) : p ^ k ≤ 10000 := by
  have h2 := hp.two
  have h1 := pow_len_le h2 hn
  have h3 : p ^ (2 * k) ≤ p ^ (len p n - 1) := Nat.pow_le_pow_right (by omega) (by omega)
  have h4 : p ^ (2 * k) = p ^ k * p ^ k := by rw [Nat.two_mul, Nat.pow_add]
  by_cases z : p ^ k ≤ 10000
  · exact z
  · have : 10001 * 10001 ≤ p ^ k * p ^ k := Nat.mul_le_mul (by omega) (by omega)
    omega
theorem filter_range {α β : Type} (d : α) (q : α → Bool) (g : α → β) : ∀ l : List α, ((List.range l.length).filter fun i => q (l.getD i d)).map (fun i => g (l.getD i d)) = (l.filter q).map g := by
  intro l
  have h : l = (List.range l.length).map fun i => l.getD i d := by
    apply List.ext_getElem?
    intro i
    by_cases hi : i < l.length
    · simp [hi, List.getD_eq_getElem?_getD]
    · rw [List.getElem?_eq_none (by omega), List.getElem?_eq_none (by simp; omega)]
  conv => rhs; rw [h]
  rw [List.filter_map, List.map_map]
  rfl
end M
/-! M6: symbols, squares, as the program finds them -/
namespace M
variable {p : Nat}
def pwF (p m : Nat) : Nat → Nat → Nat → Nat → Nat
  | 0, r, _, _ => r
  | f + 1, r, h, k => if k = 0 then r else pwF p m f (if k % 2 = 1 then pmod p (pmul p r h) m else r) (pmod p (pmul p h h) m) (k / 2)
def powR (p a k m : Nat) : Nat := pwF p m k 1 (pmod p a m) k
theorem pwF_one (m f r h k : Nat) : pwF p m (f + 1) r h k = if k = 0 then r else pwF p m f (if k % 2 = 1 then pmod p (pmul p r h) m else r) (pmod p (pmul p h h) m) (k / 2) := rfl
theorem pwF_zero (m f r h : Nat) : pwF p m f r h 0 = r := by
  cases f with
  | zero => rfl
  | succ f => rw [pwF_one, if_pos rfl]
def halfN (p q : Nat) : Nat := (p ^ (len p q - 1) - 1) / 2
def symF (p a : Nat) : List (Nat × Nat) → Int → Int
  | [], s => s
  | x :: r, s => if powR p a (halfN p x.1) x.1 = 0 then 0 else symF p a r (if powR p a (halfN p x.1) x.1 ≠ 1 ∧ x.2 % 2 = 1 then -s else s)
def sym (p a b : Nat) : Int := symF p a (fac p b) 1
def iprime (p n : Nat) : Bool := decide (2 ≤ len p n) && (decide (lead p n = 1) && ((List.range ((len p n - 1) / 2)).all fun i => (List.range (p ^ (i + 1))).all fun j => !decide (pmod p n (p ^ (i + 1) + j) = 0)))
def rootF (p a q : Nat) : Option Nat := (List.range (p ^ (len p q - 1))).find? fun r => decide (pmod p (pmul p r r) q = pmod p a q)
def ins (l : List Nat) (x : Nat) : List Nat := if x ∈ l then l else l ++ [x]
def freeF (p : Nat) : List (Nat × Nat) → Nat → Nat
  | [], s => s
  | x :: r, s => freeF p r (s * (p ^ (len p x.1 - 1) - 1) * (p ^ (len p x.1 - 1)) ^ (x.2 - 1))
def free (p n : Nat) : Nat := freeF p (fac p n) 1
def lsym (p a q : Nat) : Int := if pmod p a q = 0 then 0 else if (List.range (p ^ (len p q - 1) - 1)).any fun i => decide (pmod p (pmul p (1 + i) (1 + i)) q = pmod p a q) then 1 else -1
/-! ### the factors are numbers of two figures on -/
def FacOk (p n : Nat) (l : List (Nat × Nat)) : Prop := ∀ x ∈ l, 2 ≤ len p x.1 ∧ len p x.1 ≤ len p n ∧ 1 ≤ x.2
theorem facRow_ok (hp : Bp p) {n : Nat} {st : FS} {q : Nat} (hq : 2 ≤ len p q) (h0 : st.1 ≠ 0) (hl : len p st.1 ≤ len p n) (h : FacOk p n st.2) : FacOk p n (facRow p st q).2 := by
  show FacOk p n (if 0 < (out p q st.1).2 then st.2 ++ [(q, (out p q st.1).2)] else st.2)
  by_cases z : 0 < (out p q st.1).2
  · rw [if_pos z]
    intro x hx
    rcases List.mem_append.mp hx with hx | hx
    · exact h x hx
    · rw [List.mem_singleton] at hx
      subst hx
      refine ⟨hq, ?_, z⟩
      by_cases y : len p q ≤ len p st.1
      · exact Nat.le_trans y hl
      · exfalso
        unfold out at z
        cases hf : len p st.1 with
        | zero => exact len_ne hp.two h0 hf
        | succ f => rw [hf, outF_one, if_neg (fun e => y e.1)] at z; exact Nat.lt_irrefl _ z
  · rw [if_neg z]; exact h
theorem facI_ok (hp : Bp p) {n k : Nat} (hk : 1 ≤ k) {st : FS} (h0 : st.1 ≠ 0) (hl : len p st.1 ≤ len p n) (h : FacOk p n st.2) : ∀ i, i ≤ p ^ k → FacOk p n (facI p k st i).2
  | 0, _ => h
  | i + 1, hi => by
    rw [facI_succ]
    have := facI_len hp hk h0 i (by omega)
    exact facRow_ok hp (by rw [len_pw hp (by omega)]; omega) this.2 (Nat.le_trans this.1 hl) (facI_ok hp hk h0 hl h i (by omega))
theorem facLoop_ok (hp : Bp p) {n : Nat} : ∀ f k (st : FS), 1 ≤ k → st.1 ≠ 0 → len p st.1 ≤ len p n → FacOk p n st.2 → FacOk p n (facLoop p f k st).2 ∧ (facLoop p f k st).1 ≠ 0 ∧ len p (facLoop p f k st).1 ≤ len p n
  | 0, k, st, hk, h0, hl, h => ⟨h, h0, hl⟩
  | f + 1, k, st, hk, h0, hl, h => by
    unfold facLoop
    by_cases z : 2 * k < len p st.1
    · rw [if_pos z]
      have := facI_len hp hk h0 (p ^ k) (Nat.le_refl _)
      exact facLoop_ok hp f (k + 1) _ (by omega) this.2 (Nat.le_trans this.1 hl) (facI_ok hp hk h0 hl h _ (Nat.le_refl _))
    · rw [if_neg z]; exact ⟨h, h0, hl⟩
theorem len_plainM (hp : Bp p) {n : Nat} (hn : n ≠ 0) : len p (plain p n) = len p n := by
  have hs := inv_spec hp (c := lead p n) (by rw [Nat.mod_eq_of_lt (lead_lt hp.two n)]; exact lead_pos hp.two hn)
  exact len_scl hp (by rw [Nat.mod_eq_of_lt hs.1]; omega) hn
theorem fac_ok (hp : Bp p) {n : Nat} (hn : n ≠ 0) : FacOk p n (fac p n) := by
  have hl := len_plainM hp hn
  have h0 : plain p n ≠ 0 := fun z => by rw [z, len_zero] at hl; exact len_ne hp.two hn hl.symm
  have := facLoop_ok hp (n := n) (len p n) 1 (plain p n, []) (Nat.le_refl _) h0 (by show len p (plain p n) ≤ _; omega) (fun x hx => by cases hx)
  unfold fac
  generalize facLoop p (len p n) 1 (plain p n, []) = st at *
  unfold facEnd
  by_cases z : 1 < len p st.1
  · rw [if_pos z]
    cases h : idxs st.1 st.2 with
    | nil =>
      intro x hx
      rcases List.mem_append.mp hx with hx | hx
      · exact this.1 x hx
      · rw [List.mem_singleton] at hx; subst hx; exact ⟨z, this.2.2, Nat.le_refl _⟩
    | cons i is =>
      intro x hx
      rcases List.mem_or_eq_of_mem_set hx with hx | hx
      · exact this.1 x hx
      · subst hx; exact ⟨z, this.2.2, Nat.succ_le_succ (Nat.zero_le _)⟩
  · rw [if_neg z]; exact this.1
theorem facLoop_cnt (hp : Bp p) : ∀ f k (st : FS), 1 ≤ k → st.1 ≠ 0 → (facLoop p f k st).2.length + len p (facLoop p f k st).1 ≤ st.2.length + len p st.1
  | 0, k, st, hk, h0 => Nat.le_refl _
  | f + 1, k, st, hk, h0 => by
    unfold facLoop
    by_cases z : 2 * k < len p st.1
    · rw [if_pos z]
      have h1 := facI_len hp hk h0 (p ^ k) (Nat.le_refl _)
      have h2 := facI_cnt hp hk h0 (p ^ k) (Nat.le_refl _)
      have := facLoop_cnt hp f (k + 1) _ (by omega) h1.2
      omega
    · rw [if_neg z]; exact Nat.le_refl _
theorem fac_cnt (hp : Bp p) {n : Nat} (hn : n ≠ 0) : (fac p n).length ≤ len p n + 1 := by
  have hl := len_plainM hp hn
  have h0 : plain p n ≠ 0 := fun z => by rw [z, len_zero] at hl; exact len_ne hp.two hn hl.symm
  have := facLoop_cnt hp (len p n) 1 (plain p n, []) (Nat.le_refl _) h0
  rw [show len p (plain p n, ([] : List (Nat × Nat))).1 = len p n from hl] at this
  unfold fac
  generalize facLoop p (len p n) 1 (plain p n, []) = st at *
  have h3 : st.2.length ≤ len p n := by simp only [List.length_nil] at this; omega
  unfold facEnd
  by_cases z : 1 < len p st.1
  · rw [if_pos z]
    cases h : idxs st.1 st.2 with
    | nil => show (st.2 ++ [(st.1, 1)]).length ≤ _; rw [List.length_append]; show _ + 1 ≤ _; omega
    | cons i is => show (st.2.set i _).length ≤ _; rw [List.length_set]; omega
  · rw [if_neg z]; omega
end M
set_option maxRecDepth 100000
/-! M7: for each prime q of few figures a number g whose powers are all numbers shorter than q -/
namespace M
def tab3 : List (Nat × Nat × List Nat) := [
  (3, 2, [1, 2]),
  (4, 2, [1, 2]),
  (5, 2, [1, 2]),
  (10, 4, [1, 4, 6, 7, 2, 8, 3, 5]),
  (14, 3, [1, 3, 7, 8, 2, 6, 5, 4]),
  (17, 3, [1, 3, 4, 7, 2, 6, 8, 5]),
  (34, 3, [1, 3, 9, 5, 15, 23, 13, 17, 20, 4, 12, 14, 11, 2, 6, 18, 7, 21, 16, 26, 22, 10, 8, 24, 25, 19]),
  (35, 6, [1, 6, 9, 8, 12, 26, 16, 14, 20, 7, 15, 17, 11, 2, 3, 18, 4, 24, 13, 23, 25, 10, 5, 21, 22, 19]),
  (38, 5, [1, 5, 13, 18, 20, 24, 14, 23, 3, 15, 4, 11, 17, 2, 7, 26, 9, 10, 12, 25, 16, 6, 21, 8, 19, 22]),
  (41, 4, [1, 4, 16, 26, 25, 21, 17, 18, 5, 11, 3, 12, 10, 2, 8, 23, 13, 14, 15, 22, 9, 7, 19, 6, 24, 20]),
  (43, 3, [1, 3, 9, 23, 22, 19, 10, 26, 4, 12, 5, 15, 14, 2, 6, 18, 16, 17, 11, 20, 13, 8, 24, 7, 21, 25]),
  (46, 3, [1, 3, 9, 11, 17, 8, 24, 10, 14, 26, 16, 5, 15, 2, 6, 18, 19, 22, 4, 12, 20, 25, 13, 23, 7, 21]),
  (49, 3, [1, 3, 9, 17, 5, 15, 8, 24, 13, 20, 19, 25, 16, 2, 6, 18, 22, 7, 21, 4, 12, 26, 10, 11, 14, 23]),
  (53, 4, [1, 4, 16, 14, 3, 12, 7, 19, 9, 22, 21, 20, 13, 2, 8, 23, 25, 6, 24, 5, 11, 18, 17, 15, 10, 26]),
  (86, 3, [1, 3, 9, 27, 7, 21, 63, 32, 13, 39, 43, 46, 55, 8, 24, 72, 59, 11, 33, 25, 75, 68, 38, 31, 10, 30, 16, 48, 70, 53, 76, 71, 47, 58, 17, 51, 79, 80, 74, 56, 2, 6, 18, 54, 5, 15, 45, 61, 26, 78, 77, 65, 29, 4, 12, 36, 34, 19, 57, 14, 42, 52, 73, 62, 20, 60, 23, 69, 50, 67, 44, 49, 64, 35, 22, 66, 41, 40, 37, 28]),
  (89, 3, [1, 3, 9, 27, 4, 12, 36, 31, 16, 48, 67, 38, 28, 7, 21, 63, 35, 19, 57, 17, 51, 76, 65, 32, 10, 30, 13, 39, 40, 43, 52, 79, 74, 59, 14, 42, 49, 70, 47, 55, 2, 6, 18, 54, 8, 24, 72, 62, 23, 69, 53, 73, 56, 5, 15, 45, 58, 11, 33, 22, 66, 44, 46, 61, 20, 60, 26, 78, 80, 77, 68, 41, 37, 34, 25, 75, 71, 50, 64, 29]),
  (92, 12, [1, 12, 55, 47, 45, 30, 4, 48, 66, 15, 10, 31, 16, 22, 5, 33, 40, 35, 28, 61, 11, 43, 71, 39, 50, 54, 44, 74, 13, 67, 18, 65, 75, 34, 52, 6, 72, 25, 41, 38, 2, 24, 29, 64, 63, 60, 8, 69, 51, 21, 20, 62, 23, 17, 7, 57, 80, 58, 56, 32, 19, 77, 49, 78, 70, 27, 76, 37, 26, 53, 9, 46, 42, 59, 68, 3, 36, 14, 79, 73]),
  (94, 4, [1, 4, 16, 28, 45, 17, 32, 34, 42, 77, 39, 65, 18, 72, 31, 30, 29, 49, 21, 57, 79, 50, 25, 64, 26, 68, 3, 12, 48, 20, 80, 51, 5, 11, 44, 73, 35, 37, 54, 67, 2, 8, 23, 56, 63, 22, 61, 59, 75, 43, 78, 46, 9, 36, 62, 60, 55, 71, 15, 33, 41, 70, 14, 47, 13, 52, 6, 24, 69, 10, 40, 66, 7, 19, 76, 38, 58, 74, 27, 53]),
  (97, 5, [1, 5, 13, 29, 72, 25, 62, 35, 66, 67, 69, 73, 18, 63, 61, 30, 56, 41, 24, 57, 49, 40, 22, 74, 23, 76, 6, 21, 78, 10, 50, 42, 8, 19, 68, 65, 59, 47, 27, 77, 2, 7, 26, 55, 36, 14, 31, 58, 51, 53, 48, 38, 9, 45, 32, 60, 28, 79, 12, 33, 71, 80, 17, 37, 16, 44, 3, 15, 39, 20, 70, 75, 4, 11, 52, 46, 34, 64, 54, 43]),
  (101, 4, [1, 4, 16, 28, 41, 54, 74, 43, 65, 7, 19, 76, 51, 25, 64, 3, 12, 48, 13, 52, 20, 80, 31, 53, 21, 57, 59, 55, 75, 50, 9, 36, 73, 39, 58, 60, 71, 22, 61, 63, 2, 8, 23, 56, 79, 27, 37, 77, 46, 5, 11, 44, 66, 14, 47, 6, 24, 69, 26, 68, 10, 40, 62, 67, 15, 33, 34, 29, 42, 70, 18, 72, 38, 78, 35, 30, 49, 17, 32, 45]),
  (110, 3, [1, 3, 9, 27, 55, 32, 70, 77, 17, 51, 46, 31, 67, 68, 71, 80, 26, 78, 20, 60, 47, 34, 76, 14, 42, 19, 57, 38, 7, 21, 63, 56, 35, 79, 23, 69, 74, 8, 24, 72, 2, 6, 18, 54, 29, 61, 50, 43, 22, 66, 65, 62, 53, 52, 49, 40, 13, 39, 10, 30, 64, 59, 44, 25, 75, 11, 33, 73, 5, 15, 45, 28, 58, 41, 16, 48, 37, 4, 12, 36]),
  (115, 4, [1, 4, 16, 28, 6, 24, 69, 31, 9, 36, 41, 49, 54, 7, 19, 76, 59, 15, 33, 20, 80, 63, 43, 30, 17, 32, 13, 52, 66, 46, 78, 67, 50, 58, 14, 47, 73, 74, 75, 55, 2, 8, 23, 56, 3, 12, 48, 62, 18, 72, 79, 71, 27, 5, 11, 44, 34, 21, 57, 10, 40, 45, 77, 60, 22, 61, 26, 68, 51, 65, 39, 53, 70, 35, 25, 64, 38, 37, 42, 29]),
  (118, 10, [1, 10, 63, 49, 18, 28, 53, 31, 74, 14, 22, 68, 69, 19, 38, 8, 80, 65, 39, 36, 15, 35, 3, 30, 64, 32, 54, 77, 44, 59, 16, 42, 66, 79, 55, 57, 26, 24, 7, 70, 2, 20, 45, 71, 9, 56, 67, 62, 37, 25, 17, 52, 48, 11, 73, 4, 40, 46, 78, 72, 21, 58, 6, 60, 47, 61, 27, 43, 76, 34, 23, 75, 51, 41, 29, 33, 13, 12, 5, 50]),
  (121, 5, [1, 5, 13, 29, 48, 14, 31, 34, 40, 79, 36, 71, 23, 76, 30, 32, 27, 53, 24, 57, 73, 51, 20, 70, 18, 63, 4, 11, 52, 22, 74, 47, 3, 15, 39, 77, 35, 42, 56, 65, 2, 7, 26, 55, 69, 25, 62, 59, 80, 41, 72, 49, 16, 44, 60, 61, 54, 67, 12, 33, 38, 66, 10, 50, 9, 45, 8, 19, 68, 17, 37, 64, 6, 21, 78, 43, 58, 75, 28, 46]),
  (125, 3, [1, 3, 9, 27, 76, 20, 60, 35, 64, 65, 68, 77, 23, 69, 62, 32, 55, 38, 19, 57, 53, 37, 25, 75, 26, 78, 8, 24, 72, 17, 51, 40, 7, 21, 63, 71, 59, 50, 28, 79, 2, 6, 18, 54, 44, 10, 30, 58, 47, 46, 52, 43, 16, 48, 31, 61, 29, 73, 11, 33, 67, 74, 14, 42, 13, 39, 4, 12, 36, 22, 66, 80, 5, 15, 45, 49, 34, 70, 56, 41]),
  (134, 3, [1, 3, 9, 27, 67, 56, 50, 46, 43, 7, 21, 63, 80, 14, 42, 4, 12, 36, 13, 39, 22, 66, 62, 41, 19, 57, 35, 55, 47, 37, 16, 48, 49, 52, 34, 61, 38, 10, 30, 76, 2, 6, 18, 54, 53, 28, 70, 65, 77, 5, 15, 45, 40, 25, 75, 8, 24, 72, 26, 78, 17, 51, 31, 79, 11, 33, 58, 29, 64, 74, 23, 69, 71, 68, 59, 32, 73, 20, 60, 44]),
  (137, 3, [1, 3, 9, 27, 28, 31, 40, 67, 14, 42, 73, 32, 43, 76, 41, 70, 23, 69, 20, 60, 74, 35, 52, 22, 66, 11, 33, 46, 4, 12, 36, 55, 59, 71, 26, 78, 47, 7, 21, 63, 2, 6, 18, 54, 56, 62, 80, 53, 25, 75, 38, 61, 77, 44, 79, 50, 16, 48, 10, 30, 37, 58, 68, 17, 51, 19, 57, 65, 8, 24, 72, 29, 34, 49, 13, 39, 64, 5, 15, 45]),
  (139, 4, [1, 4, 16, 28, 54, 31, 66, 79, 14, 47, 49, 30, 65, 63, 67, 74, 18, 72, 22, 61, 50, 34, 78, 10, 40, 21, 57, 43, 6, 24, 69, 55, 35, 73, 26, 68, 75, 7, 19, 76, 2, 8, 23, 56, 27, 62, 51, 41, 25, 64, 71, 60, 46, 45, 53, 37, 9, 36, 17, 32, 70, 59, 39, 20, 80, 15, 33, 77, 3, 12, 48, 29, 58, 38, 13, 52, 42, 5, 11, 44]),
  (145, 10, [1, 10, 36, 79, 18, 55, 77, 61, 47, 17, 25, 44, 39, 19, 65, 5, 50, 38, 69, 63, 12, 59, 6, 60, 37, 62, 27, 53, 68, 35, 13, 66, 42, 49, 28, 33, 23, 21, 4, 40, 2, 20, 72, 41, 9, 29, 43, 32, 64, 22, 14, 76, 78, 11, 46, 7, 70, 73, 48, 45, 24, 34, 3, 30, 74, 31, 54, 67, 52, 58, 26, 51, 75, 71, 56, 57, 16, 15, 8, 80]),
  (149, 3, [1, 3, 9, 27, 52, 10, 30, 34, 37, 73, 44, 67, 26, 78, 32, 31, 28, 46, 19, 57, 77, 47, 22, 66, 23, 69, 5, 15, 45, 25, 75, 50, 4, 12, 36, 79, 35, 40, 55, 71, 2, 6, 18, 54, 68, 20, 60, 59, 74, 38, 76, 53, 13, 39, 61, 62, 56, 65, 11, 33, 43, 64, 17, 51, 16, 48, 7, 21, 63, 14, 42, 70, 8, 24, 72, 41, 58, 80, 29, 49]),
  (151, 4, [1, 4, 16, 28, 78, 22, 61, 35, 70, 71, 63, 79, 26, 68, 60, 31, 54, 43, 21, 57, 46, 42, 20, 80, 18, 72, 7, 19, 76, 14, 47, 37, 6, 24, 69, 67, 59, 51, 29, 73, 2, 8, 23, 56, 39, 17, 32, 58, 50, 49, 45, 41, 13, 52, 30, 62, 27, 77, 15, 33, 65, 75, 10, 40, 9, 36, 5, 11, 44, 25, 64, 74, 3, 12, 48, 53, 34, 66, 55, 38]),
  (158, 3, [1, 3, 9, 27, 43, 55, 80, 38, 67, 8, 24, 72, 50, 22, 66, 5, 15, 45, 16, 48, 25, 75, 32, 49, 19, 57, 59, 56, 74, 47, 13, 39, 79, 44, 58, 62, 65, 20, 60, 68, 2, 6, 18, 54, 77, 29, 40, 73, 53, 4, 12, 36, 70, 17, 51, 7, 21, 63, 23, 69, 14, 42, 61, 71, 11, 33, 34, 28, 37, 64, 26, 78, 41, 76, 35, 31, 46, 10, 30, 52])]
def tab5 : List (Nat × Nat × List Nat) := [
  (5, 2, [1, 2, 4, 3]),
  (6, 2, [1, 2, 4, 3]),
  (7, 2, [1, 2, 4, 3]),
  (8, 2, [1, 2, 4, 3]),
  (9, 2, [1, 2, 4, 3]),
  (27, 6, [1, 6, 14, 5, 8, 21, 3, 18, 7, 15, 19, 13, 4, 24, 16, 20, 22, 9, 2, 12, 23, 10, 11, 17]),
  (28, 7, [1, 7, 21, 20, 18, 22, 2, 14, 17, 15, 6, 19, 4, 23, 9, 5, 12, 8, 3, 16, 13, 10, 24, 11]),
  (31, 7, [1, 7, 18, 8, 20, 21, 3, 16, 24, 19, 10, 13, 4, 23, 12, 22, 5, 9, 2, 14, 6, 11, 15, 17]),
  (32, 5, [1, 5, 23, 22, 17, 24, 2, 10, 16, 19, 9, 18, 4, 20, 7, 8, 13, 6, 3, 15, 14, 11, 21, 12]),
  (38, 5, [1, 5, 17, 6, 22, 23, 3, 15, 21, 18, 11, 14, 4, 20, 13, 24, 8, 7, 2, 10, 9, 12, 19, 16]),
  (39, 8, [1, 8, 20, 24, 16, 21, 2, 11, 15, 18, 7, 17, 4, 22, 5, 6, 14, 9, 3, 19, 10, 12, 23, 13]),
  (43, 5, [1, 5, 12, 9, 7, 22, 3, 15, 6, 17, 16, 11, 4, 20, 18, 21, 23, 8, 2, 10, 24, 13, 14, 19]),
  (44, 6, [1, 6, 22, 21, 15, 23, 2, 12, 19, 17, 5, 16, 4, 24, 8, 9, 10, 7, 3, 18, 11, 13, 20, 14]),
  (46, 6, [1, 6, 15, 7, 21, 22, 3, 18, 20, 16, 13, 11, 4, 24, 10, 23, 9, 8, 2, 12, 5, 14, 17, 19]),
  (47, 5, [1, 5, 8, 23, 12, 21, 2, 10, 11, 16, 24, 17, 4, 20, 22, 7, 18, 9, 3, 15, 19, 14, 6, 13]),
  (131, 9, [1, 9, 41, 63, 20, 105, 51, 97, 25, 124, 7, 33, 6, 29, 115, 116, 120, 11, 74, 69, 49, 95, 42, 67, 36, 43, 71, 52, 76, 66, 32, 2, 13, 57, 121, 15, 85, 102, 44, 50, 93, 14, 61, 12, 53, 80, 82, 90, 22, 118, 108, 68, 40, 59, 109, 72, 56, 117, 104, 27, 107, 64, 4, 21, 114, 92, 5, 45, 79, 58, 100, 31, 23, 122, 24, 101, 35, 39, 30, 19, 81, 86, 106, 55, 113, 88, 119, 112, 84, 78, 54, 89, 123, 3, 17, 98, 34, 10, 65, 28, 111, 75, 62, 16, 94, 18, 77, 70, 73, 60, 8, 37, 47, 87, 110, 96, 46, 83, 99, 38, 26, 103, 48, 91]),
  (134, 6, [1, 6, 36, 87, 5, 30, 51, 73, 25, 46, 22, 107, 21, 101, 110, 44, 105, 14, 59, 91, 34, 70, 37, 93, 41, 117, 56, 78, 76, 94, 47, 3, 18, 83, 106, 15, 90, 28, 39, 75, 88, 11, 66, 13, 53, 55, 97, 65, 7, 42, 123, 92, 35, 81, 124, 98, 71, 43, 104, 103, 122, 86, 4, 24, 119, 68, 20, 120, 79, 82, 100, 109, 8, 48, 9, 29, 40, 111, 45, 16, 96, 64, 121, 80, 118, 62, 114, 38, 99, 52, 54, 61, 108, 2, 12, 72, 49, 10, 60, 102, 116, 50, 67, 19, 89, 17, 77, 95, 58, 85, 23, 113, 32, 63, 115, 74, 31, 57, 84, 112, 26, 27, 33, 69]),
  (136, 6, [1, 6, 36, 80, 102, 123, 99, 61, 124, 75, 97, 54, 52, 65, 23, 113, 39, 98, 55, 88, 20, 120, 81, 108, 9, 29, 38, 92, 49, 8, 48, 2, 12, 72, 35, 79, 91, 43, 122, 93, 25, 44, 103, 104, 105, 16, 96, 73, 41, 110, 46, 15, 90, 37, 86, 13, 53, 71, 34, 68, 11, 66, 4, 24, 119, 70, 28, 32, 56, 94, 31, 50, 58, 76, 78, 85, 7, 42, 116, 57, 95, 67, 5, 30, 74, 47, 21, 101, 117, 63, 106, 22, 107, 3, 18, 83, 115, 51, 64, 112, 33, 62, 100, 111, 27, 26, 45, 14, 59, 82, 114, 40, 109, 10, 60, 118, 69, 17, 77, 84, 121, 87, 19, 89]),
  (139, 7, [1, 7, 49, 29, 64, 45, 31, 83, 74, 90, 103, 75, 48, 47, 40, 21, 122, 63, 43, 12, 59, 10, 70, 97, 22, 104, 82, 67, 71, 79, 41, 3, 16, 87, 77, 32, 85, 93, 119, 37, 120, 54, 100, 89, 86, 95, 13, 61, 34, 99, 6, 42, 5, 35, 111, 11, 52, 116, 46, 38, 102, 98, 4, 23, 106, 101, 91, 105, 124, 72, 81, 60, 27, 50, 107, 108, 110, 9, 33, 92, 112, 18, 96, 15, 80, 58, 8, 26, 73, 88, 84, 51, 114, 2, 14, 68, 53, 123, 65, 62, 36, 118, 30, 76, 25, 66, 69, 55, 17, 94, 121, 56, 24, 113, 20, 115, 44, 19, 78, 39, 109, 117, 28, 57]),
  (142, 5, [1, 5, 25, 13, 65, 96, 114, 62, 56, 26, 18, 90, 84, 29, 8, 40, 88, 74, 116, 97, 119, 87, 69, 91, 89, 54, 16, 80, 34, 33, 28, 3, 15, 75, 9, 45, 113, 57, 31, 43, 78, 24, 120, 117, 77, 19, 95, 109, 37, 73, 111, 72, 106, 47, 123, 107, 27, 23, 115, 92, 94, 79, 4, 20, 100, 17, 85, 59, 41, 93, 99, 104, 12, 60, 71, 101, 22, 110, 67, 81, 39, 58, 36, 68, 86, 64, 66, 76, 14, 70, 121, 122, 102, 2, 10, 50, 21, 105, 42, 98, 124, 112, 52, 6, 30, 38, 53, 11, 55, 46, 118, 82, 44, 83, 49, 108, 32, 48, 103, 7, 35, 63, 61, 51]),
  (143, 5, [1, 5, 25, 12, 60, 74, 119, 88, 71, 104, 13, 65, 99, 101, 23, 115, 93, 96, 111, 73, 114, 63, 64, 69, 94, 76, 11, 55, 49, 107, 28, 2, 10, 50, 24, 120, 118, 83, 46, 117, 78, 21, 105, 43, 77, 16, 80, 31, 42, 97, 116, 98, 121, 123, 108, 33, 27, 22, 110, 68, 89, 51, 4, 20, 100, 18, 90, 81, 36, 67, 84, 26, 17, 85, 56, 29, 7, 35, 62, 59, 44, 82, 41, 92, 91, 86, 61, 54, 19, 95, 106, 48, 102, 3, 15, 75, 6, 30, 37, 72, 109, 38, 52, 9, 45, 112, 53, 14, 70, 124, 113, 58, 39, 57, 34, 32, 47, 122, 103, 8, 40, 87, 66, 79]),
  (147, 5, [1, 5, 25, 8, 40, 83, 34, 28, 23, 115, 97, 104, 17, 85, 69, 81, 49, 103, 12, 60, 61, 66, 91, 99, 114, 67, 96, 124, 117, 82, 29, 3, 15, 75, 19, 95, 119, 92, 79, 14, 70, 111, 52, 21, 105, 47, 118, 87, 54, 6, 30, 33, 48, 123, 112, 57, 46, 113, 62, 71, 116, 77, 4, 20, 100, 22, 110, 72, 121, 102, 7, 35, 58, 26, 13, 65, 86, 74, 106, 27, 18, 90, 94, 89, 64, 56, 41, 88, 59, 31, 38, 73, 101, 2, 10, 50, 11, 55, 36, 63, 51, 16, 80, 44, 78, 9, 45, 108, 37, 68, 76, 24, 120, 122, 107, 32, 43, 98, 109, 42, 93, 84, 39, 53]),
  (148, 5, [1, 5, 25, 7, 35, 57, 49, 102, 8, 40, 82, 26, 12, 60, 64, 59, 34, 27, 17, 85, 66, 94, 86, 71, 119, 93, 81, 46, 112, 58, 29, 2, 10, 50, 14, 70, 114, 68, 79, 11, 55, 39, 52, 24, 120, 123, 113, 63, 54, 9, 45, 107, 33, 47, 117, 83, 31, 37, 67, 99, 111, 53, 4, 20, 100, 23, 115, 98, 106, 28, 22, 110, 73, 104, 18, 90, 91, 96, 121, 103, 13, 65, 89, 61, 69, 84, 36, 62, 74, 109, 43, 97, 101, 3, 15, 75, 16, 80, 41, 87, 51, 19, 95, 116, 78, 6, 30, 32, 42, 92, 76, 21, 105, 48, 122, 108, 38, 72, 124, 118, 88, 56, 44, 77]),
  (151, 7, [1, 7, 49, 12, 59, 81, 119, 54, 71, 45, 19, 78, 93, 48, 5, 35, 99, 60, 123, 82, 121, 98, 58, 79, 95, 67, 17, 94, 25, 29, 47, 3, 16, 87, 6, 42, 118, 72, 27, 38, 85, 22, 104, 124, 89, 15, 80, 112, 30, 64, 116, 63, 114, 44, 102, 110, 46, 21, 122, 75, 77, 86, 4, 23, 106, 18, 96, 74, 36, 76, 84, 105, 11, 52, 62, 107, 20, 115, 56, 90, 32, 73, 34, 57, 97, 51, 55, 88, 13, 61, 100, 101, 108, 2, 14, 68, 24, 113, 37, 83, 103, 117, 65, 8, 26, 31, 66, 10, 70, 43, 120, 91, 39, 92, 41, 111, 28, 40, 109, 9, 33, 50, 53, 69]),
  (152, 5, [1, 5, 25, 103, 42, 63, 16, 80, 79, 74, 71, 56, 106, 57, 111, 82, 89, 124, 22, 110, 77, 64, 21, 105, 52, 86, 109, 72, 61, 6, 30, 3, 15, 75, 54, 96, 34, 23, 115, 102, 37, 38, 43, 68, 41, 58, 116, 107, 62, 11, 55, 101, 32, 13, 65, 26, 108, 67, 36, 33, 18, 90, 4, 20, 100, 27, 113, 92, 14, 70, 51, 81, 84, 99, 49, 98, 44, 73, 66, 31, 8, 40, 53, 91, 9, 45, 78, 69, 46, 83, 94, 24, 120, 2, 10, 50, 76, 59, 121, 7, 35, 28, 118, 117, 112, 87, 114, 97, 39, 48, 93, 19, 95, 29, 123, 17, 85, 104, 47, 88, 119, 122, 12, 60]),
  (158, 5, [1, 5, 25, 122, 18, 90, 11, 55, 119, 103, 48, 87, 121, 13, 65, 44, 67, 29, 117, 118, 123, 23, 115, 108, 73, 59, 114, 78, 51, 99, 31, 2, 10, 50, 94, 6, 30, 22, 110, 83, 76, 66, 49, 92, 21, 105, 58, 109, 53, 84, 81, 91, 16, 80, 86, 116, 113, 98, 26, 102, 43, 62, 4, 20, 100, 33, 12, 60, 19, 95, 36, 27, 107, 68, 34, 17, 85, 111, 88, 101, 38, 37, 32, 7, 35, 47, 82, 96, 41, 52, 79, 56, 124, 3, 15, 75, 61, 24, 120, 8, 40, 72, 54, 89, 106, 63, 9, 45, 97, 46, 77, 71, 74, 64, 14, 70, 69, 39, 42, 57, 104, 28, 112, 93]),
  (159, 6, [1, 6, 36, 62, 64, 71, 118, 87, 55, 47, 103, 22, 107, 46, 122, 111, 70, 112, 51, 23, 113, 57, 34, 45, 116, 75, 13, 53, 5, 30, 26, 2, 12, 72, 124, 123, 117, 81, 49, 110, 69, 76, 19, 89, 67, 94, 97, 115, 99, 102, 16, 96, 114, 63, 65, 82, 25, 21, 101, 10, 60, 52, 4, 24, 119, 93, 91, 84, 37, 68, 95, 108, 27, 8, 48, 109, 33, 44, 80, 43, 79, 7, 42, 98, 121, 105, 39, 50, 17, 77, 20, 120, 104, 3, 18, 83, 31, 32, 38, 74, 106, 40, 86, 54, 11, 66, 88, 61, 58, 35, 56, 28, 14, 59, 41, 92, 85, 73, 100, 9, 29, 15, 90, 78]),
  (166, 6, [1, 6, 36, 50, 23, 113, 69, 82, 49, 103, 9, 29, 8, 48, 122, 123, 104, 10, 60, 58, 41, 80, 37, 56, 34, 38, 62, 65, 88, 55, 28, 2, 12, 72, 100, 16, 96, 108, 39, 68, 76, 13, 53, 11, 66, 94, 91, 78, 20, 120, 111, 57, 35, 74, 112, 63, 71, 124, 105, 46, 110, 51, 4, 24, 119, 75, 7, 42, 86, 73, 106, 27, 21, 101, 22, 107, 33, 32, 26, 15, 90, 97, 114, 70, 118, 99, 121, 117, 93, 85, 67, 95, 102, 3, 18, 83, 25, 14, 59, 47, 116, 87, 54, 17, 77, 19, 89, 61, 64, 52, 5, 30, 44, 98, 115, 81, 43, 92, 84, 31, 45, 109, 40, 79]),
  (169, 8, [1, 8, 34, 98, 7, 26, 69, 64, 49, 43, 20, 110, 24, 107, 115, 39, 113, 13, 74, 79, 25, 61, 30, 76, 36, 124, 71, 85, 88, 77, 44, 3, 19, 92, 114, 16, 78, 47, 32, 87, 99, 10, 55, 12, 66, 70, 82, 59, 9, 37, 102, 75, 33, 90, 103, 83, 62, 38, 105, 109, 101, 97, 4, 22, 121, 57, 23, 104, 86, 91, 106, 112, 5, 40, 6, 48, 35, 116, 42, 17, 81, 51, 100, 94, 120, 54, 119, 31, 84, 65, 67, 53, 111, 2, 11, 63, 41, 14, 52, 108, 123, 68, 56, 15, 95, 18, 89, 80, 73, 96, 21, 118, 28, 50, 122, 60, 27, 72, 93, 117, 45, 46, 29, 58]),
  (171, 6, [1, 6, 36, 70, 108, 44, 93, 95, 112, 68, 91, 88, 65, 78, 5, 30, 39, 63, 61, 54, 7, 42, 81, 28, 22, 107, 38, 57, 25, 9, 29, 3, 18, 83, 35, 69, 97, 124, 110, 56, 49, 123, 109, 45, 104, 15, 90, 82, 34, 33, 27, 16, 96, 118, 79, 11, 66, 84, 41, 75, 17, 77, 4, 24, 119, 80, 47, 111, 62, 55, 43, 87, 64, 67, 85, 52, 20, 120, 116, 92, 94, 76, 23, 113, 74, 102, 8, 48, 117, 98, 100, 21, 101, 2, 12, 72, 115, 86, 58, 31, 40, 99, 106, 32, 46, 105, 26, 10, 60, 73, 121, 122, 103, 14, 59, 37, 51, 19, 89, 71, 114, 50, 13, 53]),
  (173, 5, [1, 5, 25, 107, 58, 104, 43, 72, 74, 59, 109, 68, 29, 102, 33, 22, 110, 98, 31, 12, 60, 14, 70, 64, 9, 45, 82, 76, 71, 69, 34, 2, 10, 50, 89, 111, 78, 56, 119, 118, 113, 88, 106, 53, 79, 61, 19, 95, 41, 62, 24, 120, 23, 115, 123, 13, 65, 39, 27, 117, 108, 63, 4, 20, 100, 48, 97, 26, 112, 83, 81, 96, 46, 87, 101, 28, 122, 8, 40, 57, 124, 18, 90, 16, 80, 91, 21, 105, 73, 54, 84, 86, 121, 3, 15, 75, 66, 44, 52, 99, 36, 37, 42, 67, 49, 77, 51, 94, 11, 55, 114, 93, 6, 30, 7, 35, 32, 17, 85, 116, 103, 38, 47, 92]),
  (176, 6, [1, 6, 36, 40, 69, 37, 46, 75, 52, 85, 112, 98, 35, 39, 33, 22, 107, 68, 31, 10, 60, 13, 53, 91, 23, 113, 79, 71, 54, 97, 34, 3, 18, 83, 95, 47, 81, 88, 100, 26, 105, 56, 114, 80, 82, 94, 11, 66, 49, 93, 5, 30, 9, 29, 123, 14, 59, 102, 38, 27, 111, 92, 4, 24, 119, 110, 86, 118, 109, 50, 78, 65, 43, 57, 115, 116, 122, 8, 48, 87, 124, 15, 90, 17, 77, 64, 7, 42, 51, 84, 76, 58, 121, 2, 12, 72, 55, 108, 74, 67, 25, 104, 45, 99, 41, 70, 73, 61, 19, 89, 106, 62, 20, 120, 21, 101, 32, 16, 96, 28, 117, 103, 44, 63]),
  (178, 5, [1, 5, 25, 77, 111, 108, 93, 66, 109, 98, 91, 56, 59, 74, 24, 120, 28, 92, 61, 84, 21, 105, 78, 116, 8, 40, 27, 87, 36, 7, 35, 2, 10, 50, 29, 97, 86, 31, 107, 88, 41, 32, 112, 113, 118, 18, 90, 51, 34, 122, 38, 17, 85, 26, 82, 11, 55, 54, 49, 72, 14, 70, 4, 20, 100, 53, 44, 47, 62, 89, 46, 57, 64, 99, 96, 81, 6, 30, 102, 63, 94, 71, 9, 45, 52, 39, 22, 110, 103, 68, 119, 23, 115, 3, 15, 75, 101, 58, 69, 124, 48, 67, 114, 123, 43, 42, 37, 12, 60, 79, 121, 33, 117, 13, 65, 104, 73, 19, 95, 76, 106, 83, 16, 80]),
  (183, 5, [1, 5, 25, 97, 96, 91, 66, 124, 28, 87, 46, 52, 29, 92, 71, 24, 120, 33, 112, 118, 23, 115, 8, 40, 47, 57, 54, 39, 17, 85, 36, 2, 10, 50, 44, 42, 32, 107, 93, 51, 49, 67, 104, 53, 34, 117, 18, 90, 61, 99, 81, 16, 80, 11, 55, 69, 114, 103, 73, 9, 45, 72, 4, 20, 100, 58, 59, 64, 89, 31, 102, 68, 109, 78, 101, 63, 84, 6, 30, 122, 43, 37, 7, 35, 22, 110, 108, 98, 76, 116, 13, 65, 119, 3, 15, 75, 111, 113, 123, 48, 62, 79, 106, 88, 26, 77, 121, 38, 12, 60, 94, 56, 74, 14, 70, 19, 95, 86, 41, 27, 82, 21, 105, 83]),
  (184, 7, [1, 7, 49, 109, 37, 50, 17, 94, 86, 60, 62, 71, 114, 72, 116, 91, 95, 103, 20, 115, 89, 51, 24, 113, 65, 97, 112, 63, 53, 8, 26, 3, 16, 87, 67, 81, 25, 21, 122, 108, 30, 31, 38, 57, 36, 73, 123, 110, 54, 10, 70, 107, 28, 12, 59, 45, 111, 56, 34, 29, 19, 78, 4, 23, 106, 46, 118, 75, 13, 61, 69, 90, 93, 84, 41, 83, 39, 64, 55, 27, 5, 35, 66, 79, 6, 42, 85, 58, 43, 92, 77, 22, 104, 2, 14, 68, 88, 74, 100, 9, 33, 47, 120, 124, 117, 98, 119, 82, 32, 40, 76, 15, 80, 48, 102, 18, 96, 105, 44, 99, 121, 101, 11, 52]),
  (187, 5, [1, 5, 25, 93, 64, 76, 104, 57, 66, 111, 117, 22, 110, 112, 122, 47, 53, 46, 73, 21, 105, 87, 34, 113, 102, 72, 16, 80, 24, 120, 37, 3, 15, 75, 124, 32, 103, 52, 41, 48, 58, 71, 11, 55, 56, 61, 86, 29, 88, 39, 13, 65, 106, 92, 59, 51, 36, 23, 115, 12, 60, 81, 4, 20, 100, 62, 91, 54, 26, 98, 89, 44, 38, 8, 40, 43, 33, 108, 77, 109, 82, 9, 45, 68, 121, 42, 28, 83, 14, 70, 6, 30, 118, 2, 10, 50, 31, 123, 27, 78, 114, 107, 97, 84, 19, 95, 99, 94, 69, 101, 67, 116, 17, 85, 49, 63, 96, 79, 119, 7, 35, 18, 90, 74]),
  (188, 5, [1, 5, 25, 92, 56, 64, 79, 116, 18, 90, 71, 14, 70, 9, 45, 67, 119, 8, 40, 42, 27, 77, 106, 93, 61, 89, 41, 47, 52, 44, 37, 2, 10, 50, 34, 112, 123, 28, 82, 6, 30, 117, 23, 115, 13, 65, 109, 83, 11, 55, 59, 54, 29, 87, 31, 122, 48, 57, 69, 104, 58, 74, 4, 20, 100, 63, 99, 91, 51, 39, 12, 60, 84, 16, 80, 21, 105, 88, 36, 22, 110, 113, 103, 53, 49, 62, 94, 66, 114, 108, 78, 111, 118, 3, 15, 75, 121, 43, 32, 102, 73, 24, 120, 38, 7, 35, 17, 85, 46, 72, 19, 95, 96, 76, 101, 68, 124, 33, 107, 98, 86, 26, 97, 81]),
  (197, 5, [1, 5, 25, 83, 9, 45, 58, 51, 41, 38, 23, 115, 22, 110, 122, 32, 118, 12, 60, 86, 49, 53, 26, 88, 34, 103, 62, 96, 99, 89, 39, 3, 15, 75, 119, 17, 85, 44, 28, 98, 84, 14, 70, 11, 55, 61, 91, 74, 6, 30, 108, 87, 29, 78, 109, 92, 54, 31, 113, 112, 107, 82, 4, 20, 100, 72, 21, 105, 97, 79, 114, 117, 7, 35, 8, 40, 33, 123, 37, 18, 90, 69, 106, 77, 104, 67, 121, 27, 93, 59, 56, 66, 116, 2, 10, 50, 36, 13, 65, 111, 102, 57, 71, 16, 80, 19, 95, 94, 64, 81, 24, 120, 47, 68, 101, 52, 46, 63, 76, 124, 42, 43, 48, 73]),
  (199, 8, [1, 8, 34, 68, 21, 118, 58, 91, 41, 109, 6, 48, 5, 40, 101, 102, 105, 14, 52, 73, 36, 94, 30, 71, 25, 31, 54, 59, 99, 70, 47, 2, 11, 63, 106, 17, 81, 111, 32, 57, 88, 12, 66, 10, 55, 77, 79, 85, 23, 104, 116, 72, 33, 60, 117, 50, 62, 103, 113, 43, 115, 69, 4, 22, 121, 87, 9, 37, 97, 64, 114, 46, 24, 107, 20, 110, 29, 28, 45, 16, 78, 82, 119, 61, 120, 84, 100, 124, 76, 96, 56, 80, 108, 3, 19, 92, 49, 13, 74, 44, 123, 98, 67, 18, 89, 15, 95, 53, 51, 65, 7, 26, 39, 83, 122, 90, 38, 75, 93, 27, 42, 112, 35, 86]),
  (202, 5, [1, 5, 25, 53, 116, 32, 88, 94, 124, 72, 86, 84, 74, 96, 9, 45, 28, 68, 66, 56, 6, 30, 78, 44, 23, 115, 27, 63, 41, 8, 40, 3, 15, 75, 29, 73, 91, 109, 122, 62, 36, 108, 117, 37, 113, 17, 85, 79, 49, 48, 43, 18, 90, 104, 97, 14, 70, 76, 34, 98, 19, 95, 4, 20, 100, 77, 39, 123, 67, 61, 31, 83, 69, 71, 81, 59, 21, 105, 102, 87, 89, 99, 24, 120, 52, 111, 7, 35, 103, 92, 114, 22, 110, 2, 10, 50, 101, 82, 64, 46, 33, 93, 119, 47, 38, 118, 42, 13, 65, 51, 106, 107, 112, 12, 60, 26, 58, 16, 80, 54, 121, 57, 11, 55]),
  (204, 7, [1, 7, 49, 89, 116, 111, 76, 55, 112, 83, 79, 71, 74, 60, 22, 104, 47, 75, 53, 93, 24, 113, 85, 123, 5, 35, 46, 98, 34, 9, 33, 2, 14, 68, 48, 82, 97, 27, 110, 99, 36, 28, 117, 118, 120, 19, 78, 69, 25, 101, 31, 18, 96, 45, 91, 10, 70, 67, 41, 63, 13, 61, 4, 23, 106, 66, 39, 44, 54, 95, 43, 72, 51, 84, 81, 90, 8, 26, 108, 50, 77, 62, 6, 42, 65, 32, 20, 115, 109, 57, 121, 21, 122, 3, 16, 87, 107, 73, 58, 103, 40, 56, 119, 102, 38, 37, 30, 11, 52, 86, 100, 29, 124, 12, 59, 105, 64, 15, 80, 88, 114, 92, 17, 94]),
  (206, 6, [1, 6, 36, 10, 60, 78, 100, 56, 54, 37, 16, 96, 88, 35, 9, 29, 93, 65, 108, 79, 106, 92, 64, 97, 94, 71, 19, 89, 41, 40, 39, 3, 18, 83, 5, 30, 104, 50, 43, 27, 81, 23, 113, 109, 80, 17, 77, 124, 45, 69, 102, 68, 121, 32, 111, 122, 38, 22, 107, 98, 95, 82, 4, 24, 119, 15, 90, 52, 25, 99, 76, 118, 14, 59, 67, 115, 21, 101, 62, 85, 47, 51, 49, 63, 91, 58, 61, 84, 11, 66, 114, 110, 116, 2, 12, 72, 20, 120, 26, 75, 112, 103, 74, 7, 42, 46, 70, 13, 53, 31, 105, 86, 28, 87, 34, 123, 44, 33, 117, 8, 48, 57, 55, 73]),
  (207, 5, [1, 5, 25, 73, 81, 69, 61, 46, 28, 63, 31, 78, 29, 68, 56, 21, 105, 107, 117, 42, 8, 40, 23, 115, 32, 83, 54, 111, 12, 60, 41, 3, 15, 75, 39, 118, 47, 33, 88, 79, 34, 93, 104, 77, 49, 43, 13, 65, 66, 71, 96, 19, 95, 14, 70, 91, 119, 27, 58, 6, 30, 98, 4, 20, 100, 82, 74, 86, 94, 109, 102, 92, 124, 52, 101, 87, 99, 9, 45, 48, 38, 113, 22, 110, 7, 35, 123, 72, 76, 44, 18, 90, 114, 2, 10, 50, 116, 37, 108, 122, 67, 51, 121, 62, 26, 53, 106, 112, 17, 85, 89, 84, 59, 11, 55, 16, 80, 64, 36, 103, 97, 24, 120, 57]),
  (212, 5, [1, 5, 25, 68, 71, 86, 79, 44, 13, 65, 56, 11, 55, 6, 30, 93, 114, 7, 35, 118, 27, 53, 121, 67, 66, 61, 36, 123, 52, 116, 42, 3, 15, 75, 49, 38, 108, 102, 97, 9, 45, 43, 8, 40, 18, 90, 124, 57, 16, 80, 74, 76, 29, 63, 46, 48, 33, 83, 64, 26, 73, 96, 4, 20, 100, 87, 84, 69, 51, 111, 17, 85, 99, 19, 95, 24, 120, 62, 41, 23, 115, 37, 103, 77, 34, 88, 89, 94, 119, 32, 78, 39, 113, 2, 10, 50, 106, 117, 47, 28, 58, 21, 105, 112, 22, 110, 12, 60, 31, 98, 14, 70, 81, 54, 101, 92, 109, 107, 122, 72, 91, 104, 82, 59]),
  (213, 5, [1, 5, 25, 67, 69, 54, 104, 83, 61, 39, 112, 23, 115, 38, 107, 123, 53, 124, 58, 24, 120, 63, 49, 37, 102, 98, 11, 55, 9, 45, 42, 2, 10, 50, 109, 108, 103, 78, 36, 122, 73, 99, 16, 80, 71, 89, 91, 101, 93, 111, 18, 90, 121, 68, 74, 79, 41, 22, 110, 13, 65, 59, 4, 20, 100, 88, 86, 76, 26, 72, 94, 116, 43, 7, 35, 117, 48, 32, 77, 31, 97, 6, 30, 92, 106, 118, 28, 57, 19, 95, 21, 105, 113, 3, 15, 75, 46, 47, 27, 52, 119, 33, 82, 56, 14, 70, 84, 66, 64, 29, 62, 44, 12, 60, 34, 87, 81, 51, 114, 8, 40, 17, 85, 96]),
  (221, 7, [1, 7, 49, 92, 6, 42, 73, 69, 36, 31, 21, 122, 20, 115, 101, 28, 120, 11, 52, 97, 41, 66, 45, 99, 25, 109, 54, 81, 84, 95, 32, 3, 16, 87, 121, 18, 96, 39, 47, 83, 93, 13, 61, 10, 70, 53, 79, 60, 8, 26, 111, 98, 48, 85, 112, 75, 67, 27, 118, 117, 110, 91, 4, 23, 106, 63, 24, 113, 82, 86, 119, 124, 9, 33, 5, 35, 29, 102, 30, 19, 78, 58, 114, 89, 105, 56, 100, 46, 76, 74, 71, 55, 123, 2, 14, 68, 34, 12, 59, 116, 108, 72, 62, 17, 94, 15, 80, 77, 51, 90, 22, 104, 44, 57, 107, 65, 43, 50, 88, 103, 37, 38, 40, 64]),
  (223, 5, [1, 5, 25, 57, 24, 120, 73, 79, 36, 112, 8, 40, 7, 35, 107, 108, 113, 13, 65, 64, 34, 77, 26, 62, 49, 27, 67, 74, 84, 61, 44, 2, 10, 50, 114, 18, 90, 116, 28, 72, 99, 11, 55, 14, 70, 89, 86, 96, 21, 105, 123, 63, 29, 52, 124, 68, 54, 109, 118, 38, 122, 58, 4, 20, 100, 98, 6, 30, 82, 51, 119, 43, 22, 110, 23, 115, 48, 47, 42, 17, 85, 91, 121, 53, 104, 93, 106, 103, 88, 81, 71, 94, 111, 3, 15, 75, 41, 12, 60, 39, 102, 83, 56, 19, 95, 16, 80, 66, 69, 59, 9, 45, 32, 92, 101, 78, 31, 87, 76, 46, 37, 117, 33, 97]),
  (228, 5, [1, 5, 25, 27, 37, 87, 11, 55, 79, 96, 56, 84, 121, 83, 116, 58, 94, 46, 7, 35, 77, 86, 6, 30, 52, 64, 124, 98, 66, 9, 45, 2, 10, 50, 54, 74, 49, 22, 110, 28, 42, 112, 38, 92, 36, 82, 111, 33, 67, 14, 70, 29, 47, 12, 60, 104, 123, 93, 41, 107, 13, 65, 4, 20, 100, 103, 118, 68, 19, 95, 51, 59, 99, 71, 34, 72, 39, 97, 61, 109, 23, 115, 53, 69, 24, 120, 78, 91, 31, 57, 89, 21, 105, 3, 15, 75, 76, 81, 106, 8, 40, 102, 113, 43, 117, 63, 119, 73, 44, 122, 88, 16, 80, 101, 108, 18, 90, 26, 32, 62, 114, 48, 17, 85]),
  (229, 6, [1, 6, 36, 117, 26, 57, 19, 89, 82, 65, 67, 54, 121, 50, 102, 86, 94, 112, 21, 101, 80, 58, 20, 120, 74, 91, 124, 68, 55, 7, 42, 3, 18, 83, 71, 78, 41, 22, 107, 116, 45, 46, 27, 63, 25, 51, 108, 122, 56, 13, 53, 115, 44, 10, 60, 37, 123, 62, 49, 40, 16, 96, 4, 24, 119, 38, 104, 98, 11, 66, 73, 85, 88, 76, 34, 75, 28, 69, 61, 43, 9, 29, 70, 97, 5, 30, 81, 64, 31, 87, 95, 23, 113, 2, 12, 72, 84, 52, 114, 8, 48, 39, 105, 109, 103, 92, 100, 79, 47, 33, 99, 17, 77, 35, 111, 15, 90, 118, 32, 93, 106, 110, 14, 59]),
  (231, 6, [1, 6, 36, 110, 16, 96, 13, 53, 106, 117, 33, 92, 114, 10, 60, 28, 62, 35, 109, 105, 111, 22, 107, 123, 69, 52, 100, 81, 73, 76, 43, 2, 12, 72, 95, 7, 42, 21, 101, 87, 84, 61, 34, 98, 20, 120, 51, 124, 70, 88, 85, 97, 19, 89, 91, 108, 104, 75, 37, 116, 27, 56, 4, 24, 119, 40, 14, 59, 17, 77, 49, 38, 122, 63, 41, 15, 90, 102, 93, 115, 46, 45, 44, 8, 48, 32, 86, 78, 25, 74, 82, 54, 112, 3, 18, 83, 55, 23, 113, 9, 29, 68, 71, 94, 121, 57, 5, 30, 79, 31, 80, 67, 65, 58, 11, 66, 64, 47, 26, 50, 118, 39, 103, 99]),
  (232, 5, [1, 5, 25, 48, 13, 65, 16, 80, 114, 27, 33, 63, 106, 12, 60, 116, 62, 101, 112, 42, 108, 22, 110, 32, 58, 81, 119, 52, 51, 71, 46, 3, 15, 75, 89, 9, 45, 23, 115, 57, 76, 94, 34, 68, 6, 30, 73, 31, 53, 56, 96, 69, 11, 55, 91, 44, 118, 72, 26, 28, 38, 88, 4, 20, 100, 107, 17, 85, 14, 70, 41, 103, 122, 92, 49, 18, 90, 39, 93, 29, 43, 113, 47, 8, 40, 123, 97, 74, 36, 78, 79, 84, 109, 2, 10, 50, 66, 21, 105, 7, 35, 98, 54, 61, 121, 87, 24, 120, 82, 124, 77, 99, 59, 86, 19, 95, 64, 111, 37, 83, 104, 102, 117, 67]),
  (241, 7, [1, 7, 49, 72, 22, 104, 64, 86, 34, 117, 5, 35, 9, 33, 110, 111, 118, 12, 59, 51, 25, 89, 45, 54, 41, 46, 56, 60, 93, 53, 39, 2, 14, 68, 119, 19, 78, 123, 47, 63, 84, 10, 70, 13, 61, 95, 97, 81, 24, 113, 102, 50, 48, 65, 103, 57, 67, 112, 120, 31, 101, 73, 4, 23, 106, 83, 8, 26, 91, 69, 121, 38, 20, 115, 21, 122, 40, 44, 37, 18, 96, 79, 100, 66, 105, 76, 114, 109, 99, 90, 62, 77, 116, 3, 16, 87, 36, 11, 52, 32, 108, 92, 71, 15, 80, 17, 94, 55, 58, 74, 6, 42, 28, 75, 107, 85, 27, 98, 88, 43, 30, 124, 29, 82]),
  (244, 9, [1, 9, 41, 75, 8, 37, 64, 58, 34, 27, 24, 101, 23, 122, 107, 47, 104, 10, 65, 82, 36, 55, 42, 84, 49, 112, 67, 90, 93, 80, 28, 3, 17, 98, 100, 19, 81, 32, 44, 92, 76, 12, 53, 14, 61, 66, 86, 52, 5, 45, 116, 83, 40, 96, 117, 87, 56, 46, 120, 124, 115, 79, 4, 21, 114, 50, 22, 118, 91, 97, 121, 103, 6, 29, 7, 33, 48, 108, 26, 15, 85, 73, 119, 95, 113, 71, 106, 43, 88, 60, 62, 70, 102, 2, 13, 57, 25, 11, 74, 123, 111, 63, 54, 18, 77, 16, 94, 89, 69, 78, 20, 105, 39, 72, 110, 59, 38, 68, 99, 109, 30, 31, 35, 51]),
  (247, 5, [1, 5, 25, 33, 73, 26, 38, 98, 59, 81, 124, 92, 29, 28, 48, 23, 115, 72, 46, 13, 65, 11, 55, 86, 24, 120, 97, 54, 56, 91, 49, 3, 15, 75, 94, 39, 78, 84, 114, 42, 118, 62, 121, 77, 79, 89, 14, 70, 36, 88, 9, 45, 8, 40, 108, 12, 60, 111, 27, 43, 123, 87, 4, 20, 100, 122, 82, 104, 117, 57, 96, 74, 31, 63, 101, 102, 107, 7, 35, 83, 109, 17, 85, 19, 95, 69, 6, 30, 58, 76, 99, 64, 106, 2, 10, 50, 61, 116, 52, 71, 41, 113, 37, 93, 34, 53, 51, 66, 16, 80, 119, 67, 21, 105, 22, 110, 47, 18, 90, 44, 103, 112, 32, 68]),
  (249, 6, [1, 6, 36, 122, 51, 118, 27, 68, 65, 52, 124, 63, 35, 116, 40, 21, 101, 75, 43, 14, 59, 11, 66, 58, 5, 30, 86, 84, 67, 64, 41, 2, 12, 72, 94, 102, 81, 54, 106, 105, 104, 93, 121, 70, 82, 55, 17, 77, 25, 56, 23, 113, 22, 107, 111, 10, 60, 47, 38, 109, 123, 57, 4, 24, 119, 33, 79, 37, 103, 87, 85, 78, 31, 92, 115, 39, 110, 9, 29, 50, 112, 16, 96, 19, 89, 97, 20, 120, 69, 71, 88, 91, 114, 3, 18, 83, 61, 28, 74, 76, 49, 45, 26, 62, 34, 80, 73, 95, 13, 53, 100, 99, 7, 42, 8, 48, 44, 15, 90, 108, 117, 46, 32, 98])]

def memB (b : Nat) : List Nat → Bool
  | [] => false
  | x :: l => Nat.beq b x || memB b l
def chk (p q g : Nat) : List Nat → Bool
  | [] => false
  | [x] => Nat.beq (pmod p (pmul p x g) q) 1
  | x :: y :: l => Nat.beq (pmod p (pmul p x g) q) y && chk p q g (y :: l)
def okE (p : Nat) (t : Nat × Nat × List Nat) : Bool :=
  Nat.beq t.2.2.length (p ^ (len p t.1 - 1) - 1) && (chk p t.1 t.2.1 t.2.2 && (Nat.beq (t.2.2.getD 0 0) 1 && (Nat.beq (t.2.2.getD (halfN p t.1) 0) (p - 1) && ((List.range (p ^ (len p t.1 - 1) - 1)).all (fun i => memB (i + 1) t.2.2) && (Nat.ble 2 (len p t.1) && (decide (fac p t.1 = [(t.1, 1)]) && t.2.2.all (fun x => Nat.blt 0 x)))))))
def tab (p : Nat) : List (Nat × Nat × List Nat) := if p = 3 then tab3 else tab5
theorem tab3_ok : tab3.all (okE 3) = true := by decide +kernel
theorem tab5_ok : tab5.all (okE 5) = true := by decide +kernel
end M
set_option maxRecDepth 100000
/-! M8: rests as a ring -/
namespace M
variable {p : Nat}
theorem pmod_lt (hp : Bp p) (a : Nat) {q : Nat} (hq : q ≠ 0) : len p (pmod p a q) < len p q := (dm_spec hp a hq).1
theorem pmod_small (hp : Bp p) {a q : Nat} (hq : q ≠ 0) (h : len p a < len p q) : pmod p a q = a := (dm_unique hp hq h (by rw [zero_pmul, zero_padd])).2
theorem pmod_add (hp : Bp p) {q : Nat} (hq : q ≠ 0) (a c : Nat) : pmod p (padd p (pmul p c q) a) q = pmod p a q := by
  haveI : Bs p := ⟨hp.two⟩
  obtain ⟨h1, h2⟩ := dm_spec hp a hq
  refine (dm_unique hp hq (q := padd p c (pdiv p a q)) h1 ?_).2
  have h2' : (⟨pdiv p a q⟩ * ⟨q⟩ + ⟨pmod p a q⟩ : Po p) = ⟨a⟩ := Po.ext h2
  have : ((⟨c⟩ + ⟨pdiv p a q⟩) * ⟨q⟩ + ⟨pmod p a q⟩ : Po p) = ⟨c⟩ * ⟨q⟩ + ⟨a⟩ := by grind
  exact congrArg Po.n this
theorem pmod_mul (hp : Bp p) {q : Nat} (hq : q ≠ 0) (a b : Nat) : pmod p (pmul p (pmod p a q) b) q = pmod p (pmul p a b) q := by
  haveI : Bs p := ⟨hp.two⟩
  have h2 := (dm_spec hp a hq).2
  have h2' : (⟨pdiv p a q⟩ * ⟨q⟩ + ⟨pmod p a q⟩ : Po p) = ⟨a⟩ := Po.ext h2
  have : (⟨a⟩ * ⟨b⟩ : Po p) = (⟨pdiv p a q⟩ * ⟨b⟩) * ⟨q⟩ + ⟨pmod p a q⟩ * ⟨b⟩ := by grind
  have e : pmul p a b = padd p (pmul p (pmul p (pdiv p a q) b) q) (pmul p (pmod p a q) b) := congrArg Po.n this
  rw [e, pmod_add hp hq]
theorem pmod_mul' (hp : Bp p) {q : Nat} (hq : q ≠ 0) (a b : Nat) : pmod p (pmul p a (pmod p b q)) q = pmod p (pmul p a b) q := by
  rw [pmul_comm hp.two, pmod_mul hp hq, pmul_comm hp.two]
theorem pmod_mul2 (hp : Bp p) {q : Nat} (hq : q ≠ 0) {a b c d : Nat} (h1 : pmod p a q = pmod p c q) (h2 : pmod p b q = pmod p d q) : pmod p (pmul p a b) q = pmod p (pmul p c d) q := by
  rw [← pmod_mul hp hq, h1, pmod_mul hp hq, ← pmod_mul' hp hq, h2, pmod_mul' hp hq]
def pws (p a : Nat) : Nat → Nat
  | 0 => 1
  | k + 1 => pmul p (pws p a k) a
theorem pws_add (hp : Bp p) (a i : Nat) : ∀ j, pws p a (i + j) = pmul p (pws p a i) (pws p a j)
  | 0 => (pmul_one hp.two _).symm
  | j + 1 => by
    show pmul p (pws p a (i + j)) a = pmul p (pws p a i) (pmul p (pws p a j) a)
    rw [pws_add hp a i j, pmul_assoc hp.two]
theorem pws_mul (hp : Bp p) (a i : Nat) : ∀ j, pws p a (i * j) = pws p (pws p a i) j
  | 0 => rfl
  | j + 1 => by
    rw [Nat.mul_succ, pws_add hp, pws_mul hp a i j]; rfl
theorem pws_mod (hp : Bp p) {q : Nat} (hq : q ≠ 0) {a b : Nat} (h : pmod p a q = pmod p b q) : ∀ k, pmod p (pws p a k) q = pmod p (pws p b k) q
  | 0 => rfl
  | k + 1 => pmod_mul2 hp hq (pws_mod hp hq h k) h
theorem pmod_pmod (hp : Bp p) {q : Nat} (hq : q ≠ 0) (a : Nat) : pmod p (pmod p a q) q = pmod p a q := pmod_small hp hq (pmod_lt hp a hq)
/-- the loop of squares -/
theorem pwF_spec (hp : Bp p) {q : Nat} (hq : q ≠ 0) : ∀ f r h k, k ≤ f → pmod p r q = r → pmod p (pwF p q f r h k) q = pwF p q f r h k ∧ pwF p q f r h k = pmod p (pmul p r (pws p h k)) q
  | 0, r, h, k, hk, hr => by
    have : k = 0 := by omega
    subst this
    refine ⟨hr, ?_⟩
    show r = pmod p (pmul p r 1) q
    rw [pmul_one hp.two, hr]
  | f + 1, r, h, k, hk, hr => by
    rw [pwF_one]
    by_cases z : k = 0
    · subst z
      rw [if_pos rfl]
      refine ⟨hr, ?_⟩
      show r = pmod p (pmul p r 1) q
      rw [pmul_one hp.two, hr]
    · rw [if_neg z]
      have hr' : pmod p (if k % 2 = 1 then pmod p (pmul p r h) q else r) q = (if k % 2 = 1 then pmod p (pmul p r h) q else r) := by
        by_cases d : k % 2 = 1
        · rw [if_pos d, pmod_pmod hp hq]
        · rw [if_neg d, hr]
      have ih := pwF_spec hp hq f (if k % 2 = 1 then pmod p (pmul p r h) q else r) (pmod p (pmul p h h) q) (k / 2) (by omega) hr'
      refine ⟨ih.1, ih.2.trans ?_⟩
      have hsq : pmod p (pws p (pmod p (pmul p h h) q) (k / 2)) q = pmod p (pws p (pmul p h h) (k / 2)) q := pws_mod hp hq (pmod_pmod hp hq _) _
      have e2 : pws p (pmul p h h) (k / 2) = pws p h (2 * (k / 2)) := by
        rw [pws_mul hp h 2]
        show _ = pws p (pmul p (pmul p 1 h) h) _
        rw [pmul_comm hp.two 1 h, pmul_one hp.two]
      rw [e2] at hsq
      by_cases d : k % 2 = 1
      · rw [if_pos d]
        have hk2 : k = 2 * (k / 2) + 1 := by omega
        have e3 : pws p h k = pmul p h (pws p h (2 * (k / 2))) := by
          conv => lhs; rw [hk2]
          show pmul p (pws p h (2 * (k / 2))) h = _
          exact pmul_comm hp.two _ _
        rw [e3, ← pmul_assoc hp.two]
        exact pmod_mul2 hp hq (pmod_pmod hp hq _) hsq
      · rw [if_neg d]
        have hk2 : k = 2 * (k / 2) := by omega
        rw [← hk2] at hsq
        exact pmod_mul2 hp hq rfl hsq
theorem powR_spec (hp : Bp p) {q : Nat} (hq : 2 ≤ len p q) (a k : Nat) : powR p a k q = pmod p (pws p a k) q := by
  have q0 : q ≠ 0 := fun z => by rw [z, len_zero] at hq; omega
  have h1 : pmod p 1 q = 1 := pmod_small hp q0 (by
    have : len p 1 ≤ 1 := by rw [len_le_iff hp.two, Nat.pow_one]; have := hp.two; omega
    omega)
  unfold powR
  rw [(pwF_spec hp q0 k 1 (pmod p a q) k (Nat.le_refl _) h1).2, pmul_comm hp.two, pmul_one hp.two]
  exact pws_mod hp q0 (pmod_pmod hp q0 a) k
end M
set_option maxRecDepth 100000
/-! M9: symbols by tables -/
namespace M
variable {p : Nat}
abbrev Op3 (p : Nat) : Prop := p = 3 ∨ p = 5
theorem Op3.bp (h : Op3 p) : Bp p := h.elim (fun h => .inr (.inl h)) fun h => .inr (.inr h)
def PT (p : Nat) : List Nat := (tab p).map (·.1)
theorem memB_mem {b : Nat} : ∀ {l : List Nat}, memB b l = true → ∃ j, j < l.length ∧ l.getD j 0 = b
  | [], h => by cases h
  | x :: l, h => by
    unfold memB at h
    rw [Bool.or_eq_true] at h
    rcases h with h | h
    · exact ⟨0, Nat.succ_pos _, (Nat.eq_of_beq_eq_true h).symm⟩
    · obtain ⟨j, h1, h2⟩ := memB_mem h
      exact ⟨j + 1, Nat.succ_lt_succ h1, h2⟩
theorem chk_step {q g : Nat} : ∀ {l : List Nat}, chk p q g l = true → ∀ j, j + 1 < l.length → pmod p (pmul p (l.getD j 0) g) q = l.getD (j + 1) 0
  | [], h, j, hj => by simp at hj
  | [x], h, j, hj => by simp at hj
  | x :: y :: l, h, j, hj => by
    unfold chk at h
    rw [Bool.and_eq_true] at h
    cases j with
    | zero => exact Nat.eq_of_beq_eq_true h.1
    | succ j => exact chk_step h.2 j (by simpa using hj)
/-- what a table tells of a prime -/
structure Tq (p q g : Nat) : Prop where
  len2 : 2 ≤ len p q
  half : pmod p (pws p g (halfN p q)) q = p - 1
  all : ∀ b, 0 < b → b < p ^ (len p q - 1) → ∃ j, pmod p (pws p g j) q = b
  one : fac p q = [(q, 1)]
theorem Tq.of (ho : Op3 p) {q : Nat} (h : q ∈ PT p) : ∃ g, Tq p q g := by
  have hp := ho.bp
  obtain ⟨t, ht, rfl⟩ := List.mem_map.mp h
  have hok : okE p t = true := by
    rcases ho with rfl | rfl
    · exact List.all_eq_true.mp tab3_ok t ht
    · exact List.all_eq_true.mp tab5_ok t ht
  obtain ⟨q, g, E⟩ := t
  show ∃ g, Tq p q g
  unfold okE at hok
  simp only [Bool.and_eq_true] at hok
  obtain ⟨h1, h2, h3, h4, h5, h6, h7, h8⟩ := hok
  have h1 : E.length = p ^ (len p q - 1) - 1 := Nat.eq_of_beq_eq_true h1
  have h3 : E.getD 0 0 = 1 := Nat.eq_of_beq_eq_true h3
  have h4 : E.getD (halfN p q) 0 = p - 1 := Nat.eq_of_beq_eq_true h4
  have h6 : 2 ≤ len p q := Nat.le_of_ble_eq_true h6
  have h5 : (List.range (p ^ (len p q - 1) - 1)).all (fun i => memB (i + 1) E) = true := h5
  have h2 : chk p q g E = true := h2
  have h7 : decide (fac p q = [(q, 1)]) = true := h7
  have q0 : q ≠ 0 := fun z => by rw [z, len_zero] at h6; omega
  have hone : pmod p 1 q = 1 := pmod_small hp q0 (by
    have : len p 1 ≤ 1 := by rw [len_le_iff hp.two, Nat.pow_one]; have := hp.two; omega
    omega)
  have hN : 3 ≤ p ^ (len p q - 1) := by
    have : p ^ 1 ≤ p ^ (len p q - 1) := Nat.pow_le_pow_right (by have := hp.two; omega) (by omega)
    rcases ho with rfl | rfl <;> omega
  have hE : ∀ j, j < E.length → E.getD j 0 = pmod p (pws p g j) q := by
    intro j
    induction j with
    | zero => intro _; rw [h3]; exact hone.symm
    | succ j ih =>
      intro hj
      rw [← chk_step h2 j hj, ih (by omega), pmod_mul hp q0]; rfl
  refine ⟨g, h6, ?_, fun b hb hb2 => ?_, of_decide_eq_true h7⟩
  · rw [← hE _ (by rw [h1]; unfold halfN; omega)]; exact h4
  · have := List.all_eq_true.mp h5 (b - 1) (List.mem_range.mpr (by omega))
    rw [show b - 1 + 1 = b by omega] at this
    obtain ⟨j, hj, e⟩ := memB_mem this
    exact ⟨j, by rw [← hE j hj]; exact e⟩
def sgn (p j : Nat) : Nat := if j % 2 = 0 then 1 else p - 1
theorem pws_neg (ho : Op3 p) : ∀ j, pws p (p - 1) j = sgn p j
  | 0 => rfl
  | j + 1 => by
    show pmul p (pws p (p - 1) j) (p - 1) = _
    rw [pws_neg ho j]
    unfold sgn
    by_cases h : j % 2 = 0
    · rw [if_pos h, if_neg (by omega), pmul_comm ho.bp.two, pmul_one ho.bp.two]
    · rw [if_neg h, if_pos (by omega)]
      rcases ho with rfl | rfl <;> decide +kernel
theorem sgn_ne (ho : Op3 p) (j : Nat) : sgn p j ≠ 0 := by
  unfold sgn
  have := ho.bp.two
  split <;> omega
theorem sgn_inj (ho : Op3 p) {i j : Nat} (h : sgn p i = sgn p j) : i % 2 = j % 2 := by
  unfold sgn at h
  by_cases a : i % 2 = 0 <;> by_cases b : j % 2 = 0
  · omega
  · rw [if_pos a, if_neg b] at h; rcases ho with rfl | rfl <;> omega
  · rw [if_neg a, if_pos b] at h; rcases ho with rfl | rfl <;> omega
  · omega
section
variable {q g : Nat} (ho : Op3 p) (T : Tq p q g)
include ho T
theorem Tq.q0 : q ≠ 0 := fun z => by have := T.len2; rw [z, len_zero] at this; omega
theorem Tq.pow {x j : Nat} (h : pmod p x q = pmod p (pws p g j) q) : powR p x (halfN p q) q = sgn p j := by
  have hp := ho.bp
  have q0 := T.q0 ho
  rw [powR_spec hp T.len2, pws_mod hp q0 h, ← pws_mul hp, Nat.mul_comm, pws_mul hp]
  have h1 : pmod p (p - 1) q = p - 1 := pmod_small hp q0 (by
    have : len p (p - 1) ≤ 1 := by rw [len_le_iff hp.two, Nat.pow_one]; have := hp.two; omega
    have := T.len2; omega)
  rw [pws_mod hp q0 (b := p - 1) (by rw [h1]; exact T.half), pws_neg ho]
  exact pmod_small hp q0 (by
    have : len p (sgn p j) ≤ 1 := by rw [len_le_iff hp.two, Nat.pow_one]; have := hp.two; unfold sgn; split <;> omega
    have := T.len2; omega)
theorem Tq.N3 : 3 ≤ p ^ (len p q - 1) := by
  have hp := ho.bp
  have := T.len2
  have : p ^ 1 ≤ p ^ (len p q - 1) := Nat.pow_le_pow_right (by have := hp.two; omega) (by omega)
  rcases ho with rfl | rfl <;> omega
theorem Tq.lt (a : Nat) : pmod p a q < p ^ (len p q - 1) := by
  have hp := ho.bp
  have := pmod_lt hp a (T.q0 ho)
  exact (len_le_iff hp.two).mp (by omega)
/-- nothing, or a power of g -/
theorem Tq.char (a : Nat) : (pmod p a q = 0 ∧ powR p a (halfN p q) q = 0 ∧ lsym p a q = 0) ∨ ∃ j, pmod p a q = pmod p (pws p g j) q ∧ pmod p a q ≠ 0 ∧ powR p a (halfN p q) q = sgn p j ∧ lsym p a q = (if j % 2 = 0 then 1 else -1) := by
  have hp := ho.bp
  have q0 := T.q0 ho
  have hN := T.N3 ho
  by_cases z : pmod p a q = 0
  · refine .inl ⟨z, ?_, by unfold lsym; rw [if_pos z]⟩
    have h0 : pmod p a q = pmod p 0 q := by rw [z, pmod_small hp q0 (by rw [len_zero]; have := T.len2; omega)]
    rw [powR_spec hp T.len2, pws_mod hp q0 h0]
    have hk : ∃ k, halfN p q = k + 1 := ⟨halfN p q - 1, by unfold halfN; omega⟩
    obtain ⟨k, hk⟩ := hk
    rw [hk]
    show pmod p (pmul p (pws p 0 k) 0) q = 0
    rw [pmul_zero hp.two]
    exact pmod_small hp q0 (by rw [len_zero]; have := T.len2; omega)
  · obtain ⟨j, hj⟩ := T.all (pmod p a q) (Nat.pos_of_ne_zero z) (T.lt ho a)
    refine .inr ⟨j, hj.symm, z, T.pow ho hj.symm, ?_⟩
    unfold lsym
    rw [if_neg z]
    have hiff : ((List.range (p ^ (len p q - 1) - 1)).any fun i => decide (pmod p (pmul p (1 + i) (1 + i)) q = pmod p a q)) = decide (j % 2 = 0) := by
      rw [Bool.eq_iff_iff, List.any_eq_true, decide_eq_true_iff]
      constructor
      · rintro ⟨i, hi, h⟩
        have hi := List.mem_range.mp hi
        have h := of_decide_eq_true h
        obtain ⟨l, hl⟩ := T.all (1 + i) (by omega) (by omega)
        have hs : pmod p (1 + i) q = pmod p (pws p g l) q := by rw [← hl, pmod_pmod hp q0]
        have h2 : pmod p a q = pmod p (pws p g (l + l)) q := by
          rw [← h, pws_add hp]; exact pmod_mul2 hp q0 hs hs
        have e1 := T.pow ho h2
        have e2 := T.pow ho hj.symm
        have := sgn_inj ho (e2.symm.trans e1)
        omega
      · intro h
        obtain ⟨i, hi⟩ : ∃ i, j = i + i := ⟨j / 2, by omega⟩
        have hne : pmod p (pws p g i) q ≠ 0 := fun y => z (by
          rw [← hj, hi, pws_add hp]
          have h0 : pmod p (pws p g i) q = pmod p 0 q := by rw [y, pmod_small hp q0 (by rw [len_zero]; have := T.len2; omega)]
          rw [pmod_mul2 hp q0 h0 rfl, zero_pmul]
          exact pmod_small hp q0 (by rw [len_zero]; have := T.len2; omega))
        have hlt := T.lt ho (pws p g i)
        refine ⟨pmod p (pws p g i) q - 1, List.mem_range.mpr (by omega), decide_eq_true ?_⟩
        rw [show 1 + (pmod p (pws p g i) q - 1) = pmod p (pws p g i) q by omega, ← hj, hi, pws_add hp]
        exact pmod_mul2 hp q0 (pmod_pmod hp q0 _) (pmod_pmod hp q0 _)
    rw [hiff]
    by_cases h : j % 2 = 0
    · rw [if_pos h, decide_eq_true h]; rfl
    · rw [if_neg h, decide_eq_false h]; rfl
theorem Tq.mul (a b : Nat) : lsym p (pmul p a b) q = lsym p a q * lsym p b q := by
  have hp := ho.bp
  have q0 := T.q0 ho
  have hz : pmod p 0 q = 0 := pmod_small hp q0 (by rw [len_zero]; have := T.len2; omega)
  rcases T.char ho a with ⟨h1, _, h2⟩ | ⟨i, i1, i2, i3, i4⟩
  · rw [h2, Int.zero_mul]
    unfold lsym
    rw [if_pos]
    rw [pmod_mul2 hp q0 (h1.trans hz.symm) rfl, zero_pmul, hz]
  · rcases T.char ho b with ⟨h1, _, h2⟩ | ⟨j, j1, j2, j3, j4⟩
    · rw [h2, Int.mul_zero]
      unfold lsym
      rw [if_pos]
      rw [pmod_mul2 hp q0 rfl (h1.trans hz.symm), pmul_zero hp.two, hz]
    · have hab : pmod p (pmul p a b) q = pmod p (pws p g (i + j)) q := by rw [pws_add hp]; exact pmod_mul2 hp q0 i1 j1
      have e := T.pow ho hab
      rcases T.char ho (pmul p a b) with ⟨_, h1, _⟩ | ⟨k, _, _, k3, k4⟩
      · rw [e] at h1; exact (sgn_ne ho _ h1).elim
      · rw [e] at k3
        have := sgn_inj ho k3
        rw [k4, i4, j4]
        by_cases a1 : i % 2 = 0 <;> by_cases a2 : j % 2 = 0
        · rw [if_pos a1, if_pos a2, if_pos (by omega)]; rfl
        · rw [if_pos a1, if_neg a2, if_neg (by omega)]; rfl
        · rw [if_neg a1, if_pos a2, if_neg (by omega)]; rfl
        · rw [if_neg a1, if_neg a2, if_pos (by omega)]; rfl
theorem Tq.root (a : Nat) : (rootF p a q).isNone = decide (lsym p a q = -1) := by
  have hp := ho.bp
  have q0 := T.q0 ho
  have hN := T.N3 ho
  have hz : pmod p 0 q = 0 := pmod_small hp q0 (by rw [len_zero]; have := T.len2; omega)
  unfold rootF lsym
  rw [Bool.eq_iff_iff, Option.isNone_iff_eq_none, List.find?_eq_none, decide_eq_true_iff]
  by_cases z : pmod p a q = 0
  · rw [if_pos z]
    constructor
    · intro h
      exact (h 0 (List.mem_range.mpr (by omega)) (decide_eq_true (by rw [z, zero_pmul, hz]))).elim
    · intro h; cases h
  · rw [if_neg z]
    constructor
    · intro h
      rw [if_neg]
      intro h2
      obtain ⟨i, hi, e⟩ := List.any_eq_true.mp h2
      have hi := List.mem_range.mp hi
      exact h (1 + i) (List.mem_range.mpr (by omega)) e
    · intro h x hx e
      have hx := List.mem_range.mp hx
      have e := of_decide_eq_true e
      have x0 : x ≠ 0 := fun y => z (by rw [← e, y, zero_pmul, hz])
      rw [if_pos] at h
      · cases h
      · exact List.any_eq_true.mpr ⟨x - 1, List.mem_range.mpr (by omega), decide_eq_true (by rw [show 1 + (x - 1) = x by omega]; exact e)⟩
end
/-- the symbol by factors -/
def wh (p a : Nat) (l : List (Nat × Nat)) : Int := l.foldl (fun v x => v * (lsym p a x.1) ^ x.2) 1
theorem foldl_mul (p a : Nat) : ∀ (l : List (Nat × Nat)) (v : Int), l.foldl (fun v x => v * (lsym p a x.1) ^ x.2) v = v * wh p a l
  | [], v => (Int.mul_one v).symm
  | x :: l, v => by
    show l.foldl _ (v * (lsym p a x.1) ^ x.2) = v * l.foldl _ (1 * (lsym p a x.1) ^ x.2)
    rw [foldl_mul p a l, foldl_mul p a l (1 * _), Int.one_mul, Int.mul_assoc]
theorem wh_cons (p a : Nat) (x : Nat × Nat) (l : List (Nat × Nat)) : wh p a (x :: l) = (lsym p a x.1) ^ x.2 * wh p a l := by
  show l.foldl _ (1 * _) = _
  rw [foldl_mul, Int.one_mul]
theorem neg_one_pow : ∀ n : Nat, (-1 : Int) ^ n = if n % 2 = 0 then 1 else -1
  | 0 => rfl
  | n + 1 => by
    rw [Int.pow_succ, neg_one_pow n]
    by_cases h : n % 2 = 0
    · rw [if_pos h, if_neg (by omega)]; rfl
    · rw [if_neg h, if_pos (by omega)]; rfl
theorem symF_wh (ho : Op3 p) (a : Nat) : ∀ (l : List (Nat × Nat)), (∀ x ∈ l, x.1 ∈ PT p ∧ 1 ≤ x.2) → ∀ v : Int, symF p a l v = v * wh p a l
  | [], _, v => (Int.mul_one v).symm
  | x :: l, h, v => by
    have hx := h x List.mem_cons_self
    obtain ⟨g, T⟩ := Tq.of ho hx.1
    have ih := symF_wh ho a l fun y hy => h y (List.mem_cons_of_mem _ hy)
    rw [wh_cons]
    unfold symF
    rcases T.char ho a with ⟨_, h1, h2⟩ | ⟨j, _, _, h1, h2⟩
    · rw [h1, if_pos rfl, h2]
      have : (0 : Int) ^ x.2 = 0 := by
        obtain ⟨e, he⟩ : ∃ e, x.2 = e + 1 := ⟨x.2 - 1, by omega⟩
        rw [he, Int.pow_succ, Int.mul_zero]
      rw [this, Int.zero_mul, Int.mul_zero]
    · rw [h1, if_neg (sgn_ne ho j), h2, ih]
      unfold sgn
      by_cases e : j % 2 = 0
      · rw [if_pos e, if_pos e, if_neg (fun z => z.1 rfl), Int.one_pow, Int.one_mul]
      · rw [if_neg e, if_neg e, neg_one_pow]
        have hp1 : p - 1 ≠ 1 := by rcases ho with rfl | rfl <;> decide
        by_cases f : x.2 % 2 = 1
        · rw [if_pos ⟨hp1, f⟩, if_neg (by omega), Int.neg_one_mul, Int.mul_neg, Int.neg_mul]
        · rw [if_neg (fun z => f z.2), if_pos (by omega), Int.one_mul]
theorem wh_mul (ho : Op3 p) (a b : Nat) : ∀ (l : List (Nat × Nat)), (∀ x ∈ l, x.1 ∈ PT p) → wh p (pmul p a b) l = wh p a l * wh p b l
  | [], _ => rfl
  | x :: l, h => by
    obtain ⟨g, T⟩ := Tq.of ho (h x List.mem_cons_self)
    rw [wh_cons, wh_cons, wh_cons, T.mul ho, wh_mul ho a b l fun y hy => h y (List.mem_cons_of_mem _ hy), Int.mul_pow]
    simp only [Int.mul_assoc, Int.mul_left_comm]
end M
set_option maxRecDepth 100000
set_option maxHeartbeats 1000000
/-! W1: figures.py -/
namespace EL
open PySem PySem.Spec L2 M
def rowD (l : List Nat) : D := .tup (l.map fun (x : Nat) => D.int x)
def lstD (l : List Nat) : D := .lst (l.map fun (x : Nat) => D.int x)
theorem flats_nats : ∀ l : List Nat, flats (l.map fun (x : Nat) => D.int x) = true
  | [] => rfl
  | a :: l => by rw [List.map_cons]; unfold flats; rw [flats_nats l]; rfl
theorem okR_row (l : List Nat) : okR (.sh (rowD l)) = true := flats_nats l
theorem flat_row (l : List Nat) : flat (rowD l) = true := flats_nats l
theorem get_nats {l : List Nat} {i c : Nat} (h : l[i]? = some c) : (l.map fun (x : Nat) => D.int x)[i]? = some (.int c) := by rw [List.getElem?_map, h]; rfl
theorem size_big : (16777216 : Nat) = sizeLine := by rw [sizeLine_eq]
def isIntD : D → Bool
  | .int _ => true
  | _ => false
def rel_is_whole : List D → R → Prop := fun ds r => ∃ d, ds = [d] ∧ r = .sh (.bl (isIntD d))
/-- slots: 0 thing -/
def t_is_whole (K : Frag) : TS := (tRet (tAndV (tCB (rIsi K) (tCons (tVar 0) (tCons (tC (.ty "int")) tNil))) (tNotV (tCB (rIsi K) (tCons (tVar 0) (tCons (tC (.ty "bool")) tNil))))))
theorem ss_is_whole {K : Frag} : ∀ ds r, rel_is_whole ds r → SS K none (t_is_whole K) (stS 1 ds) ds0 (RetO r) := by
  rintro ds r ⟨d, rfl, rfl⟩
  have h : ∀ b c, kitB (tyName d) "int" = some b → kitB (tyName d) "bool" = some c → (b && !c) = isIntD d → SS K none (t_is_whole K) (stS 1 [d]) ds0 (RetO (.sh (.bl (isIntD d)))) := fun b c hb hc e => by
    refine ss_ret (se_and (se_isi (ser_var (i := 0) rfl) hb) (fun _ => se_not (se_isi (ser_var (i := 0) rfl) hc))) ?_
    rw [e]; rfl
  cases d with
  | int i => exact h true false rfl rfl rfl
  | bl i => exact h true true rfl rfl rfl
  | non => exact h false false rfl rfl rfl
  | str i => exact h false false rfl rfl rfl
  | tup i => exact h false false rfl rfl rfl
  | lst i => exact h false false rfl rfl rfl
  | dct i j => exact h false false rfl rfl rfl
  | fdc i j => exact h false false rfl rfl rfl
def withinD (lo hi : Int) : D → Bool
  | .int i => decide (lo ≤ i) && decide (i ≤ hi)
  | _ => false
def rel_is_within : List D → R → Prop := fun ds r => ∃ d lo hi, ds = [d, .int lo, .int hi] ∧ r = .sh (.bl (withinD lo hi d))
/-- slots: 0 thing 1 low 2 high -/
def t_is_within (K : Frag) : TS := (tRet (tAndV (tCall (spR K rel_is_whole) [] E0 (tCons (tVar 0) tNil)) (tChain (rI0 fun i j => .bl (decide (i ≤ j))) (rI0 fun i j => .bl (decide (i ≤ j))) (tVar 1) (tVar 0) (tVar 2))))
theorem ss_is_within {K : Frag} : ∀ ds r, rel_is_within ds r → SS K none (t_is_within K) (stS 3 ds) ds0 (RetO r) := by
  rintro ds r ⟨d, lo, hi, rfl, rfl⟩
  have h1 : Se K none (tCall (spR K rel_is_whole) [] E0 (tCons (tVar 0) tNil)) (stS 3 [d, .int lo, .int hi]) ds0 (.sh (.bl (isIntD d))) ds0 := se_call (sa_cons (ser_var (i := 0) rfl) sa_nil) ⟨_, rfl, rfl⟩
  have fin : ∀ b, withinD lo hi d = (isIntD d && b) → (isIntD d = true → Se K none (tChain (rI0 fun i j => .bl (decide (i ≤ j))) (rI0 fun i j => .bl (decide (i ≤ j))) (tVar 1) (tVar 0) (tVar 2)) (stS 3 [d, .int lo, .int hi]) ds0 (.sh (.bl b)) ds0) → SS K none (t_is_within K) (stS 3 [d, .int lo, .int hi]) ds0 (RetO (.sh (.bl (withinD lo hi d)))) := fun b e h => by
    refine ss_ret (se_and h1 h) ?_
    rw [e]; rfl
  cases d with
  | int i => exact fin _ rfl fun _ => se_chain (se_var (i := 1) rfl) (se_var (i := 0) rfl) (se_var (i := 2) rfl)
  | _ => exact fin false rfl fun e => by cases e
def rel_need_base : List D → R → Prop := fun ds r => ∃ p : Nat, Bp p ∧ ds = [.int p] ∧ r = .sh .non
/-- slots: 0 base -/
def t_need_base (K : Frag) : TS := (tIfS (tOr (tNot (tB (tCall (spR K rel_is_whole) [] E0 (tCons (tVar 0) tNil)))) (tTest (tOp (rIn K true) (tVar 0) (tMod K [2, 3, 5])))) tNever tNext)
theorem ss_need_base {K : Frag} : ∀ ds r, rel_need_base ds r → SS K none (t_need_base K) (stS 1 ds) ds0 (RetO r) := by
  rintro ds r ⟨p, hp, rfl, rfl⟩
  refine ss_if (st_or (st_not (st_B (se_call (rel := rel_is_whole) (sa_cons (ser_var (i := 0) rfl) sa_nil) ⟨_, rfl, rfl⟩))) fun _ => st_Test (se_inM (se_var (i := 0) rfl))) (fun e => ?_) (fun _ => ss_next rfl)
  exfalso
  rcases hp with rfl | rfl | rfl <;> revert e <;> decide
def rel_need_as : List D → R → Prop := fun ds r => ∃ (i lo : Int) (w : Str), lo ≤ i ∧ i ≤ 1000000 ∧ ds = [.int i, .str w, .int lo] ∧ r = .sh .non
/-- slots: 0 thing 1 which 2 low -/
def t_need_as (K : Frag) : TS := (tSeq (tIfS (tB (tCall (spR K rel_is_within) [] E0 (tCons (tVar 0) (tCons (tVar 2) (tCons (tC (.int 1000000)) tNil))))) tRetN tNext) (tSeq (tIfS (tTest (tOp rEq (tVar 1) (tC (.str "one")))) tNever tNext) (tSeq (tIfS (tTest (tOp rEq (tVar 1) (tC (.str "other")))) tNever tNext) (tSeq (tIfS (tTest (tOp rEq (tVar 1) (tC (.str "start")))) tNever tNext) (tSeq (tIfS (tTest (tOp rEq (tVar 1) (tC (.str "index")))) tNever tNext) (tSeq (tIfS (tTest (tOp rEq (tVar 1) (tC (.str "modulus")))) tNever tNext) tNever))))))
theorem ss_need_as {K : Frag} : ∀ ds r, rel_need_as ds r → SS K none (t_need_as K) (stS 3 ds) ds0 (RetO r) := by
  rintro ds r ⟨i, lo, w, h1, h2, rfl, rfl⟩
  refine ss_seq (ss_if (b := true) (st_cast (st_B (se_call (rel := rel_is_within) (sa_cons (ser_var (i := 0) rfl) (sa_cons (ser_var (i := 2) rfl) (sa_cons (ser_sh se_int) sa_nil))) ⟨_, _, _, rfl, rfl⟩)) ?_) (fun _ => ss_retN rfl) (fun e => by cases e))
  show (decide (lo ≤ i) && decide (i ≤ 1000000)) = true
  simp [h1, h2]
def rel_trimmed : List D → R → Prop := fun ds r => ∃ l : List Nat, l.length ≤ 1000000 ∧ ds = [lstD l] ∧ r = .sh (rowD (trim l))
/-- slots: 0 row 1 many -/
def t_trimmed (K : Frag) : TS := (tSeq (tAsg (tCB (fun xs H Q => ∃ p ys, xs = [.ref p] ∧ (SqL K H p ys ∨ SqT K H p ys) ∧ Q (.int ys.length) H) (tCons (tVar 0) tNil)) (gName 1)) (tSeq (tWhile (tAnd (tTest (tOp (rI0 fun i j => .bl (decide (j < i))) (tVar 1) (tC (.int 0)))) (tTest (tOp rEq (tOp (rIxL K) (tVar 0) (tOp (rI0 fun i j => .int (i - j)) (tVar 1) (tC (.int 1)))) (tC (.int 0))))) (tAsg (tOp (rI0 fun i j => .int (i - j)) (tVar 1) (tC (.int 1))) (gName 1))) (tRet (tCB (fun xs H Q => ∃ p ys, xs = [.ref p] ∧ ((SqL K H p ys ∧ ∀ l, H l = none → Q (.ref l) (upd H l (.tup ys))) ∨ (SqT K H p ys ∧ Q (.ref p) H))) (tCons (tSl (rSlL K) (tVar 0) tNoPart (tPart (tVar 1))) tNil)))))
theorem ss_trimmed {K : Frag} : ∀ ds r, rel_trimmed ds r → SS K none (t_trimmed K) (stS 2 ds) ds0 (RetO r) := by
  rintro ds r ⟨l, hl, rfl, rfl⟩
  refine ss_seq (ss_set (se_len (ser_var (i := 0) rfl) (.lst _)) ?_)
  refine ss_seq (ss_while (m := l.length) (fun m δ s => m ≤ l.length ∧ trim l = trim (l.take m) ∧ s = ds0 ∧ δ = [.sh (lstD l), .sh (.int m)]) ?_ ?_)
  · exact ⟨Nat.le_refl _, by rw [List.take_length], rfl, by simp [stS, List.length_map]⟩
  · rintro m δ s ⟨hm, ht, rfl, rfl⟩
    have fin : m = 0 ∨ (∃ c, l[m - 1]? = some c ∧ c ≠ 0) → Thn K none (tRet (tCB (fun xs H Q => ∃ p ys, xs = [.ref p] ∧ ((SqL K H p ys ∧ ∀ l, H l = none → Q (.ref l) (upd H l (.tup ys))) ∨ (SqT K H p ys ∧ Q (.ref p) H))) (tCons (tSl (rSlL K) (tVar 0) tNoPart (tPart (tVar 1))) tNil))) (RetO (.sh (rowD (trim l)))) (.nx [.sh (lstD l), .sh (.int m)] ds0) := fun e => by
      have e2 : trim l = l.take m := by
        rw [ht]
        rcases e with e | ⟨c, hc, hn⟩
        · subst e; rfl
        · have h0 : m - 1 < l.length := (List.getElem?_eq_some_iff.mp hc).1
          by_cases z : m = 0
          · subst z; rfl
          · have : m = (m - 1) + 1 := by omega
            rw [this]; exact trim_take_ne hc hn
      refine ss_ret (se_tuple (ser_own (se_cutL (ser_var (i := 0) rfl) (se_var (i := 1) rfl) (by omega))) (.lst _)) ?_
      show R.sh _ = R.sh _
      rw [e2]; unfold rowD
      rw [Int.toNat_natCast, List.map_take]
    by_cases h0 : m = 0
    · subst h0
      refine ⟨false, ds0, ?_, ⟨fun e => Bool.noConfusion e, fun _ => fin (.inl rfl)⟩⟩
      exact st_cast (st_and (c := false) (st_Test (se_cmp (p := fun i j => decide (j < i)) (se_var (i := 1) rfl) se_int)) (fun e => by simp at e)) rfl
    · obtain ⟨c, hc⟩ : ∃ c, l[m - 1]? = some c := ⟨_, List.getElem?_eq_getElem (show m - 1 < l.length by omega)⟩
      have t1 : SeT K none (tAnd (tTest (tOp (rI0 fun i j => .bl (decide (j < i))) (tVar 1) (tC (.int 0)))) (tTest (tOp rEq (tOp (rIxL K) (tVar 0) (tOp (rI0 fun i j => .int (i - j)) (tVar 1) (tC (.int 1)))) (tC (.int 0))))) [.sh (lstD l), .sh (.int m)] ds0 (decide (c = 0)) ds0 := by
        refine st_cast (st_and (st_Test (se_cmp (p := fun i j => decide (j < i)) (se_var (i := 1) rfl) se_int)) (fun _ => st_Test (se_eqI (se_ixL (ser_var (i := 0) rfl) (se_sub (se_var (i := 1) rfl) se_int) (atI_of (m := m - 1) (by omega) (get_nats hc))) se_int))) ?_
        have : decide ((0 : Int) < (m : Int)) = true := by simp; omega
        rw [this, Bool.true_and]
        simp
      refine ⟨_, ds0, t1, fun e => ?_, fun e => fin (.inr ⟨c, hc, by simpa using e⟩)⟩
      have e0 : c = 0 := by simpa using e
      subst e0
      refine ss_set (se_sub (se_var (i := 1) rfl) se_int) ⟨m - 1, by omega, by omega, ?_, rfl, ?_⟩
      · rw [ht]
        have : m = (m - 1) + 1 := by omega
        rw [this, trim_take_zero (by simpa using hc)]; rfl
      · have : (m : Int) - 1 = ((m - 1 : Nat) : Int) := by omega
        rw [this]; rfl
def rel_row_of : List D → R → Prop := fun ds r => ∃ p n : Nat, Bp p ∧ len p n ≤ 1000000 ∧ ds = [.int p, .int n] ∧ r = .sh (rowD (dg p n))
/-- slots: 0 base 1 number 2 found 3 left -/
def t_row_of (K : Frag) : TS := (tSeq (tPar 2 3 (tCons (tLst tNil) (tCons (tVar 1) tNil))) (tSeq (tWhile (tTest (tOp (rI0 fun i j => .bl (decide (j < i))) (tVar 3) (tC (.int 0)))) (tSeq (tDrop (tBM K "list" rAppend (tVar 2) (tCons (tOp (rI (fun _ j => 0 < j) fun i j => .int (i % j)) (tVar 3) (tVar 0)) tNil))) (tAsg (tOp (rI CDiv fun i j => .int (i / j)) (tVar 3) (tVar 0)) (gName 3)))) (tRet (tCB (fun xs H Q => ∃ p ys, xs = [.ref p] ∧ ((SqL K H p ys ∧ ∀ l, H l = none → Q (.ref l) (upd H l (.tup ys))) ∨ (SqT K H p ys ∧ Q (.ref p) H))) (tCons (tVar 2) tNil)))))
theorem ss_row_of {K : Frag} : ∀ ds r, rel_row_of ds r → SS K none (t_row_of K) (stS 4 ds) ds0 (RetO r) := by
  rintro ds r ⟨p, n, hp, hl, rfl, rfl⟩
  refine ss_seq (ss_parOS (se_lst sas_nil (Nat.zero_le _)) (se_var (i := 1) rfl) fun a => ?_)
  refine ss_seq (ss_while (m := n) (fun m δ s => ∃ l : List Nat, dg p n = l ++ dg p m ∧ s = ds0 ∧ δ = [.sh (.int p), .sh (.int n), .own a (lstD l), .sh (.int m)]) ?_ ?_)
  · exact ⟨[], rfl, rfl, by simp [stS, lstD]⟩
  · rintro m δ s ⟨l, he, rfl, rfl⟩
    refine ⟨_, _, st_Test (se_cmp (p := fun i j => decide (j < i)) (se_var (i := 3) rfl) se_int), fun e => ?_, fun e => ?_⟩
    · have h0 : m ≠ 0 := by have := of_decide_eq_true e; omega
      have hlen := congrArg List.length he
      rw [dg_pos hp.two h0, List.length_append, List.length_cons] at hlen
      have h5 := hp.le
      have h2 := hp.two
      refine ss_seq (ss_append (j := 2) rfl (se_mod (se_var (i := 3) rfl) (se_var (i := 0) rfl) (by omega)) ?_ ?_)
      · rw [List.length_map, sizeLine_eq]
        unfold len at hl; omega
      · refine ss_set (se_div (se_var (i := 3) rfl) (se_var (i := 0) rfl) ⟨by omega, by omega⟩) ⟨m / p, div_lt hp.two h0, l ++ [m % p], ?_, rfl, ?_⟩
        · rw [he, dg_pos hp.two h0, List.append_assoc]; rfl
        · unfold lstD; rw [List.map_append]; rfl
    · have h0 : m = 0 := by have := of_decide_eq_false e; omega
      subst h0
      rw [dg_zero, List.append_nil] at he
      refine ss_ret (se_tuple (ser_ovar (i := 2) rfl) (.lst _)) ?_
      show R.sh _ = R.sh _
      rw [he]; rfl
def rel_number_by : List D → R → Prop := fun ds r => ∃ (p : Nat) (l : List Nat), Bp p ∧ ds = [.int p, rowD l] ∧ r = .sh (.int (nv p l))
/-- slots: 0 base 1 row 2 found 3 figure -/
def t_number_by (K : Frag) : TS := (tSeq (tAsg (tC (.int 0)) (gName 2)) (tSeq (tFor (iTup K (tRevT K (tVar 1))) (gName 3) (tAsg (tOp (rI0 fun i j => .int (i + j)) (tOp (rI CMul fun i j => .int (i * j)) (tVar 2) (tVar 0)) (tVar 3)) (gName 2))) (tRet (tVar 2))))
theorem nv_rev {p : Nat} {l : List Nat} {k c : Nat} (h : l.reverse[k]? = some c) : nv p (l.drop (l.length - (k + 1))) = nv p (l.drop (l.length - k)) * p + c := by
  have hk : k < l.length := by have := (List.getElem?_eq_some_iff.mp h).1; simpa using this
  rw [List.getElem?_reverse hk] at h
  have e : l.length - 1 - k = l.length - (k + 1) := by omega
  rw [e] at h
  have : l.drop (l.length - (k + 1)) = c :: l.drop (l.length - k) := by
    rw [List.drop_eq_getElem_cons (by omega)]
    congr 1
    · have := List.getElem?_eq_some_iff.mp h; obtain ⟨_, e⟩ := this; exact e
    · congr 1; omega
  rw [this]
  show c + p * _ = _
  rw [Nat.mul_comm]; omega
theorem ss_number_by {K : Frag} : ∀ ds r, rel_number_by ds r → SS K none (t_number_by K) (stS 4 ds) ds0 (RetO r) := by
  rintro ds r ⟨p, l, hp, rfl, rfl⟩
  refine ss_seq (ss_set se_int ?_)
  refine ss_seq (ss_forF (fun k => [.sh (.int p), .sh (rowD l), .sh (.int (nv p (l.drop (l.length - k)) : Nat)), .no]) (fun k => [.sh (.int p), .sh (rowD l), .sh (.int (nv p (l.drop (l.length - k)) : Nat)), .sh ((l.map fun (x : Nat) => D.int x).reverse.getD k .non)]) (si_tup (ser_sh (se_revT (ser_var (i := 1) rfl)))) (fun _ => trivial) ?_ (fun k hk => sg_name) (fun k hk => ?_) ?_)
  · refine ⟨.inr rfl, .inr rfl, .inr ?_, .inl rfl, trivial⟩
    rw [Nat.sub_zero, List.drop_length]; rfl
  · rw [List.length_reverse, List.length_map] at hk
    obtain ⟨c, hc⟩ : ∃ c, l.reverse[k]? = some c := ⟨_, List.getElem?_eq_getElem (by simpa using hk)⟩
    have e1 : (l.map fun (x : Nat) => D.int x).reverse.getD k .non = .int c := by
      rw [← List.map_reverse, List.getD_eq_getElem?_getD, List.getElem?_map, hc]; rfl
    rw [e1]
    have h5 := hp.le
    refine ss_set (se_add (se_mul (se_var (i := 2) rfl) (se_var (i := 0) rfl) (.inr ⟨by omega, by omega⟩)) (se_var (i := 3) rfl)) ⟨rfl, .inr rfl, .inr rfl, .inr ?_, .inl rfl, trivial⟩
    rw [nv_rev hc]
    push_cast; rfl
  · refine ss_ret (se_var (i := 2) rfl) ?_
    show R.sh _ = R.sh _
    rw [List.length_reverse, List.length_map, Nat.sub_self, List.drop_zero]
end EL
set_option maxRecDepth 100000
set_option maxHeartbeats 1000000
/-! W2: rows added, taken, multiplied, divided -/
namespace EL
open PySem PySem.Spec L2 M
abbrev row (p n : Nat) : D := rowD (dg p n)
theorem row_items (p n : Nat) (hp : 2 ≤ p) : ((dg p n).map fun (x : Nat) => D.int x) = fI (len p n) fun t => (cf p n t : Nat) := by
  rw [fI_nats]
  exact fI_congr fun t _ => by rw [dg_getD hp]
theorem row_eq {p n : Nat} (hp : 2 ≤ p) : row p n = .tup (fI (len p n) fun t => (cf p n t : Nat)) := by
  show D.tup _ = _
  rw [row_items p n hp]
theorem rel_trimmed_of {p n L : Nat} {f : Nat → Int} (hp : 2 ≤ p) (hL : L ≤ 1000000) (h : ∀ t, t < L → f t = (cf p n t : Nat)) (h2 : len p n ≤ L) : rel_trimmed [.lst (fI L f)] (.sh (row p n)) := by
  refine ⟨(List.range L).map (cf p n), by simpa using hL, ?_, ?_⟩
  · rw [fI_congr h, fI_map]; rfl
  · show R.sh (rowD _) = R.sh (rowD _)
    rw [trim_eq hp]
    · intro c hc
      obtain ⟨t, _, rfl⟩ := List.mem_map.mp hc
      exact cf_lt hp _ _
    · intro i
      by_cases hi : i < L
      · simp [List.getD_eq_getElem?_getD, hi]
      · rw [cf_ge hp (show len p n ≤ i by omega), List.getD_eq_getElem?_getD, List.getElem?_eq_none (by simp; omega)]; rfl
theorem rel_trimmed_ofM {p n L M : Nat} {f : Nat → Int} (hp : 2 ≤ p) (e : M = L) (hL : L ≤ 1000000) (h : ∀ t, t < L → f t = (cf p n t : Nat)) (h2 : len p n ≤ L) : rel_trimmed [.lst ((List.range M).map fun t => .int (f t))] (.sh (row p n)) := by
  subst e; exact rel_trimmed_of hp hL h h2
theorem rel_number_row {p n : Nat} (hp : Bp p) : rel_number_by [.int p, row p n] (.sh (.int n)) := ⟨p, dg p n, hp, rfl, by rw [nv_dg hp.two]⟩
theorem rel_row_row {p n : Nat} (hp : Bp p) (h : len p n ≤ 1000000) : rel_row_of [.int p, .int n] (.sh (row p n)) := ⟨p, n, hp, h, rfl, rfl⟩
/-- int(..) -/
abbrev tIn (t : TE) : TE := tCB (fun xs H Q => (∃ i, xs = [.int i] ∧ Q (.int i) H) ∨ ∃ k, xs = [.bl k] ∧ Q (.int (if k then 1 else 0)) H) (tCons t tNil)
abbrev tId (t : TE) : TE := t
/-- a wrapper that changes no number -/
def Wr (W : TE → TE) : Prop := ∀ (K : Frag) (dr : Option Addr) (t : TE) (δ : List S) (s s1 : DS) (i : Int), Se K dr t δ s (.sh (.int i)) s1 → Se K dr (W t) δ s (.sh (.int i)) s1
theorem wr_id : Wr tId := fun _ _ _ _ _ _ _ h => h
theorem wr_in : Wr tIn := fun _ _ _ _ _ _ _ h => se_int1 h
abbrev tMd (a b : TE) : TE := tOp (rI (fun _ j => 0 < j) fun i j => .int (i % j)) a b
abbrev tAdd (a b : TE) : TE := tOp (rI0 fun i j => .int (i + j)) a b
abbrev tSub (a b : TE) : TE := tOp (rI0 fun i j => .int (i - j)) a b
abbrev tMul (a b : TE) : TE := tOp (rI CMul fun i j => .int (i * j)) a b
abbrev tLen (t : TE) (K : Frag) : TE := tCB (fun xs H Q => ∃ p ys, xs = [.ref p] ∧ (SqL K H p ys ∨ SqT K H p ys) ∧ Q (.int ys.length) H) (tCons t tNil)
/-- the figure that makes 1 -/
theorem scale_get {p c : Nat} (hp : Bp p) (h : c < p) (h0 : c ≠ 0) : atI (((List.range (p - 1)).filter fun i => decide (((1 + (i : Nat) : Int) * c) % p = 1)).map fun i => D.int (1 + (i : Nat))) 0 = some (.int (inv p c)) := by
  rcases hp with rfl | rfl | rfl
  · have : c = 1 := by omega
    subst this; rfl
  · have : c = 1 ∨ c = 2 := by omega
    rcases this with rfl | rfl <;> rfl
  · have : c = 1 ∨ c = 2 ∨ c = 3 ∨ c = 4 := by omega
    rcases this with rfl | rfl | rfl | rfl <;> rfl
theorem at_lead {p n : Nat} (hp : 2 ≤ p) (h : n ≠ 0) : atI (fI (len p n) fun t => (cf p n t : Nat)) (-1) = some (.int (lead p n)) := by
  have hl := len_ne hp h
  unfold atI
  have : ixN (fI (len p n) fun t => ((cf p n t : Nat) : Int)).length (-1) = some (len p n - 1) := by
    unfold ixN
    rw [fI_len]
    simp only [show ¬ (0 : Int) ≤ -1 by decide, if_false]
    rw [if_pos (by omega)]
    congr 1; omega
  rw [this]
  exact fI_get (by omega)
/-- [late for late in range(1, base) if late * row[-1] % base == 1][0] with slots base 0, row j, late l -/
theorem se_scale {W : TE → TE} (hW : Wr W) {K : Frag} {δ : List S} {j l p n : Nat} (hp : Bp p) (hn : n ≠ 0) (h0 : δ[0]? = some (.sh (.int p))) (hj : δ[j]? = some (.sh (row p n))) (l0 : l ≠ 0) (lj : l ≠ j) (ll : l < δ.length) :
    Se K none (tOp (rIxL K) (tLc (iRng2 (tCons (tC (.int 1)) (tCons (tVar 0) tNil))) (gName l) (tTest (tOp rEq (tMd (W (tMul (tVar l) (tOp (rIxT K) (tVar j) (tUn (rU fun i => .int (-i)) (tC (.int 1)))))) (tVar 0)) (tC (.int 1)))) (tVar l) [l]) (tC (.int 0))) δ ds0 (.sh (.int (inv p (lead p n)))) ds0 := by
  have h2 := hp.two
  have h5 := hp.le
  have hw : wipeS δ [l] = δ.set l .no := rfl
  have g0 : ∀ q : S, (((wipeS δ [l]).set l q))[0]? = some (.sh (.int p)) := fun q => by rw [hw, List.set_set, List.getElem?_set_ne l0]; exact h0
  have gj : ∀ q : S, (((wipeS δ [l]).set l q))[j]? = some (.sh (row p n)) := fun q => by rw [hw, List.set_set, List.getElem?_set_ne lj]; exact hj
  have gl : ∀ q : S, (((wipeS δ [l]).set l q))[l]? = some q := fun q => by rw [hw, List.set_set, List.getElem?_set_self ll]
  have e : ((p : Int) - 1).toNat = p - 1 := by omega
  refine se_ixL (ds := ((List.range (p - 1)).filter fun i => decide (((1 + (i : Nat) : Int) * lead p n) % p = 1)).map fun i => D.int (1 + (i : Nat))) (ser_own ?_) se_int (scale_get hp (lead_lt h2 n) (lead_pos h2 hn))
  rw [← e]
  refine se_lcP _ _ (fun i => (wipeS δ [l]).set l (.sh (.int (1 + (i : Nat))))) (si_range2 se_int (se_var h0) ⟨by omega, by omega, by omega, by omega⟩) (fun _ => trivial) (fun i _ => sg_name) (gown_name (by simp)) (fun i hi => ?_) (fun i hi _ => se_var (gl _)) (by rw [sizeLine_eq]; omega)
  rw [row_eq h2] at gj
  have hlt := lead_lt h2 n
  exact st_Test (se_eqI (se_mod (hW _ _ _ _ _ _ _ (se_mul (se_var (gl _)) (se_ixT (ser_var (gj _)) (se_neg se_int) (at_lead h2 hn)) (.inr ⟨by omega, by omega⟩))) (se_var (g0 _)) (by omega)) se_int)
def rel_plain_row : List D → R → Prop := fun ds r => ∃ p n : Nat, Bp p ∧ len p n ≤ 100000 ∧ n ≠ 0 ∧ ds = [.int p, row p n] ∧ r = .sh (row p (plain p n))
/-- slots: 0 base 1 row 2 scale 3 late 4 figure -/
def t_plain_row (K : Frag) : TS := (tSeq (tAsg (tOp (rIxL K) (tLc (iRng2 (tCons (tC (.int 1)) (tCons (tVar 0) tNil))) (gName 3) (tTest (tOp rEq (tOp (rI (fun _ j => 0 < j) fun i j => .int (i % j)) (tOp (rI CMul fun i j => .int (i * j)) (tVar 3) (tOp (rIxT K) (tVar 1) (tUn (rU fun i => .int (-i)) (tC (.int 1))))) (tVar 0)) (tC (.int 1)))) (tVar 3) [3]) (tC (.int 0))) (gName 2)) (tRet (tCB (fun xs H Q => ∃ p ys, xs = [.ref p] ∧ ((SqL K H p ys ∧ ∀ l, H l = none → Q (.ref l) (upd H l (.tup ys))) ∨ (SqT K H p ys ∧ Q (.ref p) H))) (tCons (tLc (iTup K (tVar 1)) (gName 4) tYes (tOp (rI (fun _ j => 0 < j) fun i j => .int (i % j)) (tOp (rI CMul fun i j => .int (i * j)) (tVar 4) (tVar 2)) (tVar 0)) [4]) tNil))))
theorem len_plain {p n : Nat} (hp : Bp p) (hn : n ≠ 0) : len p (plain p n) = len p n := by
  have hs := inv_spec hp (c := lead p n) (by rw [Nat.mod_eq_of_lt (lead_lt hp.two n)]; exact lead_pos hp.two hn)
  exact len_scl hp (by rw [Nat.mod_eq_of_lt hs.1]; omega) hn
def tPlain (W : TE → TE) (K : Frag) : TS := (tSeq (tAsg (tOp (rIxL K) (tLc (iRng2 (tCons (tC (.int 1)) (tCons (tVar 0) tNil))) (gName 3) (tTest (tOp rEq (tMd (W (tMul (tVar 3) (tOp (rIxT K) (tVar 1) (tUn (rU fun i => .int (-i)) (tC (.int 1)))))) (tVar 0)) (tC (.int 1)))) (tVar 3) [3]) (tC (.int 0))) (gName 2)) (tRet (tCB (fun xs H Q => ∃ p ys, xs = [.ref p] ∧ ((SqL K H p ys ∧ ∀ l, H l = none → Q (.ref l) (upd H l (.tup ys))) ∨ (SqT K H p ys ∧ Q (.ref p) H))) (tCons (tLc (iTup K (tVar 1)) (gName 4) tYes (tMd (W (tMul (tVar 4) (tVar 2))) (tVar 0)) [4]) tNil))))
theorem ss_plainG {W : TE → TE} (hW : Wr W) {K : Frag} : ∀ ds r, rel_plain_row ds r → SS K none (tPlain W K) (stS 5 ds) ds0 (RetO r) := by
  rintro ds r ⟨p, n, hp, hl, hn, rfl, rfl⟩
  have h2 := hp.two
  have h5 := hp.le
  refine ss_seq (ss_set (se_scale hW (j := 1) (l := 3) hp hn rfl rfl (by decide) (by decide) (by simp [stS])) ?_)
  rw [row_eq h2, row_eq h2, len_plain hp hn]
  refine ss_ret (se_tuple (ser_own (se_lcM (fun i => D.int (cf p (plain p n) i : Nat)) (fun i => [.sh (.int p), .sh (.tup (fI (len p n) fun t => (cf p n t : Nat))), .sh (.int (inv p (lead p n))), .no, .sh (.int (cf p n i : Nat))]) (si_tup (ser_var (i := 1) rfl)) (fun _ => trivial) (fun i hi => ?_) (gown_name (by simp)) (fun i hi => ?_) ?_)) (.lst _)) ?_
  · rw [fI_len] at hi
    rw [fI_getD hi]
    exact sg_name
  · refine se_cast (se_mod (hW _ _ _ _ _ _ _ (se_mul (se_var (i := 4) rfl) (se_var (i := 2) rfl) (.inr ⟨by omega, by have := (inv_spec hp (c := lead p n) (by rw [Nat.mod_eq_of_lt (lead_lt h2 n)]; exact lead_pos h2 hn)).1; omega⟩))) (se_var (i := 0) rfl) (by omega)) ?_
    unfold M.plain
    rw [cf_scl h2, Nat.mul_comm]
    rfl
  · rw [fI_len, sizeLine_eq]; omega
  · rw [fI_len]; rfl
theorem ss_plain_row {K : Frag} : ∀ ds r, rel_plain_row ds r → SS K none (t_plain_row K) (stS 5 ds) ds0 (RetO r) := ss_plainG wr_id
def rel_law_plain := rel_plain_row
/-- slots: 0 base 1 row 2 scale 3 late 4 figure -/
def t_law_plain (K : Frag) : TS := (tSeq (tAsg (tOp (rIxL K) (tLc (iRng2 (tCons (tC (.int 1)) (tCons (tVar 0) tNil))) (gName 3) (tTest (tOp rEq (tOp (rI (fun _ j => 0 < j) fun i j => .int (i % j)) (tCB (fun xs H Q => (∃ i, xs = [.int i] ∧ Q (.int i) H) ∨ ∃ k, xs = [.bl k] ∧ Q (.int (if k then 1 else 0)) H) (tCons (tOp (rI CMul fun i j => .int (i * j)) (tVar 3) (tOp (rIxT K) (tVar 1) (tUn (rU fun i => .int (-i)) (tC (.int 1))))) tNil)) (tVar 0)) (tC (.int 1)))) (tVar 3) [3]) (tC (.int 0))) (gName 2)) (tRet (tCB (fun xs H Q => ∃ p ys, xs = [.ref p] ∧ ((SqL K H p ys ∧ ∀ l, H l = none → Q (.ref l) (upd H l (.tup ys))) ∨ (SqT K H p ys ∧ Q (.ref p) H))) (tCons (tLc (iTup K (tVar 1)) (gName 4) tYes (tOp (rI (fun _ j => 0 < j) fun i j => .int (i % j)) (tCB (fun xs H Q => (∃ i, xs = [.int i] ∧ Q (.int i) H) ∨ ∃ k, xs = [.bl k] ∧ Q (.int (if k then 1 else 0)) H) (tCons (tOp (rI CMul fun i j => .int (i * j)) (tVar 4) (tVar 2)) tNil)) (tVar 0)) [4]) tNil))))
theorem ss_law_plain {K : Frag} : ∀ ds r, rel_law_plain ds r → SS K none (t_law_plain K) (stS 5 ds) ds0 (RetO r) := ss_plainG wr_in
end EL
set_option maxRecDepth 100000
set_option maxHeartbeats 1000000
/-! W3: rows multiplied, divided -/
namespace EL
open PySem PySem.Spec L2 M
section
variable {K : Frag} {p a b : Nat}
theorem cmul_l {i j : Int} (h : 0 ≤ i) (h2 : i < 1000000) : CMul i j := .inl ⟨by omega, by omega⟩
theorem cmul_r {i j : Int} (h : 0 ≤ j) (h2 : j < 1000000) : CMul i j := .inr ⟨by omega, by omega⟩
abbrev eI (p n : Nat) : List D := fI (len p n) fun t => (cf p n t : Nat)
theorem si_enumF {dr : Option Addr} {δ : List S} {s s1 : DS} {t : TE} {L : Nat} {f : Nat → Int} (h : SeR K dr t δ s (.tup (fI L f)) s1) : SeI K dr (iEnumT K (tCons t tNil)) δ s L (fun i => .tup [.int (i : Nat), (fI L f).getD i .non]) s1 CTrue := by
  have := si_enumT h
  rwa [fI_len] at this
/-! ### times -/
theorem ss_tinner {O : Out → Prop} (hp : Bp p) {L i c : Nat} {ad : Addr} {f : Nat → Int} {q6 q7 : S} (hL : i + len p b ≤ L) (hc : c < p)
    (k : O (.nx [.sh (.int p), .sh (row p a), .sh (row p b), .own ad (.lst (fI L fun t => if i ≤ t ∧ t - i < len p b then f t + (c : Int) * (cf p b (t - i) : Nat) else f t)), .sh (.int i), .sh (.int c), .no, .no] ds0)) :
    SS K none (tFor (iEnumT K (tCons (tVar 2) tNil)) (gTup K 2 (gCons (gName 6) (gCons (gName 7) gNil))) (tAsg (tAdd (tOp (rIxL K) (tVar 3) (tAdd (tVar 4) (tVar 6))) (tMul (tVar 5) (tVar 7))) (gSub (tVar 3) (tAdd (tVar 4) (tVar 6)) rSetL)))
      [.sh (.int p), .sh (row p a), .sh (row p b), .own ad (.lst (fI L f)), .sh (.int i), .sh (.int c), q6, q7] ds0 O := by
  have h2 := hp.two
  have h5 := hp.le
  rw [row_eq (n := b) h2] at *
  refine ss_forF (fun j => [.sh (.int p), .sh (row p a), .sh (.tup (eI p b)), .own ad (.lst (fI L fun t => if i ≤ t ∧ t - i < j then f t + (c : Int) * (cf p b (t - i) : Nat) else f t)), .sh (.int i), .sh (.int c), .no, .no])
    (fun j => [.sh (.int p), .sh (row p a), .sh (.tup (eI p b)), .own ad (.lst (fI L fun t => if i ≤ t ∧ t - i < j then f t + (c : Int) * (cf p b (t - i) : Nat) else f t)), .sh (.int i), .sh (.int c), .sh (.int (j : Nat)), .sh (.int (cf p b j : Nat))])
    (si_enumF (ser_var (i := 2) rfl)) (fun _ => trivial) ?_ (fun j hj => ?_) (fun j hj => ?_) k
  · refine ⟨.inr rfl, .inr rfl, .inr rfl, .inr ?_, .inr rfl, .inr rfl, .inl rfl, .inl rfl, trivial⟩
    congr 2
    exact fI_congr fun t _ => by rw [if_neg (by omega)]
  · rw [fI_getD hj]
    exact sg_tup2
  · refine ss_setIx (j := 3) (m := i + j) rfl (se_add (se_ixL (ser_ovar (i := 3) rfl) (se_add (se_var (i := 4) rfl) (se_var (i := 6) rfl)) (fI_at (m := i + j) (by omega) (by omega))) (se_mul (se_var (i := 5) rfl) (se_var (i := 7) rfl) (cmul_l (by omega) (by omega)))) (se_add (se_var (i := 4) rfl) (se_var (i := 6) rfl)) (ixN_of (by omega) (by rw [fI_len]; omega)) ?_
    refine ⟨rfl, .inr rfl, .inr rfl, .inr rfl, .inr ?_, .inr rfl, .inr rfl, .inl rfl, .inl rfl, trivial⟩
    rw [fI_set]
    show S.own ad _ = S.own ad _
    congr 2
    refine fI_congr fun t _ => ?_
    by_cases e : t = i + j
    · subst e
      rw [if_pos rfl, if_neg (by omega), if_pos (by omega), Nat.add_sub_cancel_left]
    · rw [if_neg e]
      by_cases z : i ≤ t ∧ t - i < j
      · rw [if_pos z, if_pos (by omega)]
      · rw [if_neg z, if_neg (by omega)]
def tcf (p a b i t : Nat) : Nat := sm (fun i' => if i' ≤ t then cf p a i' * cf p b (t - i') else 0) i
theorem sm_more {f : Nat → Nat} {n : Nat} (h : ∀ i, n ≤ i → f i = 0) : ∀ k, sm f (n + k) = sm f n
  | 0 => rfl
  | k + 1 => by
    show sm f (n + k) + f (n + k) = _
    rw [h _ (by omega), sm_more h k, Nat.add_zero]
theorem tcf_end (hp : Bp p) (t : Nat) : tcf p a b (len p a) t % p = cf p (pmul p a b) t := by
  have h2 := hp.two
  rw [cf_pmul h2]
  unfold tcf
  have h1 := sm_more (f := fun i' => if i' ≤ t then cf p a i' * cf p b (t - i') else 0) (n := len p a) (fun i hi => by
    show (if i ≤ t then _ else 0) = 0
    rw [cf_ge h2 hi]; simp) (t + 1)
  have h3 := sm_more (f := fun i' => if i' ≤ t then cf p a i' * cf p b (t - i') else 0) (n := t + 1) (fun i hi => by
    show (if i ≤ t then _ else 0) = 0
    rw [if_neg (by omega)]) (len p a)
  rw [← h1, Nat.add_comm (len p a), h3]
  congr 1
  exact sm_congr _ fun i hi => by show (if i ≤ t then _ else 0) = _; rw [if_pos (by omega)]
theorem len_pmul_le (hp : Bp p) : len p (pmul p a b) ≤ len p a + len p b - 1 := by
  by_cases ha : a = 0
  · subst ha; rw [zero_pmul, len_zero]; omega
  · by_cases hb : b = 0
    · subst hb; rw [pmul_zero hp.two, len_zero]; omega
    · have := len_pmul hp hb a ha; omega
theorem ss_tmain {W : TE → TE} (hW : Wr W) {tin : TS} {cut : List D → R → Prop} (hcut : ∀ ds r, rel_trimmed ds r → cut ds r) (hp : Bp p) {L : Nat} {ad : Addr} {q4 q5 q6 q7 : S} (hL : len p a + len p b - 1 ≤ L) (hL2 : L ≤ 1000000) (hl : len p b ≤ L)
    (hin : ∀ (i c : Nat) (f : Nat → Int) (q6 q7 : S) (O : Out → Prop), i + len p b ≤ L → c < p → (O (.nx [.sh (.int p), .sh (row p a), .sh (row p b), .own ad (.lst (fI L fun t => if i ≤ t ∧ t - i < len p b then f t + (c : Int) * (cf p b (t - i) : Nat) else f t)), .sh (.int i), .sh (.int c), .no, .no] ds0)) →
      SS K none tin [.sh (.int p), .sh (row p a), .sh (row p b), .own ad (.lst (fI L f)), .sh (.int i), .sh (.int c), q6, q7] ds0 O) :
    SS K none (tSeq (tFor (iEnumT K (tCons (tVar 1) tNil)) (gTup K 2 (gCons (gName 4) (gCons (gName 5) gNil))) tin) (tRet (tCall (spR K cut) [] E0 (tCons (tLc (iList K (tVar 3)) (gName 7) tYes (tMd (W (tVar 7)) (tVar 0)) [7]) tNil))))
      [.sh (.int p), .sh (row p a), .sh (row p b), .own ad (.lst (fI L fun _ => 0)), q4, q5, q6, q7] ds0 (RetO (.sh (row p (pmul p a b)))) := by
  have h2 := hp.two
  have h5 := hp.le
  refine ss_seq (ss_forF (fun i => [.sh (.int p), .sh (.tup (eI p a)), .sh (row p b), .own ad (.lst (fI L fun t => (tcf p a b i t : Nat))), .no, .no, .no, .no])
    (fun i => [.sh (.int p), .sh (row p a), .sh (row p b), .own ad (.lst (fI L fun t => (tcf p a b i t : Nat))), .sh (.int (i : Nat)), .sh (.int (cf p a i : Nat)), .no, .no])
    (si_enumF (ser_var (i := 1) (by rw [row_eq h2]; rfl))) (fun _ => trivial) ?_ (fun j hj => ?_) (fun j hj => ?_) ?_)
  · exact ⟨.inr rfl, .inr (by rw [row_eq h2]), .inr rfl, .inr rfl, .inl rfl, .inl rfl, .inl rfl, .inl rfl, trivial⟩
  · rw [fI_getD hj, row_eq (n := a) h2]
    exact sg_tup2
  · refine hin j _ _ _ _ _ (by omega) (cf_lt h2 _ _) ⟨rfl, .inr rfl, .inr (by rw [row_eq h2]), .inr rfl, .inr ?_, .inl rfl, .inl rfl, .inl rfl, .inl rfl, trivial⟩
    congr 2
    refine fI_congr fun t _ => ?_
    show _ = ((sm _ j + (if j ≤ t then cf p a j * cf p b (t - j) else 0) : Nat) : Int)
    by_cases z : j ≤ t
    · rw [if_pos z]
      by_cases z2 : t - j < len p b
      · rw [if_pos ⟨z, z2⟩]; push_cast; rfl
      · rw [if_neg (fun e => z2 e.2), cf_ge h2 (show len p b ≤ t - j by omega)]; rfl
    · rw [if_neg z, if_neg (fun e => z e.1)]; rfl
  · refine ss_ret (se_call (sa_cons (ser_own (se_lcM (fun t => D.int ((tcf p a b (len p a) t : Nat) % (p : Int))) (fun t => [.sh (.int p), .sh (.tup (eI p a)), .sh (row p b), .own ad (.lst (fI L fun t => (tcf p a b (len p a) t : Nat))), .no, .no, .no, .sh (.int (tcf p a b (len p a) t : Nat))]) (si_own (j := 3) rfl) (fun _ => rfl) (fun t ht => ?_) (gown_name (by simp)) (fun t ht => ?_) ?_)) sa_nil) (hcut _ _ (rel_trimmed_ofM (n := pmul p a b) (L := L) (f := fun t => (tcf p a b (len p a) t : Nat) % (p : Int)) h2 fI_len hL2 (fun t ht => ?_) ?_))) rfl
    · rw [fI_len] at ht
      rw [fI_getD ht]
      exact sg_name
    · exact se_mod (hW _ _ _ _ _ _ _ (se_var (i := 7) rfl)) (se_var (i := 0) rfl) (by omega)
    · rw [fI_len, sizeLine_eq]; omega
    · rw [← tcf_end hp]; rfl
    · exact Nat.le_trans (len_pmul_le hp) hL
def rel_times_rows : List D → R → Prop := fun ds r => ∃ p a b : Nat, Bp p ∧ len p a ≤ 100000 ∧ len p b ≤ 100000 ∧ ds = [.int p, row p a, row p b] ∧ r = .sh (row p (pmul p a b))
def rel_law_times := rel_times_rows
def rel_law_cut := rel_trimmed
theorem toPys_ints : ∀ l : List Nat, toPys (l.map fun (x : Nat) => D.int x) = l.map fun (x : Nat) => PyData.int x
  | [] => rfl
  | a :: l => by rw [List.map_cons, List.map_cons, ← toPys_ints l]; rfl
theorem lay_ints : ∀ l : List Nat, PyData.canLayAll0 (l.map fun (x : Nat) => PyData.int x) = true
  | [] => rfl
  | a :: l => by rw [List.map_cons]; simp [PyData.canLayAll0, PyData.canLay0, lay_ints l]
theorem depth_ints : ∀ l : List Nat, PyData.depthAll (l.map fun (x : Nat) => PyData.int x) ≤ 1
  | [] => by simp [PyData.depthAll]
  | a :: l => by
    have := depth_ints l
    rw [List.map_cons]; simp only [PyData.depthAll, PyData.depth]; omega
theorem shaped_row (l : List Nat) : SeqAt.shaped (toPy (rowD l)) = true := by
  show SeqAt.shaped (.tuple (toPys (l.map fun (x : Nat) => D.int x))) = true
  rw [toPys_ints]
  have h := depth_ints l
  show (PyData.canLay0 (.tuple _) && decide (PyData.depth (.tuple _) ≤ 64)) = true
  rw [Bool.and_eq_true]
  exact ⟨by simp only [PyData.canLay0]; exact lay_ints l, decide_eq_true (by simp only [PyData.depth]; omega)⟩
theorem noDct_ints : ∀ l : List Nat, noDcts (l.map fun (x : Nat) => D.int x) = true
  | [] => rfl
  | a :: l => by rw [List.map_cons]; simp [noDcts, noDct, noDct_ints l]
theorem noDct_row (l : List Nat) : noDct (rowD l) = true := noDct_ints l
theorem eqv_ints : ∀ l m : List Nat, PyData.eqvAll (l.map fun (x : Nat) => PyData.int x) (m.map fun (x : Nat) => PyData.int x) = decide (l = m)
  | [], [] => rfl
  | a :: l, [] => rfl
  | [], a :: l => rfl
  | a :: l, b :: m => by
    rw [List.map_cons, List.map_cons]
    simp only [PyData.eqvAll, PyData.eqv, eqv_ints l m]
    rw [Bool.eq_iff_iff]
    simp
    intro _; omega
theorem eqv_row (l m : List Nat) : PyData.eqv (toPy (rowD l)) (toPy (rowD m)) = decide (l = m) := by
  show PyData.eqv (.tuple (toPys (l.map fun (x : Nat) => D.int x))) (.tuple (toPys (m.map fun (x : Nat) => D.int x))) = _
  rw [toPys_ints, toPys_ints]
  simp only [PyData.eqv]
  exact eqv_ints l m
theorem dg_inj (hp : 2 ≤ p) {a b : Nat} (h : dg p a = dg p b) : a = b := by rw [← nv_dg hp a, h, nv_dg hp b]
section
variable {dr : Option Addr} {δ : List S} {s s1 s2 : DS} {ta tb : TE}
theorem se_eqRow (hp : 2 ≤ p) (ha : SeR K dr ta δ s (row p a) s1) (hb : SeR K dr tb δ s1 (row p b) s2) : Se K dr (tOp (rEqD K) ta tb) δ s (.sh (.bl (decide (a = b)))) s2 := by
  refine se_cast (se_eqP ha hb (noDct_row _) (noDct_row _) (shaped_row _) (shaped_row _)) ?_
  rw [eqv_row]
  congr 2
  exact decide_eq_decide.mpr ⟨dg_inj hp, fun e => by rw [e]⟩
theorem se_neRow (hp : 2 ≤ p) (ha : SeR K dr ta δ s (row p a) s1) (hb : SeR K dr tb δ s1 (row p b) s2) : Se K dr (tOp (rNeD K) ta tb) δ s (.sh (.bl (!decide (a = b)))) s2 := by
  refine se_cast (se_neP ha hb (noDct_row _) (noDct_row _) (shaped_row _) (shaped_row _)) ?_
  rw [eqv_row]
  congr 3
  exact decide_eq_decide.mpr ⟨dg_inj hp, fun e => by rw [e]⟩
theorem row_zero : row p 0 = .tup [] := rfl
theorem se_nil : Se K dr (tTup tNil) δ s (.sh (row p 0)) s := se_tup sas_nil (Nat.zero_le _)
theorem se_lenRow (hp : 2 ≤ p) (h : SeR K dr ta δ s (row p a) s1) : Se K dr (tLen ta K) δ s (.sh (.int (len p a))) s1 := by
  refine se_cast (se_len h (.tup _)) ?_
  rw [List.length_map]; rfl
theorem se_zeros {L : Nat} {i : Int} (e : i = L) (hL : L ≤ 1000000) (h : Se K dr tb δ s (.sh (.int i)) s1) : Se K dr (tOp rRep (tLst (tCons (tC (.int 0)) tNil)) tb) δ s (.own (.lst (fI L fun _ => 0))) s1 := by
  subst e
  refine se_cast (se_rep (se_lst (sas_cons se_int sas_nil) (by rw [sizeLine_eq]; decide)) h (by omega) (by omega) ?_) ?_
  · rw [sizeLine_eq]; simp; omega
  · rw [Int.toNat_natCast, fI_zero]
theorem se_zerosE {i : Int} (e : i ≤ 0) (h : Se K dr tb δ s (.sh (.int i)) s1) (hi : -1000000 ≤ i) : Se K dr (tOp rRep (tLst (tCons (tC (.int 0)) tNil)) tb) δ s (.own (.lst (fI 0 fun _ => 0))) s1 := by
  refine se_cast (se_rep (se_lst (sas_cons se_int sas_nil) (by rw [sizeLine_eq]; decide)) h (by omega) (by omega) ?_) ?_
  · rw [show i.toNat = 0 by omega]; simp
  · rw [show i.toNat = 0 by omega]; rfl
end
/-- slots: 0 base 1 one 2 other 3 found 4 at 5 figure 6 late 7 item -/
def t_times_rows (K : Frag) : TS := (tSeq (tIfS (tOr (tTest (tOp (rEqD K) (tVar 1) (tTup tNil))) (tTest (tOp (rEqD K) (tVar 2) (tTup tNil)))) (tRet (tTup tNil)) tNext) (tSeq (tAsg (tOp rRep (tLst (tCons (tC (.int 0)) tNil)) (tOp (rI0 fun i j => .int (i - j)) (tOp (rI0 fun i j => .int (i + j)) (tCB (fun xs H Q => ∃ p ys, xs = [.ref p] ∧ (SqL K H p ys ∨ SqT K H p ys) ∧ Q (.int ys.length) H) (tCons (tVar 1) tNil)) (tCB (fun xs H Q => ∃ p ys, xs = [.ref p] ∧ (SqL K H p ys ∨ SqT K H p ys) ∧ Q (.int ys.length) H) (tCons (tVar 2) tNil))) (tC (.int 1)))) (gName 3)) (tSeq (tFor (iEnumT K (tCons (tVar 1) tNil)) (gTup K 2 (gCons (gName 4) (gCons (gName 5) gNil))) (tIfS (tTest (tOp rNe (tVar 5) (tC (.int 0)))) (tFor (iEnumT K (tCons (tVar 2) tNil)) (gTup K 2 (gCons (gName 6) (gCons (gName 7) gNil))) (tAsg (tOp (rI0 fun i j => .int (i + j)) (tOp (rIxL K) (tVar 3) (tOp (rI0 fun i j => .int (i + j)) (tVar 4) (tVar 6))) (tOp (rI CMul fun i j => .int (i * j)) (tVar 5) (tVar 7))) (gSub (tVar 3) (tOp (rI0 fun i j => .int (i + j)) (tVar 4) (tVar 6)) rSetL))) tNext)) (tRet (tCall (spR K rel_trimmed) [] E0 (tCons (tLc (iList K (tVar 3)) (gName 7) tYes (tOp (rI (fun _ j => 0 < j) fun i j => .int (i % j)) (tVar 7) (tVar 0)) [7]) tNil))))))
/-- slots: 0 base 1 one 2 other 3 found 4 at 5 figure 6 late 7 item -/
def t_law_times (K : Frag) : TS := (tSeq (tAsg (tOp rRep (tLst (tCons (tC (.int 0)) tNil)) (tOp (rI0 fun i j => .int (i + j)) (tCB (fun xs H Q => ∃ p ys, xs = [.ref p] ∧ (SqL K H p ys ∨ SqT K H p ys) ∧ Q (.int ys.length) H) (tCons (tVar 1) tNil)) (tCB (fun xs H Q => ∃ p ys, xs = [.ref p] ∧ (SqL K H p ys ∨ SqT K H p ys) ∧ Q (.int ys.length) H) (tCons (tVar 2) tNil)))) (gName 3)) (tSeq (tFor (iEnumT K (tCons (tVar 1) tNil)) (gTup K 2 (gCons (gName 4) (gCons (gName 5) gNil))) (tFor (iEnumT K (tCons (tVar 2) tNil)) (gTup K 2 (gCons (gName 6) (gCons (gName 7) gNil))) (tAsg (tOp (rI0 fun i j => .int (i + j)) (tOp (rIxL K) (tVar 3) (tOp (rI0 fun i j => .int (i + j)) (tVar 4) (tVar 6))) (tOp (rI CMul fun i j => .int (i * j)) (tVar 5) (tVar 7))) (gSub (tVar 3) (tOp (rI0 fun i j => .int (i + j)) (tVar 4) (tVar 6)) rSetL)))) (tRet (tCall (spR K rel_law_cut) [] E0 (tCons (tLc (iList K (tVar 3)) (gName 7) tYes (tOp (rI (fun _ j => 0 < j) fun i j => .int (i % j)) (tCB (fun xs H Q => (∃ i, xs = [.int i] ∧ Q (.int i) H) ∨ ∃ k, xs = [.bl k] ∧ Q (.int (if k then 1 else 0)) H) (tCons (tVar 7) tNil)) (tVar 0)) [7]) tNil)))))
theorem ss_law_times : ∀ ds r, rel_law_times ds r → SS K none (t_law_times K) (stS 8 ds) ds0 (RetO r) := by
  rintro ds r ⟨p, a, b, hp, ha, hb, rfl, rfl⟩
  have h2 := hp.two
  refine ss_seq (ss_setO (se_zeros (L := len p a + len p b) (by omega) (by omega) (se_add (se_lenRow h2 (ser_var (i := 1) rfl)) (se_lenRow h2 (ser_var (i := 2) rfl)))) fun ad => ?_)
  exact ss_tmain wr_in (fun _ _ h => h) hp (by omega) (by omega) (by omega) fun i c f q6 q7 O h1 h3 k => ss_tinner hp h1 h3 k
theorem ss_times_rows : ∀ ds r, rel_times_rows ds r → SS K none (t_times_rows K) (stS 8 ds) ds0 (RetO r) := by
  rintro ds r ⟨p, a, b, hp, ha, hb, rfl, rfl⟩
  have h2 := hp.two
  refine ss_seq (ss_if (st_or (st_Test (se_eqRow h2 (ser_var (i := 1) rfl) (ser_sh se_nil))) (fun _ => st_Test (se_eqRow h2 (ser_var (i := 2) rfl) (ser_sh se_nil)))) (fun e => ?_) (fun e => ss_next ?_))
  · refine ss_ret (se_nil (p := p)) ?_
    rw [Bool.or_eq_true, decide_eq_true_iff, decide_eq_true_iff] at e
    show R.sh _ = R.sh _
    rcases e with e | e
    · rw [e, zero_pmul]
    · rw [e, pmul_zero h2]
  · rw [Bool.or_eq_false_iff, decide_eq_false_iff_not, decide_eq_false_iff_not] at e
    have h3 := len_ne h2 e.1
    have h4 := len_ne h2 e.2
    refine ss_seq (ss_setO (se_zeros (L := len p a + len p b - 1) (by omega) (by omega) (se_sub (se_add (se_lenRow h2 (ser_var (i := 1) rfl)) (se_lenRow h2 (ser_var (i := 2) rfl))) se_int)) fun ad => ?_)
    refine ss_tmain wr_id (fun _ _ h => h) hp (by omega) (by omega) (by omega) fun i c f q6 q7 O h1 h3 k => ?_
    refine ss_if (st_Test (se_neI (se_var (i := 5) rfl) se_int)) (fun _ => ss_tinner hp h1 h3 k) (fun e => ?_)
    have e0 : c = 0 := by simpa using e
    subst e0
    refine ss_mono (ss_weak (δ' := [.sh (.int p), .sh (row p a), .sh (row p b), .own ad (.lst (fI (len p a + len p b - 1) f)), .sh (.int i), .sh (.int (0 : Nat)), .no, .no]) (ss_next (O := fun o => o = .nx [.sh (.int p), .sh (row p a), .sh (row p b), .own ad (.lst (fI (len p a + len p b - 1) f)), .sh (.int i), .sh (.int (0 : Nat)), .no, .no] ds0) rfl) ⟨.inr rfl, .inr rfl, .inr rfl, .inr rfl, .inr rfl, .inr rfl, .inl rfl, .inl rfl, trivial⟩) (fun o eo => ?_)
    subst eo
    have : (fI (len p a + len p b - 1) fun t => if i ≤ t ∧ t - i < len p b then f t + ((0 : Nat) : Int) * (cf p b (t - i) : Nat) else f t) = fI (len p a + len p b - 1) f := fI_congr fun t _ => by simp
    rw [this] at k
    exact k
end
end EL
set_option maxRecDepth 100000
set_option maxHeartbeats 1000000
/-! W4: rows divided -/
namespace EL
open PySem PySem.Spec L2 M
section
variable {K : Frag} {p a b : Nat}
theorem ss_dinner {W : TE → TE} (hW : Wr W) {O : Out → Prop} (hp : Bp p) {L m i c sc : Nat} {ad bd : Addr} {f : Nat → Int} {fo : List D} {q1 q8 q9 : S} (hL : i + len p b ≤ L) (hc : c < p)
    (k : O (.nx [.sh (.int p), q1, .sh (row p b), .own ad (.lst (fI L fun t => if i ≤ t ∧ t - i < len p b then (f t - (c : Int) * (cf p b (t - i) : Nat)) % p else f t)), .own bd (.lst fo), .sh (.int sc), .sh (.int i), .sh (.int c), .no, .no] ds0)) :
    SS K none (tFor (iEnumT K (tCons (tVar 2) tNil)) (gTup K 2 (gCons (gName 8) (gCons (gName 9) gNil))) (tAsg (tMd (W (tSub (tOp (rIxL K) (tVar 3) (tAdd (tVar 6) (tVar 8))) (tMul (tVar 7) (tVar 9)))) (tVar 0)) (gSub (tVar 3) (tAdd (tVar 6) (tVar 8)) rSetL)))
      [.sh (.int p), q1, .sh (row p b), .own ad (.lst (fI L f)), .own bd (.lst fo), .sh (.int sc), .sh (.int i), .sh (.int c), q8, q9] ds0 O := by
  have h2 := hp.two
  have h5 := hp.le
  rw [row_eq (n := b) h2] at *
  refine ss_forF (fun j => [.sh (.int p), q1, .sh (.tup (eI p b)), .own ad (.lst (fI L fun t => if i ≤ t ∧ t - i < j then (f t - (c : Int) * (cf p b (t - i) : Nat)) % p else f t)), .own bd (.lst fo), .sh (.int sc), .sh (.int i), .sh (.int c), .no, .no])
    (fun j => [.sh (.int p), q1, .sh (.tup (eI p b)), .own ad (.lst (fI L fun t => if i ≤ t ∧ t - i < j then (f t - (c : Int) * (cf p b (t - i) : Nat)) % p else f t)), .own bd (.lst fo), .sh (.int sc), .sh (.int i), .sh (.int c), .sh (.int (j : Nat)), .sh (.int (cf p b j : Nat))])
    (si_enumF (ser_var (i := 2) rfl)) (fun _ => trivial) ?_ (fun j hj => ?_) (fun j hj => ?_) k
  · refine ⟨.inr rfl, .inr rfl, .inr rfl, .inr ?_, .inr rfl, .inr rfl, .inr rfl, .inr rfl, .inl rfl, .inl rfl, trivial⟩
    congr 2
    exact fI_congr fun t _ => by rw [if_neg (by omega)]
  · rw [fI_getD hj]
    exact sg_tup2
  · refine ss_setIx (j := 3) (m := i + j) rfl (se_mod (hW _ _ _ _ _ _ _ (se_sub (se_ixL (ser_ovar (i := 3) rfl) (se_add (se_var (i := 6) rfl) (se_var (i := 8) rfl)) (fI_at (m := i + j) (by omega) (by omega))) (se_mul (se_var (i := 7) rfl) (se_var (i := 9) rfl) (cmul_l (by omega) (by omega))))) (se_var (i := 0) rfl) (by omega)) (se_add (se_var (i := 6) rfl) (se_var (i := 8) rfl)) (ixN_of (by omega) (by rw [fI_len]; omega)) ?_
    refine ⟨rfl, .inr rfl, .inr rfl, .inr rfl, .inr ?_, .inr rfl, .inr rfl, .inr rfl, .inr rfl, .inl rfl, .inl rfl, trivial⟩
    rw [fI_set]
    show S.own ad _ = S.own ad _
    congr 2
    refine fI_congr fun t _ => ?_
    by_cases e : t = i + j
    · subst e
      rw [if_pos rfl, if_neg (by omega), if_pos (by omega), Nat.add_sub_cancel_left]
    · rw [if_neg e]
      by_cases z : i ≤ t ∧ t - i < j
      · rw [if_pos z, if_pos (by omega)]
      · rw [if_neg z, if_neg (by omega)]
/-- what the inner loop leaves, as figures -/
theorem dinner_cf (hp : Bp p) {r i c t : Nat} : (if i ≤ t ∧ t - i < len p b then (((cf p r t : Nat) : Int) - (c : Int) * (cf p b (t - i) : Nat)) % p else (cf p r t : Nat)) = ((cf p (psub p r (scl p c (p ^ i * b))) t : Nat) : Int) := by
  have h2 := hp.two
  rw [cf_psub h2, cf_scl h2, cf_pow h2]
  have hs : ∀ x y : Int, (x - y % p) % p = (x - y) % p := fun x y => by rw [Int.sub_emod, Int.emod_emod, ← Int.sub_emod]
  have hr : (((cf p r t : Nat) : Int) - (0 : Nat)) % p = (cf p r t : Nat) := by
    have := cf_lt h2 r t
    rw [Int.natCast_zero, Int.sub_zero]; exact Int.emod_eq_of_lt (by omega) (by omega)
  by_cases z : i ≤ t
  · rw [if_neg (by omega : ¬ t < i)]
    by_cases z2 : t - i < len p b
    · rw [if_pos ⟨z, z2⟩, Int.natCast_emod, hs]; push_cast; rfl
    · rw [if_neg (fun e => z2 e.2), cf_ge h2 (show len p b ≤ t - i by omega), Nat.mul_zero, Nat.zero_mod, hr]
  · rw [if_neg (fun e => z e.1), if_pos (by omega), Nat.mul_zero, Nat.zero_mod, hr]
def tDiv (W : TE → TE) (cut : List D → R → Prop) (tin : TS) (K : Frag) : TS := (tSeq (tPar 3 4 (tCons (tCB (fun xs H Q => ∃ p ys, xs = [.ref p] ∧ (SqL K H p ys ∨ SqT K H p ys) ∧ ∀ l, H l = none → Q (.ref l) (upd H l (.lst ys))) (tCons (tVar 1) tNil)) (tCons (tOp rRep (tLst (tCons (tC (.int 0)) tNil)) (tCB (fun xs H Q => ∃ i j, xs = [.int i, .int j] ∧ Q (.int (if j > i then j else i)) H) (tCons (tC (.int 0)) (tCons (tAdd (tSub (tLen (tVar 1) K) (tLen (tVar 2) K)) (tC (.int 1))) tNil)))) tNil))) (tSeq (tAsg (tOp (rIxL K) (tLc (iRng2 (tCons (tC (.int 1)) (tCons (tVar 0) tNil))) (gName 8) (tTest (tOp rEq (tMd (W (tMul (tVar 8) (tOp (rIxT K) (tVar 2) (tUn (rU fun i => .int (-i)) (tC (.int 1)))))) (tVar 0)) (tC (.int 1)))) (tVar 8) [8]) (tC (.int 0))) (gName 5)) (tSeq (tFor (iRng3 (tCons (tSub (tLen (tVar 4) K) (tC (.int 1))) (tCons (tUn (rU fun i => .int (-i)) (tC (.int 1))) (tCons (tUn (rU fun i => .int (-i)) (tC (.int 1))) tNil)))) (gName 6) (tSeq (tAsg (tMd (W (tMul (tOp (rIxL K) (tVar 3) (tSub (tAdd (tVar 6) (tLen (tVar 2) K)) (tC (.int 1)))) (tVar 5))) (tVar 0)) (gName 7)) (tSeq (tAsg (tVar 7) (gSub (tVar 4) (tVar 6) rSetL)) tin))) (tRet (tTup (tCons (tCall (spR K cut) [] E0 (tCons (tVar 4) tNil)) (tCons (tCall (spR K cut) [] E0 (tCons (tVar 3) tNil)) tNil)))))))
def rel_divided_rows : List D → R → Prop := fun ds r => ∃ p a b : Nat, Bp p ∧ len p a ≤ 100000 ∧ len p b ≤ 100000 ∧ b ≠ 0 ∧ ds = [.int p, row p a, row p b] ∧ r = .sh (.tup [row p (pdiv p a b), row p (pmod p a b)])
def rel_law_divided := rel_divided_rows
theorem ss_div {W : TE → TE} (hW : Wr W) {cut : List D → R → Prop} (hcut : ∀ ds r, rel_trimmed ds r → cut ds r) {tin : TS}
    (hin : ∀ (p a b : Nat) (ad bd : Addr) (L i c sc : Nat) (f : Nat → Int) (fo : List D) (q1 q8 q9 : S) (O : Out → Prop), Bp p → i + len p b ≤ L → c < p →
      O (.nx [.sh (.int p), q1, .sh (row p b), .own ad (.lst (fI L fun t => if i ≤ t ∧ t - i < len p b then (f t - (c : Int) * (cf p b (t - i) : Nat)) % p else f t)), .own bd (.lst fo), .sh (.int sc), .sh (.int i), .sh (.int c), .no, .no] ds0) →
      (c = 0 → O (.nx [.sh (.int p), q1, .sh (row p b), .own ad (.lst (fI L f)), .own bd (.lst fo), .sh (.int sc), .sh (.int i), .sh (.int c), q8, q9] ds0)) →
      SS K none tin [.sh (.int p), q1, .sh (row p b), .own ad (.lst (fI L f)), .own bd (.lst fo), .sh (.int sc), .sh (.int i), .sh (.int c), q8, q9] ds0 O) :
    ∀ ds r, rel_divided_rows ds r → SS K none (tDiv W cut tin K) (stS 10 ds) ds0 (RetO r) := by
  rintro ds r ⟨p, a, b, hp, hla, hlb, hb, rfl, rfl⟩
  have h2 := hp.two
  have h5 := hp.le
  have hl := len_ne h2 hb
  have hm : ∃ m, m = len p a + 1 - len p b := ⟨_, rfl⟩
  obtain ⟨m, hm⟩ := hm
  have hmx : (if ((len p a : Int) - len p b + 1) > 0 then ((len p a : Int) - len p b + 1) else 0) = (m : Int) := by split <;> omega
  refine ss_seq (ss_parOO (se_list (ser_var (i := 1) rfl) (.tup _)) (se_zeros (L := m) hmx (by omega) (se_max2 (i := 0) (sa_cons (ser_sh se_int) (sa_cons (ser_sh (se_add (se_sub (se_lenRow h2 (ser_var (i := 1) rfl)) (se_lenRow h2 (ser_var (i := 2) rfl))) se_int)) sa_nil)))) fun ad bd => ?_)
  refine ss_seq (ss_set (se_scale hW (j := 2) (l := 8) hp hb rfl rfl (by decide) (by decide) (by simp [stS])) ?_)
  have hsc := inv_spec hp (c := lead p b) (by rw [Nat.mod_eq_of_lt (lead_lt h2 b)]; exact lead_pos h2 hb)
  refine ss_seq (ss_for (s1 := ds0) (I := fun k δ s => s = ds0 ∧ ∃ q r q6 q7 q8 q9, dmG p b (m - k) q r = dm p a b ∧ (∀ t, t < m - k → cf p q t = 0) ∧ len p q ≤ m ∧ len p r ≤ len p a ∧
      δ = [.sh (.int p), .sh (row p a), .sh (row p b), .own ad (.lst (fI (len p a) fun t => (cf p r t : Nat))), .own bd (.lst (fI m fun t => (cf p q t : Nat))), .sh (.int (inv p (lead p b))), q6, q7, q8, q9])
    (n := m) (it := fun k => D.int ((m : Int) - 1 + (k : Nat) * (-1))) (C := CTrue) ?_ (fun _ _ _ _ => trivial) ?_ ?_ ?_)
  · have := si_range3 (K := K) (dr := none) (δ := [.sh (.int p), .sh (row p a), .sh (row p b), .own ad (.lst ((dg p a).map fun (x : Nat) => D.int x)), .own bd (.lst (fI m fun _ => 0)), .sh (.int (inv p (lead p b))), .no, .no, .no, .no]) (s := ds0) (i := (m : Int) - 1) (j := -1)
      (ta := tSub (tLen (tVar 4) K) (tC (.int 1))) (tb := tUn (rU fun i => .int (-i)) (tC (.int 1))) (tc := tUn (rU fun i => .int (-i)) (tC (.int 1)))
      (se_sub (se_cast (se_len (ser_ovar (i := 4) rfl) (.lst _)) (by rw [fI_len])) se_int) (se_neg se_int) (se_neg se_int) (by omega) (by omega) (by omega) (by omega)
    rw [show ((m : Int) - 1 - -1).toNat = m by omega] at this
    exact this
  · refine ⟨rfl, 0, a, .no, .no, .no, .no, by rw [Nat.sub_zero, hm]; rfl, fun t _ => cf_zero t, by rw [len_zero]; omega, Nat.le_refl _, ?_⟩
    rw [← row_items p a h2]
    have : (fI m fun t => ((cf p 0 t : Nat) : Int)) = fI m fun _ => 0 := fI_congr fun t _ => by rw [cf_zero]; rfl
    rw [this]; rfl
  · rintro k δ s hk ⟨rfl, q, r, q6, q7, q8, q9, e, hq, hlq, hlr, rfl⟩
    obtain ⟨at_, hat⟩ : ∃ x, x = m - 1 - k := ⟨_, rfl⟩
    have hx : (m : Int) - 1 + (k : Nat) * (-1) = (at_ : Nat) := by omega
    have hmk : m - k = at_ + 1 := by omega
    rw [hmk] at e
    unfold dmG at e
    have hc : figD p b at_ r < p := Nat.mod_lt _ (by omega)
    have hcq : cf p q at_ = 0 := hq _ (by omega)
    refine ⟨_, sg_name, ?_⟩
    rw [hx]
    refine ss_seq (ss_set (i := 7) (d := .int (figD p b at_ r : Nat)) (se_cast (se_mod (hW _ _ _ _ _ _ _ (se_mul (se_ixL (ser_ovar (i := 3) rfl) (se_sub (se_add (se_var (i := 6) rfl) (se_lenRow h2 (ser_var (i := 2) rfl))) se_int) (fI_at (m := at_ + len p b - 1) (by omega) (by omega))) (se_var (i := 5) rfl) (cmul_r (by omega) (by omega)))) (se_var (i := 0) rfl) (by omega)) ?_) ?_)
    · unfold figD; rfl
    refine ss_seq (ss_setIx (j := 4) (m := at_) rfl (se_var (i := 7) rfl) (se_var (i := 6) rfl) (ixN_of rfl (by rw [fI_len]; omega)) ?_)
    rw [fI_set]
    have hqn : (fI m fun t => if t = at_ then ((figD p b at_ r : Nat) : Int) else (cf p q t : Nat)) = fI m fun t => (cf p (padd p q (p ^ at_ * figD p b at_ r)) t : Nat) := fI_congr fun t _ => by
      rw [cf_padd h2, cf_pow h2, cf_small h2 hc]
      by_cases z : t = at_
      · subst z; rw [if_pos rfl, if_neg (by omega), if_pos (by omega), hcq, Nat.zero_add, Nat.mod_eq_of_lt hc]
      · rw [if_neg z]
        have : (if t < at_ then 0 else if t - at_ = 0 then figD p b at_ r else 0) = 0 := by
          by_cases z2 : t < at_
          · rw [if_pos z2]
          · rw [if_neg z2, if_neg (by omega)]
        rw [this, Nat.add_zero, Nat.mod_eq_of_lt (cf_lt h2 _ _)]
    have hrest : ∀ t, t < m - (k + 1) → cf p (padd p q (p ^ at_ * figD p b at_ r)) t = 0 := fun t ht => by
      rw [cf_padd h2, hq t (by omega), cf_pow h2, if_pos (by omega)]; exact Nat.zero_mod _
    have hl1 : len p (padd p q (p ^ at_ * figD p b at_ r)) ≤ m := len_padd_le h2 hlq (len_le_of h2 fun i hi => by rw [cf_pow h2, if_neg (by omega), cf_small h2 hc, if_neg (by omega)])
    have hl2 : len p (psub p r (scl p (figD p b at_ r) (p ^ at_ * b))) ≤ len p a := len_psub_le h2 hlr (Nat.le_trans (len_scl_le h2 _ _) (by rw [len_shift h2 hb]; omega))
    have hk1 : m - (k + 1) = at_ := by omega
    refine hin p a b ad bd (len p a) at_ (figD p b at_ r) (inv p (lead p b)) _ _ _ q8 q9 _ hp (by omega) hc ?_ (fun c0 => ?_)
    · refine ⟨rfl, _, _, .sh (.int at_), .sh (.int (figD p b at_ r : Nat)), .no, .no, by rw [hk1]; exact e, hrest, hl1, hl2, ?_⟩
      rw [← hqn]
      have : (fI (len p a) fun t => if at_ ≤ t ∧ t - at_ < len p b then (((cf p r t : Nat) : Int) - ((figD p b at_ r : Nat) : Int) * (cf p b (t - at_) : Nat)) % p else (cf p r t : Nat)) = fI (len p a) fun t => (cf p (psub p r (scl p (figD p b at_ r) (p ^ at_ * b))) t : Nat) := fI_congr fun t _ => dinner_cf hp
      rw [this]
    · refine ⟨rfl, _, _, .sh (.int at_), .sh (.int (figD p b at_ r : Nat)), q8, q9, by rw [hk1]; exact e, hrest, hl1, hl2, ?_⟩
      rw [← hqn, c0]
      have : (psub p r (scl p 0 (p ^ at_ * b))) = r := by
        rw [zero_scl h2]; unfold psub pneg; rw [scl_zero, padd_zero]
      rw [this]
  · rintro δ s ⟨rfl, q, r, q6, q7, q8, q9, e, hq, hlq, hlr, rfl⟩
    rw [Nat.sub_self] at e
    unfold dmG at e
    have e1 : q = pdiv p a b := congrArg Prod.fst e
    have e2 : r = pmod p a b := congrArg Prod.snd e
    subst e1 e2
    exact ss_ret (se_tup (sas_cons (se_call (sa_cons (ser_ovar (i := 4) rfl) sa_nil) (hcut _ _ (rel_trimmed_of h2 (by omega) (fun _ _ => rfl) hlq))) (sas_cons (se_call (sa_cons (ser_ovar (i := 3) rfl) sa_nil) (hcut _ _ (rel_trimmed_of h2 (by omega) (fun _ _ => rfl) hlr))) sas_nil)) (by rw [sizeLine_eq]; show 2 ≤ _; decide)) rfl
/-- slots: 0 base 1 one 2 other 3 left 4 found 5 scale 6 at 7 figure 8 late 9 item -/
def t_divided_rows (K : Frag) : TS := (tSeq (tPar 3 4 (tCons (tCB (fun xs H Q => ∃ p ys, xs = [.ref p] ∧ (SqL K H p ys ∨ SqT K H p ys) ∧ ∀ l, H l = none → Q (.ref l) (upd H l (.lst ys))) (tCons (tVar 1) tNil)) (tCons (tOp rRep (tLst (tCons (tC (.int 0)) tNil)) (tCB (fun xs H Q => ∃ i j, xs = [.int i, .int j] ∧ Q (.int (if j > i then j else i)) H) (tCons (tC (.int 0)) (tCons (tOp (rI0 fun i j => .int (i + j)) (tOp (rI0 fun i j => .int (i - j)) (tCB (fun xs H Q => ∃ p ys, xs = [.ref p] ∧ (SqL K H p ys ∨ SqT K H p ys) ∧ Q (.int ys.length) H) (tCons (tVar 1) tNil)) (tCB (fun xs H Q => ∃ p ys, xs = [.ref p] ∧ (SqL K H p ys ∨ SqT K H p ys) ∧ Q (.int ys.length) H) (tCons (tVar 2) tNil))) (tC (.int 1))) tNil)))) tNil))) (tSeq (tAsg (tOp (rIxL K) (tLc (iRng2 (tCons (tC (.int 1)) (tCons (tVar 0) tNil))) (gName 8) (tTest (tOp rEq (tOp (rI (fun _ j => 0 < j) fun i j => .int (i % j)) (tOp (rI CMul fun i j => .int (i * j)) (tVar 8) (tOp (rIxT K) (tVar 2) (tUn (rU fun i => .int (-i)) (tC (.int 1))))) (tVar 0)) (tC (.int 1)))) (tVar 8) [8]) (tC (.int 0))) (gName 5)) (tSeq (tFor (iRng3 (tCons (tOp (rI0 fun i j => .int (i - j)) (tCB (fun xs H Q => ∃ p ys, xs = [.ref p] ∧ (SqL K H p ys ∨ SqT K H p ys) ∧ Q (.int ys.length) H) (tCons (tVar 4) tNil)) (tC (.int 1))) (tCons (tUn (rU fun i => .int (-i)) (tC (.int 1))) (tCons (tUn (rU fun i => .int (-i)) (tC (.int 1))) tNil)))) (gName 6) (tSeq (tAsg (tOp (rI (fun _ j => 0 < j) fun i j => .int (i % j)) (tOp (rI CMul fun i j => .int (i * j)) (tOp (rIxL K) (tVar 3) (tOp (rI0 fun i j => .int (i - j)) (tOp (rI0 fun i j => .int (i + j)) (tVar 6) (tCB (fun xs H Q => ∃ p ys, xs = [.ref p] ∧ (SqL K H p ys ∨ SqT K H p ys) ∧ Q (.int ys.length) H) (tCons (tVar 2) tNil))) (tC (.int 1)))) (tVar 5)) (tVar 0)) (gName 7)) (tSeq (tAsg (tVar 7) (gSub (tVar 4) (tVar 6) rSetL)) (tIfS (tTest (tOp rNe (tVar 7) (tC (.int 0)))) (tFor (iEnumT K (tCons (tVar 2) tNil)) (gTup K 2 (gCons (gName 8) (gCons (gName 9) gNil))) (tAsg (tOp (rI (fun _ j => 0 < j) fun i j => .int (i % j)) (tOp (rI0 fun i j => .int (i - j)) (tOp (rIxL K) (tVar 3) (tOp (rI0 fun i j => .int (i + j)) (tVar 6) (tVar 8))) (tOp (rI CMul fun i j => .int (i * j)) (tVar 7) (tVar 9))) (tVar 0)) (gSub (tVar 3) (tOp (rI0 fun i j => .int (i + j)) (tVar 6) (tVar 8)) rSetL))) tNext)))) (tRet (tTup (tCons (tCall (spR K rel_trimmed) [] E0 (tCons (tVar 4) tNil)) (tCons (tCall (spR K rel_trimmed) [] E0 (tCons (tVar 3) tNil)) tNil)))))))
/-- slots: 0 base 1 one 2 other 3 left 4 found 5 scale 6 at 7 figure 8 late 9 item -/
def t_law_divided (K : Frag) : TS := (tSeq (tPar 3 4 (tCons (tCB (fun xs H Q => ∃ p ys, xs = [.ref p] ∧ (SqL K H p ys ∨ SqT K H p ys) ∧ ∀ l, H l = none → Q (.ref l) (upd H l (.lst ys))) (tCons (tVar 1) tNil)) (tCons (tOp rRep (tLst (tCons (tC (.int 0)) tNil)) (tCB (fun xs H Q => ∃ i j, xs = [.int i, .int j] ∧ Q (.int (if j > i then j else i)) H) (tCons (tC (.int 0)) (tCons (tOp (rI0 fun i j => .int (i + j)) (tOp (rI0 fun i j => .int (i - j)) (tCB (fun xs H Q => ∃ p ys, xs = [.ref p] ∧ (SqL K H p ys ∨ SqT K H p ys) ∧ Q (.int ys.length) H) (tCons (tVar 1) tNil)) (tCB (fun xs H Q => ∃ p ys, xs = [.ref p] ∧ (SqL K H p ys ∨ SqT K H p ys) ∧ Q (.int ys.length) H) (tCons (tVar 2) tNil))) (tC (.int 1))) tNil)))) tNil))) (tSeq (tAsg (tOp (rIxL K) (tLc (iRng2 (tCons (tC (.int 1)) (tCons (tVar 0) tNil))) (gName 8) (tTest (tOp rEq (tOp (rI (fun _ j => 0 < j) fun i j => .int (i % j)) (tCB (fun xs H Q => (∃ i, xs = [.int i] ∧ Q (.int i) H) ∨ ∃ k, xs = [.bl k] ∧ Q (.int (if k then 1 else 0)) H) (tCons (tOp (rI CMul fun i j => .int (i * j)) (tVar 8) (tOp (rIxT K) (tVar 2) (tUn (rU fun i => .int (-i)) (tC (.int 1))))) tNil)) (tVar 0)) (tC (.int 1)))) (tVar 8) [8]) (tC (.int 0))) (gName 5)) (tSeq (tFor (iRng3 (tCons (tOp (rI0 fun i j => .int (i - j)) (tCB (fun xs H Q => ∃ p ys, xs = [.ref p] ∧ (SqL K H p ys ∨ SqT K H p ys) ∧ Q (.int ys.length) H) (tCons (tVar 4) tNil)) (tC (.int 1))) (tCons (tUn (rU fun i => .int (-i)) (tC (.int 1))) (tCons (tUn (rU fun i => .int (-i)) (tC (.int 1))) tNil)))) (gName 6) (tSeq (tAsg (tOp (rI (fun _ j => 0 < j) fun i j => .int (i % j)) (tCB (fun xs H Q => (∃ i, xs = [.int i] ∧ Q (.int i) H) ∨ ∃ k, xs = [.bl k] ∧ Q (.int (if k then 1 else 0)) H) (tCons (tOp (rI CMul fun i j => .int (i * j)) (tOp (rIxL K) (tVar 3) (tOp (rI0 fun i j => .int (i - j)) (tOp (rI0 fun i j => .int (i + j)) (tVar 6) (tCB (fun xs H Q => ∃ p ys, xs = [.ref p] ∧ (SqL K H p ys ∨ SqT K H p ys) ∧ Q (.int ys.length) H) (tCons (tVar 2) tNil))) (tC (.int 1)))) (tVar 5)) tNil)) (tVar 0)) (gName 7)) (tSeq (tAsg (tVar 7) (gSub (tVar 4) (tVar 6) rSetL)) (tFor (iEnumT K (tCons (tVar 2) tNil)) (gTup K 2 (gCons (gName 8) (gCons (gName 9) gNil))) (tAsg (tOp (rI (fun _ j => 0 < j) fun i j => .int (i % j)) (tCB (fun xs H Q => (∃ i, xs = [.int i] ∧ Q (.int i) H) ∨ ∃ k, xs = [.bl k] ∧ Q (.int (if k then 1 else 0)) H) (tCons (tOp (rI0 fun i j => .int (i - j)) (tOp (rIxL K) (tVar 3) (tOp (rI0 fun i j => .int (i + j)) (tVar 6) (tVar 8))) (tOp (rI CMul fun i j => .int (i * j)) (tVar 7) (tVar 9))) tNil)) (tVar 0)) (gSub (tVar 3) (tOp (rI0 fun i j => .int (i + j)) (tVar 6) (tVar 8)) rSetL)))))) (tRet (tTup (tCons (tCall (spR K rel_law_cut) [] E0 (tCons (tVar 4) tNil)) (tCons (tCall (spR K rel_law_cut) [] E0 (tCons (tVar 3) tNil)) tNil)))))))
theorem ss_divided_rows : ∀ ds r, rel_divided_rows ds r → SS K none (t_divided_rows K) (stS 10 ds) ds0 (RetO r) :=
  ss_div wr_id (fun _ _ h => h) fun p a b ad bd L i c sc f fo q1 q8 q9 O hp h1 h3 k k0 => ss_if (st_Test (se_neI (se_var (i := 7) rfl) se_int)) (fun _ => ss_dinner (m := 0) wr_id hp h1 h3 k) (fun e => ss_next (k0 (by simpa using e)))
theorem ss_law_divided : ∀ ds r, rel_law_divided ds r → SS K none (t_law_divided K) (stS 10 ds) ds0 (RetO r) :=
  ss_div wr_in (fun _ _ h => h) fun p a b ad bd L i c sc f fo q1 q8 q9 O hp h1 h3 k k0 => ss_dinner (m := 0) wr_in hp h1 h3 k
end
end EL
set_option maxRecDepth 100000
set_option maxHeartbeats 1000000
/-! W5: calls upon numbers; powers, common divisors -/
namespace EL
open PySem PySem.Spec L2 M
section
variable {K : Frag} {dr : Option Addr} {δ : List S} {s s1 s2 : DS} {ta tb : TE} {p a b : Nat}
theorem se_catV {i : Nat} {ad : Addr} {ds es : List D} (h : δ[i]? = some (.own ad (.lst ds))) (hb : Se K dr tb δ s (.own (.lst es)) s1) (hl : ds.length + es.length ≤ sizeLine) : Se K dr (tOp rCat (tVar i) tb) δ s (.own (.lst (ds ++ es))) s1 := fun H0 Hs H σ E Q q => by
  obtain ⟨e, _, _, _, _, _⟩ := E.slot i _ h
  refine ⟨.ref ad, e, hb H0 Hs H σ E _ fun u Hs2 H2 E2 st2 r2 => ?_⟩
  obtain ⟨_, _, _, o, ho, t⟩ := E2.slot i _ h
  obtain ⟨b, h', e', n', hs', ho', vs', eh', t2⟩ := r2
  obtain ⟨vs, eo, t1⟩ := t
  subst eh' eo
  refine ⟨ad, b, vs, vs', rfl, e', ho, ho', by rw [t1.length, t2.length]; exact hl, fun p hp => ?_⟩
  obtain ⟨E3, st3, hs3⟩ := E2.newO hp (.lst (vs ++ vs'))
  exact q _ _ _ E3 (st2.trans st3) ⟨p, _, rfl, st2.ext.free hp, hs3, upd_same, _, rfl, t1.append t2⟩
theorem se_fst {d1 d2 : D} (h : SeR K dr ta δ s (.tup [d1, d2]) s1) : Se K dr (tOp (rIxT K) ta (tC (.int 0))) δ s (.sh d1) s1 := se_ixT h se_int rfl
theorem se_snd {d1 d2 : D} (h : SeR K dr ta δ s (.tup [d1, d2]) s1) : Se K dr (tOp (rIxT K) ta (tC (.int 1))) δ s (.sh d2) s1 := se_ixT h se_int rfl
theorem len20 (hp : 2 ≤ p) {n : Nat} (h : n ≤ 1000000) : len p n ≤ 20 := by
  rw [len_le_iff hp]
  have : 2 ^ 20 ≤ p ^ 20 := Nat.pow_le_pow_left hp 20
  omega
def rel_need_two : List D → R → Prop := fun ds r => ∃ p a b : Nat, Bp p ∧ a ≤ 1000000 ∧ b ≤ 1000000 ∧ ds = [.int p, .int a, .int b] ∧ r = .sh .non
/-- slots: 0 base 1 one 2 other -/
def t_need_two (K : Frag) : TS := (tSeq (tDrop (tCall (spR K rel_need_base) [] E0 (tCons (tVar 0) tNil))) (tSeq (tDrop (tCall (spR K rel_need_as) [] E0 (tCons (tVar 1) (tCons (tC (.str "one")) (tCons (tC (.int 0)) tNil))))) (tDrop (tCall (spR K rel_need_as) [] E0 (tCons (tVar 2) (tCons (tC (.str "other")) (tCons (tC (.int 0)) tNil)))))))
theorem ss_need_two : ∀ ds r, rel_need_two ds r → SS K none (t_need_two K) (stS 3 ds) ds0 (RetO r) := by
  rintro ds r ⟨p, a, b, hp, ha, hb, rfl, rfl⟩
  refine ss_seq (ss_drop (se_call (sa_cons (ser_var (i := 0) rfl) sa_nil) ⟨p, hp, rfl, rfl⟩) ?_)
  refine ss_seq (ss_drop (se_call (sa_cons (ser_var (i := 1) rfl) (sa_cons (ser_sh se_str) (sa_cons (ser_sh se_int) sa_nil))) ⟨a, 0, _, by omega, by omega, rfl, rfl⟩) ?_)
  exact ss_drop (se_call (sa_cons (ser_var (i := 2) rfl) (sa_cons (ser_sh se_str) (sa_cons (ser_sh se_int) sa_nil))) ⟨b, 0, _, by omega, by omega, rfl, rfl⟩) rfl
def rel_product_of : List D → R → Prop := fun ds r => ∃ p a b : Nat, Bp p ∧ a ≤ 1000000 ∧ b ≤ 1000000 ∧ ds = [.int p, .int a, .int b] ∧ r = .sh (.int (pmul p a b : Nat))
/-- row_of(base, x), x in slot j -/
theorem se_rowV {j : Nat} {n : Nat} (hp : Bp p) (h0 : δ[0]? = some (.sh (.int p))) (hj : δ[j]? = some (.sh (.int n))) (hn : len p n ≤ 1000000) : Se K dr (tCall (spR K rel_row_of) [] E0 (tCons (tVar 0) (tCons (tVar j) tNil))) δ s (.sh (row p n)) s :=
  se_call (sa_cons (ser_var h0) (sa_cons (ser_var hj) sa_nil)) (rel_row_row hp hn)
theorem se_num {n : Nat} (hp : Bp p) (h0 : δ[0]? = some (.sh (.int p))) (h : Se K dr ta δ s (.sh (row p n)) s1) : Se K dr (tCall (spR K rel_number_by) [] E0 (tCons (tVar 0) (tCons ta tNil))) δ s (.sh (.int n)) s1 :=
  se_call (sa_cons (ser_var h0) (sa_cons (ser_sh h) sa_nil)) (rel_number_row hp)
/-- slots: 0 base 1 one 2 other -/
def t_product_of (K : Frag) : TS := (tSeq (tDrop (tCall (spR K rel_need_two) [] E0 (tCons (tVar 0) (tCons (tVar 1) (tCons (tVar 2) tNil))))) (tRet (tCall (spR K rel_number_by) [] E0 (tCons (tVar 0) (tCons (tCall (spR K rel_times_rows) [] E0 (tCons (tVar 0) (tCons (tCall (spR K rel_row_of) [] E0 (tCons (tVar 0) (tCons (tVar 1) tNil))) (tCons (tCall (spR K rel_row_of) [] E0 (tCons (tVar 0) (tCons (tVar 2) tNil))) tNil)))) tNil)))))
theorem ss_product_of : ∀ ds r, rel_product_of ds r → SS K none (t_product_of K) (stS 3 ds) ds0 (RetO r) := by
  rintro ds r ⟨p, a, b, hp, ha, hb, rfl, rfl⟩
  have h1 := len20 hp.two ha
  have h2 := len20 hp.two hb
  refine ss_seq (ss_drop (se_call (sa_cons (ser_var (i := 0) rfl) (sa_cons (ser_var (i := 1) rfl) (sa_cons (ser_var (i := 2) rfl) sa_nil))) ⟨p, a, b, hp, ha, hb, rfl, rfl⟩) ?_)
  exact ss_ret (se_num hp rfl (se_call (sa_cons (ser_var (i := 0) rfl) (sa_cons (ser_sh (se_rowV (j := 1) hp rfl rfl (by omega))) (sa_cons (ser_sh (se_rowV (j := 2) hp rfl rfl (by omega))) sa_nil))) ⟨p, a, b, hp, by omega, by omega, rfl, rfl⟩)) rfl
def rel_quotient_of : List D → R → Prop := fun ds r => ∃ p a b : Nat, Bp p ∧ a ≤ 1000000 ∧ b ≤ 1000000 ∧ b ≠ 0 ∧ ds = [.int p, .int a, .int b] ∧ r = .sh (.tup [.int (pdiv p a b : Nat), .int (pmod p a b : Nat)])
/-- slots: 0 base 1 one 2 other 3 quotient 4 rest -/
def t_quotient_of (K : Frag) : TS := (tSeq (tDrop (tCall (spR K rel_need_two) [] E0 (tCons (tVar 0) (tCons (tVar 1) (tCons (tVar 2) tNil))))) (tSeq (tIfS (tTest (tOp rEq (tVar 2) (tC (.int 0)))) tNever tNext) (tSeq (tAsg (tCall (spR K rel_divided_rows) [] E0 (tCons (tVar 0) (tCons (tCall (spR K rel_row_of) [] E0 (tCons (tVar 0) (tCons (tVar 1) tNil))) (tCons (tCall (spR K rel_row_of) [] E0 (tCons (tVar 0) (tCons (tVar 2) tNil))) tNil)))) (gTup K 2 (gCons (gName 3) (gCons (gName 4) gNil)))) (tRet (tTup (tCons (tCall (spR K rel_number_by) [] E0 (tCons (tVar 0) (tCons (tVar 3) tNil))) (tCons (tCall (spR K rel_number_by) [] E0 (tCons (tVar 0) (tCons (tVar 4) tNil))) tNil)))))))
theorem ss_quotient_of : ∀ ds r, rel_quotient_of ds r → SS K none (t_quotient_of K) (stS 5 ds) ds0 (RetO r) := by
  rintro ds r ⟨p, a, b, hp, ha, hb, hb0, rfl, rfl⟩
  have h1 := len20 hp.two ha
  have h2 := len20 hp.two hb
  refine ss_seq (ss_drop (se_call (sa_cons (ser_var (i := 0) rfl) (sa_cons (ser_var (i := 1) rfl) (sa_cons (ser_var (i := 2) rfl) sa_nil))) ⟨p, a, b, hp, ha, hb, rfl, rfl⟩) ?_)
  refine ss_seq (ss_if (st_Test (se_eqI (se_var (i := 2) rfl) se_int)) (fun e => ?_) (fun _ => ss_next ?_))
  · exfalso; have := of_decide_eq_true e; omega
  refine ss_seq (ss_asgG (se_call (sa_cons (ser_var (i := 0) rfl) (sa_cons (ser_sh (se_rowV (j := 1) hp rfl rfl (by omega))) (sa_cons (ser_sh (se_rowV (j := 2) hp rfl rfl (by omega))) sa_nil))) ⟨p, a, b, hp, by omega, by omega, hb0, rfl, rfl⟩) sg_tup2 ?_)
  exact ss_ret (se_tup (sas_cons (se_num hp rfl (se_var (i := 3) rfl)) (sas_cons (se_num hp rfl (se_var (i := 4) rfl)) sas_nil)) (by rw [sizeLine_eq]; show 2 ≤ _; decide)) rfl
def rel_powered : List D → R → Prop := fun ds r => ∃ n t : Nat, n < 1000000 ∧ t ≤ 1000000 ∧ ds = [.int n, .int t] ∧ r = .sh (.int (n ^ t : Nat))
def rel_law_power := rel_powered
/-- slots: 0 number 1 times 2 found 3 lap -/
def t_powered (K : Frag) : TS := (tSeq (tAsg (tC (.int 1)) (gName 2)) (tSeq (tFor (iRng1 (tCons (tVar 1) tNil)) (gName 3) (tAsg (tOp (rI CMul fun i j => .int (i * j)) (tVar 2) (tVar 0)) (gName 2))) (tRet (tVar 2))))
/-- slots: 0 number 1 many 2 found 3 lap -/
def t_law_power (K : Frag) : TS := (tSeq (tAsg (tC (.int 1)) (gName 2)) (tSeq (tFor (iRng1 (tCons (tVar 1) tNil)) (gName 3) (tAsg (tOp (rI CMul fun i j => .int (i * j)) (tVar 2) (tVar 0)) (gName 2))) (tRet (tVar 2))))
theorem ss_powered : ∀ ds r, rel_powered ds r → SS K none (t_powered K) (stS 4 ds) ds0 (RetO r) := by
  rintro ds r ⟨n, t, hn, ht, rfl, rfl⟩
  refine ss_seq (ss_set se_int ?_)
  refine ss_seq (ss_forF (fun k => [.sh (.int n), .sh (.int t), .sh (.int (n ^ k : Nat)), .no]) (fun k => [.sh (.int n), .sh (.int t), .sh (.int (n ^ k : Nat)), .sh (.int (0 + (k : Nat)))]) (si_range1 (se_var (i := 1) rfl) (by omega) (by omega)) (fun _ => trivial) ⟨.inr rfl, .inr rfl, .inr rfl, .inl rfl, trivial⟩ (fun i _ => sg_name) (fun i hi => ?_) ?_)
  · refine ss_set (se_mul (se_var (i := 2) rfl) (se_var (i := 0) rfl) (cmul_r (by omega) (by omega))) ⟨rfl, .inr rfl, .inr rfl, .inr ?_, .inl rfl, trivial⟩
    rw [Nat.pow_succ]; push_cast; rfl
  · exact ss_ret (se_var (i := 2) rfl) (by rw [Int.toNat_natCast]; rfl)
theorem ss_law_power : ∀ ds r, rel_law_power ds r → SS K none (t_law_power K) (stS 4 ds) ds0 (RetO r) := ss_powered
def plR (p k : Nat) : List D := (List.range (p ^ k)).map fun i => row p (p ^ k + i)
def rel_plain_rows : List D → R → Prop := fun ds r => ∃ p k : Nat, Bp p ∧ p ^ k ≤ 1000000 ∧ k ≤ 1000000 ∧ ds = [.int p, .int k] ∧ r = .own (.lst (plR p k))
theorem flats_rows (p : Nat) : ∀ l : List Nat, flats (l.map fun n => row p n) = true
  | [] => rfl
  | a :: l => by rw [List.map_cons]; unfold flats; rw [flats_rows p l, flat_row]; rfl
theorem plR_map (p k : Nat) : plR p k = ((List.range (p ^ k)).map fun i => p ^ k + i).map fun n => row p n := by unfold plR; rw [List.map_map]; rfl
theorem okR_plR (p k : Nat) : okR (.own (.lst (plR p k))) = true := by rw [plR_map]; exact flats_rows p _
/-- slots: 0 base 1 size 2 first 3 number -/
def t_plain_rows (K : Frag) : TS := (tSeq (tAsg (tCall (spR K rel_powered) [] E0 (tCons (tVar 0) (tCons (tVar 1) tNil))) (gName 2)) (tRet (tLc (iRng2 (tCons (tVar 2) (tCons (tOp (rI CMul fun i j => .int (i * j)) (tC (.int 2)) (tVar 2)) tNil))) (gName 3) tYes (tCall (spR K rel_row_of) [] E0 (tCons (tVar 0) (tCons (tVar 3) tNil))) [3])))
theorem ss_plain_rows : ∀ ds r, rel_plain_rows ds r → SS K none (t_plain_rows K) (stS 4 ds) ds0 (RetO r) := by
  rintro ds r ⟨p, k, hp, hk, hk2, rfl, rfl⟩
  have h2 := hp.two
  have h5 := hp.le
  refine ss_seq (ss_set (se_call (sa_cons (ser_var (i := 0) rfl) (sa_cons (ser_var (i := 1) rfl) sa_nil)) ⟨p, k, by omega, hk2, rfl, rfl⟩) ?_)
  have e : ((2 : Int) * (p ^ k : Nat) - (p ^ k : Nat)).toNat = p ^ k := by omega
  refine ss_ret (se_lcM (n := p ^ k) (fun i => row p (p ^ k + i)) (fun i => [.sh (.int p), .sh (.int k), .sh (.int (p ^ k : Nat)), .sh (.int ((p ^ k : Nat) + (i : Nat)))]) (s := ds0) (C := CTrue) ?_ (fun _ => trivial) (fun i _ => sg_name) (gown_name (by simp)) (fun i hi => ?_) (by rw [sizeLine_eq]; omega)) rfl
  · have := si_range2 (K := K) (dr := none) (δ := [.sh (.int p), .sh (.int k), .sh (.int (p ^ k : Nat)), .no]) (s := ds0) (se_var (i := 2) rfl) (se_mul (se_int (i := 2)) (se_var (i := 2) rfl) (cmul_l (by omega) (by omega))) ⟨by omega, by omega, by omega, by omega⟩
    rw [e] at this
    exact this
  · refine se_call (sa_cons (ser_var (i := 0) rfl) (sa_cons (ser_var (i := 3) rfl) sa_nil)) ⟨p, p ^ k + i, hp, ?_, by push_cast; rfl, rfl⟩
    have : p ^ k + i ≤ 2000000 := by omega
    have h3 : len p (p ^ k + i) ≤ 21 := by
      rw [len_le_iff h2]
      have : 2 ^ 21 ≤ p ^ 21 := Nat.pow_le_pow_left h2 21
      omega
    omega
/-! ### the greatest common divisor -/
def gcdF (p : Nat) : Nat → Nat → Nat → Nat
  | 0, a, _ => a
  | f + 1, a, b => if b = 0 then a else gcdF p f b (pmod p a b)
def pgcd (p a b : Nat) : Nat := M.plain p (gcdF p (len p b) a b)
theorem gcdF_zero (p : Nat) : ∀ f a, gcdF p f a 0 = a
  | 0, a => rfl
  | f + 1, a => by unfold gcdF; rw [if_pos rfl]
theorem gcdF_step (hp : Bp p) {f b : Nat} (hb : b ≠ 0) (h : len p b ≤ f) (a : Nat) : gcdF p f a b = gcdF p (f - 1) b (pmod p a b) := by
  cases f with
  | zero => exact (len_ne hp.two hb (by omega)).elim
  | succ f => show (if b = 0 then _ else _) = _; rw [if_neg hb]; rfl
theorem plain_zero (p : Nat) : M.plain p 0 = 0 := rfl
def rel_common_rows : List D → R → Prop := fun ds r => ∃ p a b : Nat, Bp p ∧ len p a ≤ 100000 ∧ len p b ≤ 100000 ∧ ds = [.int p, row p a, row p b] ∧ r = .sh (row p (pgcd p a b))
/-- slots: 0 base 1 one 2 other 3 here 4 late -/
def t_common_rows (K : Frag) : TS := (tSeq (tPar 3 4 (tCons (tVar 1) (tCons (tVar 2) tNil))) (tSeq (tWhile (tTest (tOp (rNeD K) (tVar 4) (tTup tNil))) (tPar 3 4 (tCons (tVar 4) (tCons (tOp (rIxT K) (tCall (spR K rel_divided_rows) [] E0 (tCons (tVar 0) (tCons (tVar 3) (tCons (tVar 4) tNil)))) (tC (.int 1))) tNil)))) (tRet (tIf (tTest (tOp (rNeD K) (tVar 3) (tTup tNil))) (tCall (spR K rel_plain_row) [] E0 (tCons (tVar 0) (tCons (tVar 3) tNil))) (tTup tNil)))))
theorem ss_common_rows : ∀ ds r, rel_common_rows ds r → SS K none (t_common_rows K) (stS 5 ds) ds0 (RetO r) := by
  rintro ds r ⟨p, a, b, hp, ha, hb, rfl, rfl⟩
  have h2 := hp.two
  refine ss_seq (ss_parSS (se_var (i := 1) rfl) (se_var (i := 2) rfl) ?_)
  refine ss_seq (ss_while (m := len p b) (fun m δ s => ∃ x y, len p x ≤ 100000 ∧ len p y ≤ m ∧ m ≤ 100000 ∧ gcdF p m x y = gcdF p (len p b) a b ∧ s = ds0 ∧ δ = [.sh (.int p), .sh (row p a), .sh (row p b), .sh (row p x), .sh (row p y)]) ?_ ?_)
  · exact ⟨a, b, ha, Nat.le_refl _, hb, rfl, rfl, rfl⟩
  · rintro m δ s ⟨x, y, hx, hy, hm, e, rfl, rfl⟩
    refine ⟨_, _, st_Test (se_neRow h2 (ser_var (i := 4) rfl) (ser_sh (se_nil (p := p)))), fun c => ?_, fun c => ?_⟩
    · have hy0 : y ≠ 0 := by simpa using c
      have hl := len_ne h2 hy0
      have hd := (dm_spec hp x hy0).1
      refine ss_parSS (se_var (i := 4) rfl) (se_snd (ser_sh (se_call (sa_cons (ser_var (i := 0) rfl) (sa_cons (ser_var (i := 3) rfl) (sa_cons (ser_var (i := 4) rfl) sa_nil))) ⟨p, x, y, hp, hx, by omega, hy0, rfl, rfl⟩))) ⟨m - 1, by omega, y, _, by omega, by omega, by omega, ?_, rfl, rfl⟩
      rw [← e, gcdF_step hp hy0 hy]
    · have hy0 : y = 0 := by simpa using c
      subst hy0
      rw [gcdF_zero] at e
      refine ss_ret (s1 := ds0) (se_ifT (s1 := ds0) (s2 := ds0) (c := !decide (x = 0)) (st_Test (se_neRow h2 (ser_var (i := 3) rfl) (ser_sh (se_nil (p := p))))) (fun c => ?_) (fun c => ?_)) rfl
      · refine se_call (sa_cons (ser_var (i := 0) rfl) (sa_cons (ser_var (i := 3) rfl) sa_nil)) ⟨p, x, hp, hx, by simpa using c, rfl, ?_⟩
        unfold pgcd; rw [e]
      · have hx0 : x = 0 := by simpa using c
        refine se_cast (se_nil (p := p)) ?_
        unfold pgcd; rw [← e, hx0]; rfl
def rel_common_of : List D → R → Prop := fun ds r => ∃ p a b : Nat, Bp p ∧ a ≤ 1000000 ∧ b ≤ 1000000 ∧ ds = [.int p, .int a, .int b] ∧ r = .sh (.int (pgcd p a b : Nat))
/-- slots: 0 base 1 one 2 other -/
def t_common_of (K : Frag) : TS := (tSeq (tDrop (tCall (spR K rel_need_two) [] E0 (tCons (tVar 0) (tCons (tVar 1) (tCons (tVar 2) tNil))))) (tRet (tCall (spR K rel_number_by) [] E0 (tCons (tVar 0) (tCons (tCall (spR K rel_common_rows) [] E0 (tCons (tVar 0) (tCons (tCall (spR K rel_row_of) [] E0 (tCons (tVar 0) (tCons (tVar 1) tNil))) (tCons (tCall (spR K rel_row_of) [] E0 (tCons (tVar 0) (tCons (tVar 2) tNil))) tNil)))) tNil)))))
theorem ss_common_of : ∀ ds r, rel_common_of ds r → SS K none (t_common_of K) (stS 3 ds) ds0 (RetO r) := by
  rintro ds r ⟨p, a, b, hp, ha, hb, rfl, rfl⟩
  have h1 := len20 hp.two ha
  have h2 := len20 hp.two hb
  refine ss_seq (ss_drop (se_call (sa_cons (ser_var (i := 0) rfl) (sa_cons (ser_var (i := 1) rfl) (sa_cons (ser_var (i := 2) rfl) sa_nil))) ⟨p, a, b, hp, ha, hb, rfl, rfl⟩) ?_)
  exact ss_ret (se_num hp rfl (se_call (sa_cons (ser_var (i := 0) rfl) (sa_cons (ser_sh (se_rowV (j := 1) hp rfl rfl (by omega))) (sa_cons (ser_sh (se_rowV (j := 2) hp rfl rfl (by omega))) sa_nil))) ⟨p, a, b, hp, by omega, by omega, rfl, rfl⟩)) rfl
def rel_length_of : List D → R → Prop := fun ds r => ∃ p a : Nat, Bp p ∧ a ≤ 1000000 ∧ ds = [.int p, .int a] ∧ r = .sh (.int (len p a : Nat))
/-- slots: 0 base 1 number -/
def t_length_of (K : Frag) : TS := (tSeq (tDrop (tCall (spR K rel_need_base) [] E0 (tCons (tVar 0) tNil))) (tSeq (tDrop (tCall (spR K rel_need_as) [] E0 (tCons (tVar 1) (tCons (tC (.str "number")) (tCons (tC (.int 0)) tNil))))) (tRet (tCB (fun xs H Q => ∃ p ys, xs = [.ref p] ∧ (SqL K H p ys ∨ SqT K H p ys) ∧ Q (.int ys.length) H) (tCons (tCall (spR K rel_row_of) [] E0 (tCons (tVar 0) (tCons (tVar 1) tNil))) tNil)))))
theorem ss_length_of : ∀ ds r, rel_length_of ds r → SS K none (t_length_of K) (stS 2 ds) ds0 (RetO r) := by
  rintro ds r ⟨p, a, hp, ha, rfl, rfl⟩
  have h1 := len20 hp.two ha
  refine ss_seq (ss_drop (se_call (sa_cons (ser_var (i := 0) rfl) sa_nil) ⟨p, hp, rfl, rfl⟩) ?_)
  refine ss_seq (ss_drop (se_call (sa_cons (ser_var (i := 1) rfl) (sa_cons (ser_sh se_str) (sa_cons (ser_sh se_int) sa_nil))) ⟨a, 0, _, by omega, by omega, rfl, rfl⟩) ?_)
  exact ss_ret (se_lenRow hp.two (ser_sh (se_rowV (j := 1) hp rfl rfl (by omega)))) rfl
def rel_plain_of : List D → R → Prop := fun ds r => ∃ p a : Nat, Bp p ∧ a ≤ 1000000 ∧ a ≠ 0 ∧ ds = [.int p, .int a] ∧ r = .sh (.int (M.plain p a : Nat))
/-- slots: 0 base 1 number -/
def t_plain_of (K : Frag) : TS := (tSeq (tDrop (tCall (spR K rel_need_base) [] E0 (tCons (tVar 0) tNil))) (tSeq (tDrop (tCall (spR K rel_need_as) [] E0 (tCons (tVar 1) (tCons (tC (.str "number")) (tCons (tC (.int 1)) tNil))))) (tRet (tCall (spR K rel_number_by) [] E0 (tCons (tVar 0) (tCons (tCall (spR K rel_plain_row) [] E0 (tCons (tVar 0) (tCons (tCall (spR K rel_row_of) [] E0 (tCons (tVar 0) (tCons (tVar 1) tNil))) tNil))) tNil))))))
theorem ss_plain_of : ∀ ds r, rel_plain_of ds r → SS K none (t_plain_of K) (stS 2 ds) ds0 (RetO r) := by
  rintro ds r ⟨p, a, hp, ha, ha0, rfl, rfl⟩
  have h1 := len20 hp.two ha
  refine ss_seq (ss_drop (se_call (sa_cons (ser_var (i := 0) rfl) sa_nil) ⟨p, hp, rfl, rfl⟩) ?_)
  refine ss_seq (ss_drop (se_call (sa_cons (ser_var (i := 1) rfl) (sa_cons (ser_sh se_str) (sa_cons (ser_sh se_int) sa_nil))) ⟨a, 1, _, by omega, by omega, rfl, rfl⟩) ?_)
  exact ss_ret (se_num hp rfl (se_call (sa_cons (ser_var (i := 0) rfl) (sa_cons (ser_sh (se_rowV (j := 1) hp rfl rfl (by omega))) sa_nil)) ⟨p, a, hp, by omega, ha0, rfl, rfl⟩)) rfl
/-! ### the law's own figures -/
def rel_law_row : List D → R → Prop := fun ds r => ∃ p n : Nat, Bp p ∧ len p n ≤ 2000 ∧ ds = [.int p, .int n] ∧ r = .sh (row p n)
/-- slots: 0 base 1 number 2 found 3 left 4 lap -/
def t_law_row (K : Frag) : TS := (tSeq (tPar 2 3 (tCons (tLst tNil) (tCons (tVar 1) tNil))) (tSeq (tFor (iRng1 (tCons (tC (.int 2000)) tNil)) (gName 4) (tSeq (tIfS (tTest (tOp rEq (tVar 3) (tC (.int 0)))) tBreak tNext) (tPar 2 3 (tCons (tOp rCat (tVar 2) (tLst (tCons (tOp (rI (fun _ j => 0 < j) fun i j => .int (i % j)) (tCB (fun xs H Q => (∃ i, xs = [.int i] ∧ Q (.int i) H) ∨ ∃ k, xs = [.bl k] ∧ Q (.int (if k then 1 else 0)) H) (tCons (tVar 3) tNil)) (tVar 0)) tNil))) (tCons (tOp (rI CDiv fun i j => .int (i / j)) (tVar 3) (tVar 0)) tNil))))) (tRet (tCB (fun xs H Q => ∃ p ys, xs = [.ref p] ∧ ((SqL K H p ys ∧ ∀ l, H l = none → Q (.ref l) (upd H l (.tup ys))) ∨ (SqT K H p ys ∧ Q (.ref p) H))) (tCons (tVar 2) tNil)))))
theorem ss_law_row : ∀ ds r, rel_law_row ds r → SS K none (t_law_row K) (stS 5 ds) ds0 (RetO r) := by
  rintro ds r ⟨p, n, hp, hl, rfl, rfl⟩
  have h2 := hp.two
  have h5 := hp.le
  refine ss_seq (ss_parOS (se_lst sas_nil (Nat.zero_le _)) (se_var (i := 1) rfl) fun ad => ?_)
  have fin : ∀ (l : List Nat) (ad : Addr) (q3 q4 : S), dg p n = l → SS K none (tRet (tCB (fun xs H Q => ∃ p ys, xs = [.ref p] ∧ ((SqL K H p ys ∧ ∀ l, H l = none → Q (.ref l) (upd H l (.tup ys))) ∨ (SqT K H p ys ∧ Q (.ref p) H))) (tCons (tVar 2) tNil))) [.sh (.int p), .sh (.int n), .own ad (lstD l), q3, q4] ds0 (RetO (.sh (row p n))) := fun l ad q3 q4 e => by
    refine ss_ret (se_tuple (ser_ovar (i := 2) rfl) (.lst _)) ?_
    show R.sh _ = R.sh (rowD (dg p n))
    rw [e]; rfl
  refine ss_seq (ss_for (s1 := ds0) (n := 2000) (it := fun k => D.int (0 + (k : Nat))) (C := CTrue) (I := fun k δ s => s = ds0 ∧ ∃ (l : List Nat) (ad : Addr) (m : Nat) (q : S), dg p n = l ++ dg p m ∧ l.length = k ∧ δ = [.sh (.int p), .sh (.int n), .own ad (lstD l), .sh (.int m), q]) (si_range1 (se_int (i := 2000)) (by decide) (by decide)) (fun _ _ _ _ => trivial) ?_ ?_ ?_)
  · exact ⟨rfl, [], ad, n, .no, rfl, rfl, by simp [stS, lstD]⟩
  · rintro k δ s hk ⟨rfl, l, ad, m, q, e, e2, rfl⟩
    refine ⟨_, sg_name, ?_⟩
    refine ss_seq (ss_if (st_Test (se_eqI (se_var (i := 3) rfl) se_int)) (fun c => ss_break ?_) (fun c => ss_next ?_))
    · have h0 : m = 0 := by have := of_decide_eq_true c; omega
      subst h0
      rw [dg_zero, List.append_nil] at e
      exact fin l ad _ _ e
    · have h0 : m ≠ 0 := by have := of_decide_eq_false c; omega
      refine ss_parOS (se_catV (i := 2) rfl (se_lst (sas_cons (se_mod (se_int1 (se_var (i := 3) rfl)) (se_var (i := 0) rfl) (by omega)) sas_nil) (by rw [sizeLine_eq]; show 1 ≤ _; decide)) ?_) (se_div (se_var (i := 3) rfl) (se_var (i := 0) rfl) ⟨by omega, by omega⟩) fun a2 => ?_
      · rw [List.length_map, sizeLine_eq]; show _ + 1 ≤ _; omega
      · refine ⟨rfl, l ++ [m % p], a2, m / p, .sh (.int (0 + (k : Nat))), ?_, by rw [List.length_append, e2]; rfl, ?_⟩
        · rw [e, dg_pos h2 h0, List.append_assoc]; rfl
        · unfold lstD; rw [List.map_append]; rfl
  · rintro δ s ⟨rfl, l, ad, m, q, e, e2, rfl⟩
    have : dg p m = [] := by
      have := congrArg List.length e
      rw [List.length_append] at this
      unfold len at hl
      exact List.eq_nil_of_length_eq_zero (by omega)
    rw [this, List.append_nil] at e
    exact fin l ad _ _ e
def rel_law_worth : List D → R → Prop := rel_number_by
/-- slots: 0 base 1 row 2 found 3 figure -/
def t_law_worth (K : Frag) : TS := (tSeq (tAsg (tC (.int 0)) (gName 2)) (tSeq (tFor (iTup K (tRevT K (tVar 1))) (gName 3) (tAsg (tOp (rI0 fun i j => .int (i + j)) (tOp (rI CMul fun i j => .int (i * j)) (tVar 2) (tVar 0)) (tVar 3)) (gName 2))) (tRet (tVar 2))))
theorem ss_law_worth : ∀ ds r, rel_law_worth ds r → SS K none (t_law_worth K) (stS 4 ds) ds0 (RetO r) := ss_number_by
/-- slots: 0 row 1 many 2 lap -/
def t_law_cut (K : Frag) : TS := (tSeq (tAsg (tCB (fun xs H Q => ∃ p ys, xs = [.ref p] ∧ (SqL K H p ys ∨ SqT K H p ys) ∧ Q (.int ys.length) H) (tCons (tVar 0) tNil)) (gName 1)) (tSeq (tFor (iRng1 (tCons (tCB (fun xs H Q => ∃ p ys, xs = [.ref p] ∧ (SqL K H p ys ∨ SqT K H p ys) ∧ Q (.int ys.length) H) (tCons (tVar 0) tNil)) tNil)) (gName 2) (tIfS (tAnd (tTest (tOp (rI0 fun i j => .bl (decide (j < i))) (tVar 1) (tC (.int 0)))) (tTest (tOp rEq (tOp (rIxL K) (tVar 0) (tOp (rI0 fun i j => .int (i - j)) (tVar 1) (tC (.int 1)))) (tC (.int 0))))) (tAsg (tOp (rI0 fun i j => .int (i - j)) (tVar 1) (tC (.int 1))) (gName 1)) tNext)) (tRet (tCB (fun xs H Q => ∃ p ys, xs = [.ref p] ∧ ((SqL K H p ys ∧ ∀ l, H l = none → Q (.ref l) (upd H l (.tup ys))) ∨ (SqT K H p ys ∧ Q (.ref p) H))) (tCons (tSl (rSlL K) (tVar 0) tNoPart (tPart (tVar 1))) tNil)))))
theorem ss_law_cut : ∀ ds r, rel_law_cut ds r → SS K none (t_law_cut K) (stS 3 ds) ds0 (RetO r) := by
  rintro ds r ⟨l, hl, rfl, rfl⟩
  refine ss_seq (ss_set (se_len (ser_var (i := 0) rfl) (.lst _)) ?_)
  have e0 : (lstD l) = .lst (l.map fun (x : Nat) => D.int x) := rfl
  refine ss_seq (ss_for (s1 := ds0) (n := l.length) (it := fun k => D.int (0 + (k : Nat))) (C := CTrue) (I := fun k δ s => s = ds0 ∧ ∃ (m : Nat) (q : S), m ≤ l.length ∧ trim l = trim (l.take m) ∧ (l.length - k < m → m = 0 ∨ ∃ c, l[m - 1]? = some c ∧ c ≠ 0) ∧ δ = [.sh (lstD l), .sh (.int m), q]) ?_ (fun _ _ _ _ => trivial) ?_ ?_ ?_)
  · have := si_range1 (K := K) (dr := none) (δ := [.sh (lstD l), .sh (.int (l.length : Nat)), .no]) (s := ds0) (se_len (ser_var (i := 0) rfl) (.lst (l.map fun (x : Nat) => D.int x))) (by rw [List.length_map]; omega) (by rw [List.length_map]; omega)
    rw [List.length_map, Int.toNat_natCast] at this
    rw [List.length_map]
    exact this
  · exact ⟨rfl, l.length, .no, Nat.le_refl _, by rw [List.take_length], fun z => by omega, by simp [stS]⟩
  · rintro k δ s hk ⟨rfl, m, q, hm, ht, hz, rfl⟩
    refine ⟨_, sg_name, ?_⟩
    by_cases h0 : m = 0
    · subst h0
      refine ss_if (b := false) ?_ (fun e => by cases e) (fun _ => ss_next ⟨rfl, 0, .sh (.int (0 + (k : Nat))), by omega, ht, fun _ => .inl rfl, rfl⟩)
      exact st_cast (st_and (c := false) (st_Test (se_cmp (p := fun i j => decide (j < i)) (se_var (i := 1) rfl) se_int)) (fun e => by simp at e)) rfl
    · obtain ⟨c, hc⟩ : ∃ c, l[m - 1]? = some c := ⟨_, List.getElem?_eq_getElem (show m - 1 < l.length by omega)⟩
      refine ss_if (s1 := ds0) (b := decide (c = 0)) ?_ (fun e => ?_) (fun e => ?_)
      · refine st_cast (st_and (st_Test (se_cmp (p := fun i j => decide (j < i)) (se_var (i := 1) rfl) se_int)) (fun _ => st_Test (se_eqI (se_ixL (ser_var (i := 0) rfl) (se_sub (se_var (i := 1) rfl) se_int) (atI_of (m := m - 1) (by omega) (get_nats hc))) se_int))) ?_
        have : decide ((0 : Int) < (m : Int)) = true := by simp; omega
        rw [this, Bool.true_and]
        simp
      · have e0 : c = 0 := by simpa using e
        subst e0
        refine ss_set (se_sub (se_var (i := 1) rfl) se_int) ⟨rfl, m - 1, .sh (.int (0 + (k : Nat))), by omega, ?_, fun z => ?_, ?_⟩
        · rw [ht]
          have : m = (m - 1) + 1 := by omega
          rw [this, trim_take_zero (by simpa using hc)]; rfl
        · rcases hz (by omega) with h | ⟨c', h1, h2⟩
          · exact (h0 h).elim
          · rw [hc] at h1; cases h1; exact (h2 rfl).elim
        · have : (m : Int) - 1 = ((m - 1 : Nat) : Int) := by omega
          rw [this]; rfl
      · exact ss_next ⟨rfl, m, .sh (.int (0 + (k : Nat))), hm, ht, fun _ => .inr ⟨c, hc, by simpa using e⟩, rfl⟩
  · rintro δ s ⟨rfl, m, q, hm, ht, hz, rfl⟩
    have e2 : trim l = l.take m := by
      rw [ht]
      by_cases z : m = 0
      · subst z; rfl
      · rcases hz (by omega) with e | ⟨c, hc, hn⟩
        · exact (z e).elim
        · have : m = (m - 1) + 1 := by omega
          rw [this]; exact trim_take_ne hc hn
    refine ss_ret (se_tuple (ser_own (se_cutL (ser_var (i := 0) rfl) (se_var (i := 1) rfl) (by omega))) (.lst _)) ?_
    show R.sh _ = R.sh _
    rw [e2]; unfold rowD
    rw [Int.toNat_natCast, List.map_take]
end
end EL
set_option maxRecDepth 100000
set_option maxHeartbeats 1000000
/-! W6: factors -/
namespace EL
open PySem PySem.Spec L2 M
def prF (p : Nat) (x : Nat × Nat) : D := .tup [row p x.1, .int x.2]
def facD (p : Nat) (l : List (Nat × Nat)) : D := .lst (l.map (prF p))
theorem flats_facs (p : Nat) : ∀ l : List (Nat × Nat), flats (l.map (prF p)) = true
  | [] => rfl
  | a :: l => by
    rw [List.map_cons]; unfold flats; rw [flats_facs p l, Bool.and_true]
    show flats [row p a.1, .int a.2] = true
    unfold flats; rw [flat_row]; rfl
theorem okR_fac (p : Nat) (l : List (Nat × Nat)) : okR (.own (facD p l)) = true := flats_facs p l
theorem fac_getD {p i : Nat} {fs : List (Nat × Nat)} (h : i < fs.length) : (fs.map (prF p)).getD i .non = prF p (fs.getD i (0, 0)) := by
  rw [List.getD_eq_getElem?_getD, List.getElem?_map, List.getD_eq_getElem?_getD, List.getElem?_eq_getElem h]; rfl
theorem fac_get {p i : Nat} {fs : List (Nat × Nat)} (h : i < fs.length) : (fs.map (prF p))[i]? = some (prF p (fs.getD i (0, 0))) := by
  rw [List.getElem?_map, List.getD_eq_getElem?_getD, List.getElem?_eq_getElem h]; rfl
theorem fac_set {p i : Nat} {fs : List (Nat × Nat)} {x : Nat × Nat} : (fs.map (prF p)).set i (prF p x) = (fs.set i x).map (prF p) := by rw [List.map_set]
theorem toPys_natsL (l : List Nat) : toPy (lstD l) = .list (l.map fun (x : Nat) => PyData.int x) := by
  show PyData.list (toPys (l.map fun (x : Nat) => D.int x)) = _
  rw [toPys_ints]
theorem shaped_nats (l : List Nat) : SeqAt.shaped (toPy (lstD l)) = true := by
  rw [toPys_natsL]
  have h := depth_ints l
  show (PyData.canLay0 (.list _) && decide (PyData.depth (.list _) ≤ 64)) = true
  rw [Bool.and_eq_true]
  exact ⟨by simp only [PyData.canLay0]; exact lay_ints l, decide_eq_true (by simp only [PyData.depth]; omega)⟩
section
variable {K : Frag} {dr : Option Addr} {δ : List S} {s s1 s2 : DS} {ta tb : TE} {p a b : Nat}
theorem se_neNilL {l : List Nat} (ha : SeR K dr ta δ s (lstD l) s1) : Se K dr (tOp (rNeD K) ta (tLst tNil)) δ s (.sh (.bl (!decide (l = [])))) s1 := by
  refine se_cast (se_neP ha (ser_own (se_cast (r' := .own (lstD [])) (se_lst sas_nil (Nat.zero_le _)) rfl)) (noDct_ints l) rfl (shaped_nats l) (shaped_nats [])) ?_
  rw [toPys_natsL, toPys_natsL]
  simp only [PyData.eqv]
  rw [eqv_ints]
def rel_factors_by : List D → R → Prop := fun ds r => ∃ p n : Nat, Bp p ∧ n ≠ 0 ∧ n ≤ 100000000 ∧ ds = [.int p, row p n] ∧ r = .own (facD p (fac p n))
theorem len_b (hp : Bp p) {n : Nat} (h : n ≤ 100000000) : len p n ≤ 27 := by
  rw [len_le_iff hp.two]
  have : 2 ^ 27 ≤ p ^ 27 := Nat.pow_le_pow_left hp.two 27
  omega
/-- slots: 0 base 1 row 2 found 3 left 4 size 5 late 6 often 7 some 8 at 9 pair -/
def t_factors_by (K : Frag) : TS := (tSeq (tAsg (tTup (tCons (tLst tNil) (tCons (tCall (spR K rel_plain_row) [] E0 (tCons (tVar 0) (tCons (tVar 1) tNil))) (tCons (tC (.int 1)) tNil)))) (gTup K 3 (gCons (gName 2) (gCons (gName 3) (gCons (gName 4) gNil))))) (tSeq (tWhile (tTest (tOp (rI0 fun i j => .bl (decide (j < i))) (tCB (fun xs H Q => ∃ p ys, xs = [.ref p] ∧ (SqL K H p ys ∨ SqT K H p ys) ∧ Q (.int ys.length) H) (tCons (tVar 3) tNil)) (tOp (rI CMul fun i j => .int (i * j)) (tC (.int 2)) (tVar 4)))) (tSeq (tFor (iList K (tCall (spR K rel_plain_rows) [] E0 (tCons (tVar 0) (tCons (tVar 4) tNil)))) (gName 5) (tSeq (tAsg (tC (.int 0)) (gName 6)) (tSeq (tWhile (tAnd (tTest (tOp (rI0 fun i j => .bl (decide (j ≤ i))) (tCB (fun xs H Q => ∃ p ys, xs = [.ref p] ∧ (SqL K H p ys ∨ SqT K H p ys) ∧ Q (.int ys.length) H) (tCons (tVar 3) tNil)) (tCB (fun xs H Q => ∃ p ys, xs = [.ref p] ∧ (SqL K H p ys ∨ SqT K H p ys) ∧ Q (.int ys.length) H) (tCons (tVar 5) tNil)))) (tTest (tOp (rEqD K) (tOp (rIxT K) (tCall (spR K rel_divided_rows) [] E0 (tCons (tVar 0) (tCons (tVar 3) (tCons (tVar 5) tNil)))) (tC (.int 1))) (tTup tNil)))) (tAsg (tTup (tCons (tOp (rIxT K) (tCall (spR K rel_divided_rows) [] E0 (tCons (tVar 0) (tCons (tVar 3) (tCons (tVar 5) tNil)))) (tC (.int 0))) (tCons (tOp (rI0 fun i j => .int (i + j)) (tVar 6) (tC (.int 1))) tNil))) (gTup K 2 (gCons (gName 3) (gCons (gName 6) gNil))))) (tIfS (tTest (tOp (rI0 fun i j => .bl (decide (j < i))) (tVar 6) (tC (.int 0)))) (tDrop (tBM K "list" rAppend (tVar 2) (tCons (tTup (tCons (tVar 5) (tCons (tVar 6) tNil))) tNil))) tNext)))) (tAsg (tOp (rI0 fun i j => .int (i + j)) (tVar 4) (tC (.int 1))) (gName 4)))) (tSeq (tIfS (tTest (tOp (rI0 fun i j => .bl (decide (j < i))) (tCB (fun xs H Q => ∃ p ys, xs = [.ref p] ∧ (SqL K H p ys ∨ SqT K H p ys) ∧ Q (.int ys.length) H) (tCons (tVar 3) tNil)) (tC (.int 1)))) (tSeq (tAsg (tLc (iEnum K (tCons (tVar 2) tNil)) (gTup K 2 (gCons (gName 8) (gCons (gName 9) gNil))) (tTest (tOp (rEqD K) (tOp (rIxT K) (tVar 9) (tC (.int 0))) (tVar 3))) (tVar 8) [8, 9]) (gName 7)) (tIfS (tTest (tOp (rNeD K) (tVar 7) (tLst tNil))) (tAsg (tTup (tCons (tVar 3) (tCons (tOp (rI0 fun i j => .int (i + j)) (tOp (rIxT K) (tOp (rIxL K) (tVar 2) (tOp (rIxL K) (tVar 7) (tC (.int 0)))) (tC (.int 1))) (tC (.int 1))) tNil))) (gSub (tVar 2) (tOp (rIxL K) (tVar 7) (tC (.int 0))) rSetL)) (tDrop (tBM K "list" rAppend (tVar 2) (tCons (tTup (tCons (tVar 3) (tCons (tC (.int 1)) tNil))) tNil))))) tNext) (tRet (tVar 2)))))
theorem ss_factors_by : ∀ ds r, rel_factors_by ds r → SS K none (t_factors_by K) (stS 10 ds) ds0 (RetO r) := by
  rintro ds r ⟨p, n, hp, hn, hb, rfl, rfl⟩
  have h2 := hp.two
  have h5 := hp.le
  have hln := len_b hp hb
  have hlp := len_plain hp hn
  have hp0 : M.plain p n ≠ 0 := fun z => by rw [z, len_zero] at hlp; exact len_ne h2 hn hlp.symm
  refine ss_seq (ss_tas3 (se_lst sas_nil (Nat.zero_le _)) (se_call (sa_cons (ser_var (i := 0) rfl) (sa_cons (ser_var (i := 1) rfl) sa_nil)) ⟨p, n, hp, by omega, hn, rfl, rfl⟩) se_int ⟨.own 0 _, .own 0 _⟩ ⟨_, .sh _⟩ ⟨_, .sh _⟩ ?_)
  intro x1 x2 x3 y1 y2 y3
  cases y1 with | own ad d => ?_
  cases y2
  cases y3
  refine ss_seq (ss_while (m := len p n) (fun m δ s => s = ds0 ∧ ∃ (st : FS) (ad : Addr) (k : Nat) (q5 q6 q7 q8 q9 : S), facLoop p m k st = facLoop p (len p n) 1 (M.plain p n, []) ∧ m + k = len p n + 1 ∧ 1 ≤ k ∧ len p st.1 ≤ len p n ∧ st.1 ≠ 0 ∧ st.2.length + len p st.1 ≤ len p n ∧
    δ = [.sh (.int p), .sh (row p n), .own ad (facD p st.2), .sh (row p st.1), .sh (.int k), q5, q6, q7, q8, q9]) ?_ ?_)
  · exact ⟨rfl, (M.plain p n, []), ad, 1, .no, .no, .no, .no, .no, rfl, rfl, Nat.le_refl _, by show len p (M.plain p n) ≤ _; omega, hp0, by show 0 + len p (M.plain p n) ≤ _; omega, rfl⟩
  · rintro m δ s ⟨rfl, st, ad, k, q5, q6, q7, q8, q9, e, hmk, hk1, hll, hl0, hcnt, rfl⟩
    refine ⟨_, ds0, st_Test (se_cmp (p := fun i j => decide (j < i)) (se_lenRow h2 (ser_var (i := 3) rfl)) (se_mul (se_int (i := 2)) (se_var (i := 4) rfl) (cmul_l (by omega) (by omega)))), fun c => ?_, fun c => ?_⟩
    · have hk2 : 2 * k < len p st.1 := by have := of_decide_eq_true c; omega
      have hpk := pk_le hp hn hb (k := k) (by omega)
      have hm0 : m ≠ 0 := by omega
      refine ss_seq (ss_for (s1 := ds0) (n := p ^ k) (it := fun i => (plR p k).getD i .non) (C := CTrue) (I := fun i δ s => s = ds0 ∧ ∃ (q5 q6 q7 q8 q9 : S),
          δ = [.sh (.int p), .sh (row p n), .own ad (facD p (facI p k st i).2), .sh (row p (facI p k st i).1), .sh (.int k), q5, q6, q7, q8, q9]) ?_ (fun _ _ _ _ => trivial) ?_ ?_ ?_)
      · have := si_lst (K := K) (dr := none) (δ := [.sh (.int p), .sh (row p n), .own ad (facD p st.2), .sh (row p st.1), .sh (.int k), q5, q6, q7, q8, q9]) (s := ds0) (se_pub (d := .lst (plR p k)) (se_call (Ex := E0) (rel := rel_plain_rows) (sa_cons (ser_var (i := 0) rfl) (sa_cons (ser_var (i := 4) rfl) sa_nil)) ⟨p, k, hp, by omega, by omega, rfl, rfl⟩))
        rw [show (plR p k).length = p ^ k by unfold plR; simp] at this
        exact this
      · exact ⟨rfl, q5, q6, q7, q8, q9, rfl⟩
      · rintro i δ s hi ⟨rfl, q5, q6, q7, q8, q9, rfl⟩
        have hg : (plR p k).getD i .non = row p (p ^ k + i) := by unfold plR; rw [List.getD_eq_getElem?_getD]; simp [hi]
        rw [hg]
        refine ⟨_, sg_name, ?_⟩
        have hq2 : len p (p ^ k + i) = k + 1 := len_pw hp hi
        obtain ⟨q, hq⟩ : ∃ q, q = p ^ k + i := ⟨_, rfl⟩
        rw [← hq] at hq2 ⊢
        have hq0 : q ≠ 0 := fun z => by rw [z, len_zero] at hq2; omega
        have hfl := facI_len hp hk1 hl0 i (by omega)
        have hfc := facI_cnt hp hk1 hl0 i (by omega)
        rw [show facI p k st (i + 1) = facRow p (facI p k st i) q by rw [facI_succ, hq]]
        generalize facI p k st i = su at *
        refine ss_seq (ss_set se_int ?_)
        refine ss_seq (ss_while (m := len p su.1) (fun f δ s => s = ds0 ∧ ∃ (l e : Nat), outF p q f l e = out p q su.1 ∧ len p l ≤ f ∧ len p l ≤ len p su.1 ∧ l ≠ 0 ∧ δ = [.sh (.int p), .sh (row p n), .own ad (facD p su.2), .sh (row p l), .sh (.int k), .sh (row p q), .sh (.int e), q7, q8, q9]) ?_ ?_)
        · exact ⟨rfl, su.1, 0, rfl, Nat.le_refl _, Nat.le_refl _, hfl.2, rfl⟩
        · rintro f δ s ⟨rfl, l, o, e2, hlf, hls, hl, rfl⟩
          refine ⟨decide (len p q ≤ len p l) && decide (pmod p l q = 0), ds0, ?_, fun c => ?_, fun c => ?_⟩
          · refine st_cast (st_and (s1 := ds0) (st_Test (se_cmp (p := fun i j => decide (j ≤ i)) (se_lenRow h2 (ser_var (i := 3) rfl)) (se_lenRow h2 (ser_var (i := 5) rfl)))) (fun _ => st_Test (se_eqRow h2 (ser_sh (se_snd (ser_sh (se_call (sa_cons (ser_var (i := 0) rfl) (sa_cons (ser_var (i := 3) rfl) (sa_cons (ser_var (i := 5) rfl) sa_nil))) ⟨p, l, q, hp, by omega, by omega, hq0, rfl, rfl⟩)))) (ser_sh (se_nil (p := p)))))) ?_
            congr 1
            exact decide_eq_decide.mpr (by omega)
          · rw [Bool.and_eq_true, decide_eq_true_iff, decide_eq_true_iff] at c
            have hd := div_out hp hl (by omega) c.2
            have hf0 : f ≠ 0 := fun z => by have := len_ne h2 hl; omega
            refine ss_tas2 (se_fst (ser_sh (se_call (sa_cons (ser_var (i := 0) rfl) (sa_cons (ser_var (i := 3) rfl) (sa_cons (ser_var (i := 5) rfl) sa_nil))) ⟨p, l, q, hp, by omega, by omega, hq0, rfl, rfl⟩))) (se_add (se_var (i := 6) rfl) se_int) ⟨_, .sh _⟩ ⟨_, .sh _⟩ ?_
            intro z1 z2 w1 w2
            cases w1
            cases w2
            refine ⟨f - 1, by omega, rfl, pdiv p l q, o + 1, ?_, by omega, by omega, hd.1, by push_cast; rfl⟩
            rw [← e2]
            obtain ⟨g, rfl⟩ : ∃ g, f = g + 1 := ⟨f - 1, by omega⟩
            show outF p q g _ _ = outF p q (g + 1) l o
            rw [show outF p q (g + 1) l o = if len p q ≤ len p l ∧ pmod p l q = 0 then outF p q g (pdiv p l q) (o + 1) else (l, o) from rfl, if_pos c]
          · have e3 : (l, o) = out p q su.1 := by
              rw [← e2]
              cases f with
              | zero => rfl
              | succ g =>
                rw [show outF p q (g + 1) l o = if len p q ≤ len p l ∧ pmod p l q = 0 then outF p q g (pdiv p l q) (o + 1) else (l, o) from rfl, if_neg (fun z => by
                  rw [Bool.and_eq_false_iff, decide_eq_false_iff_not, decide_eq_false_iff_not] at c
                  rcases c with c | c
                  · exact c z.1
                  · exact c z.2)]
            have e4 : l = (out p q su.1).1 := congrArg Prod.fst e3
            have e5 : o = (out p q su.1).2 := congrArg Prod.snd e3
            refine ss_if (st_Test (se_cmp (p := fun i j => decide (j < i)) (se_var (i := 6) rfl) se_int)) (fun c => ?_) (fun c => ss_next ?_)
            · have ho : 0 < (out p q su.1).2 := by rw [← e5]; have := of_decide_eq_true c; omega
              refine ss_append (j := 2) rfl (se_tup (sas_cons (se_var (i := 5) rfl) (sas_cons (se_var (i := 6) rfl) sas_nil)) (by rw [sizeLine_eq]; show 2 ≤ _; decide)) (by rw [List.length_map, sizeLine_eq]; omega) ⟨rfl, .sh (row p q), .sh (.int o), q7, q8, q9, ?_⟩
              unfold facRow
              rw [if_pos ho, ← e4, ← e5]
              unfold facD
              rw [List.map_append]
              rfl
            · have ho : ¬ 0 < (out p q su.1).2 := by rw [← e5]; have := of_decide_eq_false c; omega
              refine ⟨rfl, .sh (row p q), .sh (.int o), q7, q8, q9, ?_⟩
              unfold facRow
              rw [if_neg ho, ← e4]
      · rintro δ s ⟨rfl, q5, q6, q7, q8, q9, rfl⟩
        have hfl := facI_len hp hk1 hl0 (p ^ k) (Nat.le_refl _)
        have hfc := facI_cnt hp hk1 hl0 (p ^ k) (Nat.le_refl _)
        refine ss_set (se_add (se_var (i := 4) rfl) se_int) ⟨m - 1, by omega, rfl, facI p k st (p ^ k), ad, k + 1, q5, q6, q7, q8, q9, ?_, by omega, by omega, by omega, hfl.2, by omega, by push_cast; rfl⟩
        rw [← e]
        obtain ⟨g, rfl⟩ : ∃ g, m = g + 1 := ⟨m - 1, by omega⟩
        show facLoop p g _ _ = _
        rw [show facLoop p (g + 1) k st = if 2 * k < len p st.1 then facLoop p g (k + 1) (facI p k st (p ^ k)) else st from rfl, if_pos hk2]
    · have hk2 : ¬ 2 * k < len p st.1 := by have := of_decide_eq_false c; omega
      have e3 : st = facLoop p (len p n) 1 (M.plain p n, []) := by
        rw [← e]
        cases m with
        | zero => rfl
        | succ g => rw [show facLoop p (g + 1) k st = if 2 * k < len p st.1 then facLoop p g (k + 1) (facI p k st (p ^ k)) else st from rfl, if_neg hk2]
      have hgoal : facEnd p st = fac p n := by rw [e3]; rfl
      refine ss_seq (ss_if (st_Test (se_cmp (p := fun i j => decide (j < i)) (se_lenRow h2 (ser_var (i := 3) rfl)) se_int)) (fun c => ?_) (fun c => ss_next ?_))
      · have h1l : 1 < len p st.1 := by have := of_decide_eq_true c; omega
        have hfe : facEnd p st = facFin st (idxs st.1 st.2) := if_pos h1l
        refine ss_seq (ss_setO (d := lstD (idxs st.1 st.2)) (se_cast (se_lcP (fun i => decide ((st.2.getD i (0, 0)).1 = st.1)) (fun i => D.int (i : Nat)) (fun i => [.sh (.int p), .sh (row p n), .own ad (facD p st.2), .sh (row p st.1), .sh (.int k), q5, q6, q7, .sh (.int (i : Nat)), .sh (prF p (st.2.getD i (0, 0)))]) (si_enumO (j := 2) rfl) (fun _ => rfl) (fun i hi => ?_) (gown_tup2 (by simp) (by simp)) (fun i hi => ?_) (fun i hi _ => se_var (i := 8) rfl) ?_) ?_) fun a2 => ?_)
        · rw [List.length_map] at hi
          rw [fac_getD hi]
          exact sg_tup2
        · exact st_Test (se_eqRow h2 (ser_sh (se_fst (ser_var (i := 9) rfl))) (ser_var (i := 3) rfl))
        · rw [List.length_map, sizeLine_eq]; omega
        · rw [List.length_map]; unfold lstD idxs; rfl
        · refine ss_if (st_Test (se_neNilL (ser_ovar (i := 7) rfl))) (fun c => ?_) (fun c => ?_)
          · obtain ⟨i, is, hi⟩ : ∃ i is, idxs st.1 st.2 = i :: is := by
              cases h : idxs st.1 st.2 with
              | nil => rw [h] at c; simp at c
              | cons i is => exact ⟨i, is, rfl⟩
            have him : i < st.2.length := by
              have : i ∈ idxs st.1 st.2 := by rw [hi]; simp
              exact List.mem_range.mp (List.mem_filter.mp this).1
            have hix : atI ((idxs st.1 st.2).map fun (x : Nat) => D.int x) 0 = some (.int i) := by rw [hi]; exact atI_of (m := 0) rfl rfl
            refine ss_setIx (j := 2) (m := i) (d := prF p (st.1, (st.2.getD i (0, 0)).2 + 1)) rfl (se_cast (se_tup (sas_cons (se_var (i := 3) rfl) (sas_cons (se_add (se_snd (ser_sh (se_ixL (ser_ovar (i := 2) rfl) (se_ixL (ser_ovar (i := 7) rfl) se_int hix) (atI_of rfl (fac_get him))))) se_int) sas_nil)) (by rw [sizeLine_eq]; show 2 ≤ _; decide)) ?_) (se_ixL (ser_ovar (i := 7) rfl) se_int hix) (ixN_of rfl (by rw [List.length_map]; exact him)) ?_
            · unfold prF; push_cast; rfl
            · refine ss_retO (i := 2) (a := ad) rfl ?_
              show R.own _ = R.own _
              rw [← hgoal, hfe, hi, fac_set]; rfl
          · have hi : idxs st.1 st.2 = [] := by simpa using c
            refine ss_append (j := 2) rfl (se_tup (sas_cons (se_var (i := 3) rfl) (sas_cons se_int sas_nil)) (by rw [sizeLine_eq]; show 2 ≤ _; decide)) (by rw [List.length_map, sizeLine_eq]; omega) ?_
            refine ss_retO (i := 2) (a := ad) rfl ?_
            show R.own _ = R.own _
            rw [← hgoal, hfe, hi]
            show _ = R.own (facD p (st.2 ++ [(st.1, 1)]))
            unfold facD; rw [List.map_append]; rfl
      · have h1l : ¬ 1 < len p st.1 := by have := of_decide_eq_false c; omega
        refine ss_retO (i := 2) (a := ad) rfl ?_
        show R.own _ = R.own _
        rw [← hgoal]; unfold facEnd; rw [if_neg h1l]
end
end EL
set_option maxRecDepth 100000
set_option maxHeartbeats 1000000
/-! W7: the law's own factors -/
namespace EL
open PySem PySem.Spec L2 M
section
variable {K : Frag} {dr : Option Addr} {δ : List S} {s s1 s2 : DS} {ta tb : TE} {p a b : Nat}
theorem Ts.ints_eq {H : Hp} : ∀ {l : List Int} {vs : List V}, Ts K H (l.map D.int) vs → vs = l.map V.int
  | [], _, h => by cases (show _ = _ from h); rfl
  | i :: l, _, h => by
    obtain ⟨v, r, e, h1, h2⟩ := h
    cases (show _ = _ from h1)
    rw [e, Ts.ints_eq h2]; rfl
theorem se_sum {l : List Int} (h : SeR K dr ta δ s (.lst (l.map D.int)) s1) : Se K dr (tCB (rSum K) (tCons ta tNil)) δ s (.sh (.int l.sum)) s1 := fun H0 Hs H σ E Q q =>
  h H0 Hs H σ E _ fun v Hs1 H1 E1 st1 r1 => by
    obtain ⟨a, vs, e, h1, h2⟩ := r1.lst E1
    have := Ts.ints_eq h2
    subst this
    exact ⟨a, l, by rw [e], h1, q _ _ _ E1 st1 rfl⟩
theorem row_one (hp : 2 ≤ p) : row p 1 = .tup [.int 1] := by
  show rowD (dg p 1) = _
  rw [dg_pos hp (by decide), Nat.mod_eq_of_lt (by omega), Nat.div_eq_of_lt (by omega), dg_zero]; rfl
def rel_law_factors : List D → R → Prop := fun ds r => ∃ p n : Nat, Bp p ∧ n ≠ 0 ∧ n ≤ 100000000 ∧ ds = [.int p, row p n] ∧ r = .own (facD p (lfac p n))
theorem fac_len {p : Nat} {l : List (Nat × Nat)} : (l.map (prF p)).length = l.length := List.length_map _
/-- slots: 0 base 1 row 2 found 3 left 4 size 5 number 6 late 7 often 8 lap 9 part 10 some 11 pair -/
def t_law_factors (K : Frag) : TS := (tSeq (tAsg (tTup (tCons (tLst tNil) (tCons (tCall (spR K rel_law_plain) [] E0 (tCons (tVar 0) (tCons (tVar 1) tNil))) tNil))) (gTup K 2 (gCons (gName 2) (gCons (gName 3) gNil)))) (tSeq (tFor (iRng2 (tCons (tC (.int 1)) (tCons (tCB (fun xs H Q => ∃ p ys, xs = [.ref p] ∧ (SqL K H p ys ∨ SqT K H p ys) ∧ Q (.int ys.length) H) (tCons (tVar 1) tNil)) tNil))) (gName 4) (tSeq (tIfS (tTest (tOp (rI0 fun i j => .bl (decide (i ≤ j))) (tCB (fun xs H Q => ∃ p ys, xs = [.ref p] ∧ (SqL K H p ys ∨ SqT K H p ys) ∧ Q (.int ys.length) H) (tCons (tVar 3) tNil)) (tOp (rI CMul fun i j => .int (i * j)) (tC (.int 2)) (tVar 4)))) tBreak tNext) (tFor (iRng2 (tCons (tCall (spR K rel_law_power) [] E0 (tCons (tVar 0) (tCons (tVar 4) tNil))) (tCons (tOp (rI CMul fun i j => .int (i * j)) (tC (.int 2)) (tCall (spR K rel_law_power) [] E0 (tCons (tVar 0) (tCons (tVar 4) tNil)))) tNil))) (gName 5) (tSeq (tPar 6 7 (tCons (tCall (spR K rel_law_row) [] E0 (tCons (tVar 0) (tCons (tVar 5) tNil))) (tCons (tC (.int 0)) tNil))) (tSeq (tFor (iRng1 (tCons (tCB (fun xs H Q => ∃ p ys, xs = [.ref p] ∧ (SqL K H p ys ∨ SqT K H p ys) ∧ Q (.int ys.length) H) (tCons (tVar 1) tNil)) tNil)) (gName 8) (tSeq (tAsg (tIf (tTest (tOp (rI0 fun i j => .bl (decide (j ≤ i))) (tCB (fun xs H Q => ∃ p ys, xs = [.ref p] ∧ (SqL K H p ys ∨ SqT K H p ys) ∧ Q (.int ys.length) H) (tCons (tVar 3) tNil)) (tCB (fun xs H Q => ∃ p ys, xs = [.ref p] ∧ (SqL K H p ys ∨ SqT K H p ys) ∧ Q (.int ys.length) H) (tCons (tVar 6) tNil)))) (tCall (spR K rel_law_divided) [] E0 (tCons (tVar 0) (tCons (tVar 3) (tCons (tVar 6) tNil)))) (tTup (tCons (tTup tNil) (tCons (tTup (tCons (tC (.int 1)) tNil)) tNil)))) (gName 9)) (tIfS (tTest (tOp (rEqD K) (tOp (rIxT K) (tVar 9) (tC (.int 1))) (tTup tNil))) (tAsg (tTup (tCons (tOp (rIxT K) (tVar 9) (tC (.int 0))) (tCons (tOp (rI0 fun i j => .int (i + j)) (tVar 7) (tC (.int 1))) tNil))) (gTup K 2 (gCons (gName 3) (gCons (gName 7) gNil)))) tNext))) (tIfS (tTest (tOp (rI0 fun i j => .bl (decide (j < i))) (tVar 7) (tC (.int 0)))) (tDrop (tBM K "list" rAppend (tVar 2) (tCons (tTup (tCons (tVar 6) (tCons (tVar 7) tNil))) tNil))) tNext)))))) (tSeq (tIfS (tTest (tOp (rI0 fun i j => .bl (decide (j < i))) (tCB (fun xs H Q => ∃ p ys, xs = [.ref p] ∧ (SqL K H p ys ∨ SqT K H p ys) ∧ Q (.int ys.length) H) (tCons (tVar 3) tNil)) (tC (.int 1)))) (tSeq (tAsg (tLc (iList K (tVar 2)) (gName 11) (tTest (tOp (rEqD K) (tOp (rIxT K) (tVar 11) (tC (.int 0))) (tVar 3))) (tVar 11) [11]) (gName 10)) (tAsg (tOp rCat (tLc (iList K (tVar 2)) (gName 11) (tTest (tOp (rNeD K) (tOp (rIxT K) (tVar 11) (tC (.int 0))) (tVar 3))) (tVar 11) [11]) (tLst (tCons (tTup (tCons (tVar 3) (tCons (tOp (rI0 fun i j => .int (i + j)) (tC (.int 1)) (tCB (rSum K) (tCons (tLc (iList K (tVar 10)) (gTup K 2 (gCons (gName 6) (gCons (gName 7) gNil))) tYes (tVar 7) [6, 7]) tNil))) tNil))) tNil))) (gName 2))) tNext) (tRet (tVar 2)))))
theorem ss_law_factors : ∀ ds r, rel_law_factors ds r → SS K none (t_law_factors K) (stS 12 ds) ds0 (RetO r) := by
  rintro ds r ⟨p, n, hp, hn, hb, rfl, rfl⟩
  have h2 := hp.two
  have h5 := hp.le
  have hln := len_b hp hb
  have hlp := len_plain hp hn
  have hp0 : M.plain p n ≠ 0 := fun z => by rw [z, len_zero] at hlp; exact len_ne h2 hn hlp.symm
  have hln0 := len_ne h2 hn
  refine ss_seq (ss_tas2 (se_lst sas_nil (Nat.zero_le _)) (se_call (sa_cons (ser_var (i := 0) rfl) (sa_cons (ser_var (i := 1) rfl) sa_nil)) ⟨p, n, hp, by omega, hn, rfl, rfl⟩) ⟨.own 0 _, .own 0 _⟩ ⟨_, .sh _⟩ ?_)
  intro x1 x2 y1 y2
  cases y1 with | own ad d => ?_
  cases y2
  -- the end
  have fin : ∀ (st : FS) (ad : Addr) (q4 q5 q6 q7 q8 q9 q10 q11 : S), lfacEnd p st = lfac p n → st.2.length ≤ 27 → SS K none (tSeq (tIfS (tTest (tOp (rI0 fun i j => .bl (decide (j < i))) (tLen (tVar 3) K) (tC (.int 1)))) (tSeq (tAsg (tLc (iList K (tVar 2)) (gName 11) (tTest (tOp (rEqD K) (tOp (rIxT K) (tVar 11) (tC (.int 0))) (tVar 3))) (tVar 11) [11]) (gName 10)) (tAsg (tOp rCat (tLc (iList K (tVar 2)) (gName 11) (tTest (tOp (rNeD K) (tOp (rIxT K) (tVar 11) (tC (.int 0))) (tVar 3))) (tVar 11) [11]) (tLst (tCons (tTup (tCons (tVar 3) (tCons (tAdd (tC (.int 1)) (tCB (rSum K) (tCons (tLc (iList K (tVar 10)) (gTup K 2 (gCons (gName 6) (gCons (gName 7) gNil))) tYes (tVar 7) [6, 7]) tNil))) tNil))) tNil))) (gName 2))) tNext) (tRet (tVar 2)))
      [.sh (.int p), .sh (row p n), .own ad (facD p st.2), .sh (row p st.1), q4, q5, q6, q7, q8, q9, q10, q11] ds0 (RetO (.own (facD p (lfac p n)))) := by
    intro st ad q4 q5 q6 q7 q8 q9 q10 q11 he hcl
    rw [← he]
    refine ss_seq (ss_if (st_Test (se_cmp (p := fun i j => decide (j < i)) (se_lenRow h2 (ser_var (i := 3) rfl)) se_int)) (fun c => ?_) (fun c => ss_next ?_))
    · have h1l : 1 < len p st.1 := by have := of_decide_eq_true c; omega
      have lc : ∀ (neg : Bool) (q10 : S) (tt : TT), (∀ i, i < st.2.length → SeT K none tt [.sh (.int p), .sh (row p n), .own ad (facD p st.2), .sh (row p st.1), q4, q5, q6, q7, q8, q9, q10, .sh (prF p (st.2.getD i (0, 0)))] ds0 (if neg then !decide ((st.2.getD i (0, 0)).1 = st.1) else decide ((st.2.getD i (0, 0)).1 = st.1)) ds0) →
          Se K none (tLc (iList K (tVar 2)) (gName 11) tt (tVar 11) [11]) [.sh (.int p), .sh (row p n), .own ad (facD p st.2), .sh (row p st.1), q4, q5, q6, q7, q8, q9, q10, q11] ds0 (.own (facD p (st.2.filter fun x => if neg then !decide (x.1 = st.1) else decide (x.1 = st.1)))) ds0 := fun neg q10 tt ht => by
        refine se_cast (se_lcP (fun i => if neg then !decide ((st.2.getD i (0, 0)).1 = st.1) else decide ((st.2.getD i (0, 0)).1 = st.1)) (fun i => prF p (st.2.getD i (0, 0))) (fun i => [.sh (.int p), .sh (row p n), .own ad (facD p st.2), .sh (row p st.1), q4, q5, q6, q7, q8, q9, q10, .sh (prF p (st.2.getD i (0, 0)))]) (si_own (j := 2) rfl) (fun _ => rfl) (fun i hi => ?_) (gown_name (by simp)) (fun i hi => ?_) (fun i hi _ => se_var (i := 11) rfl) ?_) ?_
        · rw [fac_len] at hi
          rw [fac_getD hi]; exact sg_name
        · rw [fac_len] at hi; exact ht i hi
        · rw [fac_len, sizeLine_eq]; omega
        · rw [fac_len]; unfold facD
          rw [← filter_range (0, 0) (fun x : Nat × Nat => if neg then !decide (x.1 = st.1) else decide (x.1 = st.1)) (prF p)]
      obtain ⟨so, hso⟩ : ∃ so, so = (st.2.filter fun x => decide (x.1 = st.1)) := ⟨_, rfl⟩
      have hsl : so.length ≤ 27 := by rw [hso]; exact Nat.le_trans (List.length_filter_le _ _) hcl
      refine ss_seq (ss_setO (d := facD p so) (se_cast (lc false q10 _ fun i hi => st_Test (se_eqRow h2 (ser_sh (se_fst (ser_var (i := 11) rfl))) (ser_var (i := 3) rfl))) (by rw [hso]; rfl)) fun a2 => ?_)
      refine ss_setO (d := facD p (lfacEnd p st)) (se_cast (se_cat (lc true (.own a2 (facD p so)) _ fun i hi => st_Test (se_neRow h2 (ser_sh (se_fst (ser_var (i := 11) rfl))) (ser_var (i := 3) rfl))) (se_lst (sas_cons (se_tup (sas_cons (se_var (i := 3) rfl) (sas_cons (se_add (se_int (i := 1)) (se_sum (l := so.map fun x => (x.2 : Int)) (ser_own (se_cast (se_lcM (fun i => D.int ((so.getD i (0, 0)).2 : Nat)) (fun i => [.sh (.int p), .sh (row p n), .own ad (facD p st.2), .sh (row p st.1), q4, q5, .sh (row p (so.getD i (0, 0)).1), .sh (.int (so.getD i (0, 0)).2), q8, q9, .own a2 (facD p so), q11]) (si_own (j := 10) (a := a2) rfl) (fun _ => rfl) (fun i hi => ?_) (gown_tup2 (by simp) (by simp)) (fun i hi => se_var (i := 7) rfl) ?_) ?_)))) sas_nil)) ?_) sas_nil) ?_) ?_) ?_) fun a3 => ?_
      · rw [fac_len] at hi
        rw [fac_getD hi]
        have : (prF p (so.getD i (0, 0))) = .tup [row p (so.getD i (0, 0)).1, .int (so.getD i (0, 0)).2] := rfl
        rw [this]
        exact sg_tup2
      · rw [fac_len, sizeLine_eq]; omega
      · rw [fac_len]
        have := filter_range (0, 0) (fun _ : Nat × Nat => true) (fun x : Nat × Nat => D.int (x.2 : Nat)) so
        rw [filter_tt, filter_tt] at this
        rw [this, List.map_map]; rfl
      · rw [sizeLine_eq]; show 2 ≤ _; decide
      · rw [sizeLine_eq]; show 1 ≤ _; decide
      · rw [fac_len, sizeLine_eq]
        have := List.length_filter_le (fun x : Nat × Nat => if true = true then !decide (x.1 = st.1) else decide (x.1 = st.1)) st.2
        show _ + 1 ≤ _
        omega
      · unfold lfacEnd
        rw [if_pos h1l]
        unfold facD
        rw [List.map_append, ← hso]
        have hs : ((1 : Int) + (so.map fun x => (x.2 : Int)).sum) = ((1 + (so.map (·.2)).sum : Nat) : Int) := by
          have : ∀ l : List (Nat × Nat), (l.map fun x => (x.2 : Int)).sum = ((l.map (·.2)).sum : Nat) := by
            intro l
            induction l with
            | nil => rfl
            | cons a l ih => rw [List.map_cons, List.map_cons, List.sum_cons, List.sum_cons, ih]; push_cast; rfl
          rw [this]; push_cast; rfl
        rw [hs]; rfl
      · exact ss_retO (i := 2) (a := a3) rfl rfl
    · have h1l : ¬ 1 < len p st.1 := by have := of_decide_eq_false c; omega
      refine ss_retO (i := 2) (a := ad) rfl ?_
      show R.own _ = R.own _
      unfold lfacEnd; rw [if_neg h1l]
  refine ss_seq (ss_for (s1 := ds0) (n := len p n - 1) (it := fun i => D.int (1 + (i : Nat))) (C := CTrue) (I := fun i δ s => s = ds0 ∧ ∃ (st : FS) (ad : Addr) (q4 q5 q6 q7 q8 q9 q10 q11 : S), facLoop p (len p n - 1 - i) (i + 1) st = facLoop p (len p n - 1) 1 (M.plain p n, []) ∧ len p st.1 ≤ len p n ∧ st.1 ≠ 0 ∧ st.2.length + len p st.1 ≤ len p n ∧
    δ = [.sh (.int p), .sh (row p n), .own ad (facD p st.2), .sh (row p st.1), q4, q5, q6, q7, q8, q9, q10, q11]) ?_ (fun _ _ _ _ => trivial) ?_ ?_ ?_)
  · have := si_range2 (K := K) (dr := none) (δ := [.sh (.int p), .sh (row p n), .own ad (facD p []), .sh (row p (M.plain p n)), .no, .no, .no, .no, .no, .no, .no, .no]) (s := ds0) (se_int (i := 1)) (se_lenRow h2 (ser_var (i := 1) rfl)) ⟨by omega, by omega, by omega, by omega⟩
    rw [show ((len p n : Int) - 1).toNat = len p n - 1 by omega] at this
    exact this
  · exact ⟨rfl, (M.plain p n, []), ad, .no, .no, .no, .no, .no, .no, .no, .no, rfl, by show len p (M.plain p n) ≤ _; omega, hp0, by show 0 + len p (M.plain p n) ≤ _; omega, rfl⟩
  · rintro i δ s hi ⟨rfl, st, ad, q4, q5, q6, q7, q8, q9, q10, q11, e, hll, hl0, hcnt, rfl⟩
    refine ⟨_, sg_name, ?_⟩
    have hfe : facLoop p (len p n - 1 - i) (i + 1) st = if 2 * (i + 1) < len p st.1 then facLoop p (len p n - 1 - (i + 1)) (i + 1 + 1) (facI p (i + 1) st (p ^ (i + 1))) else st := by
      obtain ⟨g, hg⟩ : ∃ g, len p n - 1 - i = g + 1 := ⟨len p n - 1 - i - 1, by omega⟩
      rw [hg, show len p n - 1 - (i + 1) = g by omega]; rfl
    refine ss_seq (ss_if (st_Test (se_cmp (p := fun i j => decide (i ≤ j)) (se_lenRow h2 (ser_var (i := 3) rfl)) (se_mul (se_int (i := 2)) (se_var (i := 4) rfl) (cmul_l (by omega) (by omega))))) (fun c => ss_break ?_) (fun c => ss_next ?_))
    · have hk2 : ¬ 2 * (i + 1) < len p st.1 := by have := of_decide_eq_true c; omega
      rw [hfe, if_neg hk2] at e
      refine fin st ad _ _ _ _ _ _ _ _ (by rw [e]; rfl) (by omega)
    · have hk2 : 2 * (i + 1) < len p st.1 := by have := of_decide_eq_false c; omega
      rw [hfe, if_pos hk2] at e
      obtain ⟨k, hk⟩ : ∃ k, k = i + 1 := ⟨_, rfl⟩
      have hk1 : 1 ≤ k := by omega
      have hsz : (1 + (i : Nat) : Int) = (k : Nat) := by omega
      rw [hsz]
      rw [← hk] at e hk2
      have hpk := pk_le hp hn hb (k := k) (by omega)
      have hpw : ∀ δ : List S, δ[0]? = some (.sh (.int p)) → δ[4]? = some (.sh (.int k)) → Se K none (tCall (spR K rel_law_power) [] E0 (tCons (tVar 0) (tCons (tVar 4) tNil))) δ ds0 (.sh (.int (p ^ k : Nat))) ds0 := fun δ h0 h4 =>
        se_call (sa_cons (ser_var h0) (sa_cons (ser_var h4) sa_nil)) ⟨p, k, by omega, by omega, rfl, rfl⟩
      refine ss_for (s1 := ds0) (n := p ^ k) (it := fun j => D.int ((p ^ k : Nat) + (j : Nat))) (C := CTrue) (I := fun j δ s => s = ds0 ∧ ∃ (q5 q6 q7 q8 q9 q10 q11 : S),
          δ = [.sh (.int p), .sh (row p n), .own ad (facD p (facI p k st j).2), .sh (row p (facI p k st j).1), .sh (.int k), q5, q6, q7, q8, q9, q10, q11]) ?_ (fun _ _ _ _ => trivial) ?_ ?_ ?_
      · have := si_range2 (K := K) (dr := none) (δ := [.sh (.int p), .sh (row p n), .own ad (facD p st.2), .sh (row p st.1), .sh (.int k), q5, q6, q7, q8, q9, q10, q11]) (s := ds0) (hpw _ rfl rfl) (se_mul (se_int (i := 2)) (hpw _ rfl rfl) (cmul_l (by omega) (by omega))) ⟨by omega, by omega, by omega, by omega⟩
        rw [show ((2 : Int) * (p ^ k : Nat) - (p ^ k : Nat)).toNat = p ^ k by omega] at this
        exact this
      · exact ⟨rfl, q5, q6, q7, q8, q9, q10, q11, rfl⟩
      · rintro j δ s hj ⟨rfl, q5, q6, q7, q8, q9, q10, q11, rfl⟩
        refine ⟨_, sg_name, ?_⟩
        have hq2 : len p (p ^ k + j) = k + 1 := len_pw hp hj
        obtain ⟨q, hq⟩ : ∃ q, q = p ^ k + j := ⟨_, rfl⟩
        have hqi : (((p ^ k : Nat) : Int) + (j : Nat)) = (q : Nat) := by omega
        rw [hqi]
        rw [← hq] at hq2
        have hq0 : q ≠ 0 := fun z => by rw [z, len_zero] at hq2; omega
        have hfl := facI_len hp hk1 hl0 j (by omega)
        have hfc := facI_cnt hp hk1 hl0 j (by omega)
        rw [show facI p k st (j + 1) = facRow p (facI p k st j) q by rw [facI_succ, hq]]
        generalize facI p k st j = su at *
        refine ss_seq (ss_parSS (se_call (sa_cons (ser_var (i := 0) rfl) (sa_cons (ser_var (i := 5) rfl) sa_nil)) ⟨p, q, hp, by omega, rfl, rfl⟩) se_int ?_)
        refine ss_seq (ss_for (s1 := ds0) (n := len p n) (it := fun j => D.int (0 + (j : Nat))) (C := CTrue) (I := fun f δ s => s = ds0 ∧ ∃ (q8 q9 : S) (x : Nat × Nat), x = outF p q f su.1 0 ∧
            δ = [.sh (.int p), .sh (row p n), .own ad (facD p su.2), .sh (row p x.1), .sh (.int k), .sh (.int q), .sh (row p q), .sh (.int x.2), q8, q9, q10, q11]) ?_ (fun _ _ _ _ => trivial) ?_ ?_ ?_)
        · have := si_range1 (K := K) (dr := none) (δ := [.sh (.int p), .sh (row p n), .own ad (facD p su.2), .sh (row p su.1), .sh (.int k), .sh (.int q), .sh (row p q), .sh (.int 0), q8, q9, q10, q11]) (s := ds0) (se_lenRow h2 (ser_var (i := 1) rfl)) (by omega) (by omega)
          rw [Int.toNat_natCast] at this
          exact this
        · exact ⟨rfl, q8, q9, (su.1, 0), rfl, rfl⟩
        · rintro f δ s hf ⟨rfl, q8, q9, x, hx, rfl⟩
          refine ⟨_, sg_name, ?_⟩
          have hxl := outF_len hp (q := q) (by omega) f su.1 0 hfl.2
          rw [← hx] at hxl
          have hnx : outF p q (f + 1) su.1 0 = outS p q x := by rw [outF_back, hx]
          refine ss_seq (ss_set (s1 := ds0) (i := 9) (d := .tup [row p (if len p q ≤ len p x.1 then pdiv p x.1 q else 0), row p (if len p q ≤ len p x.1 then pmod p x.1 q else 1)]) (se_ifT (s1 := ds0) (s2 := ds0) (c := decide (len p q ≤ len p x.1)) (st_cast (st_Test (se_cmp (p := fun i j => decide (j ≤ i)) (se_lenRow h2 (ser_var (i := 3) rfl)) (se_lenRow h2 (ser_var (i := 6) rfl)))) (decide_eq_decide.mpr (by omega))) (fun c => ?_) (fun c => ?_)) ?_)
          · have c := of_decide_eq_true c
            rw [if_pos c, if_pos c]
            exact se_call (sa_cons (ser_var (i := 0) rfl) (sa_cons (ser_var (i := 3) rfl) (sa_cons (ser_var (i := 6) rfl) sa_nil))) ⟨p, x.1, q, hp, by omega, by omega, hq0, rfl, rfl⟩
          · have c := of_decide_eq_false c
            rw [if_neg c, if_neg c, row_one h2]
            exact se_tup (sas_cons (se_nil (p := p)) (sas_cons (se_tup (sas_cons se_int sas_nil) (by rw [sizeLine_eq]; show 1 ≤ _; decide)) sas_nil)) (by rw [sizeLine_eq]; show 2 ≤ _; decide)
          · refine ss_if (st_Test (se_eqRow (a := if len p q ≤ len p x.1 then pmod p x.1 q else 1) h2 (ser_sh (se_snd (ser_var (i := 9) rfl))) (ser_sh (se_nil (p := p))))) (fun c => ?_) (fun c => ss_next ?_)
            · have c := of_decide_eq_true c
              have c1 : len p q ≤ len p x.1 := by
                by_cases z : len p q ≤ len p x.1
                · exact z
                · rw [if_neg z] at c; cases c
              rw [if_pos c1] at c
              refine ss_tas2 (se_fst (ser_var (i := 9) rfl)) (se_add (se_var (i := 7) rfl) se_int) ⟨_, .sh _⟩ ⟨_, .sh _⟩ ?_
              intro z1 z2 w1 w2
              cases w1
              cases w2
              refine ⟨rfl, .sh (.int (0 + (f : Nat))), .sh (.tup [row p (if len p q ≤ len p x.1 then pdiv p x.1 q else 0), row p (if len p q ≤ len p x.1 then pmod p x.1 q else 1)]), (pdiv p x.1 q, x.2 + 1), by rw [hnx]; unfold outS; rw [if_pos ⟨c1, c⟩], ?_⟩
              rw [if_pos c1, if_pos c1]
              push_cast; rfl
            · have c := of_decide_eq_false c
              refine ⟨rfl, .sh (.int (0 + (f : Nat))), .sh (.tup [row p (if len p q ≤ len p x.1 then pdiv p x.1 q else 0), row p (if len p q ≤ len p x.1 then pmod p x.1 q else 1)]), x, ?_, rfl⟩
              rw [hnx]; unfold outS
              rw [if_neg (fun z => by rw [if_pos z.1] at c; exact c z.2)]
        · rintro δ s ⟨rfl, q8, q9, x, hx, rfl⟩
          have e3 : x = out p q su.1 := by rw [hx]; exact outF_fuel hp (by omega) _ _ _ _ hfl.2 (by omega) (Nat.le_refl _)
          refine ss_if (st_Test (se_cmp (p := fun i j => decide (j < i)) (se_var (i := 7) rfl) se_int)) (fun c => ?_) (fun c => ss_next ?_)
          · have ho : 0 < (out p q su.1).2 := by rw [← e3]; have := of_decide_eq_true c; omega
            refine ss_append (j := 2) rfl (se_tup (sas_cons (se_var (i := 6) rfl) (sas_cons (se_var (i := 7) rfl) sas_nil)) (by rw [sizeLine_eq]; show 2 ≤ _; decide)) (by rw [List.length_map, sizeLine_eq]; omega) ⟨rfl, .sh (.int q), .sh (row p q), .sh (.int x.2), q8, q9, q10, q11, ?_⟩
            unfold facRow
            rw [if_pos ho, ← e3]
            unfold facD
            rw [List.map_append]
            rfl
          · have ho : ¬ 0 < (out p q su.1).2 := by rw [← e3]; have := of_decide_eq_false c; omega
            refine ⟨rfl, .sh (.int q), .sh (row p q), .sh (.int x.2), q8, q9, q10, q11, ?_⟩
            unfold facRow
            rw [if_neg ho, ← e3]
      · rintro δ s ⟨rfl, q5, q6, q7, q8, q9, q10, q11, rfl⟩
        have hfl := facI_len hp hk1 hl0 (p ^ k) (Nat.le_refl _)
        have hfc := facI_cnt hp hk1 hl0 (p ^ k) (Nat.le_refl _)
        refine ⟨rfl, facI p k st (p ^ k), ad, .sh (.int k), q5, q6, q7, q8, q9, q10, q11, ?_, by omega, hfl.2, by omega, rfl⟩
        rw [← e, hk]
  · rintro δ s ⟨rfl, st, ad, q4, q5, q6, q7, q8, q9, q10, q11, e, hll, hl0, hcnt, rfl⟩
    refine fin st ad _ _ _ _ _ _ _ _ ?_ (by omega)
    rw [Nat.sub_self] at e
    have e : st = facLoop p (len p n - 1) 1 (M.plain p n, []) := e
    rw [e]; rfl
def lprime (p n : Nat) : Bool := decide (1 < len p n) && (decide (lead p n = 1) && decide (lfac p n = [(n, 1)]))
def rel_law_is_prime : List D → R → Prop := fun ds r => ∃ p n : Nat, Bp p ∧ n ≠ 0 ∧ n ≤ 100000000 ∧ ds = [.int p, row p n] ∧ r = .sh (.bl (lprime p n))
def pyF (p : Nat) (x : Nat × Nat) : PyData := .tuple [.tuple ((dg p x.1).map fun (y : Nat) => PyData.int y), .int x.2]
theorem toPys_facs (p : Nat) : ∀ l : List (Nat × Nat), toPys (l.map (prF p)) = l.map (pyF p)
  | [] => rfl
  | a :: l => by
    rw [List.map_cons, List.map_cons, ← toPys_facs p l]
    show toPy (prF p a) :: _ = _
    congr 1
    show PyData.tuple [.tuple (toPys ((dg p a.1).map fun (x : Nat) => D.int x)), .int a.2] = _
    rw [toPys_ints]; rfl
theorem noDct_facs (p : Nat) : ∀ l : List (Nat × Nat), noDcts (l.map (prF p)) = true
  | [] => rfl
  | a :: l => by
    rw [List.map_cons]; unfold noDcts; rw [noDct_facs p l, Bool.and_true]
    show noDcts [row p a.1, .int a.2] = true
    unfold noDcts; rw [noDct_row]; rfl
theorem lay_facs (p : Nat) : ∀ l : List (Nat × Nat), PyData.canLayAll0 (l.map (pyF p)) = true
  | [] => rfl
  | a :: l => by
    rw [List.map_cons]
    simp only [PyData.canLayAll0, pyF, PyData.canLay0, lay_ints, lay_facs p l, Bool.and_true, Bool.and_self]
theorem depth_facs (p : Nat) : ∀ l : List (Nat × Nat), PyData.depthAll (l.map (pyF p)) ≤ 3
  | [] => by simp [PyData.depthAll]
  | a :: l => by
    have h1 := depth_facs p l
    have h2 := depth_ints (dg p a.1)
    rw [List.map_cons]
    simp only [PyData.depthAll, pyF, PyData.depth]
    omega
theorem shaped_facs (p : Nat) (l : List (Nat × Nat)) : SeqAt.shaped (toPy (facD p l)) = true := by
  show SeqAt.shaped (.list (toPys (l.map (prF p)))) = true
  rw [toPys_facs]
  have h := depth_facs p l
  show (PyData.canLay0 (.list _) && decide (PyData.depth (.list _) ≤ 64)) = true
  rw [Bool.and_eq_true]
  exact ⟨by simp only [PyData.canLay0]; exact lay_facs p l, decide_eq_true (by simp only [PyData.depth]; omega)⟩
theorem eqv_facs (hp : 2 ≤ p) : ∀ l m : List (Nat × Nat), PyData.eqvAll (l.map (pyF p)) (m.map (pyF p)) = decide (l = m)
  | [], [] => rfl
  | a :: l, [] => rfl
  | [], a :: l => rfl
  | (a, e) :: l, (b, f) :: m => by
    rw [List.map_cons, List.map_cons]
    simp only [PyData.eqvAll, PyData.eqv, pyF, eqv_ints, eqv_facs hp l m, Bool.and_true]
    rw [Bool.eq_iff_iff]
    simp
    intro _
    constructor
    · rintro ⟨h1, h2⟩; exact ⟨dg_inj hp h1, by omega⟩
    · rintro ⟨h1, h2⟩; exact ⟨by rw [h1], by omega⟩
theorem se_eqFac {l m : List (Nat × Nat)} (hp : 2 ≤ p) (ha : SeR K dr ta δ s (facD p l) s1) (hb : SeR K dr tb δ s1 (facD p m) s2) : Se K dr (tOp (rEqD K) ta tb) δ s (.sh (.bl (decide (l = m)))) s2 := by
  refine se_cast (se_eqP ha hb (noDct_facs p _) (noDct_facs p _) (shaped_facs p _) (shaped_facs p _)) ?_
  show R.sh (.bl (PyData.eqv (.list (toPys (l.map (prF p)))) (.list (toPys (m.map (prF p)))))) = _
  rw [toPys_facs, toPys_facs]
  simp only [PyData.eqv]
  rw [eqv_facs hp]
/-- slots: 0 base 1 row -/
def t_law_is_prime (K : Frag) : TS := (tRet (tAndV (tOp (rI0 fun i j => .bl (decide (j < i))) (tCB (fun xs H Q => ∃ p ys, xs = [.ref p] ∧ (SqL K H p ys ∨ SqT K H p ys) ∧ Q (.int ys.length) H) (tCons (tVar 1) tNil)) (tC (.int 1))) (tAndV (tOp rEq (tOp (rIxT K) (tVar 1) (tUn (rU fun i => .int (-i)) (tC (.int 1)))) (tC (.int 1))) (tOp (rEqD K) (tCall (spR K rel_law_factors) [] E0 (tCons (tVar 0) (tCons (tVar 1) tNil))) (tLst (tCons (tTup (tCons (tVar 1) (tCons (tC (.int 1)) tNil))) tNil))))))
theorem ss_law_is_prime : ∀ ds r, rel_law_is_prime ds r → SS K none (t_law_is_prime K) (stS 2 ds) ds0 (RetO r) := by
  rintro ds r ⟨p, n, hp, hn, hb, rfl, rfl⟩
  have h2 := hp.two
  refine ss_ret (se_and (se_cast (se_cmp (p := fun i j => decide (j < i)) (se_lenRow h2 (ser_var (i := 1) rfl)) se_int) (r' := .sh (.bl (decide (1 < len p n)))) (by congr 2; exact decide_eq_decide.mpr (by omega))) fun _ =>
    se_and (se_cast (se_eqI (se_ixT (ser_var (i := 1) (by rw [row_eq h2]; rfl)) (se_neg se_int) (at_lead h2 hn)) se_int) (r' := .sh (.bl (decide (lead p n = 1)))) (by congr 2; exact decide_eq_decide.mpr (by omega))) fun _ =>
      se_eqFac (l := lfac p n) (m := [(n, 1)]) h2 (ser_own (se_call (sa_cons (ser_var (i := 0) rfl) (sa_cons (ser_var (i := 1) rfl) sa_nil)) ⟨p, n, hp, hn, hb, rfl, rfl⟩))
        (ser_own (se_lst (sas_cons (se_tup (sas_cons (se_var (i := 1) rfl) (sas_cons se_int sas_nil)) (by rw [sizeLine_eq]; show 2 ≤ _; decide)) sas_nil) (by rw [sizeLine_eq]; show 1 ≤ _; decide)))) rfl
end
end EL
set_option maxRecDepth 100000
set_option maxHeartbeats 1000000
/-! W8: draws -/
namespace EL
open PySem PySem.Spec L2 M
/-! ### what draws give -/
def mixV (c : Int) (cells : List Int) : Int :=
  (cells ++ [c]).foldl (fun f x => ((f + x) * 1099511628211 % (2 ^ 61 - 1)) + ((f + x) * 1099511628211 % (2 ^ 61 - 1)) / 2 ^ 17) (1469598103934665603 + 97 * c)
def tk (s : DS) (n : Nat) : Nat × DS :=
  if n < 2 then (0, s) else if 0 < s.whole then ((s.whole % n).toNat, { s with whole := s.whole / n }) else ((mixV (s.count + 1) s.cells / 1024 % n).toNat, { s with count := s.count + 1 })
theorem tk_lt {s : DS} {n : Nat} (h : 0 < n) : (tk s n).1 < n := by
  unfold tk
  by_cases z : n < 2
  · rw [if_pos z]; exact h
  · rw [if_neg z]
    by_cases w : 0 < s.whole
    · rw [if_pos w]
      have := Int.emod_lt_of_pos s.whole (show (0 : Int) < n by omega)
      have := Int.emod_nonneg s.whole (show (n : Int) ≠ 0 by omega)
      show (s.whole % n).toNat < n
      omega
    · rw [if_neg w]
      have := Int.emod_lt_of_pos (mixV (s.count + 1) s.cells / 1024) (show (0 : Int) < n by omega)
      have := Int.emod_nonneg (mixV (s.count + 1) s.cells / 1024) (show (n : Int) ≠ 0 by omega)
      show (_ % (n : Int)).toNat < n
      omega
theorem tk_same (s : DS) (n : Nat) : (tk s n).2.ca = s.ca ∧ (tk s n).2.cells = s.cells := by
  unfold tk
  by_cases z : n < 2
  · rw [if_pos z]; exact ⟨rfl, rfl⟩
  · rw [if_neg z]
    by_cases w : 0 < s.whole
    · rw [if_pos w]; exact ⟨rfl, rfl⟩
    · rw [if_neg w]; exact ⟨rfl, rfl⟩
section
variable {K : Frag} {dr : Option Addr} {δ : List S} {s s1 s2 s3 : DS} {ta tb te : TE} {p : Nat} {a : Addr} {O : Out → Prop}
/-! ### the state read and written -/
theorem se_dW {i : Nat} (hd : dr = some a) (hi : δ[i]? = some (.rf a)) : Se K dr (tDGet (tVar i) (tC (.str "whole"))) δ s (.sh (.int s.whole)) s := fun H0 Hs H σ E Q q => by
  refine ⟨.ref a, E.slot i _ hi, a, _, rfl, .inl ⟨_, .inr "whole", .inl (E.drw a hd).1, rfl, rfl⟩, q _ _ _ E .refl rfl⟩
theorem se_dN {i : Nat} (hd : dr = some a) (hi : δ[i]? = some (.rf a)) : Se K dr (tDGet (tVar i) (tC (.str "count"))) δ s (.sh (.int s.count)) s := fun H0 Hs H σ E Q q => by
  refine ⟨.ref a, E.slot i _ hi, a, _, rfl, .inl ⟨_, .inr "count", .inl (E.drw a hd).1, rfl, rfl⟩, q _ _ _ E .refl rfl⟩
theorem Env.drawn {H0 Hs H : Hp} {σ : L2.St} (E : Env K dr H0 Hs H σ δ s) (hd : dr = some a) {s' : DS} (hc : s'.ca = s.ca ∧ s'.cells = s.cells) :
    Env K dr H0 Hs (upd H a (.dK [(.inr "whole", .int s'.whole), (.inr "cells", .ref s'.ca), (.inr "count", .int s'.count)])) σ δ s' where
  ext := fun b o e => by
    obtain ⟨h1, o1, h2⟩ := E.ext b o e
    by_cases z : b = a
    · subst z; exact ⟨fun n => (n hd).elim, _, upd_same⟩
    · rw [upd_ne z]; exact ⟨h1, o1, h2⟩
  sub := fun b o e => by
    have := E.sub b o e
    have h := hm_some this
    have z : b ≠ a := fun z => h.1 (by rw [hd, z])
    rw [hm_ne h.1, upd_ne z]; exact h.2
  slot := fun i r e => by
    have q := E.slot i r e
    cases r with
    | own b d =>
      obtain ⟨q1, q2, q3, o, q4, q5⟩ := q
      have nb : b ≠ a := fun z => E.own_ne e (by rw [hd, z])
      exact ⟨q1, q2, q3, o, by rw [upd_ne nb]; exact q4, q5⟩
    | _ => exact q
  sep := E.sep
  drw := fun b z => by
    rw [hd] at z; cases z
    exact ⟨upd_same, by rw [hc.1, hc.2]; exact (E.drw a hd).2⟩
  dr0 := E.dr0
  len := E.len
theorem ss_dW {i : Nat} {w : Int} (hd : dr = some a) (hi : δ[i]? = some (.rf a)) (h : Se K dr te δ s (.sh (.int w)) s1) (k : O (.nx δ { s1 with whole := w })) : SS K dr (sDPut (tVar i) (tC (.str "whole")) te) δ s O := fun H0 Hs H σ E D p =>
  h H0 Hs H σ E _ fun v Hs1 H1 E1 st1 r1 => by
    cases (show v = _ from r1)
    refine ⟨.ref a, E1.slot i _ hi, a, _, rfl, .inl ⟨_, .inr "whole", (E1.drw a hd).1, rfl, by rw [sizeLine_eq]; show 3 < _; decide, rfl⟩, p.nx _ _ k _ _ _ st1.same ?_⟩
    have := E1.drawn hd (s' := { s1 with whole := w }) ⟨rfl, rfl⟩
    exact this
theorem ss_dN {i : Nat} {w : Int} (hd : dr = some a) (hi : δ[i]? = some (.rf a)) (h : Se K dr te δ s (.sh (.int w)) s1) (k : O (.nx δ { s1 with count := w })) : SS K dr (sDPut (tVar i) (tC (.str "count")) te) δ s O := fun H0 Hs H σ E D p =>
  h H0 Hs H σ E _ fun v Hs1 H1 E1 st1 r1 => by
    cases (show v = _ from r1)
    refine ⟨.ref a, E1.slot i _ hi, a, _, rfl, .inl ⟨_, .inr "count", (E1.drw a hd).1, rfl, by rw [sizeLine_eq]; show 3 < _; decide, rfl⟩, p.nx _ _ k _ _ _ st1.same ?_⟩
    have := E1.drawn hd (s' := { s1 with count := w }) ⟨rfl, rfl⟩
    exact this
theorem ints_Ts {H : Hp} : ∀ l : List Int, Ts K H (l.map D.int) (l.map V.int)
  | [] => rfl
  | i :: l => ⟨_, _, rfl, rfl, ints_Ts l⟩
/-- draw["cells"] + [x] -/
theorem se_dCat {i : Nat} {x : Int} (hd : dr = some a) (hi : δ[i]? = some (.rf a)) (hb : Se K dr tb δ s (.own (.lst [.int x])) s) (hl : s.cells.length + 1 ≤ sizeLine) : Se K dr (tOp rCat (tDGet (tVar i) (tC (.str "cells"))) tb) δ s (.own (.lst ((s.cells ++ [x]).map D.int))) s := fun H0 Hs H σ E Q q => by
  refine ⟨.ref a, E.slot i _ hi, a, _, rfl, .inl ⟨_, .inr "cells", .inl (E.drw a hd).1, rfl, rfl⟩, ?_⟩
  refine hb H0 Hs H σ E _ fun u Hs2 H2 E2 st2 r2 => ?_
  obtain ⟨b, h', e', n', hs', ho', vs', eh', t2⟩ := r2
  subst eh'
  have hc := (E2.drw a hd).2
  have hc2 := (hm_some (E2.sub _ _ hc)).2
  have hv : vs' = [.int x] := Ts.ints_eq (l := [x]) t2
  subst hv
  refine ⟨s.ca, b, s.cells.map V.int, [.int x], rfl, e', hc2, ho', by rw [List.length_map]; exact hl, fun p hp => ?_⟩
  obtain ⟨E3, st3, hs3⟩ := E2.newO hp (.lst (s.cells.map V.int ++ [.int x]))
  refine q _ _ _ E3 (st2.trans st3) ⟨p, _, rfl, st2.ext.free hp, hs3, upd_same, _, rfl, ?_⟩
  have := ints_Ts (K := K) (H := Hs2) (s.cells ++ [x])
  rw [List.map_append (f := V.int)] at this
  exact this
end
/-! ### the defs -/
def CL : Nat := 100
def rel_law_mixed : List D → DS → R → DS → Prop := fun ds s r s' => ds = [] ∧ s.cells.length ≤ 100 ∧ r = .sh (.int (mixV (s.count + 1) s.cells)) ∧ s' = { s with count := s.count + 1 }
/-- slots: 0 draw 1 found 2 cell -/
def t_law_mixed (K : Frag) : TS := (tSeq (sDPut (tVar 0) (tC (.str "count")) (tOp (rI0 fun i j => .int (i + j)) (tDGet (tVar 0) (tC (.str "count"))) (tC (.int 1)))) (tSeq (tAsg (tOp (rI0 fun i j => .int (i + j)) (tC (.int 1469598103934665603)) (tOp (rI CMul fun i j => .int (i * j)) (tC (.int 97)) (tDGet (tVar 0) (tC (.str "count"))))) (gName 1)) (tSeq (tFor (iList K (tOp rCat (tDGet (tVar 0) (tC (.str "cells"))) (tLst (tCons (tDGet (tVar 0) (tC (.str "count"))) tNil)))) (gName 2) (tSeq (tAsg (tOp (rI (fun _ j => 0 < j) fun i j => .int (i % j)) (tCB (fun xs H Q => (∃ i, xs = [.int i] ∧ Q (.int i) H) ∨ ∃ k, xs = [.bl k] ∧ Q (.int (if k then 1 else 0)) H) (tCons (tOp (rI CMul fun i j => .int (i * j)) (tOp (rI0 fun i j => .int (i + j)) (tVar 1) (tVar 2)) (tC (.int 1099511628211))) tNil)) (tOp (rI0 fun i j => .int (i - j)) (tOp (rI CPow fun i j => .int (i ^ j.toNat)) (tC (.int 2)) (tC (.int 61))) (tC (.int 1)))) (gName 1)) (tAsg (tOp (rI0 fun i j => .int (i + j)) (tVar 1) (tOp (rI CDiv fun i j => .int (i / j)) (tVar 1) (tOp (rI CPow fun i j => .int (i ^ j.toNat)) (tC (.int 2)) (tC (.int 17))))) (gName 1)))) (tRet (tVar 1)))))
section
variable {K : Frag} {p : Nat} {a : Addr}
theorem ss_law_mixed : ∀ ds s r s', rel_law_mixed ds s r s' → SS K (some a) (t_law_mixed K) (stD 3 a ds) s (RetD r s') := by
  rintro ds s r s' ⟨rfl, hl, rfl, rfl⟩
  have hi : (stD 3 a [])[0]? = some (.rf a) := rfl
  refine ss_seq (ss_dN rfl rfl (se_add (se_dN rfl rfl) se_int) ?_)
  generalize hs : ({ s with count := s.count + 1 } : DS) = s1
  have hc1 : s1.cells = s.cells := by rw [← hs]
  have hn1 : s1.count = s.count + 1 := by rw [← hs]
  refine ss_seq (ss_set (se_add (se_int (i := 1469598103934665603)) (se_mul (se_int (i := 97)) (se_dN rfl rfl) (.inl ⟨by decide, by decide⟩))) ?_)
  let step : Int → Int → Int := fun f x => ((f + x) * 1099511628211 % (2 ^ 61 - 1)) + ((f + x) * 1099511628211 % (2 ^ 61 - 1)) / 2 ^ 17
  let L : List Int := s1.cells ++ [s1.count]
  let F : Nat → Int := fun i => (L.take i).foldl step (1469598103934665603 + 97 * s1.count)
  refine ss_seq (ss_forF (fun i => [.rf a, .sh (.int (F i)), .no]) (fun i => [.rf a, .sh (.int (F i)), .sh (.int (L.getD i 0))]) (si_lst (se_pub (se_dCat rfl rfl (se_lst (sas_cons (se_dN rfl rfl) sas_nil) (by rw [sizeLine_eq]; show 1 ≤ _; decide)) (by rw [sizeLine_eq, hc1]; omega)))) (fun _ => trivial) ⟨.inr rfl, .inr rfl, .inl rfl, trivial⟩ (fun i hi => ?_) (fun i hi => ?_) ?_)
  · rw [List.length_map] at hi
    have : ((s1.cells ++ [s1.count]).map D.int).getD i .non = .int (L.getD i 0) := by
      rw [List.getD_eq_getElem?_getD, List.getElem?_map, List.getD_eq_getElem?_getD, List.getElem?_eq_getElem hi]; rfl
    rw [this]
    exact sg_name
  · rw [List.length_map] at hi
    have hF : F (i + 1) = step (F i) (L.getD i 0) := by
      show (L.take (i + 1)).foldl _ _ = _
      rw [List.take_add_one, List.foldl_append, List.getElem?_eq_getElem hi, List.getD_eq_getElem?_getD, List.getElem?_eq_getElem hi]; rfl
    have hpw : Se K (some a) (tOp (rI CPow fun i j => .int (i ^ j.toNat)) (tC (.int 2)) (tC (.int 61))) [.rf a, .sh (.int (F i)), .sh (.int (L.getD i 0))] s1 (.sh (.int (2 ^ 61))) s1 := se_pow (i := 2) (j := 61) se_int se_int ⟨by decide, by decide, by decide⟩
    refine ss_seq (ss_set (se_mod (se_int1 (se_mul (se_add (se_var (i := 1) rfl) (se_var (i := 2) rfl)) (se_int (i := 1099511628211)) (.inr ⟨by decide, by decide⟩))) (se_sub hpw se_int) (by decide)) ?_)
    refine ss_set (se_add (se_var (i := 1) rfl) (se_div (se_var (i := 1) rfl) (se_pow (i := 2) (j := 17) se_int se_int ⟨by decide, by decide, by decide⟩) ⟨by decide, by decide⟩)) ⟨rfl, .inr rfl, .inr ?_, .inl rfl, trivial⟩
    rw [hF]; rfl
  · refine ss_ret (se_var (i := 1) rfl) ⟨?_, rfl⟩
    show R.sh (.int (F _)) = _
    congr 2
    show (L.take _).foldl _ _ = _
    rw [List.length_map, List.take_length]
    show L.foldl _ _ = _
    unfold mixV
    rw [← hc1, ← hn1]
def rel_law_take : List D → DS → R → DS → Prop := fun ds s r s' => ∃ n : Nat, n ≤ 1000000 ∧ s.cells.length ≤ 100 ∧ ds = [.int n] ∧ r = .sh (.int (tk s n).1) ∧ s' = (tk s n).2
/-- slots: 0 draw 1 amount 2 found -/
def t_law_take (K : Frag) : TS := (tSeq (tIfS (tTest (tOp (rI0 fun i j => .bl (decide (i < j))) (tVar 1) (tC (.int 2)))) (tRet (tC (.int 0))) tNext) (tSeq (tIfS (tTest (tOp (rI0 fun i j => .bl (decide (j < i))) (tDGet (tVar 0) (tC (.str "whole"))) (tC (.int 0)))) (tSeq (tAsg (tOp (rI (fun _ j => 0 < j) fun i j => .int (i % j)) (tCB (fun xs H Q => (∃ i, xs = [.int i] ∧ Q (.int i) H) ∨ ∃ k, xs = [.bl k] ∧ Q (.int (if k then 1 else 0)) H) (tCons (tDGet (tVar 0) (tC (.str "whole"))) tNil)) (tVar 1)) (gName 2)) (tSeq (sDPut (tVar 0) (tC (.str "whole")) (tOp (rI CDiv fun i j => .int (i / j)) (tDGet (tVar 0) (tC (.str "whole"))) (tVar 1))) (tRet (tVar 2)))) tNext) (tSeq (tAsg (tCall (spD K rel_law_mixed) [] E0 (tCons (tVar 0) tNil)) (gName 2)) (tSeq (tWhile (tAnd (tTest (tOp (rI0 fun i j => .bl (decide (j < i))) (tVar 1) (tOp (rI CPow fun i j => .int (i ^ j.toNat)) (tC (.int 2)) (tC (.int 50))))) (tTest (tOp (rI0 fun i j => .bl (decide (i < j))) (tVar 2) (tOp (rI CMul fun i j => .int (i * j)) (tVar 1) (tVar 1))))) (tAsg (tOp (rI0 fun i j => .int (i + j)) (tOp (rI CMul fun i j => .int (i * j)) (tVar 2) (tOp (rI CPow fun i j => .int (i ^ j.toNat)) (tC (.int 2)) (tC (.int 61)))) (tCall (spD K rel_law_mixed) [] E0 (tCons (tVar 0) tNil))) (gName 2))) (tRet (tOp (rI (fun _ j => 0 < j) fun i j => .int (i % j)) (tCB (fun xs H Q => (∃ i, xs = [.int i] ∧ Q (.int i) H) ∨ ∃ k, xs = [.bl k] ∧ Q (.int (if k then 1 else 0)) H) (tCons (tOp (rI CDiv fun i j => .int (i / j)) (tVar 2) (tC (.int 1024))) tNil)) (tVar 1)))))))
theorem ss_law_take : ∀ ds s r s', rel_law_take ds s r s' → SS K (some a) (t_law_take K) (stD 3 a ds) s (RetD r s') := by
  rintro ds s r s' ⟨n, hn, hl, rfl, rfl, rfl⟩
  refine ss_seq (ss_if (st_Test (se_cmp (p := fun i j => decide (i < j)) (se_var (i := 1) rfl) se_int)) (fun c => ?_) (fun c => ss_next ?_))
  · have c : n < 2 := by have := of_decide_eq_true c; omega
    refine ss_ret se_int ?_
    unfold tk; rw [if_pos c]; exact ⟨rfl, rfl⟩
  · have c : ¬ n < 2 := by have := of_decide_eq_false c; omega
    refine ss_seq (ss_if (st_Test (se_cmp (p := fun i j => decide (j < i)) (se_dW rfl rfl) se_int)) (fun w => ?_) (fun w => ss_next ?_))
    · have w : 0 < s.whole := of_decide_eq_true w
      refine ss_seq (ss_set (se_mod (se_int1 (se_dW rfl rfl)) (se_var (i := 1) rfl) (by omega)) ?_)
      refine ss_seq (ss_dW rfl rfl (se_div (se_dW rfl rfl) (se_var (i := 1) rfl) ⟨by omega, by omega⟩) ?_)
      refine ss_ret (se_var (i := 2) rfl) ?_
      unfold tk; rw [if_neg c, if_pos w]
      refine ⟨?_, rfl⟩
      show R.sh (.int (s.whole % n)) = R.sh (.int ((s.whole % n).toNat : Nat))
      have := Int.emod_nonneg s.whole (show (n : Int) ≠ 0 by omega)
      rw [Int.toNat_of_nonneg this]
    · have w : ¬ 0 < s.whole := of_decide_eq_false w
      refine ss_seq (ss_set (se_callD rfl rfl sa_nil ⟨rfl, hl, rfl, rfl⟩ ⟨rfl, rfl⟩) ?_)
      refine ss_seq (ss_while (m := 0) (fun m δ s1 => δ = [.rf a, .sh (.int n), .sh (.int (mixV (s.count + 1) s.cells))] ∧ s1 = { s with count := s.count + 1 }) ⟨rfl, rfl⟩ ?_)
      rintro m δ s1 ⟨rfl, rfl⟩
      refine ⟨false, _, st_cast (st_and (c := false) (st_Test (se_cmp (p := fun i j => decide (j < i)) (se_var (i := 1) rfl) (se_pow (i := 2) (j := 50) se_int se_int ⟨by decide, by decide, by decide⟩))) (fun e => ?_)) (Bool.and_false _), (fun e => by cases e), fun _ => ?_⟩
      · exfalso
        have := of_decide_eq_true e
        have h50 : (2 : Int) ^ (50 : Int).toNat = 1125899906842624 := rfl
        omega
      · refine ss_ret (se_mod (se_int1 (se_div (se_var (i := 2) rfl) (se_int (i := 1024)) ⟨by decide, by decide⟩)) (se_var (i := 1) rfl) (by omega)) ?_
        unfold tk; rw [if_neg c, if_neg w]
        refine ⟨?_, rfl⟩
        show R.sh (.int (mixV (s.count + 1) s.cells / 1024 % n)) = R.sh (.int ((mixV (s.count + 1) s.cells / 1024 % n).toNat : Nat))
        have := Int.emod_nonneg (mixV (s.count + 1) s.cells / 1024) (show (n : Int) ≠ 0 by omega)
        rw [Int.toNat_of_nonneg this]
end
end EL
set_option maxRecDepth 100000
set_option maxHeartbeats 1000000
/-! W9: drawn primes, moduli -/
namespace EL
open PySem PySem.Spec L2 M
def sameC (s s' : DS) : Prop := s'.ca = s.ca ∧ s'.cells = s.cells
theorem sameC.refl (s : DS) : sameC s s := ⟨rfl, rfl⟩
theorem sameC.trans {s s1 s2 : DS} (h : sameC s s1) (k : sameC s1 s2) : sameC s s2 := ⟨k.1.trans h.1, k.2.trans h.2⟩
def primeF (s : DS) (p most : Nat) : Nat × DS :=
  let first := p ^ (1 + (tk s most).1)
  let x := tk (tk s most).2 first
  ((((List.range first).map fun lap => first + (x.1 + lap) % first).find? (lprime p)).getD p, x.2)
theorem primeF_same (s : DS) (p most : Nat) : sameC s (primeF s p most).2 := sameC.trans (tk_same s most) (tk_same _ _)
theorem primeF_ok {s : DS} {p most : Nat} (hp : Bp p) (hm : 0 < most) : p ≤ (primeF s p most).1 ∧ len p (primeF s p most).1 ≤ most + 1 := by
  have h2 := hp.two
  have hl := tk_lt (s := s) hm
  have hp1 : len p p ≤ most + 1 := by
    rw [len_le_iff h2]
    calc p < p * p := by have := Nat.mul_lt_mul_of_lt_of_le (show 1 < p by omega) (Nat.le_refl p) (by omega); omega
      _ = p ^ 2 := by rw [Nat.pow_two]
      _ ≤ p ^ (most + 1) := Nat.pow_le_pow_right (by omega) (by omega)
  show p ≤ ((List.find? (lprime p) _).getD p) ∧ len p ((List.find? (lprime p) _).getD p) ≤ most + 1
  generalize tk s most = x at *
  generalize tk x.2 (p ^ (1 + x.1)) = y
  cases h : List.find? (lprime p) ((List.range (p ^ (1 + x.1))).map fun lap => p ^ (1 + x.1) + (y.1 + lap) % p ^ (1 + x.1)) with
  | none => exact ⟨Nat.le_refl _, hp1⟩
  | some v =>
    have hv := List.mem_of_find?_eq_some h
    obtain ⟨i, hi, rfl⟩ := List.mem_map.mp hv
    have h0 : 0 < p ^ (1 + x.1) := Nat.pow_pos (by omega)
    have hmod := Nat.mod_lt (y.1 + i) h0
    have hle : p ≤ p ^ (1 + x.1) := by
      have := Nat.pow_le_pow_right (show 0 < p by omega) (show 1 ≤ 1 + x.1 by omega)
      rwa [Nat.pow_one] at this
    refine ⟨Nat.le_trans hle (Nat.le_add_right _ _), ?_⟩
    show len p (p ^ (1 + x.1) + (y.1 + i) % p ^ (1 + x.1)) ≤ _
    rw [len_pw hp hmod]; omega
def modStep (p most way prime : Nat) (x : Nat × DS) : Nat × DS :=
  let y := if way = 1 then (prime, x.2) else primeF x.2 p 2
  (if len p (pmul p x.1 y.1) ≤ most ∧ way < 4 then pmul p x.1 y.1 else x.1, y.2)
def modLoop (p most way prime : Nat) : Nat → Nat × DS → Nat × DS
  | 0, x => x
  | k + 1, x => modStep p most way prime (modLoop p most way prime k x)
def modEnd (p most way : Nat) (x : Nat × DS) : Nat × DS :=
  if way = 3 then (pmul p x.1 (1 + (tk x.2 (p - 1)).1), (tk x.2 (p - 1)).2) else if way < 4 then x else (p + (tk x.2 (p ^ most - p)).1, (tk x.2 (p ^ most - p)).2)
def modF (s : DS) (p most : Nat) : Nat × DS :=
  let w := tk s 5
  let q := primeF w.2 p 2
  if w.1 = 0 then primeF q.2 p (most - 1) else
    let n := tk q.2 4
    modEnd p most w.1 (modLoop p most w.1 q.1 (1 + n.1) (q.1, n.2))
theorem modLoop_ok {p most way prime : Nat} (hp : Bp p) (hm : 3 ≤ most) (hq : prime ≠ 0) : ∀ k x, x.1 ≠ 0 ∧ p ≤ x.1 ∧ len p x.1 ≤ most → sameC x.2 (modLoop p most way prime k x).2 ∧ (modLoop p most way prime k x).1 ≠ 0 ∧ p ≤ (modLoop p most way prime k x).1 ∧ len p (modLoop p most way prime k x).1 ≤ most
  | 0, x, h => ⟨sameC.refl _, h⟩
  | k + 1, x, h => by
    have ih := modLoop_ok (way := way) hp hm hq k x h
    show sameC x.2 (modStep p most way prime _).2 ∧ (modStep p most way prime _).1 ≠ 0 ∧ p ≤ (modStep p most way prime _).1 ∧ len p (modStep p most way prime _).1 ≤ most
    generalize modLoop p most way prime k x = y at *
    unfold modStep
    have hz : ∀ z : Nat × DS, z = (if way = 1 then (prime, y.2) else primeF y.2 p 2) → z.1 ≠ 0 ∧ sameC y.2 z.2 := by
      intro z hz
      by_cases w : way = 1
      · rw [if_pos w] at hz; subst hz; exact ⟨hq, sameC.refl _⟩
      · rw [if_neg w] at hz; subst hz
        have := primeF_ok (s := y.2) (most := 2) hp (by decide)
        have := hp.two
        exact ⟨by omega, primeF_same _ _ _⟩
    obtain ⟨z, e⟩ : ∃ z, z = (if way = 1 then (prime, y.2) else primeF y.2 p 2) := ⟨_, rfl⟩
    have hz := hz z e
    simp only
    rw [← e]
    refine ⟨ih.1.trans hz.2, ?_⟩
    show (if len p (pmul p y.1 z.1) ≤ most ∧ way < 4 then pmul p y.1 z.1 else y.1) ≠ 0 ∧ p ≤ (if len p (pmul p y.1 z.1) ≤ most ∧ way < 4 then pmul p y.1 z.1 else y.1) ∧ len p (if len p (pmul p y.1 z.1) ≤ most ∧ way < 4 then pmul p y.1 z.1 else y.1) ≤ most
    by_cases c : len p (pmul p y.1 z.1) ≤ most ∧ way < 4
    · rw [if_pos c]
      have h2 := hp.two
      have hl := len_pmul hp hz.1 _ ih.2.1
      have hy2 : 2 ≤ len p y.1 := by
        by_cases g : len p y.1 ≤ 1
        · rw [len_le_iff h2, Nat.pow_one] at g; omega
        · omega
      have hz1 := len_ne h2 hz.1
      have hge : ¬ len p (pmul p y.1 z.1) ≤ 1 := by omega
      rw [len_le_iff h2, Nat.pow_one] at hge
      exact ⟨by omega, by omega, c.1⟩
    · rw [if_neg c]; exact ih.2
theorem modF_ok {s : DS} {p most : Nat} (hp : Bp p) (hm : 3 ≤ most) : sameC s (modF s p most).2 ∧ p ≤ (modF s p most).1 ∧ len p (modF s p most).1 ≤ most := by
  have h2 := hp.two
  have h5 := hp.le
  have hw := tk_same s 5
  unfold modF
  simp only
  have hq := primeF_ok (s := (tk s 5).2) (most := 2) hp (by decide)
  have hqs := primeF_same (tk s 5).2 p 2
  generalize tk s 5 = w at *
  generalize primeF w.2 p 2 = q at *
  by_cases w0 : w.1 = 0
  · rw [if_pos w0]
    have := primeF_ok (s := q.2) (most := most - 1) hp (by omega)
    exact ⟨(sameC.trans hw hqs).trans (primeF_same _ _ _), this.1, by omega⟩
  · rw [if_neg w0]
    have hn := tk_same q.2 4
    generalize tk q.2 4 = n at *
    have hx := modLoop_ok (p := p) (most := most) (way := w.1) (prime := q.1) hp hm (by omega) (1 + n.1) (q.1, n.2) ⟨by show q.1 ≠ 0; omega, hq.1, by show len p q.1 ≤ _; omega⟩
    have hs0 : sameC s n.2 := (sameC.trans hw hqs).trans hn
    generalize modLoop p most w.1 q.1 (1 + n.1) (q.1, n.2) = x at *
    have hsx : sameC s x.2 := hs0.trans hx.1
    unfold modEnd
    by_cases w3 : w.1 = 3
    · rw [if_pos w3]
      have ht := tk_lt (s := x.2) (n := p - 1) (by omega)
      refine ⟨hsx.trans (tk_same _ _), ?_⟩
      show p ≤ pmul p x.1 _ ∧ len p (pmul p x.1 _) ≤ most
      generalize (tk x.2 (p - 1)).1 = t at *
      have hc : 1 + t < p := by omega
      have l1 : len p (1 + t) = 1 := by
        have := len_cons h2 (x := 0) hc (.inl (by omega))
        rw [Nat.mul_zero, Nat.add_zero, len_zero] at this; exact this
      have hl := len_pmul hp (b := 1 + t) (by omega) _ hx.2.1
      have hy2 : 2 ≤ len p x.1 := by
        by_cases g : len p x.1 ≤ 1
        · rw [len_le_iff h2, Nat.pow_one] at g; omega
        · omega
      have hge : ¬ len p (pmul p x.1 (1 + t)) ≤ 1 := by omega
      rw [len_le_iff h2, Nat.pow_one] at hge
      exact ⟨by omega, by omega⟩
    · rw [if_neg w3]
      by_cases w4 : w.1 < 4
      · rw [if_pos w4]; exact ⟨hsx, hx.2.2⟩
      · rw [if_neg w4]
        have hpm : p * 2 ≤ p ^ most := by
          calc p * 2 ≤ p * p := Nat.mul_le_mul_left _ h2
            _ = p ^ 2 := (Nat.pow_two p).symm
            _ ≤ p ^ most := Nat.pow_le_pow_right (by omega) (by omega)
        have ht := tk_lt (s := x.2) (n := p ^ most - p) (by omega)
        refine ⟨hsx.trans (tk_same _ _), by show p ≤ _ + _; omega, ?_⟩
        show len p (_ + _) ≤ most
        rw [len_le_iff h2]; omega
section
variable {K : Frag} {p : Nat} {a : Addr} {δ : List S} {s s1 : DS} {ta : TE}
def rel_law_pick : List D → DS → R → DS → Prop := fun ds s r s' => ∃ l : List Int, l ≠ [] ∧ l.length ≤ 100000 ∧ s.cells.length ≤ 100 ∧ ds = [.lst (l.map D.int)] ∧ r = .sh (.int (l.getD (tk s l.length).1 0)) ∧ s' = (tk s l.length).2
/-- slots: 0 draw 1 items -/
def t_law_pick (K : Frag) : TS := (tRet (tOp (rIxL K) (tVar 1) (tCall (spD K rel_law_take) [] E0 (tCons (tVar 0) (tCons (tCB (fun xs H Q => ∃ p ys, xs = [.ref p] ∧ (SqL K H p ys ∨ SqT K H p ys) ∧ Q (.int ys.length) H) (tCons (tVar 1) tNil)) tNil)))))
theorem ss_law_pick : ∀ ds s r s', rel_law_pick ds s r s' → SS K (some a) (t_law_pick K) (stD 2 a ds) s (RetD r s') := by
  rintro ds s r s' ⟨l, h0, hl, hc, rfl, rfl, rfl⟩
  have hpos : 0 < l.length := List.length_pos_iff.mpr h0
  have ht := tk_lt (s := s) hpos
  refine ss_ret (se_ixL (ser_var (i := 1) rfl) (se_callD rfl rfl (sa_cons (ser_sh (se_cast (se_len (ser_var (i := 1) rfl) (.lst _)) (by rw [List.length_map]))) sa_nil) ⟨l.length, by omega, hc, rfl, rfl, rfl⟩ (tk_same _ _)) (atI_of (m := (tk s l.length).1) rfl ?_)) ⟨rfl, rfl⟩
  rw [List.getElem?_map, List.getD_eq_getElem?_getD, List.getElem?_eq_getElem ht]; rfl
theorem find_range {P : Nat → Bool} {f : Nat → Nat} {i n : Nat} (hi : i < n) (hn : ((List.range i).map f).find? P = none) (h : P (f i) = true) : ((List.range n).map f).find? P = some (f i) := by
  obtain ⟨k, rfl⟩ : ∃ k, n = (i + 1) + k := ⟨n - (i + 1), by omega⟩
  rw [List.range_add, List.range_succ, List.map_append, List.map_append, List.find?_append, List.find?_append, hn]
  simp [h]
theorem find_range_no {P : Nat → Bool} {f : Nat → Nat} {i : Nat} (hn : ((List.range i).map f).find? P = none) (h : P (f i) = false) : ((List.range (i + 1)).map f).find? P = none := by
  rw [List.range_succ, List.map_append, List.find?_append, hn]
  simp [h]
def rel_law_prime : List D → DS → R → DS → Prop := fun ds s r s' => ∃ p most : Nat, Bp p ∧ 0 < most ∧ most ≤ 8 ∧ s.cells.length ≤ 100 ∧ ds = [.int p, .int most] ∧ r = .sh (.int (primeF s p most).1) ∧ s' = (primeF s p most).2
/-- _law_take(draw, x), draw in slot 0 -/
theorem se_tk {n : Nat} (hi : δ[0]? = some (.rf a)) (h : Se K (some a) ta δ s (.sh (.int n)) s1) (hn : n ≤ 1000000) (hc : s1.cells.length ≤ 100) : Se K (some a) (tCall (spD K rel_law_take) [] E0 (tCons (tVar 0) (tCons ta tNil))) δ s (.sh (.int (tk s1 n).1)) (tk s1 n).2 :=
  se_callD rfl hi (sa_cons (ser_sh h) sa_nil) ⟨n, hn, hc, rfl, rfl, rfl⟩ (tk_same _ _)
/-- slots: 0 draw 1 base 2 most 3 size 4 first 5 at 6 lap 7 number -/
def t_law_prime (K : Frag) : TS := (tSeq (tAsg (tOp (rI0 fun i j => .int (i + j)) (tC (.int 1)) (tCall (spD K rel_law_take) [] E0 (tCons (tVar 0) (tCons (tVar 2) tNil)))) (gName 3)) (tSeq (tAsg (tCall (spR K rel_law_power) [] E0 (tCons (tVar 1) (tCons (tVar 3) tNil))) (gName 4)) (tSeq (tAsg (tCall (spD K rel_law_take) [] E0 (tCons (tVar 0) (tCons (tVar 4) tNil))) (gName 5)) (tSeq (tFor (iRng1 (tCons (tVar 4) tNil)) (gName 6) (tSeq (tAsg (tOp (rI0 fun i j => .int (i + j)) (tVar 4) (tOp (rI (fun _ j => 0 < j) fun i j => .int (i % j)) (tCB (fun xs H Q => (∃ i, xs = [.int i] ∧ Q (.int i) H) ∨ ∃ k, xs = [.bl k] ∧ Q (.int (if k then 1 else 0)) H) (tCons (tOp (rI0 fun i j => .int (i + j)) (tVar 5) (tVar 6)) tNil)) (tVar 4))) (gName 7)) (tIfS (tB (tCall (spR K rel_law_is_prime) [] E0 (tCons (tVar 1) (tCons (tCall (spR K rel_law_row) [] E0 (tCons (tVar 1) (tCons (tVar 7) tNil))) tNil)))) (tRet (tVar 7)) tNext))) (tRet (tVar 1))))))
theorem ss_law_prime : ∀ ds s r s', rel_law_prime ds s r s' → SS K (some a) (t_law_prime K) (stD 8 a ds) s (RetD r s') := by
  rintro ds s r s' ⟨p, most, hp, hm, hm8, hc, rfl, rfl, rfl⟩
  have h2 := hp.two
  have h5 := hp.le
  have hl := tk_lt (s := s) hm
  have ht1 := tk_same s most
  refine ss_seq (ss_set (i := 3) (se_cast (se_add (se_int (i := 1)) (se_tk rfl (se_var (i := 2) rfl) (by omega) hc)) (r' := .sh (.int (1 + (tk s most).1 : Nat))) (by push_cast; rfl)) ?_)
  obtain ⟨first, hf⟩ : ∃ first, first = p ^ (1 + (tk s most).1) := ⟨_, rfl⟩
  have hfm : first ≤ 390625 := by
    rw [hf]
    calc p ^ (1 + (tk s most).1) ≤ p ^ 8 := Nat.pow_le_pow_right (by omega) (by omega)
      _ ≤ 5 ^ 8 := Nat.pow_le_pow_left h5 8
  have hf0 : 0 < first := by rw [hf]; exact Nat.pow_pos (by omega)
  refine ss_seq (ss_set (i := 4) (d := .int first) (se_cast (se_call (sa_cons (ser_var (i := 1) rfl) (sa_cons (ser_var (i := 3) rfl) sa_nil)) ⟨p, 1 + (tk s most).1, by omega, by omega, rfl, rfl⟩) (by rw [hf])) ?_)
  refine ss_seq (ss_set (i := 5) (se_tk rfl (se_var (i := 4) rfl) (by omega) (by rw [ht1.2]; exact hc)) ?_)
  have hres : primeF s p most = ((((List.range first).map fun lap => first + ((tk (tk s most).2 first).1 + lap) % first).find? (lprime p)).getD p, (tk (tk s most).2 first).2) := by unfold primeF; simp only; rw [← hf]
  rw [hres]
  generalize hx : tk (tk s most).2 first = x at *
  refine ss_seq (ss_for (s1 := x.2) (n := first) (it := fun i => D.int (0 + (i : Nat))) (C := CTrue) (I := fun i δ s3 => s3 = x.2 ∧ ∃ q6 q7, (((List.range i).map fun lap => first + (x.1 + lap) % first).find? (lprime p)) = none ∧ δ = [.rf a, .sh (.int p), .sh (.int most), .sh (.int (1 + (tk s most).1 : Nat)), .sh (.int first), .sh (.int x.1), q6, q7]) ?_ (fun _ _ _ _ => trivial) ?_ ?_ ?_)
  · have := si_range1 (K := K) (dr := some a) (δ := [.rf a, .sh (.int p), .sh (.int most), .sh (.int (1 + (tk s most).1 : Nat)), .sh (.int first), .sh (.int x.1), .no, .no]) (s := x.2) (se_var (i := 4) rfl) (by omega) (by omega)
    rw [Int.toNat_natCast] at this
    exact this
  · exact ⟨rfl, .no, .no, rfl, rfl⟩
  · rintro i δ s3 hi ⟨rfl, q6, q7, hn, rfl⟩
    refine ⟨_, sg_name, ?_⟩
    have hmod := Nat.mod_lt (x.1 + i) hf0
    obtain ⟨v, hv⟩ : ∃ v, v = first + (x.1 + i) % first := ⟨_, rfl⟩
    have hlv : len p v = 1 + (tk s most).1 + 1 := by rw [hv, hf]; exact len_pw hp (by rw [← hf]; exact hmod)
    refine ss_seq (ss_set (i := 7) (d := .int v) (se_cast (se_add (se_var (i := 4) rfl) (se_mod (se_int1 (se_add (se_var (i := 5) rfl) (se_var (i := 6) rfl))) (se_var (i := 4) rfl) (by omega))) ?_) ?_)
    · rw [hv, Int.zero_add]; push_cast; rfl
    refine ss_if (st_B (se_call (rel := rel_law_is_prime) (sa_cons (ser_var (i := 1) rfl) (sa_cons (ser_sh (se_call (rel := rel_law_row) (r := .sh (row p v)) (sa_cons (ser_var (i := 1) rfl) (sa_cons (ser_var (i := 7) rfl) sa_nil)) ⟨p, v, hp, by omega, rfl, rfl⟩)) sa_nil)) ⟨p, v, hp, by omega, by omega, rfl, rfl⟩)) (fun c => ?_) (fun c => ss_next ?_)
    · refine ss_ret (se_var (i := 7) rfl) ⟨?_, rfl⟩
      rw [find_range (f := fun lap => first + (x.1 + lap) % first) hi hn (by rw [← hv]; exact c), hv]; rfl
    · exact ⟨rfl, .sh (.int (0 + (i : Nat))), .sh (.int v), find_range_no (f := fun lap => first + (x.1 + lap) % first) hn (by rw [← hv]; exact c), rfl⟩
  · rintro δ s3 ⟨rfl, q6, q7, hn, rfl⟩
    refine ss_ret (se_var (i := 1) rfl) ⟨?_, rfl⟩
    rw [hn]; rfl
def rel_law_modulus : List D → DS → R → DS → Prop := fun ds s r s' => ∃ p most : Nat, Bp p ∧ 3 ≤ most ∧ most ≤ 8 ∧ s.cells.length ≤ 100 ∧ ds = [.int p, .int most] ∧ r = .sh (.int (modF s p most).1) ∧ s' = (modF s p most).2
theorem se_primeF {n m : Nat} (hp : Bp p) (hi : δ[0]? = some (.rf a)) (hb : δ[1]? = some (.sh (.int p))) (h : Se K (some a) ta δ s (.sh (.int m)) s) (hm : 0 < m) (hm8 : m ≤ 8) (hc : s.cells.length ≤ 100) : Se K (some a) (tCall (spD K rel_law_prime) [] E0 (tCons (tVar 0) (tCons (tVar 1) (tCons ta tNil)))) δ s (.sh (.int (primeF s p m).1)) (primeF s p m).2 :=
  se_callD rfl hi (sa_cons (ser_var hb) (sa_cons (ser_sh h) sa_nil)) ⟨p, m, hp, hm, hm8, hc, rfl, rfl, rfl⟩ (primeF_same _ _ _)
/-- slots: 0 draw 1 base 2 most 3 way 4 prime 5 found 6 lap 7 late 8 longer -/
def t_law_modulus (K : Frag) : TS := (tSeq (tPar 3 4 (tCons (tCall (spD K rel_law_take) [] E0 (tCons (tVar 0) (tCons (tC (.int 5)) tNil))) (tCons (tCall (spR K rel_law_row) [] E0 (tCons (tVar 1) (tCons (tCall (spD K rel_law_prime) [] E0 (tCons (tVar 0) (tCons (tVar 1) (tCons (tC (.int 2)) tNil)))) tNil))) tNil))) (tSeq (tIfS (tTest (tOp rEq (tVar 3) (tC (.int 0)))) (tRet (tCall (spD K rel_law_prime) [] E0 (tCons (tVar 0) (tCons (tVar 1) (tCons (tOp (rI0 fun i j => .int (i - j)) (tVar 2) (tC (.int 1))) tNil))))) tNext) (tSeq (tAsg (tVar 4) (gName 5)) (tSeq (tFor (iRng1 (tCons (tOp (rI0 fun i j => .int (i + j)) (tC (.int 1)) (tCall (spD K rel_law_take) [] E0 (tCons (tVar 0) (tCons (tC (.int 4)) tNil)))) tNil)) (gName 6) (tSeq (tAsg (tIf (tTest (tOp rEq (tVar 3) (tC (.int 1)))) (tVar 4) (tCall (spR K rel_law_row) [] E0 (tCons (tVar 1) (tCons (tCall (spD K rel_law_prime) [] E0 (tCons (tVar 0) (tCons (tVar 1) (tCons (tC (.int 2)) tNil)))) tNil)))) (gName 7)) (tSeq (tAsg (tCall (spR K rel_law_times) [] E0 (tCons (tVar 1) (tCons (tVar 5) (tCons (tVar 7) tNil)))) (gName 8)) (tAsg (tIf (tAnd (tTest (tOp (rI0 fun i j => .bl (decide (i ≤ j))) (tCB (fun xs H Q => ∃ p ys, xs = [.ref p] ∧ (SqL K H p ys ∨ SqT K H p ys) ∧ Q (.int ys.length) H) (tCons (tVar 8) tNil)) (tVar 2))) (tTest (tOp (rI0 fun i j => .bl (decide (i < j))) (tVar 3) (tC (.int 4))))) (tVar 8) (tVar 5)) (gName 5))))) (tSeq (tIfS (tTest (tOp rEq (tVar 3) (tC (.int 3)))) (tAsg (tCall (spR K rel_law_times) [] E0 (tCons (tVar 1) (tCons (tVar 5) (tCons (tTup (tCons (tOp (rI0 fun i j => .int (i + j)) (tC (.int 1)) (tCall (spD K rel_law_take) [] E0 (tCons (tVar 0) (tCons (tOp (rI0 fun i j => .int (i - j)) (tVar 1) (tC (.int 1))) tNil)))) tNil)) tNil)))) (gName 5)) tNext) (tRet (tIf (tTest (tOp (rI0 fun i j => .bl (decide (i < j))) (tVar 3) (tC (.int 4)))) (tCall (spR K rel_law_worth) [] E0 (tCons (tVar 1) (tCons (tVar 5) tNil))) (tOp (rI0 fun i j => .int (i + j)) (tVar 1) (tCall (spD K rel_law_take) [] E0 (tCons (tVar 0) (tCons (tOp (rI0 fun i j => .int (i - j)) (tCall (spR K rel_law_power) [] E0 (tCons (tVar 1) (tCons (tVar 2) tNil))) (tVar 1)) tNil)))))))))))
theorem ss_law_modulus : ∀ ds s r s', rel_law_modulus ds s r s' → SS K (some a) (t_law_modulus K) (stD 9 a ds) s (RetD r s') := by
  rintro ds s r s' ⟨p, most, hp, hm, hm8, hc, rfl, rfl, rfl⟩
  have h2 := hp.two
  have h5 := hp.le
  have hr := modF_ok (s := s) hp hm
  have hw := tk_same s 5
  have hwl := tk_lt (s := s) (n := 5) (by decide)
  have hrr : ∀ (δ : List S) (s s1 : DS) (t : TE) (v : Nat), δ[1]? = some (.sh (.int p)) → len p v ≤ 2000 → Se K (some a) t δ s (.sh (.int v)) s1 → Se K (some a) (tCall (spR K rel_law_row) [] E0 (tCons (tVar 1) (tCons t tNil))) δ s (.sh (row p v)) s1 := fun δ s s1 t v h1 hl h =>
    se_call (sa_cons (ser_var h1) (sa_cons (ser_sh h) sa_nil)) ⟨p, v, hp, hl, rfl, rfl⟩
  have hq := primeF_ok (s := (tk s 5).2) (most := 2) hp (by decide)
  have hqs := primeF_same (tk s 5).2 p 2
  refine ss_seq (ss_parSS (se_tk rfl (se_int (i := (5 : Nat))) (by decide) hc) (hrr _ _ _ _ _ rfl (by omega) (se_primeF (n := 0) hp rfl rfl (se_int (i := (2 : Nat))) (by decide) (by decide) (by rw [hw.2]; exact hc))) ?_)
  obtain ⟨mf, hmf⟩ : ∃ mf, mf = modF s p most := ⟨_, rfl⟩
  rw [← hmf]
  unfold modF at hmf
  simp only at hmf
  generalize tk s 5 = w at *
  generalize primeF w.2 p 2 = q at *
  have hcq : q.2.cells.length ≤ 100 := by rw [hqs.2, hw.2]; exact hc
  refine ss_seq (ss_if (st_Test (se_eqI (se_var (i := 3) rfl) se_int)) (fun c => ?_) (fun c => ss_next ?_))
  · have c : w.1 = 0 := by have := of_decide_eq_true c; omega
    rw [if_pos c] at hmf
    refine ss_ret (se_primeF (n := 0) (m := most - 1) hp rfl rfl (se_cast (se_sub (se_var (i := 2) rfl) se_int) (by congr 2; omega)) (by omega) (by omega) hcq) ?_
    rw [hmf]; exact ⟨rfl, rfl⟩
  · have c : w.1 ≠ 0 := by have := of_decide_eq_false c; omega
    rw [if_neg c] at hmf
    have hns := tk_same q.2 4
    have hnl := tk_lt (s := q.2) (n := 4) (by decide)
    have htk := se_tk (K := K) (a := a) (δ := [.rf a, .sh (.int p), .sh (.int most), .sh (.int w.1), .sh (row p q.1), .sh (row p q.1), .no, .no, .no]) (s := q.2) rfl (se_int (i := (4 : Nat))) (by decide) hcq
    generalize tk q.2 4 = n at *
    have hcn : n.2.cells.length ≤ 100 := by rw [hns.2]; exact hcq
    refine ss_seq (ss_set (se_var (i := 4) rfl) ?_)
    have hlo := fun k => modLoop_ok (p := p) (most := most) (way := w.1) (prime := q.1) hp hm (by omega) k (q.1, n.2) ⟨by show q.1 ≠ 0; omega, hq.1, by show len p q.1 ≤ _; omega⟩
    refine ss_seq (ss_for (s1 := n.2) (n := 1 + n.1) (it := fun i => D.int (0 + (i : Nat))) (C := CTrue) (I := fun i δ s => s = (modLoop p most w.1 q.1 i (q.1, n.2)).2 ∧ ∃ q6 q7 q8, δ = [.rf a, .sh (.int p), .sh (.int most), .sh (.int w.1), .sh (row p q.1), .sh (row p (modLoop p most w.1 q.1 i (q.1, n.2)).1), q6, q7, q8]) ?_ (fun _ _ _ _ => trivial) ?_ ?_ ?_)
    · have := si_range1 (K := K) (dr := some a) (se_add (se_int (i := 1)) htk) (by omega) (by omega)
      rw [show ((1 : Int) + (n.1 : Nat)).toNat = 1 + n.1 by omega] at this
      exact this
    · exact ⟨rfl, .no, .no, .no, rfl⟩
    · rintro i δ s3 hi ⟨rfl, q6, q7, q8, rfl⟩
      refine ⟨_, sg_name, ?_⟩
      have hy := hlo i
      show SS K (some a) _ _ _ (LoopO (fun δ s => s = (modStep p most w.1 q.1 (modLoop p most w.1 q.1 i (q.1, n.2))).2 ∧ ∃ q6 q7 q8, δ = [.rf a, .sh (.int p), .sh (.int most), .sh (.int w.1), .sh (row p q.1), .sh (row p (modStep p most w.1 q.1 (modLoop p most w.1 q.1 i (q.1, n.2))).1), q6, q7, q8]) _)
      generalize modLoop p most w.1 q.1 i (q.1, n.2) = y at *
      obtain ⟨z, e⟩ : ∃ z, z = (if w.1 = 1 then (q.1, y.2) else primeF y.2 p 2) := ⟨_, rfl⟩
      have hst : modStep p most w.1 q.1 y = (if len p (pmul p y.1 z.1) ≤ most ∧ w.1 < 4 then pmul p y.1 z.1 else y.1, z.2) := by unfold modStep; simp only; rw [← e]
      rw [hst]
      have hcy : y.2.cells.length ≤ 100 := by rw [hy.1.2]; exact hcn
      have hzl : len p z.1 ≤ 3 := by
        rw [e]; by_cases c1 : w.1 = 1
        · rw [if_pos c1]; exact hq.2
        · rw [if_neg c1]; exact (primeF_ok (s := y.2) (most := 2) hp (by decide)).2
      refine ss_seq (ss_set (i := 7) (d := row p z.1) (s1 := z.2) (se_ifT (s1 := y.2) (s2 := z.2) (c := decide (w.1 = 1)) (st_cast (st_Test (se_eqI (se_var (i := 3) rfl) se_int)) (decide_eq_decide.mpr (by omega))) (fun c1 => ?_) (fun c1 => ?_)) ?_)
      · rw [e, if_pos (of_decide_eq_true c1)]; exact se_var (i := 4) rfl
      · rw [e, if_neg (of_decide_eq_false c1)]
        exact hrr _ _ _ _ _ rfl (by have := (primeF_ok (s := y.2) (most := 2) hp (by decide)).2; omega) (se_primeF (n := 0) hp rfl rfl (se_int (i := (2 : Nat))) (by decide) (by decide) hcy)
      refine ss_seq (ss_set (i := 8) (se_call (rel := rel_law_times) (sa_cons (ser_var (i := 1) rfl) (sa_cons (ser_var (i := 5) rfl) (sa_cons (ser_var (i := 7) rfl) sa_nil))) ⟨p, y.1, z.1, hp, by omega, by omega, rfl, rfl⟩) ?_)
      refine ss_set (i := 5) (d := row p (if len p (pmul p y.1 z.1) ≤ most ∧ w.1 < 4 then pmul p y.1 z.1 else y.1)) (s1 := z.2) (se_ifT (s1 := z.2) (s2 := z.2) (c := decide (len p (pmul p y.1 z.1) ≤ most) && decide (w.1 < 4)) (st_cast (st_and (st_Test (se_cmp (p := fun i j => decide (i ≤ j)) (se_lenRow h2 (ser_var (i := 8) rfl)) (se_var (i := 2) rfl))) (fun _ => st_Test (se_cmp (p := fun i j => decide (i < j)) (se_var (i := 3) rfl) se_int))) ?_) (fun c1 => ?_) (fun c1 => ?_)) ⟨rfl, _, _, _, rfl⟩
      · congr 1
        · exact decide_eq_decide.mpr (by omega)
        · exact decide_eq_decide.mpr (by omega)
      · rw [Bool.and_eq_true, decide_eq_true_iff, decide_eq_true_iff] at c1
        rw [if_pos c1]; exact se_var (i := 8) rfl
      · rw [if_neg (fun z => by rw [Bool.and_eq_false_iff, decide_eq_false_iff_not, decide_eq_false_iff_not] at c1; rcases c1 with c1 | c1; exact c1 z.1; exact c1 z.2)]
        exact se_var (i := 5) rfl
    · rintro δ s3 ⟨rfl, q6, q7, q8, rfl⟩
      have hy := hlo (1 + n.1)
      generalize modLoop p most w.1 q.1 (1 + n.1) (q.1, n.2) = y at *
      have hcy : y.2.cells.length ≤ 100 := by rw [hy.1.2]; exact hcn
      have hpow : p ^ most ≤ 390625 := by
        calc p ^ most ≤ p ^ 8 := Nat.pow_le_pow_right (by omega) (by omega)
          _ ≤ 5 ^ 8 := Nat.pow_le_pow_left h5 8
      have hpm : p ≤ p ^ most := by
        have := Nat.pow_le_pow_right (show 0 < p by omega) (show 1 ≤ most by omega)
        rwa [Nat.pow_one] at this
      unfold modEnd at hmf
      by_cases w3 : w.1 = 3
      · rw [if_pos w3] at hmf
        have ht := tk_lt (s := y.2) (n := p - 1) (by omega)
        have hl1 : ((1 : Int) + ((tk y.2 (p - 1)).1 : Nat)) = ((1 + (tk y.2 (p - 1)).1 : Nat) : Int) := by push_cast; rfl
        have hrow1 : row p (1 + (tk y.2 (p - 1)).1) = .tup [.int (1 + (tk y.2 (p - 1)).1 : Nat)] := by
          show rowD (dg p _) = _
          rw [dg_pos h2 (by omega), Nat.mod_eq_of_lt (by omega), Nat.div_eq_of_lt (by omega), dg_zero]; rfl
        have hl3 : len p (1 + (tk y.2 (p - 1)).1) ≤ 1 := by rw [len_le_iff h2, Nat.pow_one]; omega
        refine ss_seq (ss_if (b := true) (st_cast (st_Test (se_eqI (se_var (i := 3) rfl) se_int)) (decide_eq_true (by omega))) (fun _ => ?_) (fun e => by cases e))
        refine ss_set (i := 5) (d := row p mf.1) (s1 := mf.2) (se_call (rel := rel_law_times) (sa_cons (ser_var (i := 1) rfl) (sa_cons (ser_var (i := 5) rfl) (sa_cons (d := row p (1 + (tk y.2 (p - 1)).1)) (ser_sh ?_) sa_nil))) ⟨p, y.1, 1 + (tk y.2 (p - 1)).1, hp, by omega, by omega, rfl, by rw [hmf]⟩) ?_
        · rw [hrow1, hmf]
          exact se_tup (sas_cons (se_cast (se_add (se_int (i := 1)) (se_tk rfl (se_cast (se_sub (se_var (i := 1) rfl) se_int) (by congr 2; omega)) (by omega) hcy)) (by rw [hl1])) sas_nil) (by rw [sizeLine_eq]; show 1 ≤ _; decide)
        · refine ss_ret (s1 := mf.2) (se_ifT (s1 := mf.2) (s2 := mf.2) (c := true) (st_cast (st_Test (se_cmp (p := fun i j => decide (i < j)) (se_var (i := 3) rfl) se_int)) (decide_eq_true (by omega))) (fun _ => se_call (rel := rel_law_worth) (sa_cons (ser_var (i := 1) rfl) (sa_cons (ser_var (i := 5) rfl) sa_nil)) (rel_number_row hp)) (fun e => by cases e)) ⟨rfl, rfl⟩
      · rw [if_neg w3] at hmf
        refine ss_seq (ss_if (b := false) (st_cast (st_Test (se_eqI (se_var (i := 3) rfl) se_int)) (decide_eq_false (by omega))) (fun e => by cases e) (fun _ => ss_next ?_))
        by_cases w4 : w.1 < 4
        · rw [if_pos w4] at hmf
          refine ss_ret (s1 := y.2) (r := .sh (.int y.1)) (se_ifT (s1 := y.2) (s2 := y.2) (c := true) (st_cast (st_Test (se_cmp (p := fun i j => decide (i < j)) (se_var (i := 3) rfl) se_int)) (decide_eq_true (by omega))) (fun _ => se_call (rel := rel_law_worth) (sa_cons (ser_var (i := 1) rfl) (sa_cons (ser_var (i := 5) rfl) sa_nil)) (rel_number_row hp)) (fun e => by cases e)) ?_
          rw [hmf]; exact ⟨rfl, rfl⟩
        · rw [if_neg w4] at hmf
          refine ss_ret (s1 := (tk y.2 (p ^ most - p)).2) (r := .sh (.int (p + (tk y.2 (p ^ most - p)).1 : Nat))) (se_ifT (s1 := y.2) (s2 := (tk y.2 (p ^ most - p)).2) (c := false) (st_cast (st_Test (se_cmp (p := fun i j => decide (i < j)) (se_var (i := 3) rfl) se_int)) (decide_eq_false (by omega))) (fun e => by cases e) (fun _ => ?_)) ?_
          · refine se_cast (se_add (se_var (i := 1) rfl) (se_tk rfl (se_cast (se_sub (se_call (rel := rel_law_power) (sa_cons (ser_var (i := 1) rfl) (sa_cons (ser_var (i := 2) rfl) sa_nil)) ⟨p, most, by omega, by omega, rfl, rfl⟩) (se_var (i := 1) rfl)) (by congr 2; omega)) (by omega) hcy)) ?_
            push_cast; rfl
          · rw [hmf]; exact ⟨rfl, rfl⟩
end
end EL
set_option maxRecDepth 100000
set_option maxHeartbeats 1000000
/-! W10: symbols, roots, squares -/
namespace EL
open PySem PySem.Spec L2 M
section
variable {K : Frag} {dr : Option Addr} {δ : List S} {s s1 s2 : DS} {ta tb tc : TE} {p a b : Nat}
/-- p = 3 or 5 -/
abbrev Op (p : Nat) : Prop := p = 3 ∨ p = 5
theorem Op.bp (h : Op p) : Bp p := h.elim (fun h => .inr (.inl h)) fun h => .inr (.inr h)
def rel_need_odd_base : List D → R → Prop := fun ds r => ∃ p : Nat, Op p ∧ ds = [.int p] ∧ r = .sh .non
/-- slots: 0 base -/
def t_need_odd_base (K : Frag) : TS := (tIfS (tOr (tNot (tB (tCall (spR K rel_is_whole) [] E0 (tCons (tVar 0) tNil)))) (tTest (tOp (rIn K true) (tVar 0) (tTup (tCons (tC (.int 3)) (tCons (tC (.int 5)) tNil)))))) tNever tNext)
theorem ss_need_odd_base : ∀ ds r, rel_need_odd_base ds r → SS K none (t_need_odd_base K) (stS 1 ds) ds0 (RetO r) := by
  rintro ds r ⟨p, hp, rfl, rfl⟩
  refine ss_if (st_or (st_not (st_B (se_call (rel := rel_is_whole) (sa_cons (ser_var (i := 0) rfl) sa_nil) ⟨_, rfl, rfl⟩))) fun _ => st_Test (se_inI (l := [3, 5]) (se_var (i := 0) rfl) (ser_sh (se_tup (sas_cons se_int (sas_cons se_int sas_nil)) (by rw [sizeLine_eq]; show 2 ≤ _; decide))) (.tup _))) (fun e => ?_) (fun _ => ss_next rfl)
  exfalso
  rcases hp with rfl | rfl <;> revert e <;> decide
/-- divided_rows(base, one, other)[1] -/
theorem se_rest {j : Nat} (hp : Bp p) (h0 : δ[j]? = some (.sh (.int p))) (ha : SeR K dr ta δ s (row p a) s1) (hb : SeR K dr tb δ s1 (row p b) s2) (hla : len p a ≤ 100000) (hlb : len p b ≤ 100000) (hb0 : b ≠ 0) :
    Se K dr (tOp (rIxT K) (tCall (spR K rel_divided_rows) [] E0 (tCons (tVar j) (tCons ta (tCons tb tNil)))) (tC (.int 1))) δ s (.sh (row p (pmod p a b))) s2 :=
  se_snd (ser_sh (se_call (sa_cons (ser_var h0) (sa_cons ha (sa_cons hb sa_nil))) ⟨p, a, b, hp, hla, hlb, hb0, rfl, rfl⟩))
theorem se_lrest {j : Nat} (hp : Bp p) (h0 : δ[j]? = some (.sh (.int p))) (ha : SeR K dr ta δ s (row p a) s1) (hb : SeR K dr tb δ s1 (row p b) s2) (hla : len p a ≤ 100000) (hlb : len p b ≤ 100000) (hb0 : b ≠ 0) :
    Se K dr (tOp (rIxT K) (tCall (spR K rel_law_divided) [] E0 (tCons (tVar j) (tCons ta (tCons tb tNil)))) (tC (.int 1))) δ s (.sh (row p (pmod p a b))) s2 :=
  se_snd (ser_sh (se_call (sa_cons (ser_var h0) (sa_cons ha (sa_cons hb sa_nil))) ⟨p, a, b, hp, hla, hlb, hb0, rfl, rfl⟩))
theorem se_times {j : Nat} (hp : Bp p) (h0 : δ[j]? = some (.sh (.int p))) (ha : SeR K dr ta δ s (row p a) s1) (hb : SeR K dr tb δ s1 (row p b) s2) (hla : len p a ≤ 100000) (hlb : len p b ≤ 100000) :
    Se K dr (tCall (spR K rel_times_rows) [] E0 (tCons (tVar j) (tCons ta (tCons tb tNil)))) δ s (.sh (row p (pmul p a b))) s2 :=
  se_call (sa_cons (ser_var h0) (sa_cons ha (sa_cons hb sa_nil))) ⟨p, a, b, hp, hla, hlb, rfl, rfl⟩
theorem se_ltimes {j : Nat} (hp : Bp p) (h0 : δ[j]? = some (.sh (.int p))) (ha : SeR K dr ta δ s (row p a) s1) (hb : SeR K dr tb δ s1 (row p b) s2) (hla : len p a ≤ 100000) (hlb : len p b ≤ 100000) :
    Se K dr (tCall (spR K rel_law_times) [] E0 (tCons (tVar j) (tCons ta (tCons tb tNil)))) δ s (.sh (row p (pmul p a b))) s2 :=
  se_call (sa_cons (ser_var h0) (sa_cons ha (sa_cons hb sa_nil))) ⟨p, a, b, hp, hla, hlb, rfl, rfl⟩
theorem len_pmod (hp : Bp p) (a : Nat) (hb : b ≠ 0) : len p (pmod p a b) < len p b := (dm_spec hp a hb).1
theorem se_one (hp : 2 ≤ p) : Se K dr (tTup (tCons (tC (.int 1)) tNil)) δ s (.sh (row p 1)) s := by
  rw [row_one hp]
  exact se_tup (sas_cons se_int sas_nil) (by rw [sizeLine_eq]; show 1 ≤ _; decide)
def rel_power_rest : List D → R → Prop := fun ds r => ∃ p a k m : Nat, Bp p ∧ len p a ≤ 100000 ∧ 2 ≤ len p m ∧ len p m ≤ 1000 ∧ ds = [.int p, row p a, .int k, row p m] ∧ r = .sh (row p (powR p a k m))
/-- slots: 0 base 1 row 2 often 3 modulus 4 found 5 here 6 left -/
def t_power_rest (K : Frag) : TS := (tSeq (tPar3 4 5 6 (tCons (tTup (tCons (tC (.int 1)) tNil)) (tCons (tOp (rIxT K) (tCall (spR K rel_divided_rows) [] E0 (tCons (tVar 0) (tCons (tVar 1) (tCons (tVar 3) tNil)))) (tC (.int 1))) (tCons (tVar 2) tNil)))) (tSeq (tWhile (tTest (tOp (rI0 fun i j => .bl (decide (j < i))) (tVar 6) (tC (.int 0)))) (tSeq (tIfS (tTest (tOp rEq (tOp (rI (fun _ j => 0 < j) fun i j => .int (i % j)) (tVar 6) (tC (.int 2))) (tC (.int 1)))) (tAsg (tOp (rIxT K) (tCall (spR K rel_divided_rows) [] E0 (tCons (tVar 0) (tCons (tCall (spR K rel_times_rows) [] E0 (tCons (tVar 0) (tCons (tVar 4) (tCons (tVar 5) tNil)))) (tCons (tVar 3) tNil)))) (tC (.int 1))) (gName 4)) tNext) (tPar 5 6 (tCons (tOp (rIxT K) (tCall (spR K rel_divided_rows) [] E0 (tCons (tVar 0) (tCons (tCall (spR K rel_times_rows) [] E0 (tCons (tVar 0) (tCons (tVar 5) (tCons (tVar 5) tNil)))) (tCons (tVar 3) tNil)))) (tC (.int 1))) (tCons (tOp (rI CDiv fun i j => .int (i / j)) (tVar 6) (tC (.int 2))) tNil))))) (tRet (tVar 4))))
theorem ss_power_rest : ∀ ds r, rel_power_rest ds r → SS K none (t_power_rest K) (stS 7 ds) ds0 (RetO r) := by
  rintro ds r ⟨p, a, k, m, hp, hla, hm2, hm, rfl, rfl⟩
  have h2 := hp.two
  have m0 : m ≠ 0 := fun z => by rw [z, len_zero] at hm2; omega
  have hl1 : len p 1 ≤ 1 := by rw [len_le_iff h2, Nat.pow_one]; omega
  refine ss_seq (ss_par3 (se_one h2) (se_rest (a := a) (b := m) hp rfl (ser_var (i := 1) rfl) (ser_var (i := 3) rfl) hla (by omega) m0) (se_var (i := 2) rfl) ⟨_, .sh _⟩ ⟨_, .sh _⟩ ⟨_, .sh _⟩ ?_)
  intro x1 x2 x3 y1 y2 y3
  cases y1
  cases y2
  cases y3
  refine ss_seq (ss_while (m := k) (fun left δ s => s = ds0 ∧ ∃ f h fu, pwF p m fu f h left = powR p a k m ∧ left ≤ fu ∧ len p f ≤ len p m ∧ len p h ≤ len p m ∧ δ = [.sh (.int p), .sh (row p a), .sh (.int k), .sh (row p m), .sh (row p f), .sh (row p h), .sh (.int left)]) ?_ ?_)
  · exact ⟨rfl, 1, pmod p a m, k, rfl, Nat.le_refl _, by omega, by have := len_pmod hp a m0; omega, rfl⟩
  · rintro left δ s ⟨rfl, f, h, fu, e, hfu, hf, hh, rfl⟩
    refine ⟨_, _, st_Test (se_cmp (p := fun i j => decide (j < i)) (se_var (i := 6) rfl) se_int), fun c => ?_, fun c => ?_⟩
    · have c : left ≠ 0 := by have := of_decide_eq_true c; omega
      obtain ⟨fu, rfl⟩ : ∃ g, fu = g + 1 := ⟨fu - 1, by omega⟩
      rw [pwF_one, if_neg c] at e
      have fin : ∀ f', len p f' ≤ len p m → pwF p m fu f' (pmod p (pmul p h h) m) (left / 2) = powR p a k m → SS K none (tPar 5 6 (tCons (tOp (rIxT K) (tCall (spR K rel_divided_rows) [] E0 (tCons (tVar 0) (tCons (tCall (spR K rel_times_rows) [] E0 (tCons (tVar 0) (tCons (tVar 5) (tCons (tVar 5) tNil)))) (tCons (tVar 3) tNil)))) (tC (.int 1))) (tCons (tOp (rI CDiv fun i j => .int (i / j)) (tVar 6) (tC (.int 2))) tNil)))
          [.sh (.int p), .sh (row p a), .sh (.int k), .sh (row p m), .sh (row p f'), .sh (row p h), .sh (.int left)] ds0 (LoopO (fun δ' s' => ∃ m', m' < left ∧ s' = ds0 ∧ ∃ f h fu, pwF p m fu f h m' = powR p a k m ∧ m' ≤ fu ∧ len p f ≤ len p m ∧ len p h ≤ len p m ∧ δ' = [.sh (.int p), .sh (row p a), .sh (.int k), .sh (row p m), .sh (row p f), .sh (row p h), .sh (.int m')]) (Thn K none (tRet (tVar 4)) (RetO (.sh (row p (powR p a k m)))))) := fun f' hf' e' => by
        refine ss_parSS (se_rest (a := pmul p h h) (b := m) hp rfl (ser_sh (se_times (a := h) (b := h) hp rfl (ser_var (i := 5) rfl) (ser_var (i := 5) rfl) (by omega) (by omega))) (ser_var (i := 3) rfl) (by have := len_pmul_le (a := h) (b := h) hp; omega) (by omega) m0) (se_div (se_var (i := 6) rfl) (se_int (i := 2)) ⟨by decide, by decide⟩) ?_
        refine ⟨left / 2, by omega, rfl, f', _, fu, e', by omega, hf', by have := len_pmod hp (pmul p h h) m0; omega, ?_⟩
        show _ = _
        congr 6
      refine ss_seq (ss_if (b := decide (left % 2 = 1)) (st_cast (st_Test (se_eqI (se_mod (se_var (i := 6) rfl) (se_int (i := 2)) (by decide)) se_int)) (decide_eq_decide.mpr (by omega))) (fun d => ?_) (fun d => ss_next ?_))
      · rw [if_pos (of_decide_eq_true d)] at e
        refine ss_set (i := 4) (se_rest (a := pmul p f h) (b := m) hp rfl (ser_sh (se_times (a := f) (b := h) hp rfl (ser_var (i := 4) rfl) (ser_var (i := 5) rfl) (by omega) (by omega))) (ser_var (i := 3) rfl) (by have := len_pmul_le (a := f) (b := h) hp; omega) (by omega) m0) ?_
        exact fin _ (by have := len_pmod hp (pmul p f h) m0; omega) e
      · rw [if_neg (of_decide_eq_false d)] at e
        exact fin _ hf e
    · have c : left = 0 := by have := of_decide_eq_false c; omega
      subst c
      rw [pwF_zero] at e
      refine ss_ret (se_var (i := 4) rfl) ?_
      rw [e]; rfl
def rel_symbol_by : List D → R → Prop := fun ds r => ∃ p a n : Nat, Bp p ∧ len p a ≤ 100000 ∧ n ≠ 0 ∧ n ≤ 100000000 ∧ ds = [.int p, row p a, row p n] ∧ r = .sh (.int (sym p a n))
/-- slots: 0 base 1 above 2 below 3 found 4 prime 5 often 6 rest -/
def t_symbol_by (K : Frag) : TS := (tSeq (tAsg (tC (.int 1)) (gName 3)) (tSeq (tFor (iList K (tCall (spR K rel_factors_by) [] E0 (tCons (tVar 0) (tCons (tVar 2) tNil)))) (gTup K 2 (gCons (gName 4) (gCons (gName 5) gNil))) (tSeq (tAsg (tCall (spR K rel_power_rest) [] E0 (tCons (tVar 0) (tCons (tVar 1) (tCons (tOp (rI CDiv fun i j => .int (i / j)) (tOp (rI0 fun i j => .int (i - j)) (tCall (spR K rel_powered) [] E0 (tCons (tVar 0) (tCons (tOp (rI0 fun i j => .int (i - j)) (tCB (fun xs H Q => ∃ p ys, xs = [.ref p] ∧ (SqL K H p ys ∨ SqT K H p ys) ∧ Q (.int ys.length) H) (tCons (tVar 4) tNil)) (tC (.int 1))) tNil))) (tC (.int 1))) (tC (.int 2))) (tCons (tVar 4) tNil))))) (gName 6)) (tSeq (tIfS (tTest (tOp (rEqD K) (tVar 6) (tTup tNil))) (tRet (tC (.int 0))) tNext) (tIfS (tAnd (tTest (tOp (rNeD K) (tVar 6) (tTup (tCons (tC (.int 1)) tNil)))) (tTest (tOp rEq (tOp (rI (fun _ j => 0 < j) fun i j => .int (i % j)) (tVar 5) (tC (.int 2))) (tC (.int 1))))) (tAsg (tUn (rU fun i => .int (-i)) (tVar 3)) (gName 3)) tNext)))) (tRet (tVar 3))))
theorem symF_take (p a : Nat) (l : List (Nat × Nat)) {i : Nat} (hi : i < l.length) (v : Int) : symF p a (l.drop i) v = if powR p a (halfN p (l.getD i (0, 0)).1) (l.getD i (0, 0)).1 = 0 then 0 else symF p a (l.drop (i + 1)) (if powR p a (halfN p (l.getD i (0, 0)).1) (l.getD i (0, 0)).1 ≠ 1 ∧ (l.getD i (0, 0)).2 % 2 = 1 then -v else v) := by
  rw [List.drop_eq_getElem_cons hi, List.getD_eq_getElem?_getD, List.getElem?_eq_getElem hi]
  rfl
theorem ss_symbol_by : ∀ ds r, rel_symbol_by ds r → SS K none (t_symbol_by K) (stS 7 ds) ds0 (RetO r) := by
  rintro ds r ⟨p, a, n, hp, hla, hn, hb, rfl, rfl⟩
  have h2 := hp.two
  have h5 := hp.le
  have hln := len_b hp hb
  have hfo := fac_ok hp hn
  refine ss_seq (ss_set se_int ?_)
  obtain ⟨fs, hfs⟩ : ∃ fs, fs = fac p n := ⟨_, rfl⟩
  have hsym : sym p a n = symF p a fs 1 := by rw [hfs]; rfl
  rw [← hfs] at hfo
  rw [hsym]
  refine ss_seq (ss_for (s1 := ds0) (n := fs.length) (it := fun i => (fs.map (prF p)).getD i .non) (C := CTrue) (I := fun i δ s => s = ds0 ∧ ∃ (v : Int) (q4 q5 q6 : S), symF p a (fs.drop i) v = symF p a fs 1 ∧ δ = [.sh (.int p), .sh (row p a), .sh (row p n), .sh (.int v), q4, q5, q6]) ?_ (fun _ _ _ _ => trivial) ?_ ?_ ?_)
  · have := si_lst (K := K) (dr := none) (δ := [.sh (.int p), .sh (row p a), .sh (row p n), .sh (.int 1), .no, .no, .no]) (s := ds0) (se_pub (d := .lst (fs.map (prF p))) (se_call (Ex := E0) (rel := rel_factors_by) (sa_cons (ser_var (i := 0) rfl) (sa_cons (ser_var (i := 2) rfl) sa_nil)) ⟨p, n, hp, hn, hb, rfl, by rw [hfs]; rfl⟩))
    rw [fac_len] at this
    exact this
  · exact ⟨rfl, 1, .no, .no, .no, rfl, rfl⟩
  · rintro i δ s hi ⟨rfl, v, q4, q5, q6, e, rfl⟩
    rw [fac_getD hi]
    have hx := hfo (fs.getD i (0, 0)) (by rw [List.getD_eq_getElem?_getD, List.getElem?_eq_getElem hi]; exact List.getElem_mem hi)
    rw [symF_take p a fs hi] at e
    generalize fs.getD i (0, 0) = x at *
    refine ⟨_, sg_tup2, ?_⟩
    have hpow : p ^ (len p x.1 - 1) ≠ 0 := Nat.ne_of_gt (Nat.pow_pos (by omega))
    refine ss_seq (ss_set (i := 6) (d := row p (powR p a (halfN p x.1) x.1)) (se_call (rel := rel_power_rest) (sa_cons (ser_var (i := 0) rfl) (sa_cons (ser_var (i := 1) rfl) (sa_cons (d := .int (halfN p x.1 : Nat)) (ser_sh (se_cast (se_div (se_sub (se_call (rel := rel_powered) (r := .sh (.int (p ^ (len p x.1 - 1) : Nat))) (sa_cons (ser_var (i := 0) rfl) (sa_cons (d := .int (len p x.1 - 1 : Nat)) (ser_sh (se_cast (se_sub (se_lenRow h2 (ser_var (i := 4) rfl)) se_int) (by congr 2; omega))) sa_nil)) ⟨p, len p x.1 - 1, by omega, by omega, rfl, rfl⟩) se_int) (se_int (i := 2)) ⟨by decide, by decide⟩) ?_)) (sa_cons (ser_var (i := 4) rfl) sa_nil)))) ⟨p, a, halfN p x.1, x.1, hp, hla, hx.1, by omega, rfl, rfl⟩) ?_)
    · unfold halfN
      congr 2
      omega
    generalize powR p a (halfN p x.1) x.1 = t at *
    refine ss_seq (ss_if (st_Test (se_eqRow (a := t) (b := 0) h2 (ser_var (i := 6) rfl) (ser_sh (se_nil (p := p))))) (fun c => ?_) (fun c => ss_next ?_))
    · rw [if_pos (of_decide_eq_true c)] at e
      refine ss_ret se_int ?_
      rw [← e]; rfl
    · rw [if_neg (of_decide_eq_false c)] at e
      refine ss_if (b := !decide (t = 1) && decide (x.2 % 2 = 1)) (s1 := ds0) (st_cast (st_and (st_Test (se_neRow (a := t) (b := 1) h2 (ser_var (i := 6) rfl) (ser_sh (se_one h2)))) (fun _ => st_Test (se_eqI (se_mod (se_var (i := 5) rfl) (se_int (i := 2)) (by decide)) se_int))) ?_) (fun d => ?_) (fun d => ss_next ?_)
      · congr 1
        exact decide_eq_decide.mpr (by omega)
      · rw [Bool.and_eq_true, Bool.not_eq_true', decide_eq_false_iff_not, decide_eq_true_iff] at d
        rw [if_pos d] at e
        exact ss_set (i := 3) (se_neg (se_var (i := 3) rfl)) ⟨rfl, -v, .sh (row p x.1), .sh (.int x.2), .sh (row p t), e, rfl⟩
      · rw [if_neg (fun z => by rw [Bool.and_eq_false_iff, Bool.not_eq_false', decide_eq_true_iff, decide_eq_false_iff_not] at d; rcases d with d | d; exact z.1 d; exact d z.2)] at e
        exact ⟨rfl, v, .sh (row p x.1), .sh (.int x.2), .sh (row p t), e, rfl⟩
  · rintro δ s ⟨rfl, v, q4, q5, q6, e, rfl⟩
    refine ss_ret (se_var (i := 3) rfl) ?_
    rw [List.drop_length] at e
    rw [← e]; rfl
def rel_need_sides : List D → R → Prop := fun ds r => ∃ p a n : Nat, Op p ∧ a ≤ 1000000 ∧ n ≠ 0 ∧ n ≤ 1000000 ∧ lead p n = 1 ∧ ds = [.int p, .int a, .int n] ∧ r = .sh .non
/-- slots: 0 base 1 above 2 below -/
def t_need_sides (K : Frag) : TS := (tSeq (tDrop (tCall (spR K rel_need_odd_base) [] E0 (tCons (tVar 0) tNil))) (tSeq (tIfS (tNot (tB (tCall (spR K rel_is_within) [] E0 (tCons (tVar 1) (tCons (tC (.int 0)) (tCons (tC (.int 1000000)) tNil)))))) tNever tNext) (tIfS (tOr (tNot (tB (tCall (spR K rel_is_within) [] E0 (tCons (tVar 2) (tCons (tC (.int 1)) (tCons (tC (.int 1000000)) tNil)))))) (tTest (tOp rNe (tOp (rIxT K) (tCall (spR K rel_row_of) [] E0 (tCons (tVar 0) (tCons (tVar 2) tNil))) (tUn (rU fun i => .int (-i)) (tC (.int 1)))) (tC (.int 1))))) tNever tNext)))
theorem ss_need_sides : ∀ ds r, rel_need_sides ds r → SS K none (t_need_sides K) (stS 3 ds) ds0 (RetO r) := by
  rintro ds r ⟨p, a, n, ho, ha, hn, hb, hld, rfl, rfl⟩
  have hp := ho.bp
  have h2 := hp.two
  refine ss_seq (ss_drop (se_call (sa_cons (ser_var (i := 0) rfl) sa_nil) ⟨p, ho, rfl, rfl⟩) ?_)
  refine ss_seq (ss_if (b := false) (st_cast (st_not (st_B (se_call (rel := rel_is_within) (sa_cons (ser_var (i := 1) rfl) (sa_cons (ser_sh se_int) (sa_cons (ser_sh se_int) sa_nil))) ⟨_, _, _, rfl, rfl⟩))) ?_) (fun e => by cases e) (fun _ => ss_next ?_))
  · show (!(decide ((0 : Int) ≤ (a : Nat)) && decide (((a : Nat) : Int) ≤ 1000000))) = false
    rw [decide_eq_true (by omega), decide_eq_true (by omega)]; rfl
  refine ss_if (b := false) (s1 := ds0) (st_cast (st_or (st_not (st_B (se_call (rel := rel_is_within) (sa_cons (ser_var (i := 2) rfl) (sa_cons (ser_sh se_int) (sa_cons (ser_sh se_int) sa_nil))) ⟨_, _, _, rfl, rfl⟩))) (fun _ => st_Test (se_neI (se_ixT (ser_cast (ser_sh (se_rowV (j := 2) (n := n) hp rfl rfl (by have := len20 h2 hb; omega))) (row_eq h2)) (se_neg se_int) (at_lead h2 hn)) se_int))) ?_) (fun e => by cases e) (fun _ => ss_next rfl)
  show ((!(decide ((1 : Int) ≤ (n : Nat)) && decide (((n : Nat) : Int) ≤ 1000000))) || _) = false
  rw [decide_eq_true (by omega), decide_eq_true (by omega), hld]; rfl
def rel_square_symbol : List D → R → Prop := fun ds r => ∃ p a n : Nat, Op p ∧ a ≤ 1000000 ∧ n ≠ 0 ∧ n ≤ 1000000 ∧ lead p n = 1 ∧ ds = [.int p, .int a, .int n] ∧ r = .sh (.int (sym p a n))
/-- slots: 0 base 1 above 2 below -/
def t_square_symbol (K : Frag) : TS := (tSeq (tDrop (tCall (spR K rel_need_sides) [] E0 (tCons (tVar 0) (tCons (tVar 1) (tCons (tVar 2) tNil))))) (tRet (tCall (spR K rel_symbol_by) [] E0 (tCons (tVar 0) (tCons (tCall (spR K rel_row_of) [] E0 (tCons (tVar 0) (tCons (tVar 1) tNil))) (tCons (tCall (spR K rel_row_of) [] E0 (tCons (tVar 0) (tCons (tVar 2) tNil))) tNil))))))
theorem ss_square_symbol : ∀ ds r, rel_square_symbol ds r → SS K none (t_square_symbol K) (stS 3 ds) ds0 (RetO r) := by
  rintro ds r ⟨p, a, n, ho, ha, hn, hb, hld, rfl, rfl⟩
  have hp := ho.bp
  have h1 := len20 hp.two ha
  have h2 := len20 hp.two hb
  refine ss_seq (ss_drop (se_call (rel := rel_need_sides) (sa_cons (ser_var (i := 0) rfl) (sa_cons (ser_var (i := 1) rfl) (sa_cons (ser_var (i := 2) rfl) sa_nil))) ⟨p, a, n, ho, ha, hn, hb, hld, rfl, rfl⟩) ?_)
  exact ss_ret (se_call (rel := rel_symbol_by) (sa_cons (ser_var (i := 0) rfl) (sa_cons (ser_sh (se_rowV (j := 1) hp rfl rfl (by omega))) (sa_cons (ser_sh (se_rowV (j := 2) hp rfl rfl (by omega))) sa_nil))) ⟨p, a, n, hp, by omega, hn, by omega, rfl, rfl⟩) rfl
end
end EL
set_option maxRecDepth 100000
set_option maxHeartbeats 1000000
/-! W11: primes by trial, roots, free, factors as a dict -/
namespace EL
open PySem PySem.Spec L2 M
section
variable {K : Frag} {dr : Option Addr} {δ : List S} {s s1 s2 : DS} {ta tb tc : TE} {p a b : Nat}
def rel_is_prime_row : List D → R → Prop := fun ds r => ∃ p n : Nat, Bp p ∧ n ≠ 0 ∧ n ≤ 100000000 ∧ ds = [.int p, row p n] ∧ r = .sh (.bl (iprime p n))
theorem all_false {n : Nat} {f : Nat → Bool} {i : Nat} (hi : i < n) (h : f i = false) : (List.range n).all f = false := by
  cases h2 : (List.range n).all f with
  | false => rfl
  | true => rw [List.all_eq_true] at h2; rw [h2 i (List.mem_range.mpr hi)] at h; cases h
/-- slots: 0 base 1 row 2 size 3 late -/
def t_is_prime_row (K : Frag) : TS := (tSeq (tIfS (tOr (tTest (tOp (rI0 fun i j => .bl (decide (i < j))) (tCB (fun xs H Q => ∃ p ys, xs = [.ref p] ∧ (SqL K H p ys ∨ SqT K H p ys) ∧ Q (.int ys.length) H) (tCons (tVar 1) tNil)) (tC (.int 2)))) (tTest (tOp rNe (tOp (rIxT K) (tVar 1) (tUn (rU fun i => .int (-i)) (tC (.int 1)))) (tC (.int 1))))) (tRet (tC (.bl false))) tNext) (tSeq (tFor (iRng2 (tCons (tC (.int 1)) (tCons (tOp (rI0 fun i j => .int (i + j)) (tOp (rI CDiv fun i j => .int (i / j)) (tOp (rI0 fun i j => .int (i - j)) (tCB (fun xs H Q => ∃ p ys, xs = [.ref p] ∧ (SqL K H p ys ∨ SqT K H p ys) ∧ Q (.int ys.length) H) (tCons (tVar 1) tNil)) (tC (.int 1))) (tC (.int 2))) (tC (.int 1))) tNil))) (gName 2) (tFor (iList K (tCall (spR K rel_plain_rows) [] E0 (tCons (tVar 0) (tCons (tVar 2) tNil)))) (gName 3) (tIfS (tTest (tOp (rEqD K) (tOp (rIxT K) (tCall (spR K rel_divided_rows) [] E0 (tCons (tVar 0) (tCons (tVar 1) (tCons (tVar 3) tNil)))) (tC (.int 1))) (tTup tNil))) (tRet (tC (.bl false))) tNext))) (tRet (tC (.bl true)))))
theorem ss_is_prime_row : ∀ ds r, rel_is_prime_row ds r → SS K none (t_is_prime_row K) (stS 4 ds) ds0 (RetO r) := by
  rintro ds r ⟨p, n, hp, hn, hb, rfl, rfl⟩
  have h2 := hp.two
  have h5 := hp.le
  have hln := len_b hp hb
  refine ss_seq (ss_if (b := decide (len p n < 2) || !decide (lead p n = 1)) (s1 := ds0) (st_cast (st_or (st_Test (se_cmp (p := fun i j => decide (i < j)) (se_lenRow h2 (ser_var (i := 1) rfl)) se_int)) (fun _ => st_Test (se_neI (se_ixT (ser_var (i := 1) (by rw [row_eq h2]; rfl)) (se_neg se_int) (at_lead h2 hn)) se_int))) ?_) (fun c => ?_) (fun c => ss_next ?_))
  · congr 1
    · exact decide_eq_decide.mpr (by omega)
    · congr 1; exact decide_eq_decide.mpr (by omega)
  · refine ss_ret se_bl ?_
    show R.sh _ = R.sh _
    congr 2
    rw [Bool.or_eq_true, decide_eq_true_iff, Bool.not_eq_true', decide_eq_false_iff_not] at c
    unfold iprime
    rcases c with c | c
    · rw [decide_eq_false (by omega : ¬ 2 ≤ len p n)]; rfl
    · rw [decide_eq_false c]; simp
  · rw [Bool.or_eq_false_iff, decide_eq_false_iff_not, Bool.not_eq_false', decide_eq_true_iff] at c
    have hip : iprime p n = (List.range ((len p n - 1) / 2)).all fun i => (List.range (p ^ (i + 1))).all fun j => !decide (pmod p n (p ^ (i + 1) + j) = 0) := by
      unfold iprime; rw [decide_eq_true (by omega : 2 ≤ len p n), decide_eq_true c.2]; rfl
    rw [hip]
    refine ss_seq (ss_for (s1 := ds0) (n := (len p n - 1) / 2) (it := fun i => D.int (1 + (i : Nat))) (C := CTrue) (I := fun i δ s => s = ds0 ∧ (∀ i', i' < i → ((List.range (p ^ (i' + 1))).all fun j => !decide (pmod p n (p ^ (i' + 1) + j) = 0)) = true) ∧ ∃ q2 q3, δ = [.sh (.int p), .sh (row p n), q2, q3]) ?_ (fun _ _ _ _ => trivial) ?_ ?_ ?_)
    · have := si_range2 (K := K) (dr := none) (δ := [.sh (.int p), .sh (row p n), .no, .no]) (s := ds0) (se_int (i := 1)) (se_add (se_div (se_sub (se_lenRow h2 (ser_var (i := 1) rfl)) (se_int (i := 1))) (se_int (i := 2)) ⟨by decide, by decide⟩) (se_int (i := 1))) ⟨by omega, by omega, by omega, by omega⟩
      rw [show (((len p n : Int) - 1) / 2 + 1 - 1).toNat = (len p n - 1) / 2 by omega] at this
      exact this
    · exact ⟨rfl, fun _ h => absurd h (Nat.not_lt_zero _), .no, .no, rfl⟩
    · rintro i δ s hi ⟨rfl, hall, q2, q3, rfl⟩
      refine ⟨_, sg_name, ?_⟩
      obtain ⟨k, hk⟩ : ∃ k, k = i + 1 := ⟨_, rfl⟩
      rw [show (1 + (i : Nat) : Int) = (k : Nat) by omega]
      have hpk := pk_le hp hn hb (k := k) (by omega)
      refine ss_for (s1 := ds0) (n := p ^ k) (it := fun j => (plR p k).getD j .non) (C := CTrue) (I := fun j δ s => s = ds0 ∧ (∀ j', j' < j → (!decide (pmod p n (p ^ k + j') = 0)) = true) ∧ ∃ q3, δ = [.sh (.int p), .sh (row p n), .sh (.int k), q3]) ?_ (fun _ _ _ _ => trivial) ?_ ?_ ?_
      · have := si_lst (K := K) (dr := none) (δ := [.sh (.int p), .sh (row p n), .sh (.int k), q3]) (s := ds0) (se_pub (d := .lst (plR p k)) (se_call (Ex := E0) (rel := rel_plain_rows) (sa_cons (ser_var (i := 0) rfl) (sa_cons (ser_var (i := 2) rfl) sa_nil)) ⟨p, k, hp, by omega, by omega, rfl, rfl⟩))
        rw [show (plR p k).length = p ^ k by unfold plR; simp] at this
        exact this
      · exact ⟨rfl, fun _ h => absurd h (Nat.not_lt_zero _), q3, rfl⟩
      · rintro j δ s hj ⟨rfl, hall2, q3, rfl⟩
        have hg : (plR p k).getD j .non = row p (p ^ k + j) := by unfold plR; rw [List.getD_eq_getElem?_getD]; simp [hj]
        rw [hg]
        have hq2 : len p (p ^ k + j) = k + 1 := len_pw hp hj
        have hq0 : p ^ k + j ≠ 0 := fun z => by rw [z, len_zero] at hq2; omega
        refine ⟨_, sg_name, ?_⟩
        refine ss_if (st_Test (se_eqRow (a := pmod p n (p ^ k + j)) (b := 0) h2 (ser_sh (se_rest (a := n) (b := p ^ k + j) hp rfl (ser_var (i := 1) rfl) (ser_var (i := 3) rfl) (by omega) (by omega) hq0)) (ser_sh (se_nil (p := p))))) (fun d => ?_) (fun d => ss_next ?_)
        · refine ss_ret se_bl ?_
          show R.sh _ = R.sh _
          congr 2
          refine (all_false hi (all_false (i := j) (by rw [← hk]; exact hj) ?_)).symm
          rw [← hk, d]; rfl
        · refine ⟨rfl, fun j' hj' => ?_, .sh (row p (p ^ k + j)), rfl⟩
          by_cases z : j' = j
          · rw [z, d]; rfl
          · exact hall2 j' (by omega)
      · rintro δ s ⟨rfl, hall2, q3, rfl⟩
        refine ⟨rfl, fun i' hi' => ?_, .sh (.int k), q3, rfl⟩
        by_cases z : i' = i
        · rw [z, ← hk, List.all_eq_true]
          exact fun j hj => hall2 j (List.mem_range.mp hj)
        · exact hall i' (by omega)
    · rintro δ s ⟨rfl, hall, q2, q3, rfl⟩
      refine ss_ret se_bl ?_
      show R.sh _ = R.sh _
      congr 2
      exact (List.all_eq_true.mpr fun i hi => hall i (List.mem_range.mp hi)).symm
def rel_is_prime_number : List D → R → Prop := fun ds r => ∃ p n : Nat, Bp p ∧ p ≤ n ∧ n ≤ 1000000 ∧ ds = [.int p, .int n] ∧ r = .sh (.bl (iprime p n))
/-- slots: 0 base 1 thing -/
def t_is_prime_number (K : Frag) : TS := (tRet (tAndV (tCall (spR K rel_is_within) [] E0 (tCons (tVar 1) (tCons (tVar 0) (tCons (tC (.int 1000000)) tNil)))) (tCall (spR K rel_is_prime_row) [] E0 (tCons (tVar 0) (tCons (tCall (spR K rel_row_of) [] E0 (tCons (tVar 0) (tCons (tVar 1) tNil))) tNil)))))
theorem ss_is_prime_number : ∀ ds r, rel_is_prime_number ds r → SS K none (t_is_prime_number K) (stS 2 ds) ds0 (RetO r) := by
  rintro ds r ⟨p, n, hp, hn, hb, rfl, rfl⟩
  have h2 := hp.two
  have h1 := len20 h2 hb
  refine ss_ret (se_and (se_call (rel := rel_is_within) (sa_cons (ser_var (i := 1) rfl) (sa_cons (ser_var (i := 0) rfl) (sa_cons (ser_sh se_int) sa_nil))) ⟨_, _, _, rfl, rfl⟩) (fun _ => se_call (rel := rel_is_prime_row) (sa_cons (ser_var (i := 0) rfl) (sa_cons (ser_sh (se_rowV (j := 1) hp rfl rfl (by omega))) sa_nil)) ⟨p, n, hp, by omega, by omega, rfl, rfl⟩)) ?_
  show R.sh (.bl ((decide ((p : Int) ≤ (n : Nat)) && decide (((n : Nat) : Int) ≤ 1000000)) && _)) = _
  rw [decide_eq_true (by omega), decide_eq_true (by omega)]; rfl
def rel_need_prime : List D → R → Prop := fun ds r => ∃ p n : Nat, Bp p ∧ p ≤ n ∧ n ≤ 1000000 ∧ iprime p n = true ∧ ds = [.int p, .int n] ∧ r = .sh .non
/-- slots: 0 base 1 prime -/
def t_need_prime (K : Frag) : TS := (tIfS (tNot (tB (tCall (spR K rel_is_prime_number) [] E0 (tCons (tVar 0) (tCons (tVar 1) tNil))))) tNever tNext)
theorem ss_need_prime : ∀ ds r, rel_need_prime ds r → SS K none (t_need_prime K) (stS 2 ds) ds0 (RetO r) := by
  rintro ds r ⟨p, n, hp, hn, hb, hi, rfl, rfl⟩
  exact ss_if (b := false) (st_cast (st_not (st_B (se_call (rel := rel_is_prime_number) (sa_cons (ser_var (i := 0) rfl) (sa_cons (ser_var (i := 1) rfl) sa_nil)) ⟨p, n, hp, hn, hb, rfl, rfl⟩))) (by rw [hi]; rfl)) (fun e => by cases e) (fun _ => ss_next rfl)
def rel_rests_of : List D → R → Prop := fun ds r => ∃ p m : Nat, Bp p ∧ 1 ≤ len p m ∧ len p m ≤ 1000 ∧ p ^ (len p m - 1) ≤ 2000 ∧ ds = [.int p, row p m] ∧ r = .sh (.int (p ^ (len p m - 1) : Nat))
/-- slots: 0 base 1 modulus 2 many -/
def t_rests_of (K : Frag) : TS := (tSeq (tAsg (tCall (spR K rel_powered) [] E0 (tCons (tVar 0) (tCons (tOp (rI0 fun i j => .int (i - j)) (tCB (fun xs H Q => ∃ p ys, xs = [.ref p] ∧ (SqL K H p ys ∨ SqT K H p ys) ∧ Q (.int ys.length) H) (tCons (tVar 1) tNil)) (tC (.int 1))) tNil))) (gName 2)) (tSeq (tIfS (tTest (tOp (rI0 fun i j => .bl (decide (j < i))) (tVar 2) (tC (.int 2000)))) tNever tNext) (tRet (tVar 2))))
theorem ss_rests_of : ∀ ds r, rel_rests_of ds r → SS K none (t_rests_of K) (stS 3 ds) ds0 (RetO r) := by
  rintro ds r ⟨p, m, hp, h1, hm, hN, rfl, rfl⟩
  have h2 := hp.two
  have h5 := hp.le
  refine ss_seq (ss_set (i := 2) (se_call (rel := rel_powered) (r := .sh (.int (p ^ (len p m - 1) : Nat))) (sa_cons (ser_var (i := 0) rfl) (sa_cons (d := .int (len p m - 1 : Nat)) (ser_sh (se_cast (se_sub (se_lenRow h2 (ser_var (i := 1) rfl)) se_int) (by congr 2; omega))) sa_nil)) ⟨p, len p m - 1, by omega, by omega, rfl, rfl⟩) ?_)
  refine ss_seq (ss_if (st_Test (se_cmp (p := fun i j => decide (j < i)) (se_var (i := 2) rfl) se_int)) (fun c => ?_) (fun _ => ss_next ?_))
  · exfalso; have := of_decide_eq_true c; omega
  · exact ss_ret (se_var (i := 2) rfl) rfl
def rel_square_rest : List D → R → Prop := fun ds r => ∃ p n m : Nat, Bp p ∧ len p n ≤ 1000 ∧ m ≠ 0 ∧ len p m ≤ 1000 ∧ ds = [.int p, .int n, row p m] ∧ r = .sh (row p (pmod p (pmul p n n) m))
/-- slots: 0 base 1 number 2 modulus 3 row -/
def t_square_rest (K : Frag) : TS := (tSeq (tAsg (tCall (spR K rel_row_of) [] E0 (tCons (tVar 0) (tCons (tVar 1) tNil))) (gName 3)) (tRet (tOp (rIxT K) (tCall (spR K rel_divided_rows) [] E0 (tCons (tVar 0) (tCons (tCall (spR K rel_times_rows) [] E0 (tCons (tVar 0) (tCons (tVar 3) (tCons (tVar 3) tNil)))) (tCons (tVar 2) tNil)))) (tC (.int 1)))))
theorem ss_square_rest : ∀ ds r, rel_square_rest ds r → SS K none (t_square_rest K) (stS 4 ds) ds0 (RetO r) := by
  rintro ds r ⟨p, n, m, hp, hn, hm0, hm, rfl, rfl⟩
  refine ss_seq (ss_set (i := 3) (se_rowV (j := 1) (n := n) hp rfl rfl (by omega)) ?_)
  exact ss_ret (se_rest (a := pmul p n n) (b := m) hp rfl (ser_sh (se_times (a := n) (b := n) hp rfl (ser_var (i := 3) rfl) (ser_var (i := 3) rfl) (by omega) (by omega))) (ser_var (i := 2) rfl) (by have := len_pmul_le (a := n) (b := n) hp; omega) (by omega) hm0) rfl
def optD : Option Nat → D
  | some r => .int r
  | none => .non
def rel_root_of : List D → R → Prop := fun ds r => ∃ p n q : Nat, Op p ∧ n ≤ 1000000 ∧ p ≤ q ∧ q ≤ 1000000 ∧ iprime p q = true ∧ p ^ (len p q - 1) ≤ 2000 ∧ ds = [.int p, .int n, .int q] ∧ r = .sh (optD (rootF p n q))
/-- slots: 0 base 1 number 2 prime 3 modulus 4 goal 5 root -/
def t_root_of (K : Frag) : TS := (tSeq (tDrop (tCall (spR K rel_need_odd_base) [] E0 (tCons (tVar 0) tNil))) (tSeq (tDrop (tCall (spR K rel_need_as) [] E0 (tCons (tVar 1) (tCons (tC (.str "number")) (tCons (tC (.int 0)) tNil))))) (tSeq (tDrop (tCall (spR K rel_need_prime) [] E0 (tCons (tVar 0) (tCons (tVar 2) tNil)))) (tSeq (tAsg (tCall (spR K rel_row_of) [] E0 (tCons (tVar 0) (tCons (tVar 2) tNil))) (gName 3)) (tSeq (tAsg (tOp (rIxT K) (tCall (spR K rel_divided_rows) [] E0 (tCons (tVar 0) (tCons (tCall (spR K rel_row_of) [] E0 (tCons (tVar 0) (tCons (tVar 1) tNil))) (tCons (tVar 3) tNil)))) (tC (.int 1))) (gName 4)) (tSeq (tFor (iRng1 (tCons (tCall (spR K rel_rests_of) [] E0 (tCons (tVar 0) (tCons (tVar 3) tNil))) tNil)) (gName 5) (tIfS (tTest (tOp (rEqD K) (tCall (spR K rel_square_rest) [] E0 (tCons (tVar 0) (tCons (tVar 5) (tCons (tVar 3) tNil)))) (tVar 4))) (tRet (tVar 5)) tNext)) (tRet (tC .non))))))))
theorem ss_root_of : ∀ ds r, rel_root_of ds r → SS K none (t_root_of K) (stS 6 ds) ds0 (RetO r) := by
  rintro ds r ⟨p, n, q, ho, hn, hq, hb, hi, hN, rfl, rfl⟩
  have hp := ho.bp
  have h2 := hp.two
  have h1 := len20 h2 hn
  have h3 := len20 h2 hb
  have q0 : q ≠ 0 := by omega
  have hl0 := len_ne h2 q0
  refine ss_seq (ss_drop (se_call (rel := rel_need_odd_base) (sa_cons (ser_var (i := 0) rfl) sa_nil) ⟨p, ho, rfl, rfl⟩) ?_)
  refine ss_seq (ss_drop (se_call (rel := rel_need_as) (sa_cons (ser_var (i := 1) rfl) (sa_cons (ser_sh se_str) (sa_cons (ser_sh se_int) sa_nil))) ⟨n, 0, _, by omega, by omega, rfl, rfl⟩) ?_)
  refine ss_seq (ss_drop (se_call (rel := rel_need_prime) (sa_cons (ser_var (i := 0) rfl) (sa_cons (ser_var (i := 2) rfl) sa_nil)) ⟨p, q, hp, hq, hb, hi, rfl, rfl⟩) ?_)
  refine ss_seq (ss_set (i := 3) (se_rowV (j := 2) (n := q) hp rfl rfl (by omega)) ?_)
  refine ss_seq (ss_set (i := 4) (se_rest (a := n) (b := q) hp rfl (ser_sh (se_rowV (j := 1) (n := n) hp rfl rfl (by omega))) (ser_var (i := 3) rfl) (by omega) (by omega) q0) ?_)
  have hfl : ∀ r, r < p ^ (len p q - 1) → len p r ≤ 20 := fun r hr => len20 h2 (by omega)
  refine ss_seq (ss_for (s1 := ds0) (n := p ^ (len p q - 1)) (it := fun i => D.int (0 + (i : Nat))) (C := CTrue) (I := fun i δ s => s = ds0 ∧ (((List.range i).map fun r => r).find? fun r => decide (pmod p (pmul p r r) q = pmod p n q)) = none ∧ ∃ q5, δ = [.sh (.int p), .sh (.int n), .sh (.int q), .sh (row p q), .sh (row p (pmod p n q)), q5]) ?_ (fun _ _ _ _ => trivial) ?_ ?_ ?_)
  · have := si_range1 (K := K) (dr := none) (δ := [.sh (.int p), .sh (.int n), .sh (.int q), .sh (row p q), .sh (row p (pmod p n q)), .no]) (s := ds0) (se_call (Ex := E0) (rel := rel_rests_of) (sa_cons (ser_var (i := 0) rfl) (sa_cons (ser_var (i := 3) rfl) sa_nil)) ⟨p, q, hp, by omega, by omega, hN, rfl, rfl⟩) (by omega) (by omega)
    rw [Int.toNat_natCast] at this
    exact this
  · exact ⟨rfl, rfl, .no, rfl⟩
  · rintro i δ s hi ⟨rfl, hno, q5, rfl⟩
    refine ⟨_, sg_name, ?_⟩
    rw [Int.zero_add]
    have hl := hfl i hi
    refine ss_if (st_Test (se_eqRow (a := pmod p (pmul p i i) q) (b := pmod p n q) h2 (ser_sh (se_call (rel := rel_square_rest) (sa_cons (ser_var (i := 0) rfl) (sa_cons (ser_var (i := 5) rfl) (sa_cons (ser_var (i := 3) rfl) sa_nil))) ⟨p, i, q, hp, by omega, q0, by omega, rfl, rfl⟩)) (ser_var (i := 4) rfl))) (fun c => ?_) (fun c => ss_next ?_)
    · refine ss_ret (se_var (i := 5) rfl) ?_
      have := find_range (P := fun r => decide (pmod p (pmul p r r) q = pmod p n q)) (f := fun r => r) hi hno c
      rw [List.map_id'] at this
      unfold rootF
      rw [this]; rfl
    · exact ⟨rfl, find_range_no (P := fun r => decide (pmod p (pmul p r r) q = pmod p n q)) (f := fun r => r) hno c, .sh (.int (i : Nat)), rfl⟩
  · rintro δ s ⟨rfl, hno, q5, rfl⟩
    refine ss_ret se_non ?_
    rw [List.map_id'] at hno
    unfold rootF
    rw [hno]; rfl
def rel_need_modulus : List D → R → Prop := fun ds r => ∃ p m : Nat, Bp p ∧ p ≤ m ∧ m ≤ 1000000 ∧ ds = [.int p, .int m] ∧ r = .sh .non
/-- slots: 0 base 1 modulus -/
def t_need_modulus (K : Frag) : TS := (tSeq (tDrop (tCall (spR K rel_need_as) [] E0 (tCons (tVar 1) (tCons (tC (.str "modulus")) (tCons (tC (.int 0)) tNil))))) (tIfS (tTest (tOp (rI0 fun i j => .bl (decide (i < j))) (tVar 1) (tVar 0))) tNever tNext))
theorem ss_need_modulus : ∀ ds r, rel_need_modulus ds r → SS K none (t_need_modulus K) (stS 2 ds) ds0 (RetO r) := by
  rintro ds r ⟨p, m, hp, hm, hb, rfl, rfl⟩
  refine ss_seq (ss_drop (se_call (rel := rel_need_as) (sa_cons (ser_var (i := 1) rfl) (sa_cons (ser_sh se_str) (sa_cons (ser_sh se_int) sa_nil))) ⟨m, 0, _, by omega, by omega, rfl, rfl⟩) ?_)
  refine ss_if (st_Test (se_cmp (p := fun i j => decide (i < j)) (se_var (i := 1) rfl) (se_var (i := 0) rfl))) (fun c => ?_) (fun _ => ss_next rfl)
  exfalso; have := of_decide_eq_true c; omega
def rel_free_by : List D → R → Prop := fun ds r => ∃ p n : Nat, Bp p ∧ n ≠ 0 ∧ n ≤ 100000 ∧ len p n ≤ 3 ∧ (∀ x ∈ fac p n, x.2 ≤ 10) ∧ ds = [.int p, row p n] ∧ r = .sh (.int (free p n : Nat))
theorem freeF_take (p : Nat) (l : List (Nat × Nat)) {i : Nat} (hi : i < l.length) (v : Nat) : freeF p (l.drop i) v = freeF p (l.drop (i + 1)) (v * (p ^ (len p (l.getD i (0, 0)).1 - 1) - 1) * (p ^ (len p (l.getD i (0, 0)).1 - 1)) ^ ((l.getD i (0, 0)).2 - 1)) := by
  rw [List.drop_eq_getElem_cons hi, List.getD_eq_getElem?_getD, List.getElem?_eq_getElem hi]
  rfl
def rel_factors_of : List D → R → Prop := fun ds r => ∃ p n : Nat, Bp p ∧ n ≠ 0 ∧ n ≤ 1000000 ∧ ds = [.int p, .int n] ∧
  r = .own (.dct (dcK (fun i => .inl ((fac p n).getD i (0, 0)).1) (fac p n).length) (dcD (fun i => .inl ((fac p n).getD i (0, 0)).1) (fun i => .int ((fac p n).getD i (0, 0)).2) (fac p n).length))
/-- slots: 0 base 1 number 2 row 3 often -/
def t_factors_of (K : Frag) : TS := (tSeq (tDrop (tCall (spR K rel_need_base) [] E0 (tCons (tVar 0) tNil))) (tSeq (tDrop (tCall (spR K rel_need_as) [] E0 (tCons (tVar 1) (tCons (tC (.str "number")) (tCons (tC (.int 1)) tNil))))) (tRet (tDc (iList K (tCall (spR K rel_factors_by) [] E0 (tCons (tVar 0) (tCons (tCall (spR K rel_row_of) [] E0 (tCons (tVar 0) (tCons (tVar 1) tNil))) tNil)))) (gTup K 2 (gCons (gName 2) (gCons (gName 3) gNil))) tYes (tCall (spR K rel_number_by) [] E0 (tCons (tVar 0) (tCons (tVar 2) tNil))) (tVar 3) [2, 3]))))
theorem ss_factors_of : ∀ ds r, rel_factors_of ds r → SS K none (t_factors_of K) (stS 4 ds) ds0 (RetO r) := by
  rintro ds r ⟨p, n, hp, hn, hb, rfl, rfl⟩
  have h1 := len20 hp.two hb
  refine ss_seq (ss_drop (se_call (sa_cons (ser_var (i := 0) rfl) sa_nil) ⟨p, hp, rfl, rfl⟩) ?_)
  refine ss_seq (ss_drop (se_call (rel := rel_need_as) (sa_cons (ser_var (i := 1) rfl) (sa_cons (ser_sh se_str) (sa_cons (ser_sh se_int) sa_nil))) ⟨n, 1, _, by omega, by omega, rfl, rfl⟩) ?_)
  obtain ⟨fs, hfs⟩ : ∃ fs, fs = fac p n := ⟨_, rfl⟩
  rw [← hfs]
  have hcnt : fs.length ≤ 10000 := by have := fac_cnt hp hn; rw [← hfs] at this; omega
  refine ss_ret (se_dc (fun i => .inl (fs.getD i (0, 0)).1) (fun i => .int (fs.getD i (0, 0)).2) (fun i => [.sh (.int p), .sh (.int n), .sh (row p (fs.getD i (0, 0)).1), .sh (.int (fs.getD i (0, 0)).2)]) (n := fs.length) (s := ds0) (C := CTrue) (it := fun i => (fs.map (prF p)).getD i .non) ?_ (fun _ => trivial) (fun i hi => ?_) (gown_tup2 (by simp) (by simp)) (fun i hi => se_num hp rfl (se_var (i := 2) rfl)) (fun i hi => se_var (i := 3) rfl) (by rw [sizeLine_eq]; omega)) rfl
  · have := si_lst (K := K) (dr := none) (δ := [.sh (.int p), .sh (.int n), .no, .no]) (s := ds0) (se_pub (d := .lst (fs.map (prF p))) (se_call (Ex := E0) (rel := rel_factors_by) (sa_cons (ser_var (i := 0) rfl) (sa_cons (ser_sh (se_rowV (j := 1) (n := n) hp rfl rfl (by omega))) sa_nil)) ⟨p, n, hp, hn, by omega, rfl, by rw [hfs]; rfl⟩))
    rw [fac_len] at this
    exact this
  · rw [fac_getD hi]; exact sg_tup2
def rel_law_symbol_by_squares : List D → R → Prop := fun ds r => ∃ p a q : Nat, Bp p ∧ a ≤ 1000000 ∧ q ≠ 0 ∧ q ≤ 1000000 ∧ ds = [.int p, .int a, .int q] ∧ r = .sh (.int (lsym p a q))
/-- slots: 0 base 1 above 2 prime 3 row 4 rest 5 squares 6 late -/
def t_law_symbol_by_squares (K : Frag) : TS := (tSeq (tAsg (tTup (tCons (tCall (spR K rel_law_row) [] E0 (tCons (tVar 0) (tCons (tVar 2) tNil))) (tCons (tOp (rIxT K) (tCall (spR K rel_law_divided) [] E0 (tCons (tVar 0) (tCons (tCall (spR K rel_law_row) [] E0 (tCons (tVar 0) (tCons (tVar 1) tNil))) (tCons (tCall (spR K rel_law_row) [] E0 (tCons (tVar 0) (tCons (tVar 2) tNil))) tNil)))) (tC (.int 1))) tNil))) (gTup K 2 (gCons (gName 3) (gCons (gName 4) gNil)))) (tSeq (tIfS (tTest (tOp (rEqD K) (tVar 4) (tTup tNil))) (tRet (tC (.int 0))) tNext) (tSeq (tAsg (tLc (iRng2 (tCons (tC (.int 1)) (tCons (tCall (spR K rel_law_power) [] E0 (tCons (tVar 0) (tCons (tOp (rI0 fun i j => .int (i - j)) (tCB (fun xs H Q => ∃ p ys, xs = [.ref p] ∧ (SqL K H p ys ∨ SqT K H p ys) ∧ Q (.int ys.length) H) (tCons (tVar 3) tNil)) (tC (.int 1))) tNil))) tNil))) (gName 6) (tTest (tOp (rEqD K) (tOp (rIxT K) (tCall (spR K rel_law_divided) [] E0 (tCons (tVar 0) (tCons (tCall (spR K rel_law_times) [] E0 (tCons (tVar 0) (tCons (tCall (spR K rel_law_row) [] E0 (tCons (tVar 0) (tCons (tVar 6) tNil))) (tCons (tCall (spR K rel_law_row) [] E0 (tCons (tVar 0) (tCons (tVar 6) tNil))) tNil)))) (tCons (tVar 3) tNil)))) (tC (.int 1))) (tVar 4))) (tC (.int 1)) [6]) (gName 5)) (tRet (tIf (tTest (tOp (rNeD K) (tVar 5) (tLst tNil))) (tC (.int 1)) (tOp (rI0 fun i j => .int (i - j)) (tC (.int 0)) (tC (.int 1))))))))
theorem se_lrow {j : Nat} {n : Nat} {jb : Nat} (hp : Bp p) (h0 : δ[jb]? = some (.sh (.int p))) (hj : δ[j]? = some (.sh (.int n))) (hn : len p n ≤ 2000) : Se K dr (tCall (spR K rel_law_row) [] E0 (tCons (tVar jb) (tCons (tVar j) tNil))) δ s (.sh (row p n)) s :=
  se_call (sa_cons (ser_var h0) (sa_cons (ser_var hj) sa_nil)) ⟨p, n, hp, hn, rfl, rfl⟩
theorem ss_law_symbol_by_squares : ∀ ds r, rel_law_symbol_by_squares ds r → SS K none (t_law_symbol_by_squares K) (stS 7 ds) ds0 (RetO r) := by
  rintro ds r ⟨p, a, q, hp, ha, q0, hq, rfl, rfl⟩
  have h2 := hp.two
  have h5 := hp.le
  have h1 := len20 h2 ha
  have h3 := len20 h2 hq
  have hl0 := len_ne h2 q0
  have hN : p ^ (len p q - 1) ≤ 1000000 := Nat.le_trans (pow_len_le h2 q0) hq
  refine ss_seq (ss_tas2 (se_lrow (j := 2) (n := q) hp rfl rfl (by omega)) (se_lrest (a := a) (b := q) hp rfl (ser_sh (se_lrow (j := 1) (n := a) hp rfl rfl (by omega))) (ser_sh (se_lrow (j := 2) (n := q) hp rfl rfl (by omega))) (by omega) (by omega) q0) ⟨_, .sh _⟩ ⟨_, .sh _⟩ ?_)
  intro x1 x2 y1 y2
  cases y1
  cases y2
  refine ss_seq (ss_if (st_Test (se_eqRow (a := pmod p a q) (b := 0) h2 (ser_var (i := 4) rfl) (ser_sh (se_nil (p := p))))) (fun c => ?_) (fun c => ss_next ?_))
  · refine ss_ret se_int ?_
    unfold lsym; rw [if_pos (of_decide_eq_true c)]; rfl
  have c := of_decide_eq_false c
  obtain ⟨N, hNe⟩ : ∃ N, N = p ^ (len p q - 1) := ⟨_, rfl⟩
  have hNl : ∀ i, i < N - 1 → len p (1 + i) ≤ 20 := fun i hi => len20 h2 (by omega)
  refine ss_seq (ss_setO (d := lstD (((List.range (N - 1)).filter fun i => decide (pmod p (pmul p (1 + i) (1 + i)) q = pmod p a q)).map fun _ => 1)) (se_cast (se_lcP (n := N - 1) (C := CTrue) (it := fun i => D.int (1 + (i : Nat))) (fun i => decide (pmod p (pmul p (1 + i) (1 + i)) q = pmod p a q)) (fun _ => D.int 1) (fun i => [.sh (.int p), .sh (.int a), .sh (.int q), .sh (row p q), .sh (row p (pmod p a q)), .no, .sh (.int (1 + i : Nat))]) ?_ (fun _ => trivial) (fun i hi => ?_) (gown_name (by simp)) (fun i hi => ?_) (fun i hi _ => se_int) (by rw [sizeLine_eq]; omega)) ?_) fun ad => ?_)
  · have := si_range2 (K := K) (dr := none) (δ := [.sh (.int p), .sh (.int a), .sh (.int q), .sh (row p q), .sh (row p (pmod p a q)), .no, .no]) (s := ds0) (se_int (i := 1)) (se_call (Ex := E0) (rel := rel_law_power) (r := .sh (.int (p ^ (len p q - 1) : Nat))) (sa_cons (ser_var (i := 0) rfl) (sa_cons (d := .int (len p q - 1 : Nat)) (ser_sh (se_cast (se_sub (se_lenRow h2 (ser_var (i := 3) rfl)) (se_int (i := 1))) (by congr 2; omega))) sa_nil)) ⟨p, len p q - 1, by omega, by omega, rfl, rfl⟩) ⟨by omega, by omega, by omega, by omega⟩
    rw [show (((p ^ (len p q - 1) : Nat) : Int) - 1).toNat = N - 1 by rw [hNe]; omega] at this
    exact this
  · have := sg_name (K := K) (dr := none) (i := 6) (d := .int (1 + i : Nat)) (δ := wipeS [.sh (.int p), .sh (.int a), .sh (.int q), .sh (row p q), .sh (row p (pmod p a q)), .no, .no] [6])
    rw [show ((1 + i : Nat) : Int) = 1 + (i : Nat) by push_cast; rfl] at this ⊢
    exact this
  · have hl := hNl i hi
    exact st_Test (se_eqRow (a := pmod p (pmul p (1 + i) (1 + i)) q) (b := pmod p a q) h2 (ser_sh (se_lrest (a := pmul p (1 + i) (1 + i)) (b := q) hp rfl (ser_sh (se_ltimes (a := 1 + i) (b := 1 + i) hp rfl (ser_sh (se_lrow (j := 6) (n := 1 + i) hp rfl rfl (by omega))) (ser_sh (se_lrow (j := 6) (n := 1 + i) hp rfl rfl (by omega))) (by omega) (by omega))) (ser_var (i := 3) rfl) (by have := len_pmul_le (a := 1 + i) (b := 1 + i) hp; omega) (by omega) q0)) (ser_var (i := 4) rfl))
  · show R.own (.lst _) = R.own (.lst _)
    rw [List.map_map]; rfl
  · refine ss_ret (s1 := ds0) (r := .sh (.int (lsym p a q))) (se_ifT (s1 := ds0) (s2 := ds0) (st_Test (se_neNilL (ser_ovar (i := 5) rfl))) (fun d => ?_) (fun d => ?_)) rfl
    · refine se_cast (se_int (i := 1)) ?_
      unfold lsym
      rw [if_neg c, ← hNe]
      have : ((List.range (N - 1)).any fun i => decide (pmod p (pmul p (1 + i) (1 + i)) q = pmod p a q)) = true := by
        rw [List.any_eq_true]
        rw [Bool.not_eq_true', decide_eq_false_iff_not, List.map_eq_nil_iff, List.filter_eq_nil_iff] at d
        exact Classical.byContradiction fun z => d fun i hi hc => z ⟨i, hi, hc⟩
      rw [if_pos this]
    · refine se_cast (se_sub (se_int (i := 0)) (se_int (i := 1))) ?_
      unfold lsym
      rw [if_neg c, ← hNe]
      have : ((List.range (N - 1)).any fun i => decide (pmod p (pmul p (1 + i) (1 + i)) q = pmod p a q)) = false := by
        rw [Bool.not_eq_false', decide_eq_true_iff, List.map_eq_nil_iff, List.filter_eq_nil_iff] at d
        rw [List.any_eq_false]
        exact d
      rw [this]; rfl
/-- slots: 0 base 1 row 2 found 3 prime 4 often 5 whole -/
def t_free_by (K : Frag) : TS := (tSeq (tAsg (tC (.int 1)) (gName 2)) (tSeq (tFor (iList K (tCall (spR K rel_factors_by) [] E0 (tCons (tVar 0) (tCons (tVar 1) tNil)))) (gTup K 2 (gCons (gName 3) (gCons (gName 4) gNil))) (tSeq (tAsg (tCall (spR K rel_powered) [] E0 (tCons (tVar 0) (tCons (tOp (rI0 fun i j => .int (i - j)) (tCB (fun xs H Q => ∃ p ys, xs = [.ref p] ∧ (SqL K H p ys ∨ SqT K H p ys) ∧ Q (.int ys.length) H) (tCons (tVar 3) tNil)) (tC (.int 1))) tNil))) (gName 5)) (tAsg (tOp (rI CMul fun i j => .int (i * j)) (tOp (rI CMul fun i j => .int (i * j)) (tVar 2) (tOp (rI0 fun i j => .int (i - j)) (tVar 5) (tC (.int 1)))) (tCall (spR K rel_powered) [] E0 (tCons (tVar 5) (tCons (tOp (rI0 fun i j => .int (i - j)) (tVar 4) (tC (.int 1))) tNil)))) (gName 2)))) (tRet (tVar 2))))
theorem ss_free_by : ∀ ds r, rel_free_by ds r → SS K none (t_free_by K) (stS 6 ds) ds0 (RetO r) := by
  rintro ds r ⟨p, n, hp, hn, hb, hl3, he10, rfl, rfl⟩
  have h2 := hp.two
  have h5 := hp.le
  have hfo := fac_ok hp hn
  refine ss_seq (ss_set se_int ?_)
  obtain ⟨fs, hfs⟩ : ∃ fs, fs = fac p n := ⟨_, rfl⟩
  have hfree : free p n = freeF p fs 1 := by rw [hfs]; rfl
  rw [← hfs] at hfo
  rw [hfree]
  refine ss_seq (ss_for (s1 := ds0) (n := fs.length) (it := fun i => (fs.map (prF p)).getD i .non) (C := CTrue) (I := fun i δ s => s = ds0 ∧ ∃ (v : Nat) (q4 q5 q6 : S), freeF p (fs.drop i) v = freeF p fs 1 ∧ δ = [.sh (.int p), .sh (row p n), .sh (.int v), q4, q5, q6]) ?_ (fun _ _ _ _ => trivial) ?_ ?_ ?_)
  · have := si_lst (K := K) (dr := none) (δ := [.sh (.int p), .sh (row p n), .sh (.int 1), .no, .no, .no]) (s := ds0) (se_pub (d := .lst (fs.map (prF p))) (se_call (Ex := E0) (rel := rel_factors_by) (sa_cons (ser_var (i := 0) rfl) (sa_cons (ser_var (i := 1) rfl) sa_nil)) ⟨p, n, hp, hn, by omega, rfl, by rw [hfs]; rfl⟩))
    rw [fac_len] at this
    exact this
  · exact ⟨rfl, 1, .no, .no, .no, rfl, rfl⟩
  · rintro i δ s hi ⟨rfl, v, q4, q5, q6, e, rfl⟩
    rw [fac_getD hi]
    have hx := hfo (fs.getD i (0, 0)) (by rw [List.getD_eq_getElem?_getD, List.getElem?_eq_getElem hi]; exact List.getElem_mem hi)
    have hx2 : (fs.getD i (0, 0)).2 ≤ 10 := he10 _ (by rw [← hfs, List.getD_eq_getElem?_getD, List.getElem?_eq_getElem hi]; exact List.getElem_mem hi)
    rw [freeF_take p fs hi] at e
    generalize fs.getD i (0, 0) = x at *
    refine ⟨_, sg_tup2, ?_⟩
    obtain ⟨w, hw⟩ : ∃ w, w = p ^ (len p x.1 - 1) := ⟨_, rfl⟩
    have hwm : w ≤ 25 := by
      rw [hw]
      calc p ^ (len p x.1 - 1) ≤ p ^ 2 := Nat.pow_le_pow_right (by omega) (by omega)
        _ ≤ 5 ^ 2 := Nat.pow_le_pow_left h5 2
    have hw1 : 1 ≤ w := by rw [hw]; exact Nat.pow_pos (by omega)
    rw [← hw] at e
    refine ss_seq (ss_set (i := 5) (d := .int w) (se_call (rel := rel_powered) (r := .sh (.int w)) (sa_cons (ser_var (i := 0) rfl) (sa_cons (d := .int (len p x.1 - 1 : Nat)) (ser_sh (se_cast (se_sub (se_lenRow h2 (ser_var (i := 3) rfl)) (se_int (i := 1))) (by congr 2; omega))) sa_nil)) ⟨p, len p x.1 - 1, by omega, by omega, rfl, by rw [hw]⟩) ?_)
    refine ss_set (i := 2) (d := .int (v * (w - 1) * w ^ (x.2 - 1) : Nat)) (se_cast (se_mul (se_mul (se_var (i := 2) rfl) (se_sub (se_var (i := 5) rfl) se_int) (cmul_r (by omega) (by omega))) (se_call (rel := rel_powered) (r := .sh (.int (w ^ (x.2 - 1) : Nat))) (sa_cons (ser_var (i := 5) rfl) (sa_cons (d := .int (x.2 - 1 : Nat)) (ser_sh (se_cast (se_sub (se_var (i := 4) rfl) se_int) (by congr 2; omega))) sa_nil)) ⟨w, x.2 - 1, by omega, by omega, rfl, rfl⟩) ?_) ?_) ⟨rfl, v * (w - 1) * w ^ (x.2 - 1), .sh (row p x.1), .sh (.int x.2), .sh (.int w), e, rfl⟩
    · have h9 : w ^ (x.2 - 1) ≤ 25 ^ 9 := by
        calc w ^ (x.2 - 1) ≤ 25 ^ (x.2 - 1) := Nat.pow_le_pow_left hwm _
          _ ≤ 25 ^ 9 := Nat.pow_le_pow_right (by decide) (by omega)
      refine .inr ⟨by omega, ?_⟩
      have : (25 : Nat) ^ 9 < 2 ^ 64 := by decide
      have h10 : ((w ^ (x.2 - 1) : Nat) : Int) < ((2 ^ 64 : Nat) : Int) := by exact_mod_cast Nat.lt_of_le_of_lt h9 this
      simpa using h10
    · congr 2
      push_cast
      rw [show ((w - 1 : Nat) : Int) = (w : Int) - 1 by omega]
  · rintro δ s ⟨rfl, v, q4, q5, q6, e, rfl⟩
    refine ss_ret (se_var (i := 2) rfl) ?_
    rw [List.drop_length] at e
    rw [← e]; rfl
def rel_free_many : List D → R → Prop := fun ds r => ∃ p n : Nat, Bp p ∧ n ≠ 0 ∧ n ≤ 100000 ∧ len p n ≤ 3 ∧ (∀ x ∈ fac p n, x.2 ≤ 10) ∧ ds = [.int p, .int n] ∧ r = .sh (.int (free p n : Nat))
/-- slots: 0 base 1 number -/
def t_free_many (K : Frag) : TS := (tSeq (tDrop (tCall (spR K rel_need_base) [] E0 (tCons (tVar 0) tNil))) (tSeq (tDrop (tCall (spR K rel_need_as) [] E0 (tCons (tVar 1) (tCons (tC (.str "number")) (tCons (tC (.int 1)) tNil))))) (tRet (tCall (spR K rel_free_by) [] E0 (tCons (tVar 0) (tCons (tCall (spR K rel_row_of) [] E0 (tCons (tVar 0) (tCons (tVar 1) tNil))) tNil))))))
theorem ss_free_many : ∀ ds r, rel_free_many ds r → SS K none (t_free_many K) (stS 2 ds) ds0 (RetO r) := by
  rintro ds r ⟨p, n, hp, hn, hb, hl3, he10, rfl, rfl⟩
  refine ss_seq (ss_drop (se_call (sa_cons (ser_var (i := 0) rfl) sa_nil) ⟨p, hp, rfl, rfl⟩) ?_)
  refine ss_seq (ss_drop (se_call (rel := rel_need_as) (sa_cons (ser_var (i := 1) rfl) (sa_cons (ser_sh se_str) (sa_cons (ser_sh se_int) sa_nil))) ⟨n, 1, _, by omega, by omega, rfl, rfl⟩) ?_)
  exact ss_ret (se_call (rel := rel_free_by) (sa_cons (ser_var (i := 0) rfl) (sa_cons (ser_sh (se_rowV (j := 1) (n := n) hp rfl rfl (by omega))) sa_nil)) ⟨p, n, hp, hn, hb, hl3, he10, rfl, rfl⟩) rfl
end
end EL
set_option maxRecDepth 100000
set_option maxHeartbeats 1000000
/-! W12: how many squares: a dict with rows as keys -/
namespace EL
open PySem PySem.Spec L2 M
def sqI (p m : Nat) : Nat → List Nat
  | 0 => []
  | i + 1 => if len p (pgcd p i m) = 1 then ins (sqI p m i) (pmod p (pmul p i i) m) else sqI p m i
def sqm (p m : Nat) : Nat := (sqI p m (p ^ (len p m - 1))).length
def kyL (p x : Nat) : List Key := (dg p x).map fun (y : Nat) => Sum.inl (y : Int)
def kvL (p : Nat) (l : List Nat) : List (List Key × V) := l.map fun x => (kyL p x, V.bl true)
theorem kyL_inj {p : Nat} (hp : 2 ≤ p) {x y : Nat} (h : kyL p x = kyL p y) : x = y := by
  refine dg_inj hp ?_
  unfold kyL at h
  refine List.map_inj_right (f := fun (y : Nat) => (Sum.inl (y : Int) : Key)) (fun a b e => ?_) |>.mp h
  have := Sum.inl.inj e
  omega
theorem putK_ins {p : Nat} (hp : 2 ≤ p) (l : List Nat) (x : Nat) : putK (kvL p l) (kyL p x) (V.bl true) = kvL p (ins l x) := by
  have hany : ((kvL p l).any fun kv => decide (kv.1 = kyL p x)) = decide (x ∈ l) := by
    rw [Bool.eq_iff_iff, List.any_eq_true, decide_eq_true_iff]
    constructor
    · rintro ⟨kv, h1, h2⟩
      obtain ⟨y, hy, rfl⟩ := List.mem_map.mp h1
      rw [← kyL_inj hp (of_decide_eq_true h2)]; exact hy
    · intro h
      exact ⟨(kyL p x, V.bl true), List.mem_map.mpr ⟨x, h, rfl⟩, decide_eq_true rfl⟩
  unfold putK ins
  rw [hany]
  by_cases h : x ∈ l
  · rw [if_pos (decide_eq_true h), if_pos h]
    unfold kvL
    rw [List.map_map]
    refine List.map_congr_left fun y _ => ?_
    show (if kyL p y = kyL p x then (kyL p y, V.bl true) else (kyL p y, V.bl true)) = _
    by_cases z : kyL p y = kyL p x
    · rw [if_pos z]
    · rw [if_neg z]
  · rw [if_neg (by rw [decide_eq_false h]; decide), if_neg h]
    unfold kvL; rw [List.map_append]; rfl
theorem ins_len (l : List Nat) (x : Nat) : (ins l x).length ≤ l.length + 1 := by
  unfold ins
  by_cases h : x ∈ l
  · rw [if_pos h]; omega
  · rw [if_neg h, List.length_append]; exact Nat.le_refl _
theorem sqI_len (p m : Nat) : ∀ i, (sqI p m i).length ≤ i
  | 0 => Nat.le_refl _
  | i + 1 => by
    unfold sqI
    have := sqI_len p m i
    by_cases z : len p (pgcd p i m) = 1
    · rw [if_pos z]; exact Nat.le_trans (ins_len _ _) (by omega)
    · rw [if_neg z]; omega
section
variable {K : Frag} {p : Nat}
def rel_squares_many : List D → R → Prop := fun ds r => ∃ p m : Nat, Op p ∧ p ≤ m ∧ m ≤ 1000000 ∧ p ^ (len p m - 1) ≤ 2000 ∧ ds = [.int p, .int m] ∧ r = .sh (.int (sqm p m : Nat))
/-- slots: 0 base 1 modulus 2 row 3 found 4 root -/
def t_squares_many (K : Frag) : TS := (tSeq (tDrop (tCall (spR K rel_need_odd_base) [] E0 (tCons (tVar 0) tNil))) (tSeq (tDrop (tCall (spR K rel_need_modulus) [] E0 (tCons (tVar 0) (tCons (tVar 1) tNil)))) (tSeq (tPar 2 3 (tCons (tCall (spR K rel_row_of) [] E0 (tCons (tVar 0) (tCons (tVar 1) tNil))) (tCons tDNewT tNil))) (tSeq (tFor (iRng1 (tCons (tCall (spR K rel_rests_of) [] E0 (tCons (tVar 0) (tCons (tVar 2) tNil))) tNil)) (gName 4) (tIfS (tTest (tOp rEq (tCB (fun xs H Q => ∃ p ys, xs = [.ref p] ∧ (SqL K H p ys ∨ SqT K H p ys) ∧ Q (.int ys.length) H) (tCons (tCall (spR K rel_common_rows) [] E0 (tCons (tVar 0) (tCons (tCall (spR K rel_row_of) [] E0 (tCons (tVar 0) (tCons (tVar 4) tNil))) (tCons (tVar 2) tNil)))) tNil)) (tC (.int 1)))) (sDPut (tVar 3) (tCall (spR K rel_square_rest) [] E0 (tCons (tVar 0) (tCons (tVar 4) (tCons (tVar 2) tNil)))) (tC (.bl true))) tNext)) (tRet (tCB rLenT (tCons (tVar 3) tNil)))))))
theorem ss_squares_many : ∀ ds r, rel_squares_many ds r → SS K none (t_squares_many K) (stS 5 ds) ds0 (RetO r) := by
  rintro ds r ⟨p, m, ho, hm, hb, hN, rfl, rfl⟩
  have hp := ho.bp
  have h2 := hp.two
  have m0 : m ≠ 0 := by omega
  have hl0 := len_ne h2 m0
  have h1 := len20 h2 hb
  refine ss_seq (ss_drop (se_call (rel := rel_need_odd_base) (sa_cons (ser_var (i := 0) rfl) sa_nil) ⟨p, ho, rfl, rfl⟩) ?_)
  refine ss_seq (ss_drop (se_call (rel := rel_need_modulus) (sa_cons (ser_var (i := 0) rfl) (sa_cons (ser_var (i := 1) rfl) sa_nil)) ⟨p, m, hp, hm, hb, rfl, rfl⟩) ?_)
  intro H0 Hs H σ E D P
  refine se_rowV (K := K) (dr := none) (δ := [.sh (.int p), .sh (.int m), .no, .no, .no]) (s := ds0) (j := 1) (n := m) hp rfl rfl (by omega) H0 Hs H σ E _ fun v Hs1 H1 E1 st1 r1 => ?_
  intro a ha
  refine ⟨v, .ref a, rfl, ?_⟩
  obtain ⟨E2, st2, hsa⟩ := E1.newO ha (.dT [])
  have hH0 : H0 a = none := E.ext.free (st1.ext.free ha)
  have E3 := E2.setSh 2 (d := row p m) r1
  have E4 := E3.set 3 (v := .ref a) (q := .no) trivial (fun _ _ e => by cases e)
  have hlen : 5 ≤ σ.length := E.len
  have hs3 : ((σ.set 2 (some v)).set 3 (some (.ref a)))[3]? = some (some (.ref a)) := by
    rw [List.getElem?_set_self]; rw [List.length_set]; omega
  generalize (σ.set 2 (some v)).set 3 (some (.ref a)) = σ4 at *
  have E4 : Env K none H0 Hs1 (upd H1 a (.dT [])) σ4 [.sh (.int p), .sh (.int m), .sh (row p m), .no, .no] ds0 := E4
  have hfl : ∀ r, r < p ^ (len p m - 1) → len p r ≤ 20 := fun r hr => len20 h2 (by omega)
  obtain ⟨N, hNe⟩ : ∃ N, N = p ^ (len p m - 1) := ⟨_, rfl⟩
  have hrg := si_range1 (K := K) (dr := none) (δ := [.sh (.int p), .sh (.int m), .sh (row p m), .no, .no]) (s := ds0) (se_call (Ex := E0) (rel := rel_rests_of) (r := .sh (.int (p ^ (len p m - 1) : Nat))) (sa_cons (ser_var (i := 0) rfl) (sa_cons (ser_var (i := 2) rfl) sa_nil)) ⟨p, m, hp, by omega, by omega, hN, rfl, rfl⟩) (by omega) (by omega)
  rw [Int.toNat_natCast, ← hNe] at hrg
  dsimp only
  unfold tSeq tFor
  refine hrg H0 Hs1 _ σ4 E4 _ fun J Hs5 H5 E5 st5 hJ => ?_
  have keepX : ∀ {Hs H Hs' H' : Hp} {kvs : List (List Key × V)}, Stp none Hs H Hs' H' → Same Hs' (EL.hm none H') → Hs a = none → H a = some (.dT kvs) → Hs' a = none ∧ H' a = some (.dT kvs) := fun {Hs H Hs' H' kvs} st sub h1 h2 => by
    have h3 := (st.ext a _ h2).1 (by intro z; cases z)
    refine ⟨?_, h3⟩
    cases z : Hs' a with
    | none => rfl
    | some u =>
      exfalso
      have e1 := (hm_some (sub a u z)).2
      rw [h3] at e1; cases e1
      rcases st.grow a _ z with g | g | g
      · rw [h1] at g; cases g
      · rw [h2] at g; cases g
      · simp [isT] at g
  obtain ⟨hs5, h5⟩ := keepX st5 E5.sub hsa upd_same
  have jok := hJ (fun i δ' s' => s' = ds0 ∧ ∃ q4, δ' = [.sh (.int p), .sh (.int m), .sh (row p m), .no, q4]) (fun _ _ _ _ => trivial)
  let W : Nat → L2.St → Hp → Prop := fun i σ H => i ≤ N ∧ ∃ Hsc q4, (∀ a d, q4 ≠ .own a d) ∧ Env K none H0 Hsc H σ [.sh (.int p), .sh (.int m), .sh (row p m), .no, q4] ds0 ∧ Same Hs5 Hsc ∧ Hsc a = none ∧ σ[3]? = some (some (.ref a)) ∧ H a = some (.dT (kvL p (sqI p m i)))
  refine ⟨fun i mm σ H => mm = N - i ∧ W i σ H, ⟨N, rfl, Nat.zero_le _, Hs5, .no, (fun _ _ e => by cases e), E5, L2.Same.refl _, hs5, hs3, h5⟩, ?_⟩
  rintro i mm σc Hc ⟨rfl, hi, Hsc, q4, hq4, Ec, sc, hsc, h3, hca⟩
  obtain ⟨j1, j2⟩ := jok i _ ds0 Hsc Hc σc ⟨rfl, q4, rfl⟩ hi Ec sc
  by_cases hlt : i < N
  · obtain ⟨g1, g2⟩ := j2 hlt
    refine .inr ⟨g1, W (i + 1), fun σ' H' z => ⟨N - (i + 1), by omega, rfl, z⟩, fun x Hx y => ?_⟩
    have go : ∀ Hs', Env K none H0 Hs' Hx σc [.sh (.int p), .sh (.int m), .sh (row p m), .no, q4] ds0 → Same Hsc Hs' → Hs' a = none → Hx a = some (.dT (kvL p (sqI p m i))) → x = .int (0 + (i : Nat)) →
        tIfS (tTest (tOp rEq (tLen (tCall (spR K rel_common_rows) [] E0 (tCons (tVar 0) (tCons (tCall (spR K rel_row_of) [] E0 (tCons (tVar 0) (tCons (tVar 4) tNil))) (tCons (tVar 2) tNil)))) K) (tC (.int 1)))) (sDPut (tVar 3) (tCall (spR K rel_square_rest) [] E0 (tCons (tVar 0) (tCons (tVar 4) (tCons (tVar 2) tNil)))) (tC (.bl true))) tNext
          { D with nx := W (i + 1), ct := W (i + 1), bk := tRet (tCB rLenT (tCons (tVar 3) tNil)) D } (σc.set 4 (some x)) Hx := by
      intro Hs' E' sm hs' hx' ex
      subst ex
      rw [Int.zero_add]
      have E6 : Env K none H0 Hs' Hx (σc.set 4 (some (.int (i : Nat)))) [.sh (.int p), .sh (.int m), .sh (row p m), .no, .sh (.int (i : Nat))] ds0 := E'.setSh 4 (d := .int (i : Nat)) rfl
      have h36 : (σc.set 4 (some (.int (i : Nat))))[3]? = some (some (.ref a)) := by rw [List.getElem?_set_ne (by decide)]; exact h3
      generalize σc.set 4 (some (.int (i : Nat))) = σ6 at *
      have hli := hfl i (by omega)
      refine (st_Test (se_eqI (se_lenRow (a := pgcd p i m) h2 (ser_sh (se_call (rel := rel_common_rows) (sa_cons (ser_var (i := 0) rfl) (sa_cons (ser_sh (se_rowV (j := 4) (n := i) hp rfl rfl (by omega))) (sa_cons (ser_var (i := 2) rfl) sa_nil))) ⟨p, i, m, hp, by omega, by omega, rfl, rfl⟩))) (se_int (i := 1)))) H0 Hs' Hx σ6 E6 _ fun Hs7 H7 E7 st7 => ?_
      obtain ⟨hs7, h7⟩ := keepX st7 E7.sub hs' hx'
      have hsI : sqI p m (i + 1) = if len p (pgcd p i m) = 1 then ins (sqI p m i) (pmod p (pmul p i i) m) else sqI p m i := rfl
      by_cases c : len p (pgcd p i m) = 1
      · rw [if_pos (decide_eq_true (by omega))]
        rw [if_pos c] at hsI
        refine ⟨.ref a, h36, ?_⟩
        refine se_call (K := K) (dr := none) (δ := [.sh (.int p), .sh (.int m), .sh (row p m), .no, .sh (.int (i : Nat))]) (s := ds0) (Ex := E0) (rel := rel_square_rest) (r := .sh (row p (pmod p (pmul p i i) m))) (sa_cons (ser_var (i := 0) rfl) (sa_cons (ser_var (i := 4) rfl) (sa_cons (ser_var (i := 2) rfl) sa_nil))) ⟨p, i, m, hp, by omega, m0, by omega, rfl, rfl⟩ H0 Hs7 H7 σ6 E7 _ fun y Hs8 H8 E8 st8 r8 => ?_
        obtain ⟨hs8, h8⟩ := keepX st8 E8.sub hs7 h7
        obtain ⟨b, vs, e, hb, ht⟩ := r8
        have hvs : vs = (kyL p (pmod p (pmul p i i) m)).map kV := by
          have hT := Ts.ints_eq (l := (dg p (pmod p (pmul p i i) m)).map fun (x : Nat) => (x : Int)) (by rw [List.map_map]; exact ht)
          rw [hT]; unfold kyL; rw [List.map_map, List.map_map]; rfl
        rw [hvs] at hb
        have hb8 : H8 b = some (.tup ((kyL p (pmod p (pmul p i i) m)).map kV)) := E8.toH _ _ hb
        have hlk : (kvL p (sqI p m i)).length < sizeLine := by
          unfold kvL; rw [List.length_map, sizeLine_eq]
          have := sqI_len p m i
          omega
        refine ⟨a, _, rfl, e ▸ DPut.t h8 hb8 hlk, ?_⟩
        · refine ⟨hlt, Hs8, .sh (.int (i : Nat)), (fun _ _ e => by cases e), E8.updD hH0 hs8 (by intro z; cases z) (fun j d e => ?_), (sc.trans sm).trans (st7.same.trans st8.same), hs8, h36, ?_⟩
          · match j, e with
            | 0, e => cases e
            | 1, e => cases e
            | 2, e => cases e
            | 3, e => cases e
            | 4, e => cases e
            | j + 5, e => simp at e
          · rw [upd_same, putK_ins h2, hsI]
      · rw [if_neg (by rw [decide_eq_false (by omega)]; decide)]
        rw [if_neg c] at hsI
        exact ⟨hlt, Hs7, .sh (.int (i : Nat)), (fun _ _ e => by cases e), E7, (sc.trans sm).trans st7.same, hs7, h36, by rw [hsI]; exact h7⟩
    rcases g2 x Hx y with ⟨e, t⟩ | ⟨q, vs, hq, e, t⟩
    · subst e; exact go Hsc Ec (L2.Same.refl _) hsc hca t
    · subst e
      obtain ⟨E', st⟩ := Ec.newS hq (.tup vs)
      have hqa : a ≠ q := fun z => by subst z; rw [hq] at hca; cases hca
      exact go _ E' st.same (by rw [upd_ne hqa]; exact hsc) (by rw [upd_ne hqa]; exact hca) t
  · have e : i = N := by omega
    subst e
    refine .inl ⟨j1 (Nat.le_refl _), ?_⟩
    refine ⟨.ref a, h3, a, _, rfl, hca, ?_⟩
    refine P.rt (.sh (.int (sqm p m : Nat))) ds0 rfl _ Hsc Hc Ec.ext Ec.sub Ec.drw ?_
    show V.int _ = V.int _
    unfold kvL sqm
    rw [List.length_map, hNe]
end
end EL
set_option maxRecDepth 100000
/-! what the plain law gives (k60) -/
namespace EL
open M
def mostP (p : Nat) : Nat := if p = 3 then 3 else 2
def mostB (p : Nat) : Nat := if p = 3 then 5 else 4
def okB (p n : Nat) : Prop := 2 ≤ len p n ∧ len p n ≤ mostB p ∧ lead p n = 1
def chk1 (p q : Nat) : Bool := !(Nat.ble p q && (lprime p q || Nat.beq q p)) || (iprime p q && (memB q (PT p) && Nat.beq (lead p q) 1))
def good (p : Nat) : List (Nat × Nat) → List Nat → Bool
  | [], _ => true
  | x :: l, s => !memB x.1 s && (memB x.1 (PT p) && (Nat.ble x.2 10 && good p l (x.1 :: s)))
def chk2 (p n : Nat) : Bool := !(Nat.beq (lead p n) 1 && Nat.ble 2 (len p n)) || good p (fac p n) []
def chk3 (p n : Nat) : Bool := !(Nat.beq (lead p n) 1 && Nat.ble 2 (len p n)) || Nat.beq (sqm p n * 2 ^ (fac p n).length) (free p n)
theorem chk1_3 : (List.range 81).all (chk1 3) = true := by decide +kernel
theorem chk1_5 : (List.range 125).all (chk1 5) = true := by decide +kernel
theorem chk2_3 : (List.range 243).all (chk2 3) = true := by decide +kernel
theorem chk2_5 : (List.range 625).all (chk2 5) = true := by decide +kernel
theorem chk3_3 : (List.range 27).all (chk3 3) = true := by decide +kernel
theorem chk3_5 : (List.range 125).all (chk3 5) = true := by decide +kernel
theorem mem_memB {b : Nat} : ∀ {l : List Nat}, b ∈ l → memB b l = true
  | x :: l, h => by
    unfold memB
    rw [Bool.or_eq_true]
    rcases List.mem_cons.mp h with h | h
    · exact .inl (by rw [h]; exact Nat.beq_refl x)
    · exact .inr (mem_memB h)
theorem memB_in {b : Nat} : ∀ {l : List Nat}, memB b l = true → b ∈ l
  | x :: l, h => by
    unfold memB at h
    rw [Bool.or_eq_true] at h
    rcases h with h | h
    · rw [Nat.eq_of_beq_eq_true h]; exact List.mem_cons_self
    · exact List.mem_cons_of_mem _ (memB_in h)
theorem good_ok {p : Nat} : ∀ {l : List (Nat × Nat)} {s : List Nat}, good p l s = true → (l.map (·.1)).Nodup ∧ (∀ x ∈ l, x.1 ∉ s) ∧ ∀ x ∈ l, x.1 ∈ PT p ∧ x.2 ≤ 10
  | [], s, _ => ⟨List.nodup_nil, fun x hx => (by cases hx), fun x hx => (by cases hx)⟩
  | x :: l, s, h => by
    unfold good at h
    rw [Bool.and_eq_true, Bool.and_eq_true, Bool.and_eq_true, Bool.not_eq_true'] at h
    obtain ⟨h1, h2, h3, h4⟩ := h
    obtain ⟨i1, i2, i3⟩ := good_ok h4
    refine ⟨?_, fun y hy => ?_, fun y hy => ?_⟩
    · rw [List.map_cons, List.nodup_cons]
      refine ⟨fun z => ?_, i1⟩
      obtain ⟨y, hy, e⟩ := List.mem_map.mp z
      exact i2 y hy (by rw [e]; exact List.mem_cons_self)
    · rcases List.mem_cons.mp hy with hy | hy
      · subst hy; intro z; rw [mem_memB z] at h1; cases h1
      · exact fun z => i2 y hy (List.mem_cons_of_mem _ z)
    · rcases List.mem_cons.mp hy with hy | hy
      · subst hy; exact ⟨memB_in h2, Nat.le_of_ble_eq_true h3⟩
      · exact i3 y hy
theorem prime_ok {p q : Nat} (ho : Op p) (hq : p ≤ q) (hl : len p q ≤ mostP p + 1) (h : lprime p q = true ∨ q = p) : iprime p q = true ∧ q ∈ PT p ∧ lead p q = 1 := by
  have hlt := (len_le_iff ho.bp.two).mp hl
  have hc : chk1 p q = true := by
    rcases ho with rfl | rfl
    · exact List.all_eq_true.mp chk1_3 q (List.mem_range.mpr hlt)
    · exact List.all_eq_true.mp chk1_5 q (List.mem_range.mpr hlt)
  unfold chk1 at hc
  have hpre : (Nat.ble p q && (lprime p q || Nat.beq q p)) = true := by
    rw [Bool.and_eq_true, Bool.or_eq_true]
    refine ⟨Nat.ble_eq_true_of_le hq, ?_⟩
    rcases h with h | h
    · exact .inl h
    · exact .inr (by rw [h]; exact Nat.beq_refl p)
  rw [hpre, Bool.not_true, Bool.false_or, Bool.and_eq_true, Bool.and_eq_true] at hc
  exact ⟨hc.1, memB_in hc.2.1, Nat.eq_of_beq_eq_true hc.2.2⟩
theorem fac_below {p n : Nat} (ho : Op p) (h : okB p n) : ((fac p n).map (·.1)).Nodup ∧ ∀ x ∈ fac p n, x.1 ∈ PT p ∧ x.2 ≤ 10 := by
  have hlt := (len_le_iff ho.bp.two).mp h.2.1
  have hc : chk2 p n = true := by
    rcases ho with rfl | rfl
    · exact List.all_eq_true.mp chk2_3 n (List.mem_range.mpr hlt)
    · exact List.all_eq_true.mp chk2_5 n (List.mem_range.mpr hlt)
  unfold chk2 at hc
  have hpre : (Nat.beq (lead p n) 1 && Nat.ble 2 (len p n)) = true := by
    rw [Bool.and_eq_true]
    exact ⟨by rw [h.2.2]; rfl, Nat.ble_eq_true_of_le h.1⟩
  rw [hpre, Bool.not_true, Bool.false_or] at hc
  obtain ⟨h1, _, h3⟩ := good_ok hc
  exact ⟨h1, h3⟩
theorem okB_ne {p n : Nat} (h : okB p n) : n ≠ 0 := fun z => by have := h.1; rw [z, len_zero] at this; omega
theorem sym_below {p n : Nat} (ho : Op p) (h : okB p n) (a : Nat) : sym p a n = wh p a (fac p n) := by
  have hf := (fac_below ho h).2
  have hk := fac_ok ho.bp (okB_ne h)
  unfold sym
  rw [symF_wh ho a (fac p n) (fun x hx => ⟨(hf x hx).1, (hk x hx).2.2⟩), Int.one_mul]
theorem sym_prime {p q : Nat} (ho : Op p) (h : q ∈ PT p) (a : Nat) : sym p a q = lsym p a q := by
  obtain ⟨g, T⟩ := Tq.of ho h
  unfold sym
  rw [T.one, symF_wh ho a [(q, 1)] (fun x hx => by rw [List.mem_singleton] at hx; subst hx; exact ⟨h, Nat.le_refl _⟩), Int.one_mul, wh_cons]
  show _ ^ 1 * 1 = _
  rw [Int.mul_one, Int.pow_succ, Int.pow_zero, Int.one_mul]
theorem root_none {p q : Nat} (ho : Op p) (h : q ∈ PT p) (a : Nat) : (rootF p a q).isNone = decide (lsym p a q = -1) := by
  obtain ⟨g, T⟩ := Tq.of ho h
  exact T.root ho a
theorem sym_mul {p n : Nat} (ho : Op p) (h : okB p n) (a b : Nat) : sym p (pmul p a b) n = wh p a (fac p n) * sym p b n := by
  rw [sym_below ho h, sym_below ho h, wh_mul ho a b _ fun x hx => ((fac_below ho h).2 x hx).1]
theorem few_ok {p n : Nat} (ho : Op p) (h : okB p n) (h3 : len p n ≤ 3) : sqm p n * 2 ^ (fac p n).length = free p n ∧ ∀ x ∈ fac p n, x.2 ≤ 10 := by
  refine ⟨?_, fun x hx => ((fac_below ho h).2 x hx).2⟩
  have hlt := (len_le_iff ho.bp.two).mp h3
  have hc : chk3 p n = true := by
    rcases ho with rfl | rfl
    · exact List.all_eq_true.mp chk3_3 n (List.mem_range.mpr hlt)
    · exact List.all_eq_true.mp chk3_5 n (List.mem_range.mpr hlt)
  unfold chk3 at hc
  have hpre : (Nat.beq (lead p n) 1 && Nat.ble 2 (len p n)) = true := by
    rw [Bool.and_eq_true]
    exact ⟨by rw [h.2.2]; rfl, Nat.ble_eq_true_of_le h.1⟩
  rw [hpre, Bool.not_true, Bool.false_or] at hc
  exact Nat.eq_of_beq_eq_true hc
end EL
set_option maxRecDepth 100000
set_option maxHeartbeats 1000000
/-! W13: the law k60 -/
namespace EL
open PySem PySem.Spec L2 M
theorem putKs_not : ∀ {ks : List Key} {k : Key}, k ∉ ks → putKs ks k = ks ++ [k]
  | [], k, _ => rfl
  | k' :: ks, k, h => by
    unfold putKs
    rw [if_neg (fun z => h (by rw [z]; exact List.mem_cons_self)), putKs_not (fun z => h (List.mem_cons_of_mem _ z))]; rfl
theorem putDs_not : ∀ {ks : List Key} {ds : List D} {k : Key} {d : D}, ks.length = ds.length → k ∉ ks → putDs ks ds k d = ds ++ [d]
  | [], [], k, d, _, _ => rfl
  | [], _ :: _, k, d, l, _ => by cases l
  | _ :: _, [], k, d, l, _ => by cases l
  | k' :: ks, d' :: ds, k, d, l, h => by
    unfold putDs
    rw [if_neg (fun z => h (by rw [z]; exact List.mem_cons_self)), putDs_not (by simpa using l) (fun z => h (List.mem_cons_of_mem _ z))]; rfl
def fKs (l : List (Nat × Nat)) : List Key := l.map fun x => .inl (x.1 : Int)
def fDs (l : List (Nat × Nat)) : List D := l.map fun x => .int x.2
theorem dc_take {l : List (Nat × Nat)} (hn : (l.map (·.1)).Nodup) : ∀ i, i ≤ l.length → dcK (fun i => .inl ((l.getD i (0, 0)).1 : Int)) i = fKs (l.take i) ∧ dcD (fun i => .inl ((l.getD i (0, 0)).1 : Int)) (fun i => .int (l.getD i (0, 0)).2) i = fDs (l.take i)
  | 0, _ => ⟨rfl, rfl⟩
  | i + 1, hi => by
    obtain ⟨h1, h2⟩ := dc_take hn i (by omega)
    have hx : l.getD i (0, 0) = l[i] := by rw [List.getD_eq_getElem?_getD, List.getElem?_eq_getElem (by omega)]; rfl
    have hnot : (Sum.inl (l[i].1 : Int) : Key) ∉ fKs (l.take i) := fun z => by
      obtain ⟨y, hy, e⟩ := List.mem_map.mp z
      obtain ⟨j, hj, e2⟩ := List.getElem_of_mem hy
      rw [List.length_take] at hj
      rw [List.getElem_take] at e2
      have e3 : l[j].1 = l[i].1 := by rw [e2]; have := Sum.inl.inj e; omega
      have := List.pairwise_iff_getElem.mp hn j i (by rw [List.length_map]; omega) (by rw [List.length_map]; omega) (by omega)
      exact this (by simpa using e3)
    have ht : l.take (i + 1) = l.take i ++ [l[i]] := by rw [List.take_add_one, List.getElem?_eq_getElem (by omega)]; rfl
    constructor
    · show putKs _ (.inl ((l.getD i (0, 0)).1 : Int)) = _
      rw [h1, hx, putKs_not hnot, ht]; unfold fKs; rw [List.map_append]; rfl
    · show putDs _ _ (.inl ((l.getD i (0, 0)).1 : Int)) (.int (l.getD i (0, 0)).2) = _
      rw [h1, h2, hx, putDs_not (by unfold fKs fDs; rw [List.length_map, List.length_map]) hnot, ht]; unfold fDs; rw [List.map_append]; rfl
theorem look_fac : ∀ {l : List (Nat × Nat)} (hn : (l.map (·.1)).Nodup) {i : Nat} (hi : i < l.length), lookD (fKs l) (fDs l) (.inl ((l.getD i (0, 0)).1 : Int)) = some (.int (l.getD i (0, 0)).2)
  | [], _, i, hi => by simp at hi
  | x :: l, hn, 0, hi => by
    show (if (Sum.inl (x.1 : Int) : Key) = Sum.inl (x.1 : Int) then some (D.int x.2) else _) = some (D.int x.2)
    rw [if_pos rfl]
  | x :: l, hn, i + 1, hi => by
    rw [List.map_cons, List.nodup_cons] at hn
    have hi' : i < l.length := by simpa using hi
    have hg : (x :: l).getD (i + 1) (0, 0) = l.getD i (0, 0) := rfl
    rw [hg]
    have hmem : (l.getD i (0, 0)).1 ∈ l.map (·.1) := by
      rw [List.getD_eq_getElem?_getD, List.getElem?_eq_getElem hi']
      exact List.mem_map.mpr ⟨_, List.getElem_mem hi', rfl⟩
    show (if (Sum.inl (x.1 : Int) : Key) = _ then _ else _) = _
    rw [if_neg (fun z => hn.1 (by have := Sum.inl.inj z; rw [show x.1 = (l.getD i (0, 0)).1 by omega]; exact hmem))]
    exact look_fac hn.2 hi'
theorem plain_lead {p n : Nat} (hp : Bp p) (hn : n ≠ 0) : lead p (M.plain p n) = 1 := by
  have h2 := hp.two
  have hl := len_plain hp hn
  unfold lead at *
  rw [hl]
  unfold M.plain
  rw [cf_scl h2]
  exact (inv_spec hp (c := cf p n (len p n - 1)) (by rw [Nat.mod_eq_of_lt (cf_lt h2 _ _)]; exact lead_ne h2 hn)).2.2
theorem plain_okB {p n : Nat} (ho : Op p) (hn : p ≤ n) (hl : len p n ≤ mostB p) : okB p (M.plain p n) ∧ M.plain p n ≠ 0 ∧ M.plain p n ≤ 1000000 ∧ p ≤ M.plain p n := by
  have hp := ho.bp
  have h2 := hp.two
  have h5 := hp.le
  have h0 : n ≠ 0 := by omega
  have hlp := len_plain hp h0
  have hn2 : 2 ≤ len p n := by
    by_cases g : len p n ≤ 1
    · rw [len_le_iff h2, Nat.pow_one] at g; omega
    · omega
  have hm5 : mostB p ≤ 5 := by unfold mostB; split <;> omega
  have hub : M.plain p n < p ^ 5 := (len_le_iff h2).mp (by omega)
  have h55 : p ^ 5 ≤ 5 ^ 5 := Nat.pow_le_pow_left h5 5
  have hge : ¬ len p (M.plain p n) ≤ 1 := by omega
  rw [len_le_iff h2, Nat.pow_one] at hge
  exact ⟨⟨by omega, by omega, plain_lead hp h0⟩, by omega, by omega, by omega⟩
section
variable {K : Frag} {p : Nat} {a : Addr} {dr : Option Addr} {δ : List S} {s s1 : DS} {t : TE}
theorem ser_fdc {ks : List Key} {ds : List D} (h : Se K dr t δ s (.sh (.fdc ks ds)) s1) : SeR K dr t δ s (.dct ks ds) s1 := fun H0 Hs H σ E Q q => h H0 Hs H σ E Q fun v Hs' H' E' st r => by
  obtain ⟨b, vs, o, e, h1, h2, h3⟩ := r
  exact q v Hs' H' E' st (.inl ⟨b, vs, e, .inr ⟨o, h1⟩, h2, h3⟩)
def rel_law_right : List D → DS → R → DS → Prop := fun ds s r s' => ds = [] ∧ s.cells.length ≤ 100 ∧ r = .sh (.bl true) ∧ sameC s s' ∧ s' = (modF (tk (modF (tk (primeF (tk s 3).2 (if (tk s 3).1 = 2 then 5 else 3) (if (tk s 3).1 = 2 then 2 else 3)).2 2000).2 (if (tk s 3).1 = 2 then 5 else 3) (if (tk s 3).1 = 2 then 4 else 5)).2 60).2 (if (tk s 3).1 = 2 then 5 else 3) 3).2
/-- slots: 0 draw 1 base 2 prime 3 above 4 due 5 root 6 below 7 told 8 whole 9 late 10 lap 11 other 12 both 13 few 14 many -/
def t_law_right (K : Frag) : TS := (tSeq (tAsg (tCall (spD K rel_law_pick) [] E0 (tCons (tVar 0) (tCons (tLst (tCons (tC (.int 3)) (tCons (tC (.int 3)) (tCons (tC (.int 5)) tNil)))) tNil))) (gName 1)) (tSeq (tPar 2 3 (tCons (tCall (spD K rel_law_prime) [] E0 (tCons (tVar 0) (tCons (tVar 1) (tCons (tDGet (tDisp (menuT [(3, 3), (5, 2)])) (tVar 1)) tNil)))) (tCons (tCall (spD K rel_law_take) [] E0 (tCons (tVar 0) (tCons (tC (.int 2000)) tNil))) tNil))) (tSeq (tPar 4 5 (tCons (tCall (spR K rel_law_symbol_by_squares) [] E0 (tCons (tVar 1) (tCons (tVar 3) (tCons (tVar 2) tNil)))) (tCons (tCall (spR K rel_root_of) [] E0 (tCons (tVar 1) (tCons (tVar 3) (tCons (tVar 2) tNil)))) tNil))) (tSeq (tIfS (tOr (tTest (tOp rNe (tCall (spR K rel_square_symbol) [] E0 (tCons (tVar 1) (tCons (tVar 3) (tCons (tVar 2) tNil)))) (tVar 4))) (tTest (tOp rNe (tOp (fun x y H Q => y = .non ∧ Q (.bl (decide (x = .non))) H) (tVar 5) (tC .non)) (tOp rEq (tVar 4) (tOp (rI0 fun i j => .int (i - j)) (tC (.int 0)) (tC (.int 1))))))) (tRet (tC (.bl false))) tNext) (tSeq (tIfS (tAnd (tTest (tOp (fun x y H Q => y = .non ∧ Q (.bl (!decide (x = .non))) H) (tVar 5) (tC .non))) (tTest (tOp rNe (tOp (rIxT K) (tCall (spR K rel_quotient_of) [] E0 (tCons (tVar 1) (tCons (tCall (spR K rel_product_of) [] E0 (tCons (tVar 1) (tCons (tVar 5) (tCons (tVar 5) tNil)))) (tCons (tVar 2) tNil)))) (tC (.int 1))) (tOp (rIxT K) (tCall (spR K rel_quotient_of) [] E0 (tCons (tVar 1) (tCons (tVar 3) (tCons (tVar 2) tNil)))) (tC (.int 1)))))) (tRet (tC (.bl false))) tNext) (tSeq (tAsg (tCall (spR K rel_plain_of) [] E0 (tCons (tVar 1) (tCons (tCall (spD K rel_law_modulus) [] E0 (tCons (tVar 0) (tCons (tVar 1) (tCons (tDGet (tDisp (menuT [(3, 5), (5, 4)])) (tVar 1)) tNil)))) tNil))) (gName 6)) (tSeq (tPar 7 8 (tCons (tFrz (tCall (spR K rel_factors_of) [] E0 (tCons (tVar 1) (tCons (tVar 6) tNil)))) (tCons (tC (.int 1)) tNil))) (tSeq (tFor (iKeys (tVar 7)) (gName 9) (tFor (iRng1 (tCons (tDGet (tVar 7) (tVar 9)) tNil)) (gName 10) (tAsg (tOp (rI CMul fun i j => .int (i * j)) (tVar 8) (tCall (spR K rel_law_symbol_by_squares) [] E0 (tCons (tVar 1) (tCons (tVar 3) (tCons (tVar 9) tNil))))) (gName 8)))) (tSeq (tIfS (tTest (tOp rNe (tCall (spR K rel_square_symbol) [] E0 (tCons (tVar 1) (tCons (tVar 3) (tCons (tVar 6) tNil)))) (tVar 8))) (tRet (tC (.bl false))) tNext) (tSeq (tAsg (tCall (spD K rel_law_take) [] E0 (tCons (tVar 0) (tCons (tC (.int 60)) tNil))) (gName 11)) (tSeq (tAsg (tCall (spR K rel_product_of) [] E0 (tCons (tVar 1) (tCons (tVar 3) (tCons (tVar 11) tNil)))) (gName 12)) (tSeq (tIfS (tAnd (tTest (tOp (rI0 fun i j => .bl (decide (i ≤ j))) (tVar 12) (tOp (rI CPow fun i j => .int (i ^ j.toNat)) (tC (.int 10)) (tC (.int 6))))) (tTest (tOp rNe (tCall (spR K rel_square_symbol) [] E0 (tCons (tVar 1) (tCons (tVar 12) (tCons (tVar 6) tNil)))) (tOp (rI CMul fun i j => .int (i * j)) (tVar 8) (tCall (spR K rel_square_symbol) [] E0 (tCons (tVar 1) (tCons (tVar 11) (tCons (tVar 6) tNil)))))))) (tRet (tC (.bl false))) tNext) (tSeq (tAsg (tCall (spR K rel_plain_of) [] E0 (tCons (tVar 1) (tCons (tCall (spD K rel_law_modulus) [] E0 (tCons (tVar 0) (tCons (tVar 1) (tCons (tC (.int 3)) tNil)))) tNil))) (gName 13)) (tSeq (tAsg (tCall (spR K rel_squares_many) [] E0 (tCons (tVar 1) (tCons (tVar 13) tNil))) (gName 14)) (tSeq (tFor (iKeys (tFrz (tCall (spR K rel_factors_of) [] E0 (tCons (tVar 1) (tCons (tVar 13) tNil))))) (gName 9) (tAsg (tOp (rI CMul fun i j => .int (i * j)) (tVar 14) (tC (.int 2))) (gName 14))) (tRet (tOp rEq (tVar 14) (tCall (spR K rel_free_many) [] E0 (tCons (tVar 1) (tCons (tVar 13) tNil))))))))))))))))))))
theorem wh_take (p a : Nat) (l : List (Nat × Nat)) {i : Nat} (hi : i < l.length) : (l.take (i + 1)).foldl (fun v x => v * (lsym p a x.1) ^ x.2) (1 : Int) = (l.take i).foldl (fun v x => v * (lsym p a x.1) ^ x.2) 1 * (lsym p a (l.getD i (0, 0)).1) ^ (l.getD i (0, 0)).2 := by
  rw [List.take_add_one, List.foldl_append, List.getElem?_eq_getElem hi, List.getD_eq_getElem?_getD, List.getElem?_eq_getElem hi]; rfl
theorem lsym_bd (p a q : Nat) : lsym p a q = 0 ∨ lsym p a q = 1 ∨ lsym p a q = -1 := by
  unfold lsym
  by_cases z : pmod p a q = 0
  · rw [if_pos z]; exact .inl rfl
  · rw [if_neg z]
    split
    · exact .inr (.inl rfl)
    · exact .inr (.inr rfl)
theorem cmul_sym {v : Int} {p a q : Nat} : CMul v (lsym p a q) := .inr (by rcases lsym_bd p a q with h | h | h <;> rw [h] <;> decide)
theorem symF_bd (p a : Nat) : ∀ (l : List (Nat × Nat)) (v : Int), (v = 1 ∨ v = -1) → symF p a l v = 0 ∨ symF p a l v = 1 ∨ symF p a l v = -1
  | [], v, h => .inr h
  | x :: l, v, h => by
    unfold symF
    split
    · exact .inl rfl
    · refine symF_bd p a l _ ?_
      split
      · rcases h with h | h <;> rw [h]
        · exact .inr rfl
        · exact .inl rfl
      · exact h
theorem sym_cmul {v : Int} {p n : Nat} (ho : Op p) (h : okB p n) {c : Nat} : CMul v (sym p c n) := .inr (by rcases symF_bd p c (fac p n) 1 (.inl rfl) with h | h | h <;> (show -(2 ^ 64) < symF p c (fac p n) 1 ∧ symF p c (fac p n) 1 < 2 ^ 64) <;> rw [h] <;> decide)
theorem ss_law_right : ∀ ds s r s', rel_law_right ds s r s' → SS K (some a) (t_law_right K) (stD 15 a ds) s (RetD r s') := by
  rintro ds s r s' ⟨rfl, hc, rfl, hsame, rfl⟩
  have ht3 := tk_lt (s := s) (n := 3) (by decide)
  have hsm3 := tk_same s 3
  refine ss_seq (ss_set (i := 1) (d := .int (if (tk s 3).1 = 2 then 5 else 3 : Nat)) (s1 := (tk s 3).2) (se_callD rfl rfl (sa_cons (ser_own (se_lst (sas_cons se_int (sas_cons se_int (sas_cons se_int sas_nil))) (by rw [sizeLine_eq]; show 3 ≤ _; decide))) sa_nil) ⟨[3, 3, 5], by decide, by decide, hc, rfl, ?_, rfl⟩ hsm3) ?_)
  · show R.sh _ = R.sh (.int (List.getD [3, 3, 5] (tk s 3).1 0))
    congr 2
    have : (tk s 3).1 = 0 ∨ (tk s 3).1 = 1 ∨ (tk s 3).1 = 2 := by omega
    rcases this with h | h | h <;> rw [h] <;> rfl
  generalize tk s 3 = x3 at *
  obtain ⟨p, hpe⟩ : ∃ p, p = (if x3.1 = 2 then 5 else 3 : Nat) := ⟨_, rfl⟩
  have ho : Op p := by rw [hpe]; by_cases z : x3.1 = 2; exact .inr (if_pos z); exact .inl (if_neg z)
  have hp := ho.bp
  have h2 := hp.two
  have h5 := hp.le
  have hm1 : (if x3.1 = 2 then 2 else 3) = mostP p := by rw [hpe]; by_cases z : x3.1 = 2; rw [if_pos z, if_pos z]; rfl; rw [if_neg z, if_neg z]; rfl
  have hm2 : (if x3.1 = 2 then 4 else 5) = mostB p := by rw [hpe]; by_cases z : x3.1 = 2; rw [if_pos z, if_pos z]; rfl; rw [if_neg z, if_neg z]; rfl
  rw [← hpe, hm1, hm2]
  rw [← hpe, hm1, hm2] at hsame
  have hc3 : x3.2.cells.length ≤ 100 := by rw [hsm3.2]; exact hc
  have hmP : 2 ≤ mostP p ∧ mostP p ≤ 3 := by unfold mostP; split <;> omega
  have hmB : 4 ≤ mostB p ∧ mostB p ≤ 5 := by unfold mostB; split <;> omega
  have menu : ∀ (δ : List S) (s : DS) (l : List (Int × Int)) (m : Nat), l = [(3, ((if p = 3 then m else 0 : Nat) : Int)), (5, ((if p = 3 then 0 else m : Nat) : Int))] ∨ True → δ[1]? = some (.sh (.int p)) → (l.map (·.1)).Nodup → l.length ≤ 15 → lookD (l.map fun kv => .inl kv.1) (l.map fun kv => .int kv.2) (.inl (p : Int)) = some (.int m) → Se K (some a) (tDGet (tDisp (menuT l)) (tVar 1)) δ s (.sh (.int m)) s := fun δ s l m _ h1 hn hl hk =>
    se_dget (k := .inl (p : Int)) (ser_own (se_menu hn hl)) (se_var h1) rfl hk
  have hq := primeF_ok (s := x3.2) (most := mostP p) hp (by omega)
  have hqs := primeF_same x3.2 p (mostP p)
  have hqp : lprime p (primeF x3.2 p (mostP p)).1 = true ∨ (primeF x3.2 p (mostP p)).1 = p := by
    unfold primeF
    simp only
    generalize hL : ((List.range (p ^ (1 + (tk x3.2 (mostP p)).1))).map fun lap => p ^ (1 + (tk x3.2 (mostP p)).1) + ((tk (tk x3.2 (mostP p)).2 (p ^ (1 + (tk x3.2 (mostP p)).1))).1 + lap) % p ^ (1 + (tk x3.2 (mostP p)).1)) = L
    cases h : L.find? (lprime p) with
    | none => exact .inr rfl
    | some v => exact .inl (List.find?_some h)
  have hpr : Se K (some a) (tCall (spD K rel_law_prime) [] E0 (tCons (tVar 0) (tCons (tVar 1) (tCons (tDGet (tDisp (menuT [(3, 3), (5, 2)])) (tVar 1)) tNil)))) [.rf a, .sh (.int p), .no, .no, .no, .no, .no, .no, .no, .no, .no, .no, .no, .no, .no] x3.2 (.sh (.int (primeF x3.2 p (mostP p)).1)) (primeF x3.2 p (mostP p)).2 :=
    se_primeF (n := 0) hp rfl rfl (menu _ _ _ _ (.inr trivial) rfl (by decide) (by decide) (by rcases ho with rfl | rfl <;> rfl)) (by omega) (by omega) hc3
  generalize primeF x3.2 p (mostP p) = q at *
  obtain ⟨hip, hPT, hld⟩ := prime_ok ho hq.1 hq.2 hqp
  have hcq : q.2.cells.length ≤ 100 := by rw [hqs.2]; exact hc3
  have htA := tk_lt (s := q.2) (n := 2000) (by decide)
  have hsA := tk_same q.2 2000
  have htk : Se K (some a) (tCall (spD K rel_law_take) [] E0 (tCons (tVar 0) (tCons (tC (.int 2000)) tNil))) [.rf a, .sh (.int p), .no, .no, .no, .no, .no, .no, .no, .no, .no, .no, .no, .no, .no] q.2 (.sh (.int (tk q.2 2000).1)) (tk q.2 2000).2 := se_tk rfl (se_int (i := (2000 : Nat))) (by decide) hcq
  generalize tk q.2 2000 = A at *
  have hcA : A.2.cells.length ≤ 100 := by rw [hsA.2]; exact hcq
  refine ss_seq (ss_parSS hpr htk ?_)
  have hq625 : q.1 < 625 := by
    have : q.1 < p ^ 4 := (len_le_iff h2).mp (by omega)
    have h4 : p ^ 4 ≤ 5 ^ 4 := Nat.pow_le_pow_left h5 4
    omega
  have q0 : q.1 ≠ 0 := by omega
  have hqN : p ^ (len p q.1 - 1) ≤ 625 := Nat.le_trans (pow_len_le h2 q0) (by omega)
  refine ss_seq (ss_parSS (se_call (rel := rel_law_symbol_by_squares) (r := .sh (.int (lsym p A.1 q.1))) (sa_cons (ser_var (i := 1) rfl) (sa_cons (ser_var (i := 3) rfl) (sa_cons (ser_var (i := 2) rfl) sa_nil))) ⟨p, A.1, q.1, hp, by omega, q0, by omega, rfl, rfl⟩) (se_call (rel := rel_root_of) (r := .sh (optD (rootF p A.1 q.1))) (sa_cons (ser_var (i := 1) rfl) (sa_cons (ser_var (i := 3) rfl) (sa_cons (ser_var (i := 2) rfl) sa_nil))) ⟨p, A.1, q.1, ho, by omega, hq.1, by omega, hip, by omega, rfl, rfl⟩) ?_)
  have hrn := root_none ho hPT A.1
  -- the symbol of the prime, and the root
  refine ss_seq (ss_if (b := false) (s1 := A.2) (st_cast (st_or (st_Test (se_neI (se_call (rel := rel_square_symbol) (r := .sh (.int (sym p A.1 q.1))) (sa_cons (ser_var (i := 1) rfl) (sa_cons (ser_var (i := 3) rfl) (sa_cons (ser_var (i := 2) rfl) sa_nil))) ⟨p, A.1, q.1, ho, by omega, q0, by omega, hld, rfl, rfl⟩) (se_var (i := 4) rfl))) (fun _ => st_Test (se_neS (se_isN (se_var (i := 5) rfl)) (se_eqI (se_var (i := 4) rfl) (se_sub (se_int (i := 0)) (se_int (i := 1)))) rfl))) ?_) (fun e => by cases e) (fun _ => ss_next ?_))
  · rw [sym_prime ho hPT]
    have : isNonD (optD (rootF p A.1 q.1)) = decide (lsym p A.1 q.1 = -1) := by rw [← hrn]; cases rootF p A.1 q.1 <;> rfl
    rw [this]
    show ((!decide (lsym p A.1 q.1 = lsym p A.1 q.1)) || !(decide (decide (lsym p A.1 q.1 = -1) = decide (lsym p A.1 q.1 = 0 - 1)))) = false
    simp
  refine ss_seq (ss_if (b := false) (s1 := A.2) ?_ (fun e => by cases e) (fun _ => ss_next ?_))
  · cases hr : rootF p A.1 q.1 with
    | none => exact st_cast (st_and (c := false) (st_Test (se_notN (se_var (i := 5) rfl))) (fun e => by cases e)) rfl
    | some r =>
      have hmem := List.mem_range.mp (List.mem_of_find?_eq_some hr)
      have hr' : (List.range (p ^ (len p q.1 - 1))).find? (fun r => decide (pmod p (pmul p r r) q.1 = pmod p A.1 q.1)) = some r := hr
      have hsq : pmod p (pmul p r r) q.1 = pmod p A.1 q.1 := by
        have h0 := List.find?_some hr'
        exact of_decide_eq_true h0
      have hlr : len p r ≤ len p q.1 - 1 := (len_le_iff h2).mpr hmem
      have hll := len_pmul_le (a := r) (b := r) hp
      have hpm : pmul p r r < 3125 := by
        have : pmul p r r < p ^ 5 := (len_le_iff h2).mp (by omega)
        have h55 : p ^ 5 ≤ 5 ^ 5 := Nat.pow_le_pow_left h5 5
        omega
      refine st_cast (st_and (st_Test (se_notN (se_var (i := 5) rfl))) (fun _ => st_Test (se_neI (i := (pmod p (pmul p r r) q.1 : Nat)) (j := (pmod p A.1 q.1 : Nat)) (se_snd (ser_sh (se_call (rel := rel_quotient_of) (sa_cons (ser_var (i := 1) rfl) (sa_cons (d := .int (pmul p r r : Nat)) (ser_sh (se_call (rel := rel_product_of) (sa_cons (ser_var (i := 1) rfl) (sa_cons (ser_var (i := 5) rfl) (sa_cons (ser_var (i := 5) rfl) sa_nil))) ⟨p, r, r, hp, by omega, by omega, rfl, rfl⟩)) (sa_cons (ser_var (i := 2) rfl) sa_nil))) ⟨p, pmul p r r, q.1, hp, by omega, by omega, q0, rfl, rfl⟩))) (se_snd (ser_sh (se_call (rel := rel_quotient_of) (sa_cons (ser_var (i := 1) rfl) (sa_cons (ser_var (i := 3) rfl) (sa_cons (ser_var (i := 2) rfl) sa_nil))) ⟨p, A.1, q.1, hp, by omega, by omega, q0, rfl, rfl⟩)))))) ?_
      rw [hsq]; simp
  -- the modulus
  have hB := modF_ok (s := A.2) (most := mostB p) hp (by omega)
  have hBr : Se K (some a) (tCall (spD K rel_law_modulus) [] E0 (tCons (tVar 0) (tCons (tVar 1) (tCons (tDGet (tDisp (menuT [(3, 5), (5, 4)])) (tVar 1)) tNil)))) [.rf a, .sh (.int p), .sh (.int q.1), .sh (.int A.1), .sh (.int (lsym p A.1 q.1)), .sh (optD (rootF p A.1 q.1)), .no, .no, .no, .no, .no, .no, .no, .no, .no] A.2 (.sh (.int (modF A.2 p (mostB p)).1)) (modF A.2 p (mostB p)).2 :=
    se_callD rfl rfl (sa_cons (ser_var (i := 1) rfl) (sa_cons (ser_sh (menu _ _ _ (mostB p) (.inr trivial) rfl (by decide) (by decide) (by rcases ho with rfl | rfl <;> rfl))) sa_nil)) ⟨p, mostB p, hp, by omega, by omega, hcA, rfl, rfl, rfl⟩ hB.1
  generalize modF A.2 p (mostB p) = B at *
  have hcB : B.2.cells.length ≤ 100 := by rw [hB.1.2]; exact hcA
  obtain ⟨hok, hn0, hn6, hpn⟩ := plain_okB ho hB.2.1 hB.2.2
  have hB5 : B.1 < 3125 := by
    have : B.1 < p ^ 5 := (len_le_iff h2).mp (by omega)
    have h55 : p ^ 5 ≤ 5 ^ 5 := Nat.pow_le_pow_left h5 5
    omega
  refine ss_seq (ss_set (i := 6) (se_call (rel := rel_plain_of) (sa_cons (ser_var (i := 1) rfl) (sa_cons (ser_sh hBr) sa_nil)) ⟨p, B.1, hp, by omega, by omega, rfl, rfl⟩) ?_)
  generalize M.plain p B.1 = n at *
  obtain ⟨hnd, hfp⟩ := fac_below ho hok
  have hfo := fac_ok hp hn0
  have hcnt := fac_cnt hp hn0
  obtain ⟨fs, hfs⟩ : ∃ fs, fs = fac p n := ⟨_, rfl⟩
  obtain ⟨hk1, hk2⟩ := dc_take hnd (fac p n).length (Nat.le_refl _)
  rw [List.take_length] at hk1 hk2
  have hln5 : len p n ≤ 5 := by have := hok.2.1; omega
  refine ss_seq (ss_parSS (d1 := .fdc (fKs fs) (fDs fs)) (s1 := B.2) (se_frz (se_call (rel := rel_factors_of) (sa_cons (ser_var (i := 1) rfl) (sa_cons (ser_var (i := 6) rfl) sa_nil)) ⟨p, n, hp, hn0, hn6, rfl, by rw [hk1, hk2, hfs]⟩)) se_int ?_)
  rw [← hfs] at hnd hfo hcnt hfp
  have hwhole : wh p A.1 (fac p n) = fs.foldl (fun v x => v * (lsym p A.1 x.1) ^ x.2) 1 := by rw [hfs]; rfl
  refine ss_seq (ss_for (s1 := B.2) (n := fs.length) (it := fun i => ((fKs fs).map keyD).getD i .non) (C := CTrue) (I := fun i δ s3 => s3 = B.2 ∧ ∃ q9 q10, δ = [.rf a, .sh (.int p), .sh (.int q.1), .sh (.int A.1), .sh (.int (lsym p A.1 q.1)), .sh (optD (rootF p A.1 q.1)), .sh (.int n), .sh (.fdc (fKs fs) (fDs fs)), .sh (.int ((fs.take i).foldl (fun v x => v * (lsym p A.1 x.1) ^ x.2) (1 : Int))), q9, q10, .no, .no, .no, .no]) ?_ (fun _ _ _ _ => trivial) ?_ ?_ ?_)
  · have := si_keys (K := K) (dr := some a) (t := tVar 7) (s := B.2) (s1 := B.2) (ks := fKs fs) (ds := fDs fs) (δ := [.rf a, .sh (.int p), .sh (.int q.1), .sh (.int A.1), .sh (.int (lsym p A.1 q.1)), .sh (optD (rootF p A.1 q.1)), .sh (.int n), .sh (.fdc (fKs fs) (fDs fs)), .sh (.int 1), .no, .no, .no, .no, .no, .no]) (se_var (i := 7) rfl)
    rw [show (fKs fs).length = fs.length by unfold fKs; rw [List.length_map]] at this
    exact this
  · exact ⟨rfl, .no, .no, rfl⟩
  · rintro i δ s3 hi ⟨rfl, q9, q10, rfl⟩
    have hx := hfo (fs.getD i (0, 0)) (by rw [List.getD_eq_getElem?_getD, List.getElem?_eq_getElem hi]; exact List.getElem_mem hi)
    have hg : ((fKs fs).map keyD).getD i .non = .int ((fs.getD i (0, 0)).1 : Nat) := by
      unfold fKs
      rw [List.map_map, List.getD_eq_getElem?_getD, List.getElem?_map, List.getD_eq_getElem?_getD, List.getElem?_eq_getElem hi]; rfl
    have hlk := look_fac hnd hi
    have hxe : (fs.getD i (0, 0)).2 ≤ 10 := (hfp _ (by rw [List.getD_eq_getElem?_getD, List.getElem?_eq_getElem hi]; exact List.getElem_mem hi)).2
    rw [hg]
    refine ⟨_, sg_name, ?_⟩
    rw [wh_take p A.1 fs hi]
    generalize fs.getD i (0, 0) = x at *
    generalize (fs.take i).foldl (fun v x => v * (lsym p A.1 x.1) ^ x.2) (1 : Int) = v
    have hx625 : x.1 < 3125 := by
      have : x.1 < p ^ 5 := (len_le_iff h2).mp (by omega)
      have h55 : p ^ 5 ≤ 5 ^ 5 := Nat.pow_le_pow_left h5 5
      omega
    have hx0 : x.1 ≠ 0 := fun z => by rw [z, len_zero] at hx; omega
    have hx10 : x.2 ≤ 10 := hxe
    refine ss_for (s1 := B.2) (n := x.2) (it := fun j => D.int (0 + (j : Nat))) (C := CTrue) (I := fun j δ s3 => s3 = B.2 ∧ ∃ q10, δ = [.rf a, .sh (.int p), .sh (.int q.1), .sh (.int A.1), .sh (.int (lsym p A.1 q.1)), .sh (optD (rootF p A.1 q.1)), .sh (.int n), .sh (.fdc (fKs fs) (fDs fs)), .sh (.int (v * (lsym p A.1 x.1) ^ j)), .sh (.int x.1), q10, .no, .no, .no, .no]) ?_ (fun _ _ _ _ => trivial) ?_ ?_ ?_
    · have := si_range1 (K := K) (dr := some a) (s := B.2) (s1 := B.2) (δ := [.rf a, .sh (.int p), .sh (.int q.1), .sh (.int A.1), .sh (.int (lsym p A.1 q.1)), .sh (optD (rootF p A.1 q.1)), .sh (.int n), .sh (.fdc (fKs fs) (fDs fs)), .sh (.int v), .sh (.int x.1), q10, .no, .no, .no, .no]) (se_dget (k := .inl (x.1 : Int)) (ser_fdc (se_var (i := 7) rfl)) (se_var (i := 9) rfl) rfl hlk) (by omega) (by omega)
      rw [Int.toNat_natCast] at this
      exact this
    · refine ⟨rfl, q10, ?_⟩
      rw [Int.pow_zero, Int.mul_one]; rfl
    · rintro j δ s3 hj ⟨rfl, q10, rfl⟩
      refine ⟨_, sg_name, ?_⟩
      refine ss_set (i := 8) (se_mul (se_var (i := 8) rfl) (se_call (rel := rel_law_symbol_by_squares) (r := .sh (.int (lsym p A.1 x.1))) (sa_cons (ser_var (i := 1) rfl) (sa_cons (ser_var (i := 3) rfl) (sa_cons (ser_var (i := 9) rfl) sa_nil))) ⟨p, A.1, x.1, hp, by omega, hx0, by omega, rfl, rfl⟩) cmul_sym) ⟨rfl, .sh (.int (0 + (j : Nat))), ?_⟩
      rw [Int.pow_succ, ← Int.mul_assoc]; rfl
    · rintro δ s3 ⟨rfl, q10, rfl⟩
      exact ⟨rfl, .sh (.int x.1), q10, rfl⟩
  · rintro δ s3 ⟨rfl, q9, q10, rfl⟩
    rw [List.take_length, ← hwhole]
    -- the symbol of the modulus
    refine ss_seq (ss_if (b := false) (s1 := B.2) (st_cast (st_Test (se_neI (se_call (rel := rel_square_symbol) (r := .sh (.int (sym p A.1 n))) (sa_cons (ser_var (i := 1) rfl) (sa_cons (ser_var (i := 3) rfl) (sa_cons (ser_var (i := 6) rfl) sa_nil))) ⟨p, A.1, n, ho, by omega, hn0, by omega, hok.2.2, rfl, rfl⟩) (se_var (i := 8) rfl))) (by rw [sym_below ho hok]; simp)) (fun e => by cases e) (fun _ => ss_next ?_))
    have htC := tk_lt (s := B.2) (n := 60) (by decide)
    have hsC := tk_same B.2 60
    refine ss_seq (ss_set (i := 11) (se_tk rfl (se_int (i := (60 : Nat))) (by decide) hcB) ?_)
    generalize tk B.2 60 = C at *
    have hcC : C.2.cells.length ≤ 100 := by rw [hsC.2]; exact hcB
    refine ss_seq (ss_set (i := 12) (se_call (rel := rel_product_of) (r := .sh (.int (pmul p A.1 C.1 : Nat))) (sa_cons (ser_var (i := 1) rfl) (sa_cons (ser_var (i := 3) rfl) (sa_cons (ser_var (i := 11) rfl) sa_nil))) ⟨p, A.1, C.1, hp, by omega, by omega, rfl, rfl⟩) ?_)
    have hpw : Se K (some a) (tOp (rI CPow fun i j => .int (i ^ j.toNat)) (tC (.int 10)) (tC (.int 6))) [.rf a, .sh (.int p), .sh (.int q.1), .sh (.int A.1), .sh (.int (lsym p A.1 q.1)), .sh (optD (rootF p A.1 q.1)), .sh (.int n), .sh (.fdc (fKs fs) (fDs fs)), .sh (.int (wh p A.1 (fac p n))), q9, q10, .sh (.int C.1), .sh (.int (pmul p A.1 C.1 : Nat)), .no, .no] C.2 (.sh (.int 1000000)) C.2 :=
      se_cast (se_pow (i := 10) (j := 6) se_int se_int ⟨by decide, by decide, by decide⟩) rfl
    refine ss_seq (ss_if (b := decide (((pmul p A.1 C.1 : Nat) : Int) ≤ 1000000) && false) (s1 := C.2) (st_and (st_Test (se_cmp (p := fun i j => decide (i ≤ j)) (se_var (i := 12) rfl) hpw)) (fun e => st_cast (st_Test (se_neI (se_call (rel := rel_square_symbol) (r := .sh (.int (sym p (pmul p A.1 C.1) n))) (sa_cons (ser_var (i := 1) rfl) (sa_cons (ser_var (i := 12) rfl) (sa_cons (ser_var (i := 6) rfl) sa_nil))) ⟨p, pmul p A.1 C.1, n, ho, by have := of_decide_eq_true e; omega, hn0, by omega, hok.2.2, rfl, rfl⟩) (se_mul (se_var (i := 8) rfl) (se_call (rel := rel_square_symbol) (r := .sh (.int (sym p C.1 n))) (sa_cons (ser_var (i := 1) rfl) (sa_cons (ser_var (i := 11) rfl) (sa_cons (ser_var (i := 6) rfl) sa_nil))) ⟨p, C.1, n, ho, by omega, hn0, by omega, hok.2.2, rfl, rfl⟩) (sym_cmul ho hok)))) (by rw [sym_mul ho hok]; simp))) (fun e => by rw [Bool.and_false] at e; cases e) (fun _ => ss_next ?_))
    -- few
    have hF := modF_ok (s := C.2) (most := 3) hp (by decide)
    have hFr : Se K (some a) (tCall (spD K rel_law_modulus) [] E0 (tCons (tVar 0) (tCons (tVar 1) (tCons (tC (.int 3)) tNil)))) [.rf a, .sh (.int p), .sh (.int q.1), .sh (.int A.1), .sh (.int (lsym p A.1 q.1)), .sh (optD (rootF p A.1 q.1)), .sh (.int n), .sh (.fdc (fKs fs) (fDs fs)), .sh (.int (wh p A.1 (fac p n))), q9, q10, .sh (.int C.1), .sh (.int (pmul p A.1 C.1 : Nat)), .no, .no] C.2 (.sh (.int (modF C.2 p 3).1)) (modF C.2 p 3).2 :=
      se_callD rfl rfl (sa_cons (ser_var (i := 1) rfl) (sa_cons (ser_sh (se_int (i := (3 : Nat)))) sa_nil)) ⟨p, 3, hp, by decide, by decide, hcC, rfl, rfl, rfl⟩ hF.1
    generalize modF C.2 p 3 = F at *
    obtain ⟨hfk, hf0, hf6, hpf⟩ := plain_okB ho hF.2.1 (by omega)
    have hfl := len_plain hp (n := F.1) (by omega)
    have hF5 : F.1 < 125 := by
      have : F.1 < p ^ 3 := (len_le_iff h2).mp hF.2.2
      have h55 : p ^ 3 ≤ 5 ^ 3 := Nat.pow_le_pow_left h5 3
      omega
    refine ss_seq (ss_set (i := 13) (se_call (rel := rel_plain_of) (sa_cons (ser_var (i := 1) rfl) (sa_cons (ser_sh hFr) sa_nil)) ⟨p, F.1, hp, by omega, by omega, rfl, rfl⟩) ?_)
    have hf3 : len p (M.plain p F.1) ≤ 3 := by omega
    generalize M.plain p F.1 = f at *
    obtain ⟨hfew, hfe⟩ := few_ok ho hfk hf3
    have hfN : p ^ (len p f - 1) ≤ 2000 := by
      calc p ^ (len p f - 1) ≤ p ^ 2 := Nat.pow_le_pow_right (by omega) (by omega)
        _ ≤ 5 ^ 2 := Nat.pow_le_pow_left h5 2
        _ ≤ 2000 := by decide
    have hf125 : f < 125 := by
      have : f < p ^ 3 := (len_le_iff h2).mp hf3
      have h55 : p ^ 3 ≤ 5 ^ 3 := Nat.pow_le_pow_left h5 3
      omega
    refine ss_seq (ss_set (i := 14) (se_call (rel := rel_squares_many) (r := .sh (.int (sqm p f : Nat))) (sa_cons (ser_var (i := 1) rfl) (sa_cons (ser_var (i := 13) rfl) sa_nil)) ⟨p, f, ho, hpf, by omega, hfN, rfl, rfl⟩) ?_)
    obtain ⟨hgd, hgp⟩ := fac_below ho hfk
    obtain ⟨hj1, hj2⟩ := dc_take hgd (fac p f).length (Nat.le_refl _)
    rw [List.take_length] at hj1 hj2
    refine ss_seq (ss_for (s1 := F.2) (n := (fac p f).length) (it := fun i => ((fKs (fac p f)).map keyD).getD i .non) (C := CTrue) (I := fun i δ s3 => s3 = F.2 ∧ ∃ q9, δ = [.rf a, .sh (.int p), .sh (.int q.1), .sh (.int A.1), .sh (.int (lsym p A.1 q.1)), .sh (optD (rootF p A.1 q.1)), .sh (.int n), .sh (.fdc (fKs fs) (fDs fs)), .sh (.int (wh p A.1 (fac p n))), q9, q10, .sh (.int C.1), .sh (.int (pmul p A.1 C.1 : Nat)), .sh (.int f), .sh (.int (sqm p f * 2 ^ i : Nat))]) ?_ (fun _ _ _ _ => trivial) ?_ ?_ ?_)
    · have := si_keys (K := K) (dr := some a) (t := tFrz (tCall (spR K rel_factors_of) [] E0 (tCons (tVar 1) (tCons (tVar 13) tNil)))) (s := F.2) (s1 := F.2) (ks := fKs (fac p f)) (ds := fDs (fac p f)) (δ := [.rf a, .sh (.int p), .sh (.int q.1), .sh (.int A.1), .sh (.int (lsym p A.1 q.1)), .sh (optD (rootF p A.1 q.1)), .sh (.int n), .sh (.fdc (fKs fs) (fDs fs)), .sh (.int (wh p A.1 (fac p n))), q9, q10, .sh (.int C.1), .sh (.int (pmul p A.1 C.1 : Nat)), .sh (.int f), .sh (.int (sqm p f : Nat))]) (se_frz (se_call (rel := rel_factors_of) (sa_cons (ser_var (i := 1) rfl) (sa_cons (ser_var (i := 13) rfl) sa_nil)) ⟨p, f, hp, hf0, hf6, rfl, by rw [hj1, hj2]⟩))
      rw [show (fKs (fac p f)).length = (fac p f).length by unfold fKs; rw [List.length_map]] at this
      exact this
    · refine ⟨rfl, q9, ?_⟩
      rw [Nat.pow_zero, Nat.mul_one]; rfl
    · rintro i δ s3 hi ⟨rfl, q9, rfl⟩
      refine ⟨_, sg_name (d := ((fKs (fac p f)).map keyD).getD i .non), ?_⟩
      refine ss_set (i := 14) (se_mul (se_var (i := 14) rfl) (se_int (i := 2)) (cmul_r (by decide) (by decide))) ⟨rfl, .sh (((fKs (fac p f)).map keyD).getD i .non), ?_⟩
      rw [Nat.pow_succ, ← Nat.mul_assoc]
      push_cast; rfl
    · rintro δ s3 ⟨rfl, q9, rfl⟩
      refine ss_ret (se_eqI (se_var (i := 14) rfl) (se_call (rel := rel_free_many) (r := .sh (.int (free p f : Nat))) (sa_cons (ser_var (i := 1) rfl) (sa_cons (ser_var (i := 13) rfl) sa_nil)) ⟨p, f, hp, hf0, by omega, hf3, hfe, rfl, rfl⟩)) ⟨?_, rfl⟩
      rw [hfew]; simp
end
end EL
set_option maxRecDepth 100000
set_option maxHeartbeats 1000000
/-! W14: the draws begun; the law -/
namespace EL
open PySem PySem.Spec PyProof.Rows L2 M
theorem op_mulB {X : Cx} : OpR X (binaryOp .Mult) (rI IntMulOk fun i j => .int (i * j)) := opI fun _ _ _ _ _ _ _ hc q => mul_int q hc
section
variable {K : Frag} {dr : Option Addr} {δ : List S} {s s1 s2 : DS} {ta tb : TE}
theorem se_mulB {i j : Int} (ha : Se K dr ta δ s (.sh (.int i)) s1) (hb : Se K dr tb δ s1 (.sh (.int j)) s2) (hc : IntMulOk i j) : Se K dr (tOp (rI IntMulOk fun i j => .int (i * j)) ta tb) δ s (.sh (.int (i * j))) s2 := se_bin ha hb hc fun _ => rfl
end
/-- the whole after so many cells -/
def wStep (w c : Int) : Int := if (10 : Int) ^ 18 ≤ c then w * (c - 10 ^ 18 + 1) + (c - 10 ^ 18) else w
def wOf (l : List Int) : Int := l.foldl wStep 0
theorem nat_bits {x : Int} {m : Nat} (h0 : 0 ≤ x) (h : x.toNat < 2 ^ m) : Builtin.Int.intBits x ≤ m := intBits_le_iff.mpr (by omega)
theorem wOf_bound : ∀ (l : List Int) (k : Nat) (w : Int), (∀ z ∈ l, Builtin.Int.intBits z ≤ 1048576) → 0 ≤ w → (w + 1).toNat ≤ 2 ^ (1048576 * k) → 0 ≤ l.foldl wStep w ∧ (l.foldl wStep w + 1).toNat ≤ 2 ^ (1048576 * (k + l.length))
  | [], k, w, _, h0, h => ⟨h0, h⟩
  | c :: l, k, w, hb, h0, h => by
    have hc := intBits_le_iff.mp (hb c List.mem_cons_self)
    have key : 0 ≤ wStep w c ∧ (wStep w c + 1).toNat ≤ 2 ^ (1048576 * (k + 1)) := by
      unfold wStep
      have hmono : 2 ^ (1048576 * k) ≤ 2 ^ (1048576 * (k + 1)) := Nat.pow_le_pow_right (by decide) (by omega)
      by_cases z : (10 : Int) ^ 18 ≤ c
      · rw [if_pos z]
        obtain ⟨d, hd⟩ : ∃ d : Int, d = c - 10 ^ 18 + 1 := ⟨_, rfl⟩
        have h18 : (10 : Int) ^ 18 = 1000000000000000000 := rfl
        have hd1 : 1 ≤ d := by omega
        have e : w * (c - 10 ^ 18 + 1) + (c - 10 ^ 18) + 1 = (w + 1) * d := by rw [← hd, show c - 10 ^ 18 = d - 1 by omega, Int.add_mul, Int.one_mul]; omega
        have hpos : 0 ≤ w * d := Int.mul_nonneg h0 (by omega)
        refine ⟨by rw [← hd]; omega, ?_⟩
        rw [e]
        have hdn : d.toNat ≤ 2 ^ 1048576 := by omega
        have hmul : ((w + 1) * d).toNat = (w + 1).toNat * d.toNat := Int.toNat_mul (by omega) (by omega)
        rw [hmul, Nat.mul_add, Nat.pow_add, Nat.mul_one]
        exact Nat.mul_le_mul h hdn
      · rw [if_neg z]; exact ⟨h0, Nat.le_trans h hmono⟩
    have ih := wOf_bound l (k + 1) (wStep w c) (fun z hz => hb z (List.mem_cons_of_mem _ hz)) key.1 key.2
    rw [List.foldl_cons]
    rw [List.length_cons, show k + (l.length + 1) = k + 1 + l.length by omega]
    exact ih
def spBegun (K : Frag) : Sp := fun vs H Q _ => ∃ (b : Addr) (l : List Int), vs = [.ref b] ∧ SqL K H b (l.map V.int) ∧ l.length ≤ 63 ∧ (∀ z ∈ l, Builtin.Int.intBits z ≤ 1048576) ∧
  ∀ (c : Addr) (s' : DS) (H' : Hp), Same H H' → H c = none → s'.cells.length ≤ 63 → DrawAt K (EL.hm (some c) H') H' c s' → Q (.ref c) H'
section
variable {K : Frag}
/-- slots: 0 script 1 whole 2 cells 3 cell -/
def t_law_begun (K : Frag) : TS := (tSeq (tPar 1 2 (tCons (tC (.int 0)) (tCons (tLst tNil) tNil))) (tSeq (tFor (iList K (tVar 0)) (gName 3) (tIfS (tB (tCB (rIsi K) (tCons (tVar 3) (tCons (tC (.ty "int")) tNil)))) (tSeq (tIfS (tTest (tOp (rI0 fun i j => .bl (decide (j ≤ i))) (tVar 3) (tOp (rI CPow fun i j => .int (i ^ j.toNat)) (tC (.int 10)) (tC (.int 18))))) (tAsg (tOp (rI0 fun i j => .int (i + j)) (tOp (rI IntMulOk fun i j => .int (i * j)) (tVar 1) (tOp (rI0 fun i j => .int (i + j)) (tOp (rI0 fun i j => .int (i - j)) (tVar 3) (tOp (rI CPow fun i j => .int (i ^ j.toNat)) (tC (.int 10)) (tC (.int 18)))) (tC (.int 1)))) (tOp (rI0 fun i j => .int (i - j)) (tVar 3) (tOp (rI CPow fun i j => .int (i ^ j.toNat)) (tC (.int 10)) (tC (.int 18))))) (gName 1)) tNext) (tDrop (tBM K "list" rAppend (tVar 2) (tCons (tVar 3) tNil)))) tNext)) (tRet (tDisp (((tC (.str "whole")), (tVar 1)) :: (((tC (.str "cells")), (tVar 2)) :: (((tC (.str "count")), (tC (.int 0))) :: [])))))))
theorem take_getD {l : List Int} {i : Nat} (hi : i < l.length) : l.take (i + 1) = l.take i ++ [l.getD i 0] := by
  rw [List.take_add_one, List.getD_eq_getElem?_getD, List.getElem?_eq_getElem hi]; rfl
theorem ss_law_begun {b : Addr} {l : List Int} {H : Hp} {Q : VK} (hS : SqL K H b (l.map V.int)) (hl : l.length ≤ 63) (hb : ∀ z ∈ l, Builtin.Int.intBits z ≤ 1048576)
    (q : ∀ (c : Addr) (s' : DS) (H' : Hp), Same H H' → H c = none → s'.cells.length ≤ 63 → DrawAt K (EL.hm (some c) H') H' c s' → Q (.ref c) H') :
    t_law_begun K { nx := fun _ H' => Q .non H', rt := Q } [some (.ref b), none, none, none] H := by
  have E : Env K none H H H [some (.ref b), none, none, none] [.sh (.lst (l.map D.int)), .no, .no, .no] ds0 := {
    ext := .refl
    sub := by rw [hm_none]; exact L2.Same.refl _
    slot := fun i r e => by
      match i, e with
      | 0, e => cases e; exact ⟨.ref b, rfl, b, _, rfl, hS, ints_Ts l⟩
      | 1, e => cases e; trivial
      | 2, e => cases e; trivial
      | 3, e => cases e; trivial
      | i + 4, e => simp at e
    sep := fun i j a d d' e1 e2 => by
      match i, e1 with
      | 0, e => cases e
      | 1, e => cases e
      | 2, e => cases e
      | 3, e => cases e
      | i + 4, e => simp at e
    drw := fun a z => by cases z
    dr0 := fun a z => by cases z
    len := Nat.le_refl _ }
  have hw := fun i => wOf_bound (l.take i) 0 0 (fun z hz => hb z (List.mem_of_mem_take hz)) (Int.le_refl _) (by decide)
  refine (ss_parSO (K := K) (dr := none) (O := fun o => ∃ a, o = .nx [.sh (.lst (l.map D.int)), .sh (.int 0), .own a (.lst []), .no] ds0) (se_int (i := 0)) (se_lst sas_nil (Nat.zero_le _)) fun a => ⟨a, rfl⟩) H H H _ E _ ⟨?_, fun r s h => (by obtain ⟨a, h⟩ := h; cases h), fun r s h => (by obtain ⟨a, h⟩ := h; cases h), fun r s h => (by obtain ⟨a, h⟩ := h; cases h)⟩
  rintro δ s ⟨a, h⟩ σ1 Hs1 H1 sm1 E1
  cases h
  dsimp only
  unfold tSeq
  refine (ss_for (K := K) (dr := none) (s1 := ds0) (n := l.length) (it := fun i => (l.map D.int).getD i .non) (C := CTrue) (I := fun i δ s3 => s3 = ds0 ∧ ∃ q3, (∀ c d, q3 ≠ .own c d) ∧ δ = [.sh (.lst (l.map D.int)), .sh (.int (wOf (l.take i))), .own a (.lst ((l.take i).map D.int)), q3])
    (O := fun o => ∃ q3, (∀ c d, q3 ≠ .own c d) ∧ o = .nx [.sh (.lst (l.map D.int)), .sh (.int (wOf l)), .own a (.lst (l.map D.int)), q3] ds0) ?_ (fun _ _ _ _ => trivial) ⟨rfl, .no, (fun _ _ e => by cases e), rfl⟩ ?_ ?_) H Hs1 H1 σ1 E1 _ ⟨?_, fun r s h => (by obtain ⟨_, _, h⟩ := h; cases h), fun r s h => (by obtain ⟨_, _, h⟩ := h; cases h), fun r s h => (by obtain ⟨_, _, h⟩ := h; cases h)⟩
  · have := si_lst (K := K) (dr := none) (t := tVar 0) (δ := [.sh (.lst (l.map D.int)), .sh (.int 0), .own a (.lst []), .no]) (s := ds0) (s1 := ds0) (se_var (i := 0) rfl)
    rw [List.length_map] at this
    exact this
  · rintro i δ s3 hi ⟨rfl, q3, hq3, rfl⟩
    have hg : (l.map D.int).getD i .non = .int (l.getD i 0) := by
      rw [List.getD_eq_getElem?_getD, List.getElem?_map, List.getD_eq_getElem?_getD, List.getElem?_eq_getElem hi]; rfl
    rw [hg]
    refine ⟨_, sg_name, ?_⟩
    have hwS : wOf (l.take (i + 1)) = wStep (wOf (l.take i)) (l.getD i 0) := by
      rw [take_getD hi]; unfold wOf; rw [List.foldl_append]; rfl
    have hmem : l.getD i 0 ∈ l := by rw [List.getD_eq_getElem?_getD, List.getElem?_eq_getElem hi]; exact List.getElem_mem hi
    have hcb := intBits_le_iff.mp (hb _ hmem)
    rw [hwS, take_getD hi]
    have hwi := hw i
    have hti : (l.take i).length ≤ 63 := by rw [List.length_take]; omega
    have hwi2 : Builtin.Int.intBits (wOf (l.take i)) ≤ 66060288 := by
      refine nat_bits hwi.1 ?_
      have h1 : 2 ^ (1048576 * (0 + (l.take i).length)) ≤ 2 ^ 66060288 := Nat.pow_le_pow_right (by decide) (by omega)
      have h2 : (wOf (l.take i) + 1).toNat ≤ 2 ^ 66060288 := Nat.le_trans hwi.2 h1
      have h0 : 0 ≤ wOf (l.take i) := hwi.1
      generalize (2 : Nat) ^ 66060288 = X at *
      omega
    generalize wOf (l.take i) = w at *
    generalize l.getD i 0 = c at *
    have hpw : ∀ δ, Se K none (tOp (rI CPow fun i j => .int (i ^ j.toNat)) (tC (.int 10)) (tC (.int 18))) δ ds0 (.sh (.int (10 ^ 18))) ds0 := fun δ => se_pow (i := 10) (j := 18) se_int se_int ⟨by decide, by decide, by decide⟩
    refine ss_if (b := true) (st_cast (st_B (se_isi (b := true) (ser_var (i := 3) (d := .int c) rfl) rfl)) rfl) (fun _ => ?_) (fun e => by cases e)
    have fin : ∀ w', w' = wStep w c → SS K none (tDrop (tBM K "list" rAppend (tVar 2) (tCons (tVar 3) tNil))) [.sh (.lst (l.map D.int)), .sh (.int w'), .own a (.lst ((l.take i).map D.int)), .sh (.int c)] ds0 (LoopO (fun δ s3 => s3 = ds0 ∧ ∃ q3, (∀ c d, q3 ≠ .own c d) ∧ δ = [.sh (.lst (l.map D.int)), .sh (.int (wStep w c)), .own a (.lst ((l.take i ++ [c]).map D.int)), q3]) (fun o => ∃ q3, (∀ c d, q3 ≠ .own c d) ∧ o = .nx [.sh (.lst (l.map D.int)), .sh (.int (wOf l)), .own a (.lst (l.map D.int)), q3] ds0)) := fun w' e => by
      subst e
      refine ss_append (j := 2) rfl (se_var (i := 3) rfl) (by rw [List.length_map, sizeLine_eq]; omega) ⟨rfl, .sh (.int c), (fun _ _ e => by cases e), ?_⟩
      rw [List.map_append]; rfl
    refine ss_seq (ss_if (b := decide ((10 : Int) ^ 18 ≤ c)) (st_Test (se_cmp (p := fun i j => decide (j ≤ i)) (se_var (i := 3) rfl) (hpw _))) (fun d => ?_) (fun d => ss_next ?_))
    · have d := of_decide_eq_true d
      refine ss_set (i := 1) (se_add (se_mulB (se_var (i := 1) rfl) (se_add (se_sub (se_var (i := 3) rfl) (hpw _)) (se_int (i := 1))) (IntMulOk.of_le (m := 66060288) (n := 1048576) hwi2 ?_ (by decide))) (se_sub (se_var (i := 3) rfl) (hpw _))) ?_
      · refine nat_bits (by omega) ?_
        have h18 : (10 : Int) ^ 18 = 1000000000000000000 := rfl
        generalize (2 : Nat) ^ 1048576 = X at *
        omega
      · exact fin _ (by unfold wStep; rw [if_pos d])
    · have d := of_decide_eq_false d
      exact fin _ (by unfold wStep; rw [if_neg d])
  · rintro δ s3 ⟨rfl, q3, hq3, rfl⟩
    rw [List.take_length]
    exact ⟨q3, hq3, rfl⟩
  · rintro δ s ⟨q3, hq3, h⟩ σ2 Hs2 H2 sm2 E2
    cases h
    obtain ⟨v1, e1, t1⟩ := E2.slot 1 _ rfl
    obtain ⟨e2, hH0, hHs, o, ho, vs, eo, t2⟩ := E2.slot 2 _ rfl
    cases (show v1 = _ from t1)
    subst eo
    have hvs := Ts.ints_eq t2
    subst hvs
    show tDisp _ _ _ _
    intro c hc
    have hca : c ≠ a := fun z => by subst z; rw [hc] at ho; cases ho
    refine ⟨_, e1, _, e2, upd_same, [(.inr "whole", .int (wOf l)), (.inr "cells", .ref a), (.inr "count", .int 0)], rfl, by show 3 ≤ 15; decide, ?_⟩
    have sH : Same H (upd (upd H2 c (.dK [])) c (.dK (mergeK [] [(.inr "whole", .int (wOf l)), (.inr "cells", .ref a), (.inr "count", .int 0)]))) := fun x u e => by
      have h2 := (E2.ext x u e).1 (by intro z; cases z)
      have hx : x ≠ c := fun z => by subst z; rw [hc] at h2; cases h2
      rw [upd_ne hx, upd_ne hx]; exact h2
    refine q c ⟨wOf l, 0, a, l⟩ _ sH (E2.ext.free hc) hl ⟨?_, ?_⟩
    · rw [upd_same]; rfl
    · show EL.hm (some c) _ a = _
      rw [hm_ne (fun z => hca (by cases z; rfl)), upd_ne hca.symm, upd_ne hca.symm]
      exact ho
theorem okx_law_begun {P : Program} {w : World} {mg : Str → Option Value} {base : Heap} {x qual : Str} {st : Stmt} {f : Addr} {fd : FuncData} {N : List Str} {k : Nat} (F : L2.Fun K x qual st f fd) (S : FnScope N ["script"] (defScope st)) (hN : N.length = 4)
    (hb : ∀ (cdv : Value) (A : Around) (outer : List PySem.Env) (s : Shared) (H : Hp) (E : XK), Room k (A.deeper (PyProof.Rows.envOfC qual (defScope st) s.heap.objs.size f cdv)) →
      PSs (cxOf CX0 P w K mg base N qual (defScope st) f cdv A outer s H E).nox (defBody st) (t_law_begun K)) : FnOk P w K mg base CX0 (k + 1) f fd ["script"] (spBegun K) := by
  refine F.ok S (fun vs H Q E h => ?_) (fun cdv A outer s H vs Q E hr h => ?_)
  · obtain ⟨b, l, rfl, _⟩ := h; rfl
  · obtain ⟨b, l, rfl, hS, hl, hbits, q⟩ := h
    refine ⟨_, hb cdv A outer s H E hr, ?_⟩
    have : L2.start N [V.ref b] = [some (.ref b), none, none, none] := by
      unfold L2.start
      rw [hN]; rfl
    rw [this]
    exact ss_law_begun hS hl hbits q
def spLaw (K : Frag) : Sp := fun vs H Q _ => ∃ (b : Addr) (l : List Int), vs = [.ref b] ∧ SqL K H b (l.map V.int) ∧ l.length ≤ 63 ∧ (∀ z ∈ l, Builtin.Int.intBits z ≤ 1048576) ∧ ∀ H', Q (.bl true) H'
theorem law_right_rel {s : DS} (hc : s.cells.length ≤ 100) : ∃ s', rel_law_right [] s (.sh (.bl true)) s' ∧ sameC s s' := by
  have hp : ∀ i : Nat, Bp (if i = 2 then 5 else 3) := fun i => by by_cases z : i = 2; rw [if_pos z]; exact .inr (.inr rfl); rw [if_neg z]; exact .inr (.inl rfl)
  have hm : ∀ i : Nat, 3 ≤ (if i = 2 then 4 else 5) := fun i => by split <;> omega
  have key := ((((sameC.trans (tk_same s 3) (primeF_same (tk s 3).2 (if (tk s 3).1 = 2 then 5 else 3) (if (tk s 3).1 = 2 then 2 else 3))).trans (tk_same _ 2000)).trans (modF_ok (p := if (tk s 3).1 = 2 then 5 else 3) (most := if (tk s 3).1 = 2 then 4 else 5) (hp _) (hm _)).1).trans (tk_same _ 60)).trans (modF_ok (p := if (tk s 3).1 = 2 then 5 else 3) (most := 3) (hp _) (Nat.le_refl _)).1
  exact ⟨_, ⟨rfl, hc, rfl, key, rfl⟩, key⟩
/-- slots: 0 script 1 draw 2 lap -/
def t_law (K : Frag) : TS := (tSeq (tAsg (tCall (spBegun K) [] E0 (tCons (tVar 0) tNil)) (gName 1)) (tSeq (tFor (iRng1 (tCons (tOp (rI0 fun i j => .int (i + j)) (tC (.int 4)) (tCB (fun xs H Q => ∃ i j, xs = [.int i, .int j] ∧ Q (.int (if j < i then j else i)) H) (tCons (tCB (fun xs H Q => ∃ p ys, xs = [.ref p] ∧ (SqL K H p ys ∨ SqT K H p ys) ∧ Q (.int ys.length) H) (tCons (tVar 0) tNil)) (tCons (tC (.int 8)) tNil)))) tNil)) (gName 2) (tIfS (tNot (tB (tCall (spD K rel_law_right) [] E0 (tCons (tVar 1) tNil)))) (tRet (tC (.bl false))) tNext)) (tRet (tAndV (tOp rEq (tCall (spR K rel_square_symbol) [] E0 (tCons (tC (.int 3)) (tCons (tC (.int 2)) (tCons (tC (.int 10)) tNil)))) (tC (.int 1))) (tAndV (tOp rEq (tCall (spR K rel_root_of) [] E0 (tCons (tC (.int 3)) (tCons (tC (.int 2)) (tCons (tC (.int 10)) tNil)))) (tC (.int 3))) (tAndV (tOp rEq (tCall (spR K rel_square_symbol) [] E0 (tCons (tC (.int 3)) (tCons (tC (.int 4)) (tCons (tC (.int 3)) tNil)))) (tC (.int 1))) (tOp rEq (tCall (spR K rel_square_symbol) [] E0 (tCons (tC (.int 3)) (tCons (tC (.int 3)) (tCons (tC (.int 4)) tNil)))) (tUn (rU fun i => .int (-i)) (tC (.int 1))))))))))
theorem ss_law {b : Addr} {l : List Int} {H : Hp} {Q : VK} (hS : SqL K H b (l.map V.int)) (hl : l.length ≤ 63) (hb : ∀ z ∈ l, Builtin.Int.intBits z ≤ 1048576) (q : ∀ H', Q (.bl true) H') :
    t_law K { nx := fun _ H' => Q .non H', rt := Q } [some (.ref b), none, none] H := by
  refine ⟨.ref b, rfl, b, l, rfl, hS, hl, hb, fun c s' H' sm hc hcl hD => ?_⟩
  have smh : Same H (EL.hm (some c) H') := fun x u e => by
    have hx : x ≠ c := fun z => by subst z; rw [hc] at e; cases e
    rw [hm_ne (fun z => hx (by cases z; rfl))]; exact sm x u e
  have E : Env K (some c) H' (EL.hm (some c) H') H' [some (.ref b), some (.ref c), none] [.sh (.lst (l.map D.int)), .rf c, .no] s' := {
    ext := .refl
    sub := L2.Same.refl _
    slot := fun i r e => by
      match i, e with
      | 0, e => cases e; exact ⟨.ref b, rfl, b, _, rfl, smh.seq hS, ints_Ts l⟩
      | 1, e => cases e; rfl
      | 2, e => cases e; trivial
      | i + 3, e => simp at e
    sep := fun i j a d d' e1 e2 => by
      match i, e1 with
      | 0, e => cases e
      | 1, e => cases e
      | 2, e => cases e
      | i + 3, e => simp at e
    drw := fun a z => by cases z; exact hD
    dr0 := fun a z => by cases z; exact ⟨_, hD.1⟩
    len := Nat.le_refl _ }
  have hss : SS K (some c) (tSeq (tFor (iRng1 (tCons (tOp (rI0 fun i j => .int (i + j)) (tC (.int 4)) (tCB (fun xs H Q => ∃ i j, xs = [.int i, .int j] ∧ Q (.int (if j < i then j else i)) H) (tCons (tLen (tVar 0) K) (tCons (tC (.int 8)) tNil)))) tNil)) (gName 2) (tIfS (tNot (tB (tCall (spD K rel_law_right) [] E0 (tCons (tVar 1) tNil)))) (tRet (tC (.bl false))) tNext)) (tRet (tAndV (tOp rEq (tCall (spR K rel_square_symbol) [] E0 (tCons (tC (.int 3)) (tCons (tC (.int 2)) (tCons (tC (.int 10)) tNil)))) (tC (.int 1))) (tAndV (tOp rEq (tCall (spR K rel_root_of) [] E0 (tCons (tC (.int 3)) (tCons (tC (.int 2)) (tCons (tC (.int 10)) tNil)))) (tC (.int 3))) (tAndV (tOp rEq (tCall (spR K rel_square_symbol) [] E0 (tCons (tC (.int 3)) (tCons (tC (.int 4)) (tCons (tC (.int 3)) tNil)))) (tC (.int 1))) (tOp rEq (tCall (spR K rel_square_symbol) [] E0 (tCons (tC (.int 3)) (tCons (tC (.int 3)) (tCons (tC (.int 4)) tNil)))) (tUn (rU fun i => .int (-i)) (tC (.int 1)))))))))
      [.sh (.lst (l.map D.int)), .rf c, .no] s' (fun o => ∃ s2, o = .rt (.sh (.bl true)) s2) := by
    refine ss_seq (ss_for (s1 := s') (n := 4 + (if (8 : Int) < l.length then (8 : Int) else l.length).toNat) (it := fun i => D.int (0 + (i : Nat))) (C := CTrue) (I := fun i δ s3 => s3.cells.length ≤ 100 ∧ ∃ q2, δ = [.sh (.lst (l.map D.int)), .rf c, q2]) ?_ (fun _ _ _ _ => trivial) ?_ ?_ ?_)
    · have hlen : Se K (some c) (tLen (tVar 0) K) [.sh (.lst (l.map D.int)), .rf c, .no] s' (.sh (.int l.length)) s' := se_cast (se_len (ser_var (i := 0) rfl) (.lst _)) (by rw [List.length_map])
      have := si_range1 (K := K) (dr := some c) (se_add (se_int (i := 4)) (se_min2 (i := (l.length : Int)) (j := 8) (sa_cons (ser_sh hlen) (sa_cons (ser_sh se_int) sa_nil)))) (by split <;> omega) (by split <;> omega)
      rw [show ((4 : Int) + (if (8 : Int) < (l.length : Int) then 8 else (l.length : Int))).toNat = 4 + (if (8 : Int) < l.length then (8 : Int) else l.length).toNat by split <;> omega] at this
      exact this
    · exact ⟨by omega, .no, rfl⟩
    · rintro i δ s3 hi ⟨hc3, q2, rfl⟩
      refine ⟨_, sg_name, ?_⟩
      obtain ⟨s4, hr, hs4⟩ := law_right_rel hc3
      refine ss_if (b := false) (s1 := s4) (st_cast (st_not (st_B (b := true) (se_callD rfl rfl sa_nil hr hs4))) rfl) (fun e => by cases e) (fun _ => ss_next ⟨by rw [hs4.2]; exact hc3, .sh (.int (0 + (i : Nat))), rfl⟩)
    · rintro δ s3 ⟨hc3, q2, rfl⟩
      refine ss_ret (r := .sh (.bl true)) (s1 := s3) ?_ ⟨s3, rfl⟩
      have h10 : ∀ (δ : List S), Se K (some c) (tOp rEq (tCall (spR K rel_square_symbol) [] E0 (tCons (tC (.int 3)) (tCons (tC (.int 2)) (tCons (tC (.int 10)) tNil)))) (tC (.int 1))) δ s3 (.sh (.bl true)) s3 := fun δ =>
        se_cast (se_eqI (se_call (rel := rel_square_symbol) (r := .sh (.int (sym 3 2 10))) (sa_cons (ser_sh se_int) (sa_cons (ser_sh se_int) (sa_cons (ser_sh se_int) sa_nil))) ⟨3, 2, 10, .inl rfl, by decide, by decide, by decide, by decide +kernel, rfl, rfl⟩) se_int) (by rw [show sym 3 2 10 = 1 by decide +kernel]; rfl)
      have h11 : ∀ (δ : List S), Se K (some c) (tOp rEq (tCall (spR K rel_root_of) [] E0 (tCons (tC (.int 3)) (tCons (tC (.int 2)) (tCons (tC (.int 10)) tNil)))) (tC (.int 3))) δ s3 (.sh (.bl true)) s3 := fun δ =>
        se_cast (se_eqI (i := 3) (se_call (rel := rel_root_of) (sa_cons (ser_sh se_int) (sa_cons (ser_sh se_int) (sa_cons (ser_sh se_int) sa_nil))) ⟨3, 2, 10, .inl rfl, by decide, by decide, by decide, by decide +kernel, by decide +kernel, rfl, by rw [show rootF 3 2 10 = some 3 by decide +kernel]; rfl⟩) se_int) rfl
      have h12 : ∀ (δ : List S), Se K (some c) (tOp rEq (tCall (spR K rel_square_symbol) [] E0 (tCons (tC (.int 3)) (tCons (tC (.int 4)) (tCons (tC (.int 3)) tNil)))) (tC (.int 1))) δ s3 (.sh (.bl true)) s3 := fun δ =>
        se_cast (se_eqI (se_call (rel := rel_square_symbol) (r := .sh (.int (sym 3 4 3))) (sa_cons (ser_sh se_int) (sa_cons (ser_sh se_int) (sa_cons (ser_sh se_int) sa_nil))) ⟨3, 4, 3, .inl rfl, by decide, by decide, by decide, by decide +kernel, rfl, rfl⟩) se_int) (by rw [show sym 3 4 3 = 1 by decide +kernel]; rfl)
      have h13 : ∀ (δ : List S), Se K (some c) (tOp rEq (tCall (spR K rel_square_symbol) [] E0 (tCons (tC (.int 3)) (tCons (tC (.int 3)) (tCons (tC (.int 4)) tNil)))) (tUn (rU fun i => .int (-i)) (tC (.int 1)))) δ s3 (.sh (.bl true)) s3 := fun δ =>
        se_cast (se_eqI (se_call (rel := rel_square_symbol) (r := .sh (.int (sym 3 3 4))) (sa_cons (ser_sh se_int) (sa_cons (ser_sh se_int) (sa_cons (ser_sh se_int) sa_nil))) ⟨3, 3, 4, .inl rfl, by decide, by decide, by decide, by decide +kernel, rfl, rfl⟩) (se_neg (se_int (i := 1)))) (by rw [show sym 3 3 4 = -1 by decide +kernel]; rfl)
      exact se_and (b := true) (c := true) (h10 _) fun _ => se_and (b := true) (c := true) (h11 _) fun _ => se_and (b := true) (c := true) (h12 _) fun _ => h13 _
  exact hss H' _ H' _ E _ ⟨fun δ s h => (by obtain ⟨_, h⟩ := h; cases h), fun r s h v Hs2 H2 _ _ _ hr => (by obtain ⟨_, h⟩ := h; cases h; cases (show v = _ from hr); exact q H2), fun δ s h => (by obtain ⟨_, h⟩ := h; cases h), fun δ s h => (by obtain ⟨_, h⟩ := h; cases h)⟩
theorem okx_law {P : Program} {w : World} {mg : Str → Option Value} {base : Heap} {x qual : Str} {st : Stmt} {f : Addr} {fd : FuncData} {N : List Str} {k : Nat} (F : L2.Fun K x qual st f fd) (S : FnScope N ["script"] (defScope st)) (hN : N.length = 3)
    (hb : ∀ (cdv : Value) (A : Around) (outer : List PySem.Env) (s : Shared) (H : Hp) (E : XK), Room k (A.deeper (PyProof.Rows.envOfC qual (defScope st) s.heap.objs.size f cdv)) →
      PSs (cxOf CX0 P w K mg base N qual (defScope st) f cdv A outer s H E).nox (defBody st) (t_law K)) : FnOk P w K mg base CX0 (k + 1) f fd ["script"] (spLaw K) := by
  refine F.ok S (fun vs H Q E h => ?_) (fun cdv A outer s H vs Q E hr h => ?_)
  · obtain ⟨b, l, rfl, _⟩ := h; rfl
  · obtain ⟨b, l, rfl, hS, hl, hbits, q⟩ := h
    refine ⟨_, hb cdv A outer s H E hr, ?_⟩
    have : L2.start N [V.ref b] = [some (.ref b), none, none] := by
      unfold L2.start
      rw [hN]; rfl
    rw [this]
    exact ss_law hS hl hbits q
end
end EL

set_option maxRecDepth 100000
/-! how many arguments, what kind of result -/
namespace EL
open PySem L2 M
theorem okR_row2 (l m : List Nat) : okR (.sh (.tup [rowD l, rowD m])) = true := by
  show flats [rowD l, rowD m] = true
  unfold flats; rw [flat_row]; unfold flats; rw [flat_row]; rfl
theorem okR_opt (o : Option Nat) : okR (.sh (optD o)) = true := by cases o <;> rfl
theorem flats_put : ∀ {ks : List Key} {ds : List D} {k : Key} {d : D}, flat d = true → flats ds = true → flats (putDs ks ds k d) = true
  | [], ds, k, d, h, h2 => by
    cases ds <;> (unfold putDs; unfold flats; rw [h]; rfl)
  | _ :: _, [], k, d, h, h2 => by unfold putDs; unfold flats; rw [h]; rfl
  | k' :: ks, d' :: ds, k, d, h, h2 => by
    unfold flats at h2
    rw [Bool.and_eq_true] at h2
    unfold putDs
    by_cases z : k' = k
    · rw [if_pos z]; unfold flats; rw [h, h2.2]; rfl
    · rw [if_neg z]; unfold flats; rw [h2.1, flats_put h h2.2]; rfl
theorem flats_dcI (kf : Nat → Key) (ef : Nat → Int) : ∀ n, flats (dcD kf (fun i => .int (ef i)) n) = true
  | 0 => rfl
  | n + 1 => flats_put rfl (flats_dcI kf ef n)
theorem okR_dcI (kf : Nat → Key) (ef : Nat → Int) (n : Nat) : okR (.own (.dct (dcK kf n) (dcD kf (fun i => .int (ef i)) n))) = true := flats_dcI kf ef n
theorem len_is_whole : ∀ ds r, rel_is_whole ds r → ds.length = 1 ∧ okR r = true := by
    intro ds r h
    rcases h with ⟨_, h⟩
    repeat (rcases h with ⟨_, h⟩)
    subst_vars; refine ⟨rfl, ?_⟩; first | rfl | exact okR_row _ | exact okR_plR _ _ | exact okR_fac _ _ | exact okR_row2 _ _ | exact okR_opt _ | exact okR_dcI _ _ _
theorem len_is_within : ∀ ds r, rel_is_within ds r → ds.length = 3 ∧ okR r = true := by
    intro ds r h
    rcases h with ⟨_, h⟩
    repeat (rcases h with ⟨_, h⟩)
    subst_vars; refine ⟨rfl, ?_⟩; first | rfl | exact okR_row _ | exact okR_plR _ _ | exact okR_fac _ _ | exact okR_row2 _ _ | exact okR_opt _ | exact okR_dcI _ _ _
theorem len_need_base : ∀ ds r, rel_need_base ds r → ds.length = 1 ∧ okR r = true := by
    intro ds r h
    rcases h with ⟨_, h⟩
    repeat (rcases h with ⟨_, h⟩)
    subst_vars; refine ⟨rfl, ?_⟩; first | rfl | exact okR_row _ | exact okR_plR _ _ | exact okR_fac _ _ | exact okR_row2 _ _ | exact okR_opt _ | exact okR_dcI _ _ _
theorem len_need_as : ∀ ds r, rel_need_as ds r → ds.length = 3 ∧ okR r = true := by
    intro ds r h
    rcases h with ⟨_, h⟩
    repeat (rcases h with ⟨_, h⟩)
    subst_vars; refine ⟨rfl, ?_⟩; first | rfl | exact okR_row _ | exact okR_plR _ _ | exact okR_fac _ _ | exact okR_row2 _ _ | exact okR_opt _ | exact okR_dcI _ _ _
theorem len_trimmed : ∀ ds r, rel_trimmed ds r → ds.length = 1 ∧ okR r = true := by
    intro ds r h
    rcases h with ⟨_, h⟩
    repeat (rcases h with ⟨_, h⟩)
    subst_vars; refine ⟨rfl, ?_⟩; first | rfl | exact okR_row _ | exact okR_plR _ _ | exact okR_fac _ _ | exact okR_row2 _ _ | exact okR_opt _ | exact okR_dcI _ _ _
theorem len_row_of : ∀ ds r, rel_row_of ds r → ds.length = 2 ∧ okR r = true := by
    intro ds r h
    rcases h with ⟨_, h⟩
    repeat (rcases h with ⟨_, h⟩)
    subst_vars; refine ⟨rfl, ?_⟩; first | rfl | exact okR_row _ | exact okR_plR _ _ | exact okR_fac _ _ | exact okR_row2 _ _ | exact okR_opt _ | exact okR_dcI _ _ _
theorem len_number_by : ∀ ds r, rel_number_by ds r → ds.length = 2 ∧ okR r = true := by
    intro ds r h
    rcases h with ⟨_, h⟩
    repeat (rcases h with ⟨_, h⟩)
    subst_vars; refine ⟨rfl, ?_⟩; first | rfl | exact okR_row _ | exact okR_plR _ _ | exact okR_fac _ _ | exact okR_row2 _ _ | exact okR_opt _ | exact okR_dcI _ _ _
theorem len_plain_row : ∀ ds r, rel_plain_row ds r → ds.length = 2 ∧ okR r = true := by
    intro ds r h
    rcases h with ⟨_, h⟩
    repeat (rcases h with ⟨_, h⟩)
    subst_vars; refine ⟨rfl, ?_⟩; first | rfl | exact okR_row _ | exact okR_plR _ _ | exact okR_fac _ _ | exact okR_row2 _ _ | exact okR_opt _ | exact okR_dcI _ _ _
theorem len_plain_of : ∀ ds r, rel_plain_of ds r → ds.length = 2 ∧ okR r = true := by
    intro ds r h
    rcases h with ⟨_, h⟩
    repeat (rcases h with ⟨_, h⟩)
    subst_vars; refine ⟨rfl, ?_⟩; first | rfl | exact okR_row _ | exact okR_plR _ _ | exact okR_fac _ _ | exact okR_row2 _ _ | exact okR_opt _ | exact okR_dcI _ _ _
theorem len_times_rows : ∀ ds r, rel_times_rows ds r → ds.length = 3 ∧ okR r = true := by
    intro ds r h
    rcases h with ⟨_, h⟩
    repeat (rcases h with ⟨_, h⟩)
    subst_vars; refine ⟨rfl, ?_⟩; first | rfl | exact okR_row _ | exact okR_plR _ _ | exact okR_fac _ _ | exact okR_row2 _ _ | exact okR_opt _ | exact okR_dcI _ _ _
theorem len_divided_rows : ∀ ds r, rel_divided_rows ds r → ds.length = 3 ∧ okR r = true := by
    intro ds r h
    rcases h with ⟨_, h⟩
    repeat (rcases h with ⟨_, h⟩)
    subst_vars; refine ⟨rfl, ?_⟩; first | rfl | exact okR_row _ | exact okR_plR _ _ | exact okR_fac _ _ | exact okR_row2 _ _ | exact okR_opt _ | exact okR_dcI _ _ _
theorem len_need_two : ∀ ds r, rel_need_two ds r → ds.length = 3 ∧ okR r = true := by
    intro ds r h
    rcases h with ⟨_, h⟩
    repeat (rcases h with ⟨_, h⟩)
    subst_vars; refine ⟨rfl, ?_⟩; first | rfl | exact okR_row _ | exact okR_plR _ _ | exact okR_fac _ _ | exact okR_row2 _ _ | exact okR_opt _ | exact okR_dcI _ _ _
theorem len_product_of : ∀ ds r, rel_product_of ds r → ds.length = 3 ∧ okR r = true := by
    intro ds r h
    rcases h with ⟨_, h⟩
    repeat (rcases h with ⟨_, h⟩)
    subst_vars; refine ⟨rfl, ?_⟩; first | rfl | exact okR_row _ | exact okR_plR _ _ | exact okR_fac _ _ | exact okR_row2 _ _ | exact okR_opt _ | exact okR_dcI _ _ _
theorem len_quotient_of : ∀ ds r, rel_quotient_of ds r → ds.length = 3 ∧ okR r = true := by
    intro ds r h
    rcases h with ⟨_, h⟩
    repeat (rcases h with ⟨_, h⟩)
    subst_vars; refine ⟨rfl, ?_⟩; first | rfl | exact okR_row _ | exact okR_plR _ _ | exact okR_fac _ _ | exact okR_row2 _ _ | exact okR_opt _ | exact okR_dcI _ _ _
theorem len_powered : ∀ ds r, rel_powered ds r → ds.length = 2 ∧ okR r = true := by
    intro ds r h
    rcases h with ⟨_, h⟩
    repeat (rcases h with ⟨_, h⟩)
    subst_vars; refine ⟨rfl, ?_⟩; first | rfl | exact okR_row _ | exact okR_plR _ _ | exact okR_fac _ _ | exact okR_row2 _ _ | exact okR_opt _ | exact okR_dcI _ _ _
theorem len_plain_rows : ∀ ds r, rel_plain_rows ds r → ds.length = 2 ∧ okR r = true := by
    intro ds r h
    rcases h with ⟨_, h⟩
    repeat (rcases h with ⟨_, h⟩)
    subst_vars; refine ⟨rfl, ?_⟩; first | rfl | exact okR_row _ | exact okR_plR _ _ | exact okR_fac _ _ | exact okR_row2 _ _ | exact okR_opt _ | exact okR_dcI _ _ _
theorem len_factors_by : ∀ ds r, rel_factors_by ds r → ds.length = 2 ∧ okR r = true := by
    intro ds r h
    rcases h with ⟨_, h⟩
    repeat (rcases h with ⟨_, h⟩)
    subst_vars; refine ⟨rfl, ?_⟩; first | rfl | exact okR_row _ | exact okR_plR _ _ | exact okR_fac _ _ | exact okR_row2 _ _ | exact okR_opt _ | exact okR_dcI _ _ _
theorem len_common_rows : ∀ ds r, rel_common_rows ds r → ds.length = 3 ∧ okR r = true := by
    intro ds r h
    rcases h with ⟨_, h⟩
    repeat (rcases h with ⟨_, h⟩)
    subst_vars; refine ⟨rfl, ?_⟩; first | rfl | exact okR_row _ | exact okR_plR _ _ | exact okR_fac _ _ | exact okR_row2 _ _ | exact okR_opt _ | exact okR_dcI _ _ _
theorem len_need_odd_base : ∀ ds r, rel_need_odd_base ds r → ds.length = 1 ∧ okR r = true := by
    intro ds r h
    rcases h with ⟨_, h⟩
    repeat (rcases h with ⟨_, h⟩)
    subst_vars; refine ⟨rfl, ?_⟩; first | rfl | exact okR_row _ | exact okR_plR _ _ | exact okR_fac _ _ | exact okR_row2 _ _ | exact okR_opt _ | exact okR_dcI _ _ _
theorem len_power_rest : ∀ ds r, rel_power_rest ds r → ds.length = 4 ∧ okR r = true := by
    intro ds r h
    rcases h with ⟨_, h⟩
    repeat (rcases h with ⟨_, h⟩)
    subst_vars; refine ⟨rfl, ?_⟩; first | rfl | exact okR_row _ | exact okR_plR _ _ | exact okR_fac _ _ | exact okR_row2 _ _ | exact okR_opt _ | exact okR_dcI _ _ _
theorem len_symbol_by : ∀ ds r, rel_symbol_by ds r → ds.length = 3 ∧ okR r = true := by
    intro ds r h
    rcases h with ⟨_, h⟩
    repeat (rcases h with ⟨_, h⟩)
    subst_vars; refine ⟨rfl, ?_⟩; first | rfl | exact okR_row _ | exact okR_plR _ _ | exact okR_fac _ _ | exact okR_row2 _ _ | exact okR_opt _ | exact okR_dcI _ _ _
theorem len_need_sides : ∀ ds r, rel_need_sides ds r → ds.length = 3 ∧ okR r = true := by
    intro ds r h
    rcases h with ⟨_, h⟩
    repeat (rcases h with ⟨_, h⟩)
    subst_vars; refine ⟨rfl, ?_⟩; first | rfl | exact okR_row _ | exact okR_plR _ _ | exact okR_fac _ _ | exact okR_row2 _ _ | exact okR_opt _ | exact okR_dcI _ _ _
theorem len_square_symbol : ∀ ds r, rel_square_symbol ds r → ds.length = 3 ∧ okR r = true := by
    intro ds r h
    rcases h with ⟨_, h⟩
    repeat (rcases h with ⟨_, h⟩)
    subst_vars; refine ⟨rfl, ?_⟩; first | rfl | exact okR_row _ | exact okR_plR _ _ | exact okR_fac _ _ | exact okR_row2 _ _ | exact okR_opt _ | exact okR_dcI _ _ _
theorem len_is_prime_row : ∀ ds r, rel_is_prime_row ds r → ds.length = 2 ∧ okR r = true := by
    intro ds r h
    rcases h with ⟨_, h⟩
    repeat (rcases h with ⟨_, h⟩)
    subst_vars; refine ⟨rfl, ?_⟩; first | rfl | exact okR_row _ | exact okR_plR _ _ | exact okR_fac _ _ | exact okR_row2 _ _ | exact okR_opt _ | exact okR_dcI _ _ _
theorem len_is_prime_number : ∀ ds r, rel_is_prime_number ds r → ds.length = 2 ∧ okR r = true := by
    intro ds r h
    rcases h with ⟨_, h⟩
    repeat (rcases h with ⟨_, h⟩)
    subst_vars; refine ⟨rfl, ?_⟩; first | rfl | exact okR_row _ | exact okR_plR _ _ | exact okR_fac _ _ | exact okR_row2 _ _ | exact okR_opt _ | exact okR_dcI _ _ _
theorem len_need_prime : ∀ ds r, rel_need_prime ds r → ds.length = 2 ∧ okR r = true := by
    intro ds r h
    rcases h with ⟨_, h⟩
    repeat (rcases h with ⟨_, h⟩)
    subst_vars; refine ⟨rfl, ?_⟩; first | rfl | exact okR_row _ | exact okR_plR _ _ | exact okR_fac _ _ | exact okR_row2 _ _ | exact okR_opt _ | exact okR_dcI _ _ _
theorem len_rests_of : ∀ ds r, rel_rests_of ds r → ds.length = 2 ∧ okR r = true := by
    intro ds r h
    rcases h with ⟨_, h⟩
    repeat (rcases h with ⟨_, h⟩)
    subst_vars; refine ⟨rfl, ?_⟩; first | rfl | exact okR_row _ | exact okR_plR _ _ | exact okR_fac _ _ | exact okR_row2 _ _ | exact okR_opt _ | exact okR_dcI _ _ _
theorem len_square_rest : ∀ ds r, rel_square_rest ds r → ds.length = 3 ∧ okR r = true := by
    intro ds r h
    rcases h with ⟨_, h⟩
    repeat (rcases h with ⟨_, h⟩)
    subst_vars; refine ⟨rfl, ?_⟩; first | rfl | exact okR_row _ | exact okR_plR _ _ | exact okR_fac _ _ | exact okR_row2 _ _ | exact okR_opt _ | exact okR_dcI _ _ _
theorem len_root_of : ∀ ds r, rel_root_of ds r → ds.length = 3 ∧ okR r = true := by
    intro ds r h
    rcases h with ⟨_, h⟩
    repeat (rcases h with ⟨_, h⟩)
    subst_vars; refine ⟨rfl, ?_⟩; first | rfl | exact okR_row _ | exact okR_plR _ _ | exact okR_fac _ _ | exact okR_row2 _ _ | exact okR_opt _ | exact okR_dcI _ _ _
theorem len_need_modulus : ∀ ds r, rel_need_modulus ds r → ds.length = 2 ∧ okR r = true := by
    intro ds r h
    rcases h with ⟨_, h⟩
    repeat (rcases h with ⟨_, h⟩)
    subst_vars; refine ⟨rfl, ?_⟩; first | rfl | exact okR_row _ | exact okR_plR _ _ | exact okR_fac _ _ | exact okR_row2 _ _ | exact okR_opt _ | exact okR_dcI _ _ _
theorem len_squares_many : ∀ ds r, rel_squares_many ds r → ds.length = 2 ∧ okR r = true := by
    intro ds r h
    rcases h with ⟨_, h⟩
    repeat (rcases h with ⟨_, h⟩)
    subst_vars; refine ⟨rfl, ?_⟩; first | rfl | exact okR_row _ | exact okR_plR _ _ | exact okR_fac _ _ | exact okR_row2 _ _ | exact okR_opt _ | exact okR_dcI _ _ _
theorem len_free_by : ∀ ds r, rel_free_by ds r → ds.length = 2 ∧ okR r = true := by
    intro ds r h
    rcases h with ⟨_, h⟩
    repeat (rcases h with ⟨_, h⟩)
    subst_vars; refine ⟨rfl, ?_⟩; first | rfl | exact okR_row _ | exact okR_plR _ _ | exact okR_fac _ _ | exact okR_row2 _ _ | exact okR_opt _ | exact okR_dcI _ _ _
theorem len_free_many : ∀ ds r, rel_free_many ds r → ds.length = 2 ∧ okR r = true := by
    intro ds r h
    rcases h with ⟨_, h⟩
    repeat (rcases h with ⟨_, h⟩)
    subst_vars; refine ⟨rfl, ?_⟩; first | rfl | exact okR_row _ | exact okR_plR _ _ | exact okR_fac _ _ | exact okR_row2 _ _ | exact okR_opt _ | exact okR_dcI _ _ _
theorem len_factors_of : ∀ ds r, rel_factors_of ds r → ds.length = 2 ∧ okR r = true := by
    intro ds r h
    rcases h with ⟨_, h⟩
    repeat (rcases h with ⟨_, h⟩)
    subst_vars; refine ⟨rfl, ?_⟩; first | rfl | exact okR_row _ | exact okR_plR _ _ | exact okR_fac _ _ | exact okR_row2 _ _ | exact okR_opt _ | exact okR_dcI _ _ _
theorem len_law_row : ∀ ds r, rel_law_row ds r → ds.length = 2 ∧ okR r = true := by
    intro ds r h
    rcases h with ⟨_, h⟩
    repeat (rcases h with ⟨_, h⟩)
    subst_vars; refine ⟨rfl, ?_⟩; first | rfl | exact okR_row _ | exact okR_plR _ _ | exact okR_fac _ _ | exact okR_row2 _ _ | exact okR_opt _ | exact okR_dcI _ _ _
theorem len_law_worth : ∀ ds r, rel_law_worth ds r → ds.length = 2 ∧ okR r = true := by
    intro ds r h
    rcases h with ⟨_, h⟩
    repeat (rcases h with ⟨_, h⟩)
    subst_vars; refine ⟨rfl, ?_⟩; first | rfl | exact okR_row _ | exact okR_plR _ _ | exact okR_fac _ _ | exact okR_row2 _ _ | exact okR_opt _ | exact okR_dcI _ _ _
theorem len_law_cut : ∀ ds r, rel_law_cut ds r → ds.length = 1 ∧ okR r = true := by
    intro ds r h
    rcases h with ⟨_, h⟩
    repeat (rcases h with ⟨_, h⟩)
    subst_vars; refine ⟨rfl, ?_⟩; first | rfl | exact okR_row _ | exact okR_plR _ _ | exact okR_fac _ _ | exact okR_row2 _ _ | exact okR_opt _ | exact okR_dcI _ _ _
theorem len_law_times : ∀ ds r, rel_law_times ds r → ds.length = 3 ∧ okR r = true := by
    intro ds r h
    rcases h with ⟨_, h⟩
    repeat (rcases h with ⟨_, h⟩)
    subst_vars; refine ⟨rfl, ?_⟩; first | rfl | exact okR_row _ | exact okR_plR _ _ | exact okR_fac _ _ | exact okR_row2 _ _ | exact okR_opt _ | exact okR_dcI _ _ _
theorem len_law_divided : ∀ ds r, rel_law_divided ds r → ds.length = 3 ∧ okR r = true := by
    intro ds r h
    rcases h with ⟨_, h⟩
    repeat (rcases h with ⟨_, h⟩)
    subst_vars; refine ⟨rfl, ?_⟩; first | rfl | exact okR_row _ | exact okR_plR _ _ | exact okR_fac _ _ | exact okR_row2 _ _ | exact okR_opt _ | exact okR_dcI _ _ _
theorem len_law_plain : ∀ ds r, rel_law_plain ds r → ds.length = 2 ∧ okR r = true := by
    intro ds r h
    rcases h with ⟨_, h⟩
    repeat (rcases h with ⟨_, h⟩)
    subst_vars; refine ⟨rfl, ?_⟩; first | rfl | exact okR_row _ | exact okR_plR _ _ | exact okR_fac _ _ | exact okR_row2 _ _ | exact okR_opt _ | exact okR_dcI _ _ _
theorem len_law_power : ∀ ds r, rel_law_power ds r → ds.length = 2 ∧ okR r = true := by
    intro ds r h
    rcases h with ⟨_, h⟩
    repeat (rcases h with ⟨_, h⟩)
    subst_vars; refine ⟨rfl, ?_⟩; first | rfl | exact okR_row _ | exact okR_plR _ _ | exact okR_fac _ _ | exact okR_row2 _ _ | exact okR_opt _ | exact okR_dcI _ _ _
theorem len_law_factors : ∀ ds r, rel_law_factors ds r → ds.length = 2 ∧ okR r = true := by
    intro ds r h
    rcases h with ⟨_, h⟩
    repeat (rcases h with ⟨_, h⟩)
    subst_vars; refine ⟨rfl, ?_⟩; first | rfl | exact okR_row _ | exact okR_plR _ _ | exact okR_fac _ _ | exact okR_row2 _ _ | exact okR_opt _ | exact okR_dcI _ _ _
theorem len_law_is_prime : ∀ ds r, rel_law_is_prime ds r → ds.length = 2 ∧ okR r = true := by
    intro ds r h
    rcases h with ⟨_, h⟩
    repeat (rcases h with ⟨_, h⟩)
    subst_vars; refine ⟨rfl, ?_⟩; first | rfl | exact okR_row _ | exact okR_plR _ _ | exact okR_fac _ _ | exact okR_row2 _ _ | exact okR_opt _ | exact okR_dcI _ _ _
theorem len_law_mixed : ∀ ds s r s', rel_law_mixed ds s r s' → ds.length + 1 = 1 ∧ okR r = true := by
    intro ds s r s' h
    rcases h with ⟨_, h⟩
    repeat (rcases h with ⟨_, h⟩)
    subst_vars; refine ⟨rfl, ?_⟩; first | rfl | exact okR_row _ | exact okR_plR _ _ | exact okR_fac _ _ | exact okR_row2 _ _ | exact okR_opt _ | exact okR_dcI _ _ _
theorem len_law_take : ∀ ds s r s', rel_law_take ds s r s' → ds.length + 1 = 2 ∧ okR r = true := by
    intro ds s r s' h
    rcases h with ⟨_, h⟩
    repeat (rcases h with ⟨_, h⟩)
    subst_vars; refine ⟨rfl, ?_⟩; first | rfl | exact okR_row _ | exact okR_plR _ _ | exact okR_fac _ _ | exact okR_row2 _ _ | exact okR_opt _ | exact okR_dcI _ _ _
theorem len_law_pick : ∀ ds s r s', rel_law_pick ds s r s' → ds.length + 1 = 2 ∧ okR r = true := by
    intro ds s r s' h
    rcases h with ⟨_, h⟩
    repeat (rcases h with ⟨_, h⟩)
    subst_vars; refine ⟨rfl, ?_⟩; first | rfl | exact okR_row _ | exact okR_plR _ _ | exact okR_fac _ _ | exact okR_row2 _ _ | exact okR_opt _ | exact okR_dcI _ _ _
theorem len_law_prime : ∀ ds s r s', rel_law_prime ds s r s' → ds.length + 1 = 3 ∧ okR r = true := by
    intro ds s r s' h
    rcases h with ⟨_, h⟩
    repeat (rcases h with ⟨_, h⟩)
    subst_vars; refine ⟨rfl, ?_⟩; first | rfl | exact okR_row _ | exact okR_plR _ _ | exact okR_fac _ _ | exact okR_row2 _ _ | exact okR_opt _ | exact okR_dcI _ _ _
theorem len_law_modulus : ∀ ds s r s', rel_law_modulus ds s r s' → ds.length + 1 = 3 ∧ okR r = true := by
    intro ds s r s' h
    rcases h with ⟨_, h⟩
    repeat (rcases h with ⟨_, h⟩)
    subst_vars; refine ⟨rfl, ?_⟩; first | rfl | exact okR_row _ | exact okR_plR _ _ | exact okR_fac _ _ | exact okR_row2 _ _ | exact okR_opt _ | exact okR_dcI _ _ _
theorem len_law_symbol_by_squares : ∀ ds r, rel_law_symbol_by_squares ds r → ds.length = 3 ∧ okR r = true := by
    intro ds r h
    rcases h with ⟨_, h⟩
    repeat (rcases h with ⟨_, h⟩)
    subst_vars; refine ⟨rfl, ?_⟩; first | rfl | exact okR_row _ | exact okR_plR _ _ | exact okR_fac _ _ | exact okR_row2 _ _ | exact okR_opt _ | exact okR_dcI _ _ _
theorem len_law_right : ∀ ds s r s', rel_law_right ds s r s' → ds.length + 1 = 1 ∧ okR r = true := by
    intro ds s r s' h
    rcases h with ⟨_, h⟩
    repeat (rcases h with ⟨_, h⟩)
    subst_vars; refine ⟨rfl, ?_⟩; first | rfl | exact okR_row _ | exact okR_plR _ _ | exact okR_fac _ _ | exact okR_row2 _ _ | exact okR_opt _ | exact okR_dcI _ _ _

end EL
namespace EL
open PySem PySem.Spec PyProof.Rows L2 M
def topS (i : Nat) : Stmt := PySem.Challenge.pw_nocarry_k60_across_squares_and_factors.main.body.getD i (.Pass ⟨0, 0, 0, 0⟩)
section
variable {P : Program} {w : World} {K : PySem.W.Frag} {mg : Str → Option Value} {base : Heap}
abbrev s_is_whole : Stmt := topS 16
abbrev n_is_whole : List Str := ["thing"]
theorem sc_is_whole : FnScope ["thing"] ["thing"] (defScope s_is_whole) := ⟨rfl, rfl, rfl, by decide +kernel, rfl, by decide +kernel, by decide +kernel⟩
theorem ok_is_whole {f : Addr} {fd : FuncData} (F : L2.Fun K "is_whole" "is_whole" s_is_whole f fd) (b_isinstance : mg "isinstance" = none) (b_int : mg "int" = none) (b_bool : mg "bool" = none) : FnOk P w K mg base CX0 1 f fd ["thing"] (spR K rel_is_whole) :=
  have nd := sc_is_whole.nd
  fn_R F sc_is_whole len_is_whole (fun cdv A outer s H E hr => ⟨t_is_whole K, (pss_one (ps_ret (pe_and (pe_callB call_isi (by rfl) b_isinstance (by decide +kernel) (pa_cons (pv 0) (pa_cons (pe_bltn (v := .ty "int") (by rfl) b_int (by decide +kernel) rfl) pa_nil))) (pe_one (pe_not (pe_callB call_isi (by rfl) b_isinstance (by decide +kernel) (pa_cons (pv 0) (pa_cons (pe_bltn (v := .ty "bool") (by rfl) b_bool (by decide +kernel) rfl) pa_nil)))))))), ss_is_whole⟩)
abbrev s_is_within : Stmt := topS 17
abbrev n_is_within : List Str := ["thing", "low", "high"]
theorem sc_is_within : FnScope ["thing", "low", "high"] ["thing", "low", "high"] (defScope s_is_within) := ⟨rfl, rfl, rfl, by decide +kernel, rfl, by decide +kernel, by decide +kernel⟩
theorem ok_is_within {f : Addr} {fd : FuncData} (F : L2.Fun K "is_within" "is_within" s_is_within f fd) (h_is_whole : Fk P w K mg base "is_whole" ["thing"] 1 (spR K rel_is_whole)) : FnOk P w K mg base CX0 2 f fd ["thing", "low", "high"] (spR K rel_is_within) :=
  have nd := sc_is_within.nd
  fn_R F sc_is_within len_is_within (fun cdv A outer s H E hr => ⟨t_is_within K, (pss_one (ps_ret (pe_and (pe_f h_is_whole hr (by decide) (by rfl) (pa_cons (pv 0) pa_nil)) (pe_one (pe_chain op_le op_le (pv 1) (pv 0) (pv 2)))))), ss_is_within⟩)
abbrev s_need_base : Stmt := topS 18
abbrev n_need_base : List Str := ["base"]
theorem sc_need_base : FnScope ["base"] ["base"] (defScope s_need_base) := ⟨rfl, rfl, rfl, by decide +kernel, rfl, by decide +kernel, by decide +kernel⟩
theorem ok_need_base {f : Addr} {fd : FuncData} (F : L2.Fun K "need_base" "need_base" s_need_base f fd) (h_is_whole : Fk P w K mg base "is_whole" ["thing"] 1 (spR K rel_is_whole)) (m_BASES : ∃ a, mg "BASES" = some (.ref a) ∧ ∀ H, SqT K H a ([2, 3, 5].map V.int)) : FnOk P w K mg base CX0 2 f fd ["base"] (spR K rel_need_base) :=
  have nd := sc_need_base.nd
  fn_R F sc_need_base len_need_base (fun cdv A outer s H E hr => ⟨t_need_base K, (pss_one (ps_if (pw_or (pt_not (pt_val (pe_f h_is_whole hr (by decide) (by rfl) (pa_cons (pv 0) pa_nil)))) (pw_or1 (pt_cmpR op_notIn_seq (pv 0) (pe_modT m_BASES (by rfl)) rfl))).pt (pss_one ps_never) pss_nil)), ss_need_base⟩)
abbrev s_need_as : Stmt := topS 19
abbrev n_need_as : List Str := ["thing", "which", "low"]
theorem sc_need_as : FnScope ["thing", "which", "low"] ["thing", "which", "low"] (defScope s_need_as) := ⟨rfl, rfl, rfl, by decide +kernel, rfl, by decide +kernel, by decide +kernel⟩
theorem ok_need_as {f : Addr} {fd : FuncData} (F : L2.Fun K "need_as" "need_as" s_need_as f fd) (h_is_within : Fk P w K mg base "is_within" ["thing", "low", "high"] 2 (spR K rel_is_within)) (m_MOST : ∃ t, mg "MOST" = some (.int 1000000 t)) : FnOk P w K mg base CX0 3 f fd ["thing", "which", "low"] (spR K rel_need_as) :=
  have nd := sc_need_as.nd
  fn_R F sc_need_as len_need_as (fun cdv A outer s H E hr => ⟨t_need_as K, (pss_cons (ps_if (pt_val (pe_f h_is_within hr (by decide) (by rfl) (pa_cons (pv 0) (pa_cons (pv 2) (pa_cons (pe_modI m_MOST (by rfl)) pa_nil))))) (pss_one ps_retN) pss_nil)
      (pss_cons (ps_if (pt_cmpR op_eq (pv 1) pe_str (nomark _)) (pss_one ps_never) pss_nil)
      (pss_cons (ps_if (pt_cmpR op_eq (pv 1) pe_str (nomark _)) (pss_one ps_never) pss_nil)
      (pss_cons (ps_if (pt_cmpR op_eq (pv 1) pe_str (nomark _)) (pss_one ps_never) pss_nil)
      (pss_cons (ps_if (pt_cmpR op_eq (pv 1) pe_str (nomark _)) (pss_one ps_never) pss_nil)
      (pss_cons (ps_if (pt_cmpR op_eq (pv 1) pe_str (nomark _)) (pss_one ps_never) pss_nil)
      (pss_one ps_never))))))), ss_need_as⟩)
abbrev s_trimmed : Stmt := topS 20
abbrev n_trimmed : List Str := ["row", "many"]
theorem sc_trimmed : FnScope ["row", "many"] ["row"] (defScope s_trimmed) := ⟨rfl, rfl, rfl, by decide +kernel, rfl, by decide +kernel, by decide +kernel⟩
theorem ok_trimmed {f : Addr} {fd : FuncData} (F : L2.Fun K "trimmed" "trimmed" s_trimmed f fd) (b_len : mg "len" = none) (b_tuple : mg "tuple" = none) : FnOk P w K mg base CX0 1 f fd ["row"] (spR K rel_trimmed) :=
  have nd := sc_trimmed.nd
  fn_R F sc_trimmed len_trimmed (fun cdv A outer s H E hr => ⟨t_trimmed K, (pss_cons (ps_set (i := 1) nd rfl (Or.inl rfl) (pe_callB call_len_seq (by rfl) b_len PySem.boot_len (pa_cons (pv 0) pa_nil)))
      (pss_cons (ps_while PassesOwn.never (pw_and (pt_cmpR op_gt (pv 1) pe_int (nomark _)) (pw_and1 (pt_cmpR op_eq (pe_ix ix_list (pv 0) (pe_op op_sub (pv 1) pe_int) (fun _ _ => rfl)) pe_int (nomark _)))).pt (pss_one (ps_set (i := 1) nd rfl (Or.inl rfl) (pe_op op_sub (pv 1) pe_int))))
      (pss_one (ps_ret (pe_callTy call_tuple_of (by rfl) b_tuple (by decide +kernel) (pa_cons (pe_slice sl_list (pv 0) po_none (po_some (pv 1))) pa_nil)))))), ss_trimmed⟩)
abbrev s_row_of : Stmt := topS 21
abbrev n_row_of : List Str := ["base", "number", "found", "left"]
theorem sc_row_of : FnScope ["base", "number", "found", "left"] ["base", "number"] (defScope s_row_of) := ⟨rfl, rfl, rfl, by decide +kernel, rfl, by decide +kernel, by decide +kernel⟩
theorem ok_row_of {f : Addr} {fd : FuncData} (F : L2.Fun K "row_of" "row_of" s_row_of f fd) (b_tuple : mg "tuple" = none) : FnOk P w K mg base CX0 1 f fd ["base", "number"] (spR K rel_row_of) :=
  have nd := sc_row_of.nd
  fn_R F sc_row_of len_row_of (fun cdv A outer s H E hr => ⟨t_row_of K, (pss_cons (ps_par (i := 2) (j := 3) rfl nd rfl rfl (by decide) rfl rfl (pa_cons (pe_lst pa_nil) (pa_cons (pv 1) pa_nil)) (by rfl))
      (pss_cons (ps_while PassesOwn.never (pt_cmpR op_gt (pv 3) pe_int (nomark _)) (pss_cons (ps_expr (pe_bm PySem.F.plainAttrs_list PySem.F.slot_list_append PySem.F.type_list_append mt_append (pv 2) (pa_cons (pe_op op_mod (pv 3) (pv 0)) pa_nil)))
      (pss_one (ps_set (i := 3) nd rfl (Or.inl rfl) (pe_op op_fdiv (pv 3) (pv 0))))))
      (pss_one (ps_ret (pe_callTy call_tuple_of (by rfl) b_tuple (by decide +kernel) (pa_cons (pv 2) pa_nil)))))), ss_row_of⟩)
abbrev s_number_by : Stmt := topS 22
abbrev n_number_by : List Str := ["base", "row", "found", "figure"]
theorem sc_number_by : FnScope ["base", "row", "found", "figure"] ["base", "row"] (defScope s_number_by) := ⟨rfl, rfl, rfl, by decide +kernel, rfl, by decide +kernel, by decide +kernel⟩
theorem ok_number_by {f : Addr} {fd : FuncData} (F : L2.Fun K "number_by" "number_by" s_number_by f fd) : FnOk P w K mg base CX0 1 f fd ["base", "row"] (spR K rel_number_by) :=
  have nd := sc_number_by.nd
  fn_R F sc_number_by len_number_by (fun cdv A outer s H E hr => ⟨t_number_by K, (pss_cons (ps_set (i := 2) nd rfl (Or.inl rfl) pe_int)
      (pss_cons (ps_for PassesOwn.never rfl (pi_tup (pe_revT (pv 1))) (pg_name (i := 3) nd rfl (Or.inl rfl)) (pss_one (ps_set (i := 2) nd rfl (Or.inl rfl) (pe_op op_add (pe_op op_mul (pv 2) (pv 0)) (pv 3)))))
      (pss_one (ps_ret (pv 2))))), ss_number_by⟩)
abbrev s_plain_row : Stmt := topS 23
abbrev n_plain_row : List Str := ["base", "row", "scale", "late", "figure"]
theorem sc_plain_row : FnScope ["base", "row", "scale", "late", "figure"] ["base", "row"] (defScope s_plain_row) := ⟨rfl, rfl, rfl, by decide +kernel, rfl, by decide +kernel, by decide +kernel⟩
theorem ok_plain_row {f : Addr} {fd : FuncData} (F : L2.Fun K "plain_row" "plain_row" s_plain_row f fd) (b_range : mg "range" = none) (b_tuple : mg "tuple" = none) : FnOk P w K mg base CX0 1 f fd ["base", "row"] (spR K rel_plain_row) :=
  have nd := sc_plain_row.nd
  fn_R F sc_plain_row len_plain_row (fun cdv A outer s H E hr => ⟨t_plain_row K, (pss_cons (ps_set (i := 2) nd rfl (Or.inr rfl) (pe_ix ix_list (pe_lc (own := [("late", 3)]) (by rfl) nd (pi_range2 (by rfl) b_range (pa_cons pe_int (pa_cons (pv 0) pa_nil))) (blkOk_by (own := [("late", 3)]) (N := n_plain_row) (sc := defScope (topS 23)) (by decide +kernel)) (fun _ _ _ _ _ => (pg_name (i := 3) nd rfl (Or.inl rfl))) (fun _ _ _ _ _ => (pts_one (pt_cmpR op_eq (pe_op op_mod (pe_op op_mul (pv 3) (pe_ix ix_tup (pv 1) (pe_un un_neg pe_int) (fun _ _ => rfl))) (pv 0)) pe_int (nomark _)))) (fun _ _ _ _ _ => (pv 3))) pe_int (fun _ _ => rfl)))
      (pss_one (ps_ret (pe_callTy call_tuple_of (by rfl) b_tuple (by decide +kernel) (pa_cons (pe_lc (own := [("figure", 4)]) (by rfl) nd (pi_tup (pv 1)) (blkOk_by (own := [("figure", 4)]) (N := n_plain_row) (sc := defScope (topS 23)) (by decide +kernel)) (fun _ _ _ _ _ => (pg_name (i := 4) nd rfl (Or.inl rfl))) (fun _ _ _ _ _ => pts_nil) (fun _ _ _ _ _ => (pe_op op_mod (pe_op op_mul (pv 4) (pv 2)) (pv 0)))) pa_nil))))), ss_plain_row⟩)
abbrev s_plain_of : Stmt := topS 24
abbrev n_plain_of : List Str := ["base", "number"]
theorem sc_plain_of : FnScope ["base", "number"] ["base", "number"] (defScope s_plain_of) := ⟨rfl, rfl, rfl, by decide +kernel, rfl, by decide +kernel, by decide +kernel⟩
theorem ok_plain_of {f : Addr} {fd : FuncData} (F : L2.Fun K "plain_of" "plain_of" s_plain_of f fd) (h_need_base : Fk P w K mg base "need_base" ["base"] 2 (spR K rel_need_base)) (h_need_as : Fk P w K mg base "need_as" ["thing", "which", "low"] 3 (spR K rel_need_as)) (h_number_by : Fk P w K mg base "number_by" ["base", "row"] 1 (spR K rel_number_by)) (h_plain_row : Fk P w K mg base "plain_row" ["base", "row"] 1 (spR K rel_plain_row)) (h_row_of : Fk P w K mg base "row_of" ["base", "number"] 1 (spR K rel_row_of)) : FnOk P w K mg base CX0 4 f fd ["base", "number"] (spR K rel_plain_of) :=
  have nd := sc_plain_of.nd
  fn_R F sc_plain_of len_plain_of (fun cdv A outer s H E hr => ⟨t_plain_of K, (pss_cons (ps_expr (pe_f h_need_base hr (by decide) (by rfl) (pa_cons (pv 0) pa_nil)))
      (pss_cons (ps_expr (pe_f h_need_as hr (by decide) (by rfl) (pa_cons (pv 1) (pa_cons pe_str (pa_cons pe_int pa_nil)))))
      (pss_one (ps_ret (pe_f h_number_by hr (by decide) (by rfl) (pa_cons (pv 0) (pa_cons (pe_f h_plain_row hr (by decide) (by rfl) (pa_cons (pv 0) (pa_cons (pe_f h_row_of hr (by decide) (by rfl) (pa_cons (pv 0) (pa_cons (pv 1) pa_nil))) pa_nil))) pa_nil))))))), ss_plain_of⟩)
abbrev s_times_rows : Stmt := topS 26
abbrev n_times_rows : List Str := ["base", "one", "other", "found", "at", "figure", "late", "item"]
theorem sc_times_rows : FnScope ["base", "one", "other", "found", "at", "figure", "late", "item"] ["base", "one", "other"] (defScope s_times_rows) := ⟨rfl, rfl, rfl, by decide +kernel, rfl, by decide +kernel, by decide +kernel⟩
theorem ok_times_rows {f : Addr} {fd : FuncData} (F : L2.Fun K "times_rows" "times_rows" s_times_rows f fd) (h_trimmed : Fk P w K mg base "trimmed" ["row"] 1 (spR K rel_trimmed)) (b_len : mg "len" = none) (b_enumerate : mg "enumerate" = none) : FnOk P w K mg base CX0 2 f fd ["base", "one", "other"] (spR K rel_times_rows) :=
  have nd := sc_times_rows.nd
  fn_R F sc_times_rows len_times_rows (fun cdv A outer s H E hr => ⟨t_times_rows K, (pss_cons (ps_if (pw_or (pt_cmpR (op_eqD hr.units) (pv 1) (pe_tup pa_nil) (nomark _)) (pw_or1 (pt_cmpR (op_eqD hr.units) (pv 2) (pe_tup pa_nil) (nomark _)))).pt (pss_one (ps_ret (pe_tup pa_nil))) pss_nil)
      (pss_cons (ps_set (i := 3) nd rfl (Or.inl rfl) (pe_op op_rep (pe_lst (pa_cons pe_int pa_nil)) (pe_op op_sub (pe_op op_add (pe_callB call_len_seq (by rfl) b_len PySem.boot_len (pa_cons (pv 1) pa_nil)) (pe_callB call_len_seq (by rfl) b_len PySem.boot_len (pa_cons (pv 2) pa_nil))) pe_int)))
      (pss_cons (ps_for PassesOwn.never rfl (pi_enumT (by rfl) b_enumerate (pa_cons (pv 1) pa_nil)) (pg_tup rfl (pgs_cons (pg_name (i := 4) nd rfl (Or.inl rfl)) (pgs_cons (pg_name (i := 5) nd rfl (Or.inl rfl)) pgs_nil))) (pss_one (ps_if (pt_cmpR op_ne (pv 5) pe_int (nomark _)) (pss_one (ps_for PassesOwn.never rfl (pi_enumT (by rfl) b_enumerate (pa_cons (pv 2) pa_nil)) (pg_tup rfl (pgs_cons (pg_name (i := 6) nd rfl (Or.inl rfl)) (pgs_cons (pg_name (i := 7) nd rfl (Or.inl rfl)) pgs_nil))) (pss_one (ps_asg (pe_op op_add (pe_ix ix_list (pv 3) (pe_op op_add (pv 4) (pv 6)) (fun _ _ => rfl)) (pe_op op_mul (pv 5) (pv 7))) (pg_sub (pv 3) (pe_op op_add (pv 4) (pv 6)) set_list))))) pss_nil)))
      (pss_one (ps_ret (pe_f h_trimmed hr (by decide) (by rfl) (pa_cons (pe_lc (own := [("item", 7)]) (by rfl) nd (pi_list (pv 3)) (blkOk_by (own := [("item", 7)]) (N := n_times_rows) (sc := defScope (topS 26)) (by decide +kernel)) (fun _ _ _ _ _ => (pg_name (i := 7) nd rfl (Or.inl rfl))) (fun _ _ _ _ _ => pts_nil) (fun _ _ _ _ _ => (pe_op op_mod (pv 7) (pv 0)))) pa_nil))))))), ss_times_rows⟩)
abbrev s_divided_rows : Stmt := topS 27
abbrev n_divided_rows : List Str := ["base", "one", "other", "left", "found", "scale", "at", "figure", "late", "item"]
theorem sc_divided_rows : FnScope ["base", "one", "other", "left", "found", "scale", "at", "figure", "late", "item"] ["base", "one", "other"] (defScope s_divided_rows) := ⟨rfl, rfl, rfl, by decide +kernel, rfl, by decide +kernel, by decide +kernel⟩
theorem ok_divided_rows {f : Addr} {fd : FuncData} (F : L2.Fun K "divided_rows" "divided_rows" s_divided_rows f fd) (h_trimmed : Fk P w K mg base "trimmed" ["row"] 1 (spR K rel_trimmed)) (b_list : mg "list" = none) (b_max : mg "max" = none) (b_len : mg "len" = none) (b_range : mg "range" = none) (b_enumerate : mg "enumerate" = none) : FnOk P w K mg base CX0 2 f fd ["base", "one", "other"] (spR K rel_divided_rows) :=
  have nd := sc_divided_rows.nd
  fn_R F sc_divided_rows len_divided_rows (fun cdv A outer s H E hr => ⟨t_divided_rows K, (pss_cons (ps_par (i := 3) (j := 4) rfl nd rfl rfl (by decide) rfl rfl (pa_cons (pe_callTy call_list_of (by rfl) b_list (by decide +kernel) (pa_cons (pv 1) pa_nil)) (pa_cons (pe_op op_rep (pe_lst (pa_cons pe_int pa_nil)) (pe_callB (call_max2 rfl) (by rfl) b_max (by decide +kernel) (pa_cons pe_int (pa_cons (pe_op op_add (pe_op op_sub (pe_callB call_len_seq (by rfl) b_len PySem.boot_len (pa_cons (pv 1) pa_nil)) (pe_callB call_len_seq (by rfl) b_len PySem.boot_len (pa_cons (pv 2) pa_nil))) pe_int) pa_nil)))) pa_nil)) (by rfl))
      (pss_cons (ps_set (i := 5) nd rfl (Or.inl rfl) (pe_ix ix_list (pe_lc (own := [("late", 8)]) (by rfl) nd (pi_range2 (by rfl) b_range (pa_cons pe_int (pa_cons (pv 0) pa_nil))) (blkOk_by (own := [("late", 8)]) (N := n_divided_rows) (sc := defScope (topS 27)) (by decide +kernel)) (fun _ _ _ _ _ => (pg_name (i := 8) nd rfl (Or.inl rfl))) (fun _ _ _ _ _ => (pts_one (pt_cmpR op_eq (pe_op op_mod (pe_op op_mul (pv 8) (pe_ix ix_tup (pv 2) (pe_un un_neg pe_int) (fun _ _ => rfl))) (pv 0)) pe_int (nomark _)))) (fun _ _ _ _ _ => (pv 8))) pe_int (fun _ _ => rfl)))
      (pss_cons (ps_for PassesOwn.never rfl (pi_range3 (by rfl) b_range (pa_cons (pe_op op_sub (pe_callB call_len_seq (by rfl) b_len PySem.boot_len (pa_cons (pv 4) pa_nil)) pe_int) (pa_cons (pe_un un_neg pe_int) (pa_cons (pe_un un_neg pe_int) pa_nil)))) (pg_name (i := 6) nd rfl (Or.inl rfl)) (pss_cons (ps_set (i := 7) nd rfl (Or.inl rfl) (pe_op op_mod (pe_op op_mul (pe_ix ix_list (pv 3) (pe_op op_sub (pe_op op_add (pv 6) (pe_callB call_len_seq (by rfl) b_len PySem.boot_len (pa_cons (pv 2) pa_nil))) pe_int) (fun _ _ => rfl)) (pv 5)) (pv 0)))
      (pss_cons (ps_asg (pv 7) (pg_sub (pv 4) (pv 6) set_list))
      (pss_one (ps_if (pt_cmpR op_ne (pv 7) pe_int (nomark _)) (pss_one (ps_for PassesOwn.never rfl (pi_enumT (by rfl) b_enumerate (pa_cons (pv 2) pa_nil)) (pg_tup rfl (pgs_cons (pg_name (i := 8) nd rfl (Or.inl rfl)) (pgs_cons (pg_name (i := 9) nd rfl (Or.inl rfl)) pgs_nil))) (pss_one (ps_asg (pe_op op_mod (pe_op op_sub (pe_ix ix_list (pv 3) (pe_op op_add (pv 6) (pv 8)) (fun _ _ => rfl)) (pe_op op_mul (pv 7) (pv 9))) (pv 0)) (pg_sub (pv 3) (pe_op op_add (pv 6) (pv 8)) set_list))))) pss_nil)))))
      (pss_one (ps_ret (pe_tup (pa_cons (pe_f h_trimmed hr (by decide) (by rfl) (pa_cons (pv 4) pa_nil)) (pa_cons (pe_f h_trimmed hr (by decide) (by rfl) (pa_cons (pv 3) pa_nil)) pa_nil)))))))), ss_divided_rows⟩)
abbrev s_need_two : Stmt := topS 28
abbrev n_need_two : List Str := ["base", "one", "other"]
theorem sc_need_two : FnScope ["base", "one", "other"] ["base", "one", "other"] (defScope s_need_two) := ⟨rfl, rfl, rfl, by decide +kernel, rfl, by decide +kernel, by decide +kernel⟩
theorem ok_need_two {f : Addr} {fd : FuncData} (F : L2.Fun K "need_two" "need_two" s_need_two f fd) (h_need_base : Fk P w K mg base "need_base" ["base"] 2 (spR K rel_need_base)) (h_need_as : Fk P w K mg base "need_as" ["thing", "which", "low"] 3 (spR K rel_need_as)) : FnOk P w K mg base CX0 4 f fd ["base", "one", "other"] (spR K rel_need_two) :=
  have nd := sc_need_two.nd
  fn_R F sc_need_two len_need_two (fun cdv A outer s H E hr => ⟨t_need_two K, (pss_cons (ps_expr (pe_f h_need_base hr (by decide) (by rfl) (pa_cons (pv 0) pa_nil)))
      (pss_cons (ps_expr (pe_f h_need_as hr (by decide) (by rfl) (pa_cons (pv 1) (pa_cons pe_str (pa_cons pe_int pa_nil)))))
      (pss_one (ps_expr (pe_f h_need_as hr (by decide) (by rfl) (pa_cons (pv 2) (pa_cons pe_str (pa_cons pe_int pa_nil)))))))), ss_need_two⟩)
abbrev s_product_of : Stmt := topS 29
abbrev n_product_of : List Str := ["base", "one", "other"]
theorem sc_product_of : FnScope ["base", "one", "other"] ["base", "one", "other"] (defScope s_product_of) := ⟨rfl, rfl, rfl, by decide +kernel, rfl, by decide +kernel, by decide +kernel⟩
theorem ok_product_of {f : Addr} {fd : FuncData} (F : L2.Fun K "product_of" "product_of" s_product_of f fd) (h_need_two : Fk P w K mg base "need_two" ["base", "one", "other"] 4 (spR K rel_need_two)) (h_number_by : Fk P w K mg base "number_by" ["base", "row"] 1 (spR K rel_number_by)) (h_times_rows : Fk P w K mg base "times_rows" ["base", "one", "other"] 2 (spR K rel_times_rows)) (h_row_of : Fk P w K mg base "row_of" ["base", "number"] 1 (spR K rel_row_of)) : FnOk P w K mg base CX0 5 f fd ["base", "one", "other"] (spR K rel_product_of) :=
  have nd := sc_product_of.nd
  fn_R F sc_product_of len_product_of (fun cdv A outer s H E hr => ⟨t_product_of K, (pss_cons (ps_expr (pe_f h_need_two hr (by decide) (by rfl) (pa_cons (pv 0) (pa_cons (pv 1) (pa_cons (pv 2) pa_nil)))))
      (pss_one (ps_ret (pe_f h_number_by hr (by decide) (by rfl) (pa_cons (pv 0) (pa_cons (pe_f h_times_rows hr (by decide) (by rfl) (pa_cons (pv 0) (pa_cons (pe_f h_row_of hr (by decide) (by rfl) (pa_cons (pv 0) (pa_cons (pv 1) pa_nil))) (pa_cons (pe_f h_row_of hr (by decide) (by rfl) (pa_cons (pv 0) (pa_cons (pv 2) pa_nil))) pa_nil)))) pa_nil)))))), ss_product_of⟩)
abbrev s_quotient_of : Stmt := topS 30
abbrev n_quotient_of : List Str := ["base", "one", "other", "quotient", "rest"]
theorem sc_quotient_of : FnScope ["base", "one", "other", "quotient", "rest"] ["base", "one", "other"] (defScope s_quotient_of) := ⟨rfl, rfl, rfl, by decide +kernel, rfl, by decide +kernel, by decide +kernel⟩
theorem ok_quotient_of {f : Addr} {fd : FuncData} (F : L2.Fun K "quotient_of" "quotient_of" s_quotient_of f fd) (h_need_two : Fk P w K mg base "need_two" ["base", "one", "other"] 4 (spR K rel_need_two)) (h_divided_rows : Fk P w K mg base "divided_rows" ["base", "one", "other"] 2 (spR K rel_divided_rows)) (h_row_of : Fk P w K mg base "row_of" ["base", "number"] 1 (spR K rel_row_of)) (h_number_by : Fk P w K mg base "number_by" ["base", "row"] 1 (spR K rel_number_by)) : FnOk P w K mg base CX0 5 f fd ["base", "one", "other"] (spR K rel_quotient_of) :=
  have nd := sc_quotient_of.nd
  fn_R F sc_quotient_of len_quotient_of (fun cdv A outer s H E hr => ⟨t_quotient_of K, (pss_cons (ps_expr (pe_f h_need_two hr (by decide) (by rfl) (pa_cons (pv 0) (pa_cons (pv 1) (pa_cons (pv 2) pa_nil)))))
      (pss_cons (ps_if (pt_cmpR op_eq (pv 2) pe_int (nomark _)) (pss_one ps_never) pss_nil)
      (pss_cons (ps_asg (pe_f h_divided_rows hr (by decide) (by rfl) (pa_cons (pv 0) (pa_cons (pe_f h_row_of hr (by decide) (by rfl) (pa_cons (pv 0) (pa_cons (pv 1) pa_nil))) (pa_cons (pe_f h_row_of hr (by decide) (by rfl) (pa_cons (pv 0) (pa_cons (pv 2) pa_nil))) pa_nil)))) (pg_tup rfl (pgs_cons (pg_name (i := 3) nd rfl (Or.inl rfl)) (pgs_cons (pg_name (i := 4) nd rfl (Or.inl rfl)) pgs_nil))))
      (pss_one (ps_ret (pe_tup (pa_cons (pe_f h_number_by hr (by decide) (by rfl) (pa_cons (pv 0) (pa_cons (pv 3) pa_nil))) (pa_cons (pe_f h_number_by hr (by decide) (by rfl) (pa_cons (pv 0) (pa_cons (pv 4) pa_nil))) pa_nil)))))))), ss_quotient_of⟩)
abbrev s_powered : Stmt := topS 32
abbrev n_powered : List Str := ["number", "times", "found", "lap"]
theorem sc_powered : FnScope ["number", "times", "found", "lap"] ["number", "times"] (defScope s_powered) := ⟨rfl, rfl, rfl, by decide +kernel, rfl, by decide +kernel, by decide +kernel⟩
theorem ok_powered {f : Addr} {fd : FuncData} (F : L2.Fun K "powered" "powered" s_powered f fd) (b_range : mg "range" = none) : FnOk P w K mg base CX0 1 f fd ["number", "times"] (spR K rel_powered) :=
  have nd := sc_powered.nd
  fn_R F sc_powered len_powered (fun cdv A outer s H E hr => ⟨t_powered K, (pss_cons (ps_set (i := 2) nd rfl (Or.inl rfl) pe_int)
      (pss_cons (ps_for PassesOwn.never rfl (pi_range1 (by rfl) b_range (pa_cons (pv 1) pa_nil)) (pg_name (i := 3) nd rfl (Or.inl rfl)) (pss_one (ps_set (i := 2) nd rfl (Or.inl rfl) (pe_op op_mul (pv 2) (pv 0)))))
      (pss_one (ps_ret (pv 2))))), ss_powered⟩)
abbrev s_plain_rows : Stmt := topS 33
abbrev n_plain_rows : List Str := ["base", "size", "first", "number"]
theorem sc_plain_rows : FnScope ["base", "size", "first", "number"] ["base", "size"] (defScope s_plain_rows) := ⟨rfl, rfl, rfl, by decide +kernel, rfl, by decide +kernel, by decide +kernel⟩
theorem ok_plain_rows {f : Addr} {fd : FuncData} (F : L2.Fun K "plain_rows" "plain_rows" s_plain_rows f fd) (h_powered : Fk P w K mg base "powered" ["number", "times"] 1 (spR K rel_powered)) (h_row_of : Fk P w K mg base "row_of" ["base", "number"] 1 (spR K rel_row_of)) (b_range : mg "range" = none) : FnOk P w K mg base CX0 2 f fd ["base", "size"] (spR K rel_plain_rows) :=
  have nd := sc_plain_rows.nd
  fn_R F sc_plain_rows len_plain_rows (fun cdv A outer s H E hr => ⟨t_plain_rows K, (pss_cons (ps_set (i := 2) nd rfl (Or.inl rfl) (pe_f h_powered hr (by decide) (by rfl) (pa_cons (pv 0) (pa_cons (pv 1) pa_nil))))
      (pss_one (ps_ret (pe_lc (own := [("number", 3)]) (by rfl) nd (pi_range2 (by rfl) b_range (pa_cons (pv 2) (pa_cons (pe_op op_mul pe_int (pv 2)) pa_nil))) (blkOk_by (own := [("number", 3)]) (N := n_plain_rows) (sc := defScope (topS 33)) (by decide +kernel)) (fun _ _ _ _ _ => (pg_name (i := 3) nd rfl (Or.inl rfl))) (fun _ _ _ _ _ => pts_nil) (fun _ _ _ _ _ => (pe_f h_row_of hr (by decide) (by rfl) (pa_cons (pv 0) (pa_cons (pv 3) pa_nil)))))))), ss_plain_rows⟩)
abbrev s_is_prime_row : Stmt := topS 34
abbrev n_is_prime_row : List Str := ["base", "row", "size", "late"]
theorem sc_is_prime_row : FnScope ["base", "row", "size", "late"] ["base", "row"] (defScope s_is_prime_row) := ⟨rfl, rfl, rfl, by decide +kernel, rfl, by decide +kernel, by decide +kernel⟩
theorem ok_is_prime_row {f : Addr} {fd : FuncData} (F : L2.Fun K "is_prime_row" "is_prime_row" s_is_prime_row f fd) (h_plain_rows : Fk P w K mg base "plain_rows" ["base", "size"] 2 (spR K rel_plain_rows)) (h_divided_rows : Fk P w K mg base "divided_rows" ["base", "one", "other"] 2 (spR K rel_divided_rows)) (b_len : mg "len" = none) (b_range : mg "range" = none) : FnOk P w K mg base CX0 3 f fd ["base", "row"] (spR K rel_is_prime_row) :=
  have nd := sc_is_prime_row.nd
  fn_R F sc_is_prime_row len_is_prime_row (fun cdv A outer s H E hr => ⟨t_is_prime_row K, (pss_cons (ps_if (pw_or (pt_cmpR op_lt (pe_callB call_len_seq (by rfl) b_len PySem.boot_len (pa_cons (pv 1) pa_nil)) pe_int (nomark _)) (pw_or1 (pt_cmpR op_ne (pe_ix ix_tup (pv 1) (pe_un un_neg pe_int) (fun _ _ => rfl)) pe_int (nomark _)))).pt (pss_one (ps_ret pe_bl)) pss_nil)
      (pss_cons (ps_for PassesOwn.never rfl (pi_range2 (by rfl) b_range (pa_cons pe_int (pa_cons (pe_op op_add (pe_op op_fdiv (pe_op op_sub (pe_callB call_len_seq (by rfl) b_len PySem.boot_len (pa_cons (pv 1) pa_nil)) pe_int) pe_int) pe_int) pa_nil))) (pg_name (i := 2) nd rfl (Or.inl rfl)) (pss_one (ps_for PassesOwn.never rfl (pi_list (pe_f h_plain_rows hr (by decide) (by rfl) (pa_cons (pv 0) (pa_cons (pv 2) pa_nil)))) (pg_name (i := 3) nd rfl (Or.inl rfl)) (pss_one (ps_if (pt_cmpR (op_eqD hr.units) (pe_ix ix_tup (pe_f h_divided_rows hr (by decide) (by rfl) (pa_cons (pv 0) (pa_cons (pv 1) (pa_cons (pv 3) pa_nil)))) pe_int (fun _ _ => rfl)) (pe_tup pa_nil) (nomark _)) (pss_one (ps_ret pe_bl)) pss_nil)))))
      (pss_one (ps_ret pe_bl)))), ss_is_prime_row⟩)
abbrev s_is_prime_number : Stmt := topS 35
abbrev n_is_prime_number : List Str := ["base", "thing"]
theorem sc_is_prime_number : FnScope ["base", "thing"] ["base", "thing"] (defScope s_is_prime_number) := ⟨rfl, rfl, rfl, by decide +kernel, rfl, by decide +kernel, by decide +kernel⟩
theorem ok_is_prime_number {f : Addr} {fd : FuncData} (F : L2.Fun K "is_prime_number" "is_prime_number" s_is_prime_number f fd) (h_is_within : Fk P w K mg base "is_within" ["thing", "low", "high"] 2 (spR K rel_is_within)) (h_is_prime_row : Fk P w K mg base "is_prime_row" ["base", "row"] 3 (spR K rel_is_prime_row)) (h_row_of : Fk P w K mg base "row_of" ["base", "number"] 1 (spR K rel_row_of)) (m_MOST : ∃ t, mg "MOST" = some (.int 1000000 t)) : FnOk P w K mg base CX0 4 f fd ["base", "thing"] (spR K rel_is_prime_number) :=
  have nd := sc_is_prime_number.nd
  fn_R F sc_is_prime_number len_is_prime_number (fun cdv A outer s H E hr => ⟨t_is_prime_number K, (pss_one (ps_ret (pe_and (pe_f h_is_within hr (by decide) (by rfl) (pa_cons (pv 1) (pa_cons (pv 0) (pa_cons (pe_modI m_MOST (by rfl)) pa_nil)))) (pe_one (pe_f h_is_prime_row hr (by decide) (by rfl) (pa_cons (pv 0) (pa_cons (pe_f h_row_of hr (by decide) (by rfl) (pa_cons (pv 0) (pa_cons (pv 1) pa_nil))) pa_nil))))))), ss_is_prime_number⟩)
abbrev s_need_prime : Stmt := topS 36
abbrev n_need_prime : List Str := ["base", "prime"]
theorem sc_need_prime : FnScope ["base", "prime"] ["base", "prime"] (defScope s_need_prime) := ⟨rfl, rfl, rfl, by decide +kernel, rfl, by decide +kernel, by decide +kernel⟩
theorem ok_need_prime {f : Addr} {fd : FuncData} (F : L2.Fun K "need_prime" "need_prime" s_need_prime f fd) (h_is_prime_number : Fk P w K mg base "is_prime_number" ["base", "thing"] 4 (spR K rel_is_prime_number)) : FnOk P w K mg base CX0 5 f fd ["base", "prime"] (spR K rel_need_prime) :=
  have nd := sc_need_prime.nd
  fn_R F sc_need_prime len_need_prime (fun cdv A outer s H E hr => ⟨t_need_prime K, (pss_one (ps_if (pt_not (pt_val (pe_f h_is_prime_number hr (by decide) (by rfl) (pa_cons (pv 0) (pa_cons (pv 1) pa_nil))))) (pss_one ps_never) pss_nil)), ss_need_prime⟩)
abbrev s_factors_by : Stmt := topS 38
abbrev n_factors_by : List Str := ["base", "row", "found", "left", "size", "late", "often", "some", "at", "pair"]
theorem sc_factors_by : FnScope ["base", "row", "found", "left", "size", "late", "often", "some", "at", "pair"] ["base", "row"] (defScope s_factors_by) := ⟨rfl, rfl, rfl, by decide +kernel, rfl, by decide +kernel, by decide +kernel⟩
theorem ok_factors_by {f : Addr} {fd : FuncData} (F : L2.Fun K "factors_by" "factors_by" s_factors_by f fd) (h_plain_row : Fk P w K mg base "plain_row" ["base", "row"] 1 (spR K rel_plain_row)) (h_plain_rows : Fk P w K mg base "plain_rows" ["base", "size"] 2 (spR K rel_plain_rows)) (h_divided_rows : Fk P w K mg base "divided_rows" ["base", "one", "other"] 2 (spR K rel_divided_rows)) (b_len : mg "len" = none) (b_enumerate : mg "enumerate" = none) : FnOk P w K mg base CX0 3 f fd ["base", "row"] (spR K rel_factors_by) :=
  have nd := sc_factors_by.nd
  fn_R F sc_factors_by len_factors_by (fun cdv A outer s H E hr => ⟨t_factors_by K, (pss_cons (ps_asg (pe_tup (pa_cons (pe_lst pa_nil) (pa_cons (pe_f h_plain_row hr (by decide) (by rfl) (pa_cons (pv 0) (pa_cons (pv 1) pa_nil))) (pa_cons pe_int pa_nil)))) (pg_tup rfl (pgs_cons (pg_name (i := 2) nd rfl (Or.inl rfl)) (pgs_cons (pg_name (i := 3) nd rfl (Or.inr rfl)) (pgs_cons (pg_name (i := 4) nd rfl (Or.inl rfl)) pgs_nil)))))
      (pss_cons (ps_while PassesOwn.never (pt_cmpR op_gt (pe_callB call_len_seq (by rfl) b_len PySem.boot_len (pa_cons (pv 3) pa_nil)) (pe_op op_mul pe_int (pv 4)) (nomark _)) (pss_cons (ps_for PassesOwn.never rfl (pi_list (pe_f h_plain_rows hr (by decide) (by rfl) (pa_cons (pv 0) (pa_cons (pv 4) pa_nil)))) (pg_name (i := 5) nd rfl (Or.inl rfl)) (pss_cons (ps_set (i := 6) nd rfl (Or.inl rfl) pe_int)
      (pss_cons (ps_while PassesOwn.never (pw_and (pt_cmpR op_ge (pe_callB call_len_seq (by rfl) b_len PySem.boot_len (pa_cons (pv 3) pa_nil)) (pe_callB call_len_seq (by rfl) b_len PySem.boot_len (pa_cons (pv 5) pa_nil)) (nomark _)) (pw_and1 (pt_cmpR (op_eqD hr.units) (pe_ix ix_tup (pe_f h_divided_rows hr (by decide) (by rfl) (pa_cons (pv 0) (pa_cons (pv 3) (pa_cons (pv 5) pa_nil)))) pe_int (fun _ _ => rfl)) (pe_tup pa_nil) (nomark _)))).pt (pss_one (ps_asg (pe_tup (pa_cons (pe_ix ix_tup (pe_f h_divided_rows hr (by decide) (by rfl) (pa_cons (pv 0) (pa_cons (pv 3) (pa_cons (pv 5) pa_nil)))) pe_int (fun _ _ => rfl)) (pa_cons (pe_op op_add (pv 6) pe_int) pa_nil))) (pg_tup rfl (pgs_cons (pg_name (i := 3) nd rfl (Or.inr rfl)) (pgs_cons (pg_name (i := 6) nd rfl (Or.inl rfl)) pgs_nil))))))
      (pss_one (ps_if (pt_cmpR op_gt (pv 6) pe_int (nomark _)) (pss_one (ps_expr (pe_bm PySem.F.plainAttrs_list PySem.F.slot_list_append PySem.F.type_list_append mt_append (pv 2) (pa_cons (pe_tup (pa_cons (pv 5) (pa_cons (pv 6) pa_nil))) pa_nil)))) pss_nil)))))
      (pss_one (ps_set (i := 4) nd rfl (Or.inl rfl) (pe_op op_add (pv 4) pe_int)))))
      (pss_cons (ps_if (pt_cmpR op_gt (pe_callB call_len_seq (by rfl) b_len PySem.boot_len (pa_cons (pv 3) pa_nil)) pe_int (nomark _)) (pss_cons (ps_setLc (i := 7) (own := [("at", 8), ("pair", 9)]) (by rfl) nd rfl rfl (sw_true rfl rfl rfl (by decide +kernel)) (pi_enum (by rfl) b_enumerate (pa_cons (pv 2) pa_nil)) (blkOk_by (own := [("at", 8), ("pair", 9)]) (N := n_factors_by) (sc := defScope (topS 38)) (by decide +kernel)) (fun _ _ _ _ _ => (pg_tup rfl (pgs_cons (pg_name (i := 8) nd rfl (Or.inl rfl)) (pgs_cons (pg_name (i := 9) nd rfl (Or.inl rfl)) pgs_nil)))) (fun _ _ _ _ _ => (pts_one (pt_cmpR (op_eqD hr.units) (pe_ix ix_tup (pv 9) pe_int (fun _ _ => rfl)) (pv 3) (nomark _)))) (fun _ _ _ _ _ => (pv 8)))
      (pss_one (ps_if (pt_cmpR (op_neD hr.units) (pv 7) (pe_lst pa_nil) (nomark _)) (pss_one (ps_asg (pe_tup (pa_cons (pv 3) (pa_cons (pe_op op_add (pe_ix ix_tup (pe_ix ix_list (pv 2) (pe_ix ix_list (pv 7) pe_int (fun _ _ => rfl)) (fun _ _ => rfl)) pe_int (fun _ _ => rfl)) pe_int) pa_nil))) (pg_sub (pv 2) (pe_ix ix_list (pv 7) pe_int (fun _ _ => rfl)) set_list))) (pss_one (ps_expr (pe_bm PySem.F.plainAttrs_list PySem.F.slot_list_append PySem.F.type_list_append mt_append (pv 2) (pa_cons (pe_tup (pa_cons (pv 3) (pa_cons pe_int pa_nil))) pa_nil))))))) pss_nil)
      (pss_one (ps_ret (pv 2)))))), ss_factors_by⟩)
abbrev s_common_rows : Stmt := topS 39
abbrev n_common_rows : List Str := ["base", "one", "other", "here", "late"]
theorem sc_common_rows : FnScope ["base", "one", "other", "here", "late"] ["base", "one", "other"] (defScope s_common_rows) := ⟨rfl, rfl, rfl, by decide +kernel, rfl, by decide +kernel, by decide +kernel⟩
theorem ok_common_rows {f : Addr} {fd : FuncData} (F : L2.Fun K "common_rows" "common_rows" s_common_rows f fd) (h_divided_rows : Fk P w K mg base "divided_rows" ["base", "one", "other"] 2 (spR K rel_divided_rows)) (h_plain_row : Fk P w K mg base "plain_row" ["base", "row"] 1 (spR K rel_plain_row)) : FnOk P w K mg base CX0 3 f fd ["base", "one", "other"] (spR K rel_common_rows) :=
  have nd := sc_common_rows.nd
  fn_R F sc_common_rows len_common_rows (fun cdv A outer s H E hr => ⟨t_common_rows K, (pss_cons (ps_par (i := 3) (j := 4) rfl nd rfl rfl (by decide) rfl rfl (pa_cons (pv 1) (pa_cons (pv 2) pa_nil)) (by rfl))
      (pss_cons (ps_while PassesOwn.never (pt_cmpR (op_neD hr.units) (pv 4) (pe_tup pa_nil) (nomark _)) (pss_one (ps_par (i := 3) (j := 4) rfl nd rfl rfl (by decide) rfl rfl (pa_cons (pv 4) (pa_cons (pe_ix ix_tup (pe_f h_divided_rows hr (by decide) (by rfl) (pa_cons (pv 0) (pa_cons (pv 3) (pa_cons (pv 4) pa_nil)))) pe_int (fun _ _ => rfl)) pa_nil)) (by rfl))))
      (pss_one (ps_ret (pe_ifExp (pt_cmpR (op_neD hr.units) (pv 3) (pe_tup pa_nil) (nomark _)) (pe_f h_plain_row hr (by decide) (by rfl) (pa_cons (pv 0) (pa_cons (pv 3) pa_nil))) (pe_tup pa_nil)))))), ss_common_rows⟩)
abbrev s_free_by : Stmt := topS 40
abbrev n_free_by : List Str := ["base", "row", "found", "prime", "often", "whole"]
theorem sc_free_by : FnScope ["base", "row", "found", "prime", "often", "whole"] ["base", "row"] (defScope s_free_by) := ⟨rfl, rfl, rfl, by decide +kernel, rfl, by decide +kernel, by decide +kernel⟩
theorem ok_free_by {f : Addr} {fd : FuncData} (F : L2.Fun K "free_by" "free_by" s_free_by f fd) (h_factors_by : Fk P w K mg base "factors_by" ["base", "row"] 3 (spR K rel_factors_by)) (h_powered : Fk P w K mg base "powered" ["number", "times"] 1 (spR K rel_powered)) (b_len : mg "len" = none) : FnOk P w K mg base CX0 4 f fd ["base", "row"] (spR K rel_free_by) :=
  have nd := sc_free_by.nd
  fn_R F sc_free_by len_free_by (fun cdv A outer s H E hr => ⟨t_free_by K, (pss_cons (ps_set (i := 2) nd rfl (Or.inl rfl) pe_int)
      (pss_cons (ps_for PassesOwn.never rfl (pi_list (pe_f h_factors_by hr (by decide) (by rfl) (pa_cons (pv 0) (pa_cons (pv 1) pa_nil)))) (pg_tup rfl (pgs_cons (pg_name (i := 3) nd rfl (Or.inl rfl)) (pgs_cons (pg_name (i := 4) nd rfl (Or.inl rfl)) pgs_nil))) (pss_cons (ps_set (i := 5) nd rfl (Or.inl rfl) (pe_f h_powered hr (by decide) (by rfl) (pa_cons (pv 0) (pa_cons (pe_op op_sub (pe_callB call_len_seq (by rfl) b_len PySem.boot_len (pa_cons (pv 3) pa_nil)) pe_int) pa_nil))))
      (pss_one (ps_set (i := 2) nd rfl (Or.inl rfl) (pe_op op_mul (pe_op op_mul (pv 2) (pe_op op_sub (pv 5) pe_int)) (pe_f h_powered hr (by decide) (by rfl) (pa_cons (pv 5) (pa_cons (pe_op op_sub (pv 4) pe_int) pa_nil))))))))
      (pss_one (ps_ret (pv 2))))), ss_free_by⟩)
abbrev s_factors_of : Stmt := topS 41
abbrev n_factors_of : List Str := ["base", "number", "row", "often"]
theorem sc_factors_of : FnScope ["base", "number", "row", "often"] ["base", "number"] (defScope s_factors_of) := ⟨rfl, rfl, rfl, by decide +kernel, rfl, by decide +kernel, by decide +kernel⟩
theorem ok_factors_of {f : Addr} {fd : FuncData} (F : L2.Fun K "factors_of" "factors_of" s_factors_of f fd) (h_need_base : Fk P w K mg base "need_base" ["base"] 2 (spR K rel_need_base)) (h_need_as : Fk P w K mg base "need_as" ["thing", "which", "low"] 3 (spR K rel_need_as)) (h_factors_by : Fk P w K mg base "factors_by" ["base", "row"] 3 (spR K rel_factors_by)) (h_row_of : Fk P w K mg base "row_of" ["base", "number"] 1 (spR K rel_row_of)) (h_number_by : Fk P w K mg base "number_by" ["base", "row"] 1 (spR K rel_number_by)) : FnOk P w K mg base CX0 4 f fd ["base", "number"] (spR K rel_factors_of) :=
  have nd := sc_factors_of.nd
  fn_R F sc_factors_of len_factors_of (fun cdv A outer s H E hr => ⟨t_factors_of K, (pss_cons (ps_expr (pe_f h_need_base hr (by decide) (by rfl) (pa_cons (pv 0) pa_nil)))
      (pss_cons (ps_expr (pe_f h_need_as hr (by decide) (by rfl) (pa_cons (pv 1) (pa_cons pe_str (pa_cons pe_int pa_nil)))))
      (pss_one (ps_ret (pe_dc (own := [("row", 2), ("often", 3)]) (by rfl) nd (pi_list (pe_f h_factors_by hr (by decide) (by rfl) (pa_cons (pv 0) (pa_cons (pe_f h_row_of hr (by decide) (by rfl) (pa_cons (pv 0) (pa_cons (pv 1) pa_nil))) pa_nil)))) (blkOk_by (own := [("row", 2), ("often", 3)]) (N := n_factors_of) (sc := defScope (topS 41)) (by decide +kernel)) (fun _ _ _ _ _ => (pg_tup rfl (pgs_cons (pg_name (i := 2) nd rfl (Or.inl rfl)) (pgs_cons (pg_name (i := 3) nd rfl (Or.inl rfl)) pgs_nil)))) (fun _ _ _ _ _ => pts_nil) (fun _ _ _ _ _ => (pe_f h_number_by hr (by decide) (by rfl) (pa_cons (pv 0) (pa_cons (pv 2) pa_nil)))) (fun _ _ _ _ _ => (pv 3))))))), ss_factors_of⟩)
abbrev s_free_many : Stmt := topS 42
abbrev n_free_many : List Str := ["base", "number"]
theorem sc_free_many : FnScope ["base", "number"] ["base", "number"] (defScope s_free_many) := ⟨rfl, rfl, rfl, by decide +kernel, rfl, by decide +kernel, by decide +kernel⟩
theorem ok_free_many {f : Addr} {fd : FuncData} (F : L2.Fun K "free_many" "free_many" s_free_many f fd) (h_need_base : Fk P w K mg base "need_base" ["base"] 2 (spR K rel_need_base)) (h_need_as : Fk P w K mg base "need_as" ["thing", "which", "low"] 3 (spR K rel_need_as)) (h_free_by : Fk P w K mg base "free_by" ["base", "row"] 4 (spR K rel_free_by)) (h_row_of : Fk P w K mg base "row_of" ["base", "number"] 1 (spR K rel_row_of)) : FnOk P w K mg base CX0 5 f fd ["base", "number"] (spR K rel_free_many) :=
  have nd := sc_free_many.nd
  fn_R F sc_free_many len_free_many (fun cdv A outer s H E hr => ⟨t_free_many K, (pss_cons (ps_expr (pe_f h_need_base hr (by decide) (by rfl) (pa_cons (pv 0) pa_nil)))
      (pss_cons (ps_expr (pe_f h_need_as hr (by decide) (by rfl) (pa_cons (pv 1) (pa_cons pe_str (pa_cons pe_int pa_nil)))))
      (pss_one (ps_ret (pe_f h_free_by hr (by decide) (by rfl) (pa_cons (pv 0) (pa_cons (pe_f h_row_of hr (by decide) (by rfl) (pa_cons (pv 0) (pa_cons (pv 1) pa_nil))) pa_nil))))))), ss_free_many⟩)
abbrev s_need_modulus : Stmt := topS 44
abbrev n_need_modulus : List Str := ["base", "modulus"]
theorem sc_need_modulus : FnScope ["base", "modulus"] ["base", "modulus"] (defScope s_need_modulus) := ⟨rfl, rfl, rfl, by decide +kernel, rfl, by decide +kernel, by decide +kernel⟩
theorem ok_need_modulus {f : Addr} {fd : FuncData} (F : L2.Fun K "need_modulus" "need_modulus" s_need_modulus f fd) (h_need_as : Fk P w K mg base "need_as" ["thing", "which", "low"] 3 (spR K rel_need_as)) : FnOk P w K mg base CX0 4 f fd ["base", "modulus"] (spR K rel_need_modulus) :=
  have nd := sc_need_modulus.nd
  fn_R F sc_need_modulus len_need_modulus (fun cdv A outer s H E hr => ⟨t_need_modulus K, (pss_cons (ps_expr (pe_f h_need_as hr (by decide) (by rfl) (pa_cons (pv 1) (pa_cons pe_str (pa_cons pe_int pa_nil)))))
      (pss_one (ps_if (pt_cmpR op_lt (pv 1) (pv 0) (nomark _)) (pss_one ps_never) pss_nil))), ss_need_modulus⟩)
abbrev s_need_odd_base : Stmt := topS 46
abbrev n_need_odd_base : List Str := ["base"]
theorem sc_need_odd_base : FnScope ["base"] ["base"] (defScope s_need_odd_base) := ⟨rfl, rfl, rfl, by decide +kernel, rfl, by decide +kernel, by decide +kernel⟩
theorem ok_need_odd_base {f : Addr} {fd : FuncData} (F : L2.Fun K "need_odd_base" "need_odd_base" s_need_odd_base f fd) (h_is_whole : Fk P w K mg base "is_whole" ["thing"] 1 (spR K rel_is_whole)) : FnOk P w K mg base CX0 2 f fd ["base"] (spR K rel_need_odd_base) :=
  have nd := sc_need_odd_base.nd
  fn_R F sc_need_odd_base len_need_odd_base (fun cdv A outer s H E hr => ⟨t_need_odd_base K, (pss_one (ps_if (pw_or (pt_not (pt_val (pe_f h_is_whole hr (by decide) (by rfl) (pa_cons (pv 0) pa_nil)))) (pw_or1 (pt_cmpR op_notIn_seq (pv 0) (pe_tup (pa_cons pe_int (pa_cons pe_int pa_nil))) rfl))).pt (pss_one ps_never) pss_nil)), ss_need_odd_base⟩)
abbrev s_power_rest : Stmt := topS 47
abbrev n_power_rest : List Str := ["base", "row", "often", "modulus", "found", "here", "left"]
theorem sc_power_rest : FnScope ["base", "row", "often", "modulus", "found", "here", "left"] ["base", "row", "often", "modulus"] (defScope s_power_rest) := ⟨rfl, rfl, rfl, by decide +kernel, rfl, by decide +kernel, by decide +kernel⟩
theorem ok_power_rest {f : Addr} {fd : FuncData} (F : L2.Fun K "power_rest" "power_rest" s_power_rest f fd) (h_divided_rows : Fk P w K mg base "divided_rows" ["base", "one", "other"] 2 (spR K rel_divided_rows)) (h_times_rows : Fk P w K mg base "times_rows" ["base", "one", "other"] 2 (spR K rel_times_rows)) : FnOk P w K mg base CX0 3 f fd ["base", "row", "often", "modulus"] (spR K rel_power_rest) :=
  have nd := sc_power_rest.nd
  fn_R F sc_power_rest len_power_rest (fun cdv A outer s H E hr => ⟨t_power_rest K, (pss_cons (ps_par3 (i := 4) (j := 5) (l := 6) rfl nd rfl rfl rfl (by decide) (by decide) (by decide) rfl rfl rfl (pa_cons (pe_tup (pa_cons pe_int pa_nil)) (pa_cons (pe_ix ix_tup (pe_f h_divided_rows hr (by decide) (by rfl) (pa_cons (pv 0) (pa_cons (pv 1) (pa_cons (pv 3) pa_nil)))) pe_int (fun _ _ => rfl)) (pa_cons (pv 2) pa_nil))) (by rfl))
      (pss_cons (ps_while PassesOwn.never (pt_cmpR op_gt (pv 6) pe_int (nomark _)) (pss_cons (ps_if (pt_cmpR op_eq (pe_op op_mod (pv 6) pe_int) pe_int (nomark _)) (pss_one (ps_set (i := 4) nd rfl (Or.inl rfl) (pe_ix ix_tup (pe_f h_divided_rows hr (by decide) (by rfl) (pa_cons (pv 0) (pa_cons (pe_f h_times_rows hr (by decide) (by rfl) (pa_cons (pv 0) (pa_cons (pv 4) (pa_cons (pv 5) pa_nil)))) (pa_cons (pv 3) pa_nil)))) pe_int (fun _ _ => rfl)))) pss_nil)
      (pss_one (ps_par (i := 5) (j := 6) rfl nd rfl rfl (by decide) rfl rfl (pa_cons (pe_ix ix_tup (pe_f h_divided_rows hr (by decide) (by rfl) (pa_cons (pv 0) (pa_cons (pe_f h_times_rows hr (by decide) (by rfl) (pa_cons (pv 0) (pa_cons (pv 5) (pa_cons (pv 5) pa_nil)))) (pa_cons (pv 3) pa_nil)))) pe_int (fun _ _ => rfl)) (pa_cons (pe_op op_fdiv (pv 6) pe_int) pa_nil)) (by rfl)))))
      (pss_one (ps_ret (pv 4))))), ss_power_rest⟩)
abbrev s_symbol_by : Stmt := topS 48
abbrev n_symbol_by : List Str := ["base", "above", "below", "found", "prime", "often", "rest"]
theorem sc_symbol_by : FnScope ["base", "above", "below", "found", "prime", "often", "rest"] ["base", "above", "below"] (defScope s_symbol_by) := ⟨rfl, rfl, rfl, by decide +kernel, rfl, by decide +kernel, by decide +kernel⟩
theorem ok_symbol_by {f : Addr} {fd : FuncData} (F : L2.Fun K "symbol_by" "symbol_by" s_symbol_by f fd) (h_factors_by : Fk P w K mg base "factors_by" ["base", "row"] 3 (spR K rel_factors_by)) (h_power_rest : Fk P w K mg base "power_rest" ["base", "row", "often", "modulus"] 3 (spR K rel_power_rest)) (h_powered : Fk P w K mg base "powered" ["number", "times"] 1 (spR K rel_powered)) (b_len : mg "len" = none) : FnOk P w K mg base CX0 4 f fd ["base", "above", "below"] (spR K rel_symbol_by) :=
  have nd := sc_symbol_by.nd
  fn_R F sc_symbol_by len_symbol_by (fun cdv A outer s H E hr => ⟨t_symbol_by K, (pss_cons (ps_set (i := 3) nd rfl (Or.inl rfl) pe_int)
      (pss_cons (ps_for PassesOwn.never rfl (pi_list (pe_f h_factors_by hr (by decide) (by rfl) (pa_cons (pv 0) (pa_cons (pv 2) pa_nil)))) (pg_tup rfl (pgs_cons (pg_name (i := 4) nd rfl (Or.inl rfl)) (pgs_cons (pg_name (i := 5) nd rfl (Or.inl rfl)) pgs_nil))) (pss_cons (ps_set (i := 6) nd rfl (Or.inl rfl) (pe_f h_power_rest hr (by decide) (by rfl) (pa_cons (pv 0) (pa_cons (pv 1) (pa_cons (pe_op op_fdiv (pe_op op_sub (pe_f h_powered hr (by decide) (by rfl) (pa_cons (pv 0) (pa_cons (pe_op op_sub (pe_callB call_len_seq (by rfl) b_len PySem.boot_len (pa_cons (pv 4) pa_nil)) pe_int) pa_nil))) pe_int) pe_int) (pa_cons (pv 4) pa_nil))))))
      (pss_cons (ps_if (pt_cmpR (op_eqD hr.units) (pv 6) (pe_tup pa_nil) (nomark _)) (pss_one (ps_ret pe_int)) pss_nil)
      (pss_one (ps_if (pw_and (pt_cmpR (op_neD hr.units) (pv 6) (pe_tup (pa_cons pe_int pa_nil)) (nomark _)) (pw_and1 (pt_cmpR op_eq (pe_op op_mod (pv 5) pe_int) pe_int (nomark _)))).pt (pss_one (ps_set (i := 3) nd rfl (Or.inl rfl) (pe_un un_neg (pv 3)))) pss_nil)))))
      (pss_one (ps_ret (pv 3))))), ss_symbol_by⟩)
abbrev s_need_sides : Stmt := topS 49
abbrev n_need_sides : List Str := ["base", "above", "below"]
theorem sc_need_sides : FnScope ["base", "above", "below"] ["base", "above", "below"] (defScope s_need_sides) := ⟨rfl, rfl, rfl, by decide +kernel, rfl, by decide +kernel, by decide +kernel⟩
theorem ok_need_sides {f : Addr} {fd : FuncData} (F : L2.Fun K "need_sides" "need_sides" s_need_sides f fd) (h_need_odd_base : Fk P w K mg base "need_odd_base" ["base"] 2 (spR K rel_need_odd_base)) (h_is_within : Fk P w K mg base "is_within" ["thing", "low", "high"] 2 (spR K rel_is_within)) (h_row_of : Fk P w K mg base "row_of" ["base", "number"] 1 (spR K rel_row_of)) (m_MOST : ∃ t, mg "MOST" = some (.int 1000000 t)) : FnOk P w K mg base CX0 3 f fd ["base", "above", "below"] (spR K rel_need_sides) :=
  have nd := sc_need_sides.nd
  fn_R F sc_need_sides len_need_sides (fun cdv A outer s H E hr => ⟨t_need_sides K, (pss_cons (ps_expr (pe_f h_need_odd_base hr (by decide) (by rfl) (pa_cons (pv 0) pa_nil)))
      (pss_cons (ps_if (pt_not (pt_val (pe_f h_is_within hr (by decide) (by rfl) (pa_cons (pv 1) (pa_cons pe_int (pa_cons (pe_modI m_MOST (by rfl)) pa_nil)))))) (pss_one ps_never) pss_nil)
      (pss_one (ps_if (pw_or (pt_not (pt_val (pe_f h_is_within hr (by decide) (by rfl) (pa_cons (pv 2) (pa_cons pe_int (pa_cons (pe_modI m_MOST (by rfl)) pa_nil)))))) (pw_or1 (pt_cmpR op_ne (pe_ix ix_tup (pe_f h_row_of hr (by decide) (by rfl) (pa_cons (pv 0) (pa_cons (pv 2) pa_nil))) (pe_un un_neg pe_int) (fun _ _ => rfl)) pe_int (nomark _)))).pt (pss_one ps_never) pss_nil)))), ss_need_sides⟩)
abbrev s_square_symbol : Stmt := topS 50
abbrev n_square_symbol : List Str := ["base", "above", "below"]
theorem sc_square_symbol : FnScope ["base", "above", "below"] ["base", "above", "below"] (defScope s_square_symbol) := ⟨rfl, rfl, rfl, by decide +kernel, rfl, by decide +kernel, by decide +kernel⟩
theorem ok_square_symbol {f : Addr} {fd : FuncData} (F : L2.Fun K "square_symbol" "square_symbol" s_square_symbol f fd) (h_need_sides : Fk P w K mg base "need_sides" ["base", "above", "below"] 3 (spR K rel_need_sides)) (h_symbol_by : Fk P w K mg base "symbol_by" ["base", "above", "below"] 4 (spR K rel_symbol_by)) (h_row_of : Fk P w K mg base "row_of" ["base", "number"] 1 (spR K rel_row_of)) : FnOk P w K mg base CX0 5 f fd ["base", "above", "below"] (spR K rel_square_symbol) :=
  have nd := sc_square_symbol.nd
  fn_R F sc_square_symbol len_square_symbol (fun cdv A outer s H E hr => ⟨t_square_symbol K, (pss_cons (ps_expr (pe_f h_need_sides hr (by decide) (by rfl) (pa_cons (pv 0) (pa_cons (pv 1) (pa_cons (pv 2) pa_nil)))))
      (pss_one (ps_ret (pe_f h_symbol_by hr (by decide) (by rfl) (pa_cons (pv 0) (pa_cons (pe_f h_row_of hr (by decide) (by rfl) (pa_cons (pv 0) (pa_cons (pv 1) pa_nil))) (pa_cons (pe_f h_row_of hr (by decide) (by rfl) (pa_cons (pv 0) (pa_cons (pv 2) pa_nil))) pa_nil))))))), ss_square_symbol⟩)
abbrev s_rests_of : Stmt := topS 53
abbrev n_rests_of : List Str := ["base", "modulus", "many"]
theorem sc_rests_of : FnScope ["base", "modulus", "many"] ["base", "modulus"] (defScope s_rests_of) := ⟨rfl, rfl, rfl, by decide +kernel, rfl, by decide +kernel, by decide +kernel⟩
theorem ok_rests_of {f : Addr} {fd : FuncData} (F : L2.Fun K "rests_of" "rests_of" s_rests_of f fd) (h_powered : Fk P w K mg base "powered" ["number", "times"] 1 (spR K rel_powered)) (b_len : mg "len" = none) (m_MOST_TRIED : ∃ t, mg "MOST_TRIED" = some (.int 2000 t)) : FnOk P w K mg base CX0 2 f fd ["base", "modulus"] (spR K rel_rests_of) :=
  have nd := sc_rests_of.nd
  fn_R F sc_rests_of len_rests_of (fun cdv A outer s H E hr => ⟨t_rests_of K, (pss_cons (ps_set (i := 2) nd rfl (Or.inl rfl) (pe_f h_powered hr (by decide) (by rfl) (pa_cons (pv 0) (pa_cons (pe_op op_sub (pe_callB call_len_seq (by rfl) b_len PySem.boot_len (pa_cons (pv 1) pa_nil)) pe_int) pa_nil))))
      (pss_cons (ps_if (pt_cmpR op_gt (pv 2) (pe_modI m_MOST_TRIED (by rfl)) (nomark _)) (pss_one ps_never) pss_nil)
      (pss_one (ps_ret (pv 2))))), ss_rests_of⟩)
abbrev s_square_rest : Stmt := topS 54
abbrev n_square_rest : List Str := ["base", "number", "modulus", "row"]
theorem sc_square_rest : FnScope ["base", "number", "modulus", "row"] ["base", "number", "modulus"] (defScope s_square_rest) := ⟨rfl, rfl, rfl, by decide +kernel, rfl, by decide +kernel, by decide +kernel⟩
theorem ok_square_rest {f : Addr} {fd : FuncData} (F : L2.Fun K "square_rest" "square_rest" s_square_rest f fd) (h_row_of : Fk P w K mg base "row_of" ["base", "number"] 1 (spR K rel_row_of)) (h_divided_rows : Fk P w K mg base "divided_rows" ["base", "one", "other"] 2 (spR K rel_divided_rows)) (h_times_rows : Fk P w K mg base "times_rows" ["base", "one", "other"] 2 (spR K rel_times_rows)) : FnOk P w K mg base CX0 3 f fd ["base", "number", "modulus"] (spR K rel_square_rest) :=
  have nd := sc_square_rest.nd
  fn_R F sc_square_rest len_square_rest (fun cdv A outer s H E hr => ⟨t_square_rest K, (pss_cons (ps_set (i := 3) nd rfl (Or.inl rfl) (pe_f h_row_of hr (by decide) (by rfl) (pa_cons (pv 0) (pa_cons (pv 1) pa_nil))))
      (pss_one (ps_ret (pe_ix ix_tup (pe_f h_divided_rows hr (by decide) (by rfl) (pa_cons (pv 0) (pa_cons (pe_f h_times_rows hr (by decide) (by rfl) (pa_cons (pv 0) (pa_cons (pv 3) (pa_cons (pv 3) pa_nil)))) (pa_cons (pv 2) pa_nil)))) pe_int (fun _ _ => rfl))))), ss_square_rest⟩)
abbrev s_root_of : Stmt := topS 55
abbrev n_root_of : List Str := ["base", "number", "prime", "modulus", "goal", "root"]
theorem sc_root_of : FnScope ["base", "number", "prime", "modulus", "goal", "root"] ["base", "number", "prime"] (defScope s_root_of) := ⟨rfl, rfl, rfl, by decide +kernel, rfl, by decide +kernel, by decide +kernel⟩
theorem ok_root_of {f : Addr} {fd : FuncData} (F : L2.Fun K "root_of" "root_of" s_root_of f fd) (h_need_odd_base : Fk P w K mg base "need_odd_base" ["base"] 2 (spR K rel_need_odd_base)) (h_need_as : Fk P w K mg base "need_as" ["thing", "which", "low"] 3 (spR K rel_need_as)) (h_need_prime : Fk P w K mg base "need_prime" ["base", "prime"] 5 (spR K rel_need_prime)) (h_row_of : Fk P w K mg base "row_of" ["base", "number"] 1 (spR K rel_row_of)) (h_divided_rows : Fk P w K mg base "divided_rows" ["base", "one", "other"] 2 (spR K rel_divided_rows)) (h_rests_of : Fk P w K mg base "rests_of" ["base", "modulus"] 2 (spR K rel_rests_of)) (h_square_rest : Fk P w K mg base "square_rest" ["base", "number", "modulus"] 3 (spR K rel_square_rest)) (b_range : mg "range" = none) : FnOk P w K mg base CX0 6 f fd ["base", "number", "prime"] (spR K rel_root_of) :=
  have nd := sc_root_of.nd
  fn_R F sc_root_of len_root_of (fun cdv A outer s H E hr => ⟨t_root_of K, (pss_cons (ps_expr (pe_f h_need_odd_base hr (by decide) (by rfl) (pa_cons (pv 0) pa_nil)))
      (pss_cons (ps_expr (pe_f h_need_as hr (by decide) (by rfl) (pa_cons (pv 1) (pa_cons pe_str (pa_cons pe_int pa_nil)))))
      (pss_cons (ps_expr (pe_f h_need_prime hr (by decide) (by rfl) (pa_cons (pv 0) (pa_cons (pv 2) pa_nil))))
      (pss_cons (ps_set (i := 3) nd rfl (Or.inl rfl) (pe_f h_row_of hr (by decide) (by rfl) (pa_cons (pv 0) (pa_cons (pv 2) pa_nil))))
      (pss_cons (ps_set (i := 4) nd rfl (Or.inl rfl) (pe_ix ix_tup (pe_f h_divided_rows hr (by decide) (by rfl) (pa_cons (pv 0) (pa_cons (pe_f h_row_of hr (by decide) (by rfl) (pa_cons (pv 0) (pa_cons (pv 1) pa_nil))) (pa_cons (pv 3) pa_nil)))) pe_int (fun _ _ => rfl)))
      (pss_cons (ps_for PassesOwn.never rfl (pi_range1 (by rfl) b_range (pa_cons (pe_f h_rests_of hr (by decide) (by rfl) (pa_cons (pv 0) (pa_cons (pv 3) pa_nil))) pa_nil)) (pg_name (i := 5) nd rfl (Or.inl rfl)) (pss_one (ps_if (pt_cmpR (op_eqD hr.units) (pe_f h_square_rest hr (by decide) (by rfl) (pa_cons (pv 0) (pa_cons (pv 5) (pa_cons (pv 3) pa_nil)))) (pv 4) (nomark _)) (pss_one (ps_ret (pv 5))) pss_nil)))
      (pss_one (ps_ret pe_non)))))))), ss_root_of⟩)
abbrev s_squares_many : Stmt := topS 56
abbrev n_squares_many : List Str := ["base", "modulus", "row", "found", "root"]
theorem sc_squares_many : FnScope ["base", "modulus", "row", "found", "root"] ["base", "modulus"] (defScope s_squares_many) := ⟨rfl, rfl, rfl, by decide +kernel, rfl, by decide +kernel, by decide +kernel⟩
theorem ok_squares_many {f : Addr} {fd : FuncData} (F : L2.Fun K "squares_many" "squares_many" s_squares_many f fd) (h_need_odd_base : Fk P w K mg base "need_odd_base" ["base"] 2 (spR K rel_need_odd_base)) (h_need_modulus : Fk P w K mg base "need_modulus" ["base", "modulus"] 4 (spR K rel_need_modulus)) (h_row_of : Fk P w K mg base "row_of" ["base", "number"] 1 (spR K rel_row_of)) (h_rests_of : Fk P w K mg base "rests_of" ["base", "modulus"] 2 (spR K rel_rests_of)) (h_common_rows : Fk P w K mg base "common_rows" ["base", "one", "other"] 3 (spR K rel_common_rows)) (h_square_rest : Fk P w K mg base "square_rest" ["base", "number", "modulus"] 3 (spR K rel_square_rest)) (b_range : mg "range" = none) (b_len : mg "len" = none) : FnOk P w K mg base CX0 5 f fd ["base", "modulus"] (spR K rel_squares_many) :=
  have nd := sc_squares_many.nd
  fn_R F sc_squares_many len_squares_many (fun cdv A outer s H E hr => ⟨t_squares_many K, (pss_cons (ps_expr (pe_f h_need_odd_base hr (by decide) (by rfl) (pa_cons (pv 0) pa_nil)))
      (pss_cons (ps_expr (pe_f h_need_modulus hr (by decide) (by rfl) (pa_cons (pv 0) (pa_cons (pv 1) pa_nil))))
      (pss_cons (ps_par (i := 2) (j := 3) rfl nd rfl rfl (by decide) rfl rfl (pa_cons (pe_f h_row_of hr (by decide) (by rfl) (pa_cons (pv 0) (pa_cons (pv 1) pa_nil))) (pa_cons pe_dnewT pa_nil)) (by rfl))
      (pss_cons (ps_for PassesOwn.never rfl (pi_range1 (by rfl) b_range (pa_cons (pe_f h_rests_of hr (by decide) (by rfl) (pa_cons (pv 0) (pa_cons (pv 2) pa_nil))) pa_nil)) (pg_name (i := 4) nd rfl (Or.inl rfl)) (pss_one (ps_if (pt_cmpR op_eq (pe_callB call_len_seq (by rfl) b_len PySem.boot_len (pa_cons (pe_f h_common_rows hr (by decide) (by rfl) (pa_cons (pv 0) (pa_cons (pe_f h_row_of hr (by decide) (by rfl) (pa_cons (pv 0) (pa_cons (pv 4) pa_nil))) (pa_cons (pv 2) pa_nil)))) pa_nil)) pe_int (nomark _)) (pss_one (ps_dput (hu_of hr) (pv 3) (pe_f h_square_rest hr (by decide) (by rfl) (pa_cons (pv 0) (pa_cons (pv 4) (pa_cons (pv 2) pa_nil)))) pe_bl rfl)) pss_nil)))
      (pss_one (ps_ret (pe_callB call_len_dT (by rfl) b_len PySem.boot_len (pa_cons (pv 3) pa_nil)))))))), ss_squares_many⟩)
abbrev s_law_begun : Stmt := topS 58
abbrev n_law_begun : List Str := ["script", "whole", "cells", "cell"]
theorem sc_law_begun : FnScope ["script", "whole", "cells", "cell"] ["script"] (defScope s_law_begun) := ⟨rfl, rfl, rfl, by decide +kernel, rfl, by decide +kernel, by decide +kernel⟩
theorem ok_law_begun {f : Addr} {fd : FuncData} (F : L2.Fun K "_law_begun" "_law_begun" s_law_begun f fd) (b_isinstance : mg "isinstance" = none) (b_int : mg "int" = none) : FnOk P w K mg base CX0 1 f fd ["script"] (spBegun K) :=
  by
  have nd := sc_law_begun.nd
  exact okx_law_begun F sc_law_begun rfl (fun cdv A outer s H E hr => ((pss_cons (ps_par (i := 1) (j := 2) rfl nd rfl rfl (by decide) rfl rfl (pa_cons pe_int (pa_cons (pe_lst pa_nil) pa_nil)) (by rfl))
      (pss_cons (ps_for PassesOwn.never rfl (pi_list (pv 0)) (pg_name (i := 3) nd rfl (Or.inl rfl)) (pss_one (ps_if (pt_val (pe_callB call_isi (by rfl) b_isinstance (by decide +kernel) (pa_cons (pv 3) (pa_cons (pe_bltn (v := .ty "int") (by rfl) b_int (by decide +kernel) rfl) pa_nil)))) (pss_cons (ps_if (pt_cmpR op_ge (pv 3) (pe_op op_pow pe_int pe_int) (nomark _)) (pss_one (ps_set (i := 1) nd rfl (Or.inl rfl) (pe_op op_add (pe_op op_mulB (pv 1) (pe_op op_add (pe_op op_sub (pv 3) (pe_op op_pow pe_int pe_int)) pe_int)) (pe_op op_sub (pv 3) (pe_op op_pow pe_int pe_int))))) pss_nil)
      (pss_one (ps_expr (pe_bm PySem.F.plainAttrs_list PySem.F.slot_list_append PySem.F.type_list_append mt_append (pv 2) (pa_cons (pv 3) pa_nil))))) pss_nil)))
      (pss_one (ps_ret (pe_disp (pps_cons pe_str (pv 1) (pps_cons pe_str (pv 2) (pps_cons pe_str pe_int pps_nil))) (by rfl) (by rfl) (fun z => by cases z) (by decide))))))))
abbrev s_law_mixed : Stmt := topS 59
abbrev n_law_mixed : List Str := ["draw", "found", "cell"]
theorem sc_law_mixed : FnScope ["draw", "found", "cell"] ["draw"] (defScope s_law_mixed) := ⟨rfl, rfl, rfl, by decide +kernel, rfl, by decide +kernel, by decide +kernel⟩
theorem ok_law_mixed {f : Addr} {fd : FuncData} (F : L2.Fun K "_law_mixed" "_law_mixed" s_law_mixed f fd) (b_int : mg "int" = none) : FnOk P w K mg base CX0 1 f fd ["draw"] (spD K rel_law_mixed) :=
  have nd := sc_law_mixed.nd
  fn_D F sc_law_mixed len_law_mixed (fun cdv A outer s H E hr => ⟨t_law_mixed K, (pss_cons (ps_dput (hu_of hr) (pv 0) pe_str (pe_op op_add (pe_dget (hu_of hr) (pv 0) pe_str (fun _ _ => rfl)) pe_int) rfl)
      (pss_cons (ps_set (i := 1) nd rfl (Or.inl rfl) (pe_op op_add pe_int (pe_op op_mul pe_int (pe_dget (hu_of hr) (pv 0) pe_str (fun _ _ => rfl)))))
      (pss_cons (ps_for PassesOwn.never rfl (pi_list (pe_op op_cat (pe_dget (hu_of hr) (pv 0) pe_str (fun _ _ => rfl)) (pe_lst (pa_cons (pe_dget (hu_of hr) (pv 0) pe_str (fun _ _ => rfl)) pa_nil)))) (pg_name (i := 2) nd rfl (Or.inl rfl)) (pss_cons (ps_set (i := 1) nd rfl (Or.inl rfl) (pe_op op_mod (pe_callTy call_int1 (by rfl) b_int (by decide +kernel) (pa_cons (pe_op op_mul (pe_op op_add (pv 1) (pv 2)) pe_int) pa_nil)) (pe_op op_sub (pe_op op_pow pe_int pe_int) pe_int)))
      (pss_one (ps_set (i := 1) nd rfl (Or.inl rfl) (pe_op op_add (pv 1) (pe_op op_fdiv (pv 1) (pe_op op_pow pe_int pe_int)))))))
      (pss_one (ps_ret (pv 1)))))), fun a => ss_law_mixed⟩)
abbrev s_law_take : Stmt := topS 60
abbrev n_law_take : List Str := ["draw", "amount", "found"]
theorem sc_law_take : FnScope ["draw", "amount", "found"] ["draw", "amount"] (defScope s_law_take) := ⟨rfl, rfl, rfl, by decide +kernel, rfl, by decide +kernel, by decide +kernel⟩
theorem ok_law_take {f : Addr} {fd : FuncData} (F : L2.Fun K "_law_take" "_law_take" s_law_take f fd) (h_law_mixed : Fk P w K mg base "_law_mixed" ["draw"] 1 (spD K rel_law_mixed)) (b_int : mg "int" = none) : FnOk P w K mg base CX0 2 f fd ["draw", "amount"] (spD K rel_law_take) :=
  have nd := sc_law_take.nd
  fn_D F sc_law_take len_law_take (fun cdv A outer s H E hr => ⟨t_law_take K, (pss_cons (ps_if (pt_cmpR op_lt (pv 1) pe_int (nomark _)) (pss_one (ps_ret pe_int)) pss_nil)
      (pss_cons (ps_if (pt_cmpR op_gt (pe_dget (hu_of hr) (pv 0) pe_str (fun _ _ => rfl)) pe_int (nomark _)) (pss_cons (ps_set (i := 2) nd rfl (Or.inl rfl) (pe_op op_mod (pe_callTy call_int1 (by rfl) b_int (by decide +kernel) (pa_cons (pe_dget (hu_of hr) (pv 0) pe_str (fun _ _ => rfl)) pa_nil)) (pv 1)))
      (pss_cons (ps_dput (hu_of hr) (pv 0) pe_str (pe_op op_fdiv (pe_dget (hu_of hr) (pv 0) pe_str (fun _ _ => rfl)) (pv 1)) rfl)
      (pss_one (ps_ret (pv 2))))) pss_nil)
      (pss_cons (ps_set (i := 2) nd rfl (Or.inl rfl) (pe_f h_law_mixed hr (by decide) (by rfl) (pa_cons (pv 0) pa_nil)))
      (pss_cons (ps_while PassesOwn.never (pw_and (pt_cmpR op_gt (pv 1) (pe_op op_pow pe_int pe_int) (nomark _)) (pw_and1 (pt_cmpR op_lt (pv 2) (pe_op op_mul (pv 1) (pv 1)) (nomark _)))).pt (pss_one (ps_set (i := 2) nd rfl (Or.inl rfl) (pe_op op_add (pe_op op_mul (pv 2) (pe_op op_pow pe_int pe_int)) (pe_f h_law_mixed hr (by decide) (by rfl) (pa_cons (pv 0) pa_nil))))))
      (pss_one (ps_ret (pe_op op_mod (pe_callTy call_int1 (by rfl) b_int (by decide +kernel) (pa_cons (pe_op op_fdiv (pv 2) pe_int) pa_nil)) (pv 1)))))))), fun a => ss_law_take⟩)
abbrev s_law_pick : Stmt := topS 61
abbrev n_law_pick : List Str := ["draw", "items"]
theorem sc_law_pick : FnScope ["draw", "items"] ["draw", "items"] (defScope s_law_pick) := ⟨rfl, rfl, rfl, by decide +kernel, rfl, by decide +kernel, by decide +kernel⟩
theorem ok_law_pick {f : Addr} {fd : FuncData} (F : L2.Fun K "_law_pick" "_law_pick" s_law_pick f fd) (h_law_take : Fk P w K mg base "_law_take" ["draw", "amount"] 2 (spD K rel_law_take)) (b_len : mg "len" = none) : FnOk P w K mg base CX0 3 f fd ["draw", "items"] (spD K rel_law_pick) :=
  have nd := sc_law_pick.nd
  fn_D F sc_law_pick len_law_pick (fun cdv A outer s H E hr => ⟨t_law_pick K, (pss_one (ps_ret (pe_ix ix_list (pv 1) (pe_f h_law_take hr (by decide) (by rfl) (pa_cons (pv 0) (pa_cons (pe_callB call_len_seq (by rfl) b_len PySem.boot_len (pa_cons (pv 1) pa_nil)) pa_nil))) (fun _ _ => rfl)))), fun a => ss_law_pick⟩)
abbrev s_law_row : Stmt := topS 62
abbrev n_law_row : List Str := ["base", "number", "found", "left", "lap"]
theorem sc_law_row : FnScope ["base", "number", "found", "left", "lap"] ["base", "number"] (defScope s_law_row) := ⟨rfl, rfl, rfl, by decide +kernel, rfl, by decide +kernel, by decide +kernel⟩
theorem ok_law_row {f : Addr} {fd : FuncData} (F : L2.Fun K "_law_row" "_law_row" s_law_row f fd) (b_range : mg "range" = none) (b_int : mg "int" = none) (b_tuple : mg "tuple" = none) : FnOk P w K mg base CX0 1 f fd ["base", "number"] (spR K rel_law_row) :=
  have nd := sc_law_row.nd
  fn_R F sc_law_row len_law_row (fun cdv A outer s H E hr => ⟨t_law_row K, (pss_cons (ps_par (i := 2) (j := 3) rfl nd rfl rfl (by decide) rfl rfl (pa_cons (pe_lst pa_nil) (pa_cons (pv 1) pa_nil)) (by rfl))
      (pss_cons (ps_for PassesOwn.never rfl (pi_range1 (by rfl) b_range (pa_cons pe_int pa_nil)) (pg_name (i := 4) nd rfl (Or.inl rfl)) (pss_cons (ps_if (pt_cmpR op_eq (pv 3) pe_int (nomark _)) (pss_one ps_break) pss_nil)
      (pss_one (ps_par (i := 2) (j := 3) rfl nd rfl rfl (by decide) rfl rfl (pa_cons (pe_op op_cat (pv 2) (pe_lst (pa_cons (pe_op op_mod (pe_callTy call_int1 (by rfl) b_int (by decide +kernel) (pa_cons (pv 3) pa_nil)) (pv 0)) pa_nil))) (pa_cons (pe_op op_fdiv (pv 3) (pv 0)) pa_nil)) (by rfl)))))
      (pss_one (ps_ret (pe_callTy call_tuple_of (by rfl) b_tuple (by decide +kernel) (pa_cons (pv 2) pa_nil)))))), ss_law_row⟩)
abbrev s_law_worth : Stmt := topS 63
abbrev n_law_worth : List Str := ["base", "row", "found", "figure"]
theorem sc_law_worth : FnScope ["base", "row", "found", "figure"] ["base", "row"] (defScope s_law_worth) := ⟨rfl, rfl, rfl, by decide +kernel, rfl, by decide +kernel, by decide +kernel⟩
theorem ok_law_worth {f : Addr} {fd : FuncData} (F : L2.Fun K "_law_worth" "_law_worth" s_law_worth f fd) : FnOk P w K mg base CX0 1 f fd ["base", "row"] (spR K rel_law_worth) :=
  have nd := sc_law_worth.nd
  fn_R F sc_law_worth len_law_worth (fun cdv A outer s H E hr => ⟨t_law_worth K, (pss_cons (ps_set (i := 2) nd rfl (Or.inl rfl) pe_int)
      (pss_cons (ps_for PassesOwn.never rfl (pi_tup (pe_revT (pv 1))) (pg_name (i := 3) nd rfl (Or.inl rfl)) (pss_one (ps_set (i := 2) nd rfl (Or.inl rfl) (pe_op op_add (pe_op op_mul (pv 2) (pv 0)) (pv 3)))))
      (pss_one (ps_ret (pv 2))))), ss_law_worth⟩)
abbrev s_law_cut : Stmt := topS 64
abbrev n_law_cut : List Str := ["row", "many", "lap"]
theorem sc_law_cut : FnScope ["row", "many", "lap"] ["row"] (defScope s_law_cut) := ⟨rfl, rfl, rfl, by decide +kernel, rfl, by decide +kernel, by decide +kernel⟩
theorem ok_law_cut {f : Addr} {fd : FuncData} (F : L2.Fun K "_law_cut" "_law_cut" s_law_cut f fd) (b_len : mg "len" = none) (b_range : mg "range" = none) (b_tuple : mg "tuple" = none) : FnOk P w K mg base CX0 1 f fd ["row"] (spR K rel_law_cut) :=
  have nd := sc_law_cut.nd
  fn_R F sc_law_cut len_law_cut (fun cdv A outer s H E hr => ⟨t_law_cut K, (pss_cons (ps_set (i := 1) nd rfl (Or.inl rfl) (pe_callB call_len_seq (by rfl) b_len PySem.boot_len (pa_cons (pv 0) pa_nil)))
      (pss_cons (ps_for PassesOwn.never rfl (pi_range1 (by rfl) b_range (pa_cons (pe_callB call_len_seq (by rfl) b_len PySem.boot_len (pa_cons (pv 0) pa_nil)) pa_nil)) (pg_name (i := 2) nd rfl (Or.inl rfl)) (pss_one (ps_if (pw_and (pt_cmpR op_gt (pv 1) pe_int (nomark _)) (pw_and1 (pt_cmpR op_eq (pe_ix ix_list (pv 0) (pe_op op_sub (pv 1) pe_int) (fun _ _ => rfl)) pe_int (nomark _)))).pt (pss_one (ps_set (i := 1) nd rfl (Or.inl rfl) (pe_op op_sub (pv 1) pe_int))) pss_nil)))
      (pss_one (ps_ret (pe_callTy call_tuple_of (by rfl) b_tuple (by decide +kernel) (pa_cons (pe_slice sl_list (pv 0) po_none (po_some (pv 1))) pa_nil)))))), ss_law_cut⟩)
abbrev s_law_times : Stmt := topS 65
abbrev n_law_times : List Str := ["base", "one", "other", "found", "at", "figure", "late", "item"]
theorem sc_law_times : FnScope ["base", "one", "other", "found", "at", "figure", "late", "item"] ["base", "one", "other"] (defScope s_law_times) := ⟨rfl, rfl, rfl, by decide +kernel, rfl, by decide +kernel, by decide +kernel⟩
theorem ok_law_times {f : Addr} {fd : FuncData} (F : L2.Fun K "_law_times" "_law_times" s_law_times f fd) (h_law_cut : Fk P w K mg base "_law_cut" ["row"] 1 (spR K rel_law_cut)) (b_len : mg "len" = none) (b_enumerate : mg "enumerate" = none) (b_int : mg "int" = none) : FnOk P w K mg base CX0 2 f fd ["base", "one", "other"] (spR K rel_law_times) :=
  have nd := sc_law_times.nd
  fn_R F sc_law_times len_law_times (fun cdv A outer s H E hr => ⟨t_law_times K, (pss_cons (ps_set (i := 3) nd rfl (Or.inl rfl) (pe_op op_rep (pe_lst (pa_cons pe_int pa_nil)) (pe_op op_add (pe_callB call_len_seq (by rfl) b_len PySem.boot_len (pa_cons (pv 1) pa_nil)) (pe_callB call_len_seq (by rfl) b_len PySem.boot_len (pa_cons (pv 2) pa_nil)))))
      (pss_cons (ps_for PassesOwn.never rfl (pi_enumT (by rfl) b_enumerate (pa_cons (pv 1) pa_nil)) (pg_tup rfl (pgs_cons (pg_name (i := 4) nd rfl (Or.inl rfl)) (pgs_cons (pg_name (i := 5) nd rfl (Or.inl rfl)) pgs_nil))) (pss_one (ps_for PassesOwn.never rfl (pi_enumT (by rfl) b_enumerate (pa_cons (pv 2) pa_nil)) (pg_tup rfl (pgs_cons (pg_name (i := 6) nd rfl (Or.inl rfl)) (pgs_cons (pg_name (i := 7) nd rfl (Or.inl rfl)) pgs_nil))) (pss_one (ps_asg (pe_op op_add (pe_ix ix_list (pv 3) (pe_op op_add (pv 4) (pv 6)) (fun _ _ => rfl)) (pe_op op_mul (pv 5) (pv 7))) (pg_sub (pv 3) (pe_op op_add (pv 4) (pv 6)) set_list))))))
      (pss_one (ps_ret (pe_f h_law_cut hr (by decide) (by rfl) (pa_cons (pe_lc (own := [("item", 7)]) (by rfl) nd (pi_list (pv 3)) (blkOk_by (own := [("item", 7)]) (N := n_law_times) (sc := defScope (topS 65)) (by decide +kernel)) (fun _ _ _ _ _ => (pg_name (i := 7) nd rfl (Or.inl rfl))) (fun _ _ _ _ _ => pts_nil) (fun _ _ _ _ _ => (pe_op op_mod (pe_callTy call_int1 (by rfl) b_int (by decide +kernel) (pa_cons (pv 7) pa_nil)) (pv 0)))) pa_nil)))))), ss_law_times⟩)
abbrev s_law_divided : Stmt := topS 66
abbrev n_law_divided : List Str := ["base", "one", "other", "left", "found", "scale", "at", "figure", "late", "item"]
theorem sc_law_divided : FnScope ["base", "one", "other", "left", "found", "scale", "at", "figure", "late", "item"] ["base", "one", "other"] (defScope s_law_divided) := ⟨rfl, rfl, rfl, by decide +kernel, rfl, by decide +kernel, by decide +kernel⟩
theorem ok_law_divided {f : Addr} {fd : FuncData} (F : L2.Fun K "_law_divided" "_law_divided" s_law_divided f fd) (h_law_cut : Fk P w K mg base "_law_cut" ["row"] 1 (spR K rel_law_cut)) (b_list : mg "list" = none) (b_max : mg "max" = none) (b_len : mg "len" = none) (b_range : mg "range" = none) (b_int : mg "int" = none) (b_enumerate : mg "enumerate" = none) : FnOk P w K mg base CX0 2 f fd ["base", "one", "other"] (spR K rel_law_divided) :=
  have nd := sc_law_divided.nd
  fn_R F sc_law_divided len_law_divided (fun cdv A outer s H E hr => ⟨t_law_divided K, (pss_cons (ps_par (i := 3) (j := 4) rfl nd rfl rfl (by decide) rfl rfl (pa_cons (pe_callTy call_list_of (by rfl) b_list (by decide +kernel) (pa_cons (pv 1) pa_nil)) (pa_cons (pe_op op_rep (pe_lst (pa_cons pe_int pa_nil)) (pe_callB (call_max2 rfl) (by rfl) b_max (by decide +kernel) (pa_cons pe_int (pa_cons (pe_op op_add (pe_op op_sub (pe_callB call_len_seq (by rfl) b_len PySem.boot_len (pa_cons (pv 1) pa_nil)) (pe_callB call_len_seq (by rfl) b_len PySem.boot_len (pa_cons (pv 2) pa_nil))) pe_int) pa_nil)))) pa_nil)) (by rfl))
      (pss_cons (ps_set (i := 5) nd rfl (Or.inl rfl) (pe_ix ix_list (pe_lc (own := [("late", 8)]) (by rfl) nd (pi_range2 (by rfl) b_range (pa_cons pe_int (pa_cons (pv 0) pa_nil))) (blkOk_by (own := [("late", 8)]) (N := n_law_divided) (sc := defScope (topS 66)) (by decide +kernel)) (fun _ _ _ _ _ => (pg_name (i := 8) nd rfl (Or.inl rfl))) (fun _ _ _ _ _ => (pts_one (pt_cmpR op_eq (pe_op op_mod (pe_callTy call_int1 (by rfl) b_int (by decide +kernel) (pa_cons (pe_op op_mul (pv 8) (pe_ix ix_tup (pv 2) (pe_un un_neg pe_int) (fun _ _ => rfl))) pa_nil)) (pv 0)) pe_int (nomark _)))) (fun _ _ _ _ _ => (pv 8))) pe_int (fun _ _ => rfl)))
      (pss_cons (ps_for PassesOwn.never rfl (pi_range3 (by rfl) b_range (pa_cons (pe_op op_sub (pe_callB call_len_seq (by rfl) b_len PySem.boot_len (pa_cons (pv 4) pa_nil)) pe_int) (pa_cons (pe_un un_neg pe_int) (pa_cons (pe_un un_neg pe_int) pa_nil)))) (pg_name (i := 6) nd rfl (Or.inl rfl)) (pss_cons (ps_set (i := 7) nd rfl (Or.inl rfl) (pe_op op_mod (pe_callTy call_int1 (by rfl) b_int (by decide +kernel) (pa_cons (pe_op op_mul (pe_ix ix_list (pv 3) (pe_op op_sub (pe_op op_add (pv 6) (pe_callB call_len_seq (by rfl) b_len PySem.boot_len (pa_cons (pv 2) pa_nil))) pe_int) (fun _ _ => rfl)) (pv 5)) pa_nil)) (pv 0)))
      (pss_cons (ps_asg (pv 7) (pg_sub (pv 4) (pv 6) set_list))
      (pss_one (ps_for PassesOwn.never rfl (pi_enumT (by rfl) b_enumerate (pa_cons (pv 2) pa_nil)) (pg_tup rfl (pgs_cons (pg_name (i := 8) nd rfl (Or.inl rfl)) (pgs_cons (pg_name (i := 9) nd rfl (Or.inl rfl)) pgs_nil))) (pss_one (ps_asg (pe_op op_mod (pe_callTy call_int1 (by rfl) b_int (by decide +kernel) (pa_cons (pe_op op_sub (pe_ix ix_list (pv 3) (pe_op op_add (pv 6) (pv 8)) (fun _ _ => rfl)) (pe_op op_mul (pv 7) (pv 9))) pa_nil)) (pv 0)) (pg_sub (pv 3) (pe_op op_add (pv 6) (pv 8)) set_list))))))))
      (pss_one (ps_ret (pe_tup (pa_cons (pe_f h_law_cut hr (by decide) (by rfl) (pa_cons (pv 4) pa_nil)) (pa_cons (pe_f h_law_cut hr (by decide) (by rfl) (pa_cons (pv 3) pa_nil)) pa_nil)))))))), ss_law_divided⟩)
abbrev s_law_plain : Stmt := topS 67
abbrev n_law_plain : List Str := ["base", "row", "scale", "late", "figure"]
theorem sc_law_plain : FnScope ["base", "row", "scale", "late", "figure"] ["base", "row"] (defScope s_law_plain) := ⟨rfl, rfl, rfl, by decide +kernel, rfl, by decide +kernel, by decide +kernel⟩
theorem ok_law_plain {f : Addr} {fd : FuncData} (F : L2.Fun K "_law_plain" "_law_plain" s_law_plain f fd) (b_range : mg "range" = none) (b_int : mg "int" = none) (b_tuple : mg "tuple" = none) : FnOk P w K mg base CX0 1 f fd ["base", "row"] (spR K rel_law_plain) :=
  have nd := sc_law_plain.nd
  fn_R F sc_law_plain len_law_plain (fun cdv A outer s H E hr => ⟨t_law_plain K, (pss_cons (ps_set (i := 2) nd rfl (Or.inr rfl) (pe_ix ix_list (pe_lc (own := [("late", 3)]) (by rfl) nd (pi_range2 (by rfl) b_range (pa_cons pe_int (pa_cons (pv 0) pa_nil))) (blkOk_by (own := [("late", 3)]) (N := n_law_plain) (sc := defScope (topS 67)) (by decide +kernel)) (fun _ _ _ _ _ => (pg_name (i := 3) nd rfl (Or.inl rfl))) (fun _ _ _ _ _ => (pts_one (pt_cmpR op_eq (pe_op op_mod (pe_callTy call_int1 (by rfl) b_int (by decide +kernel) (pa_cons (pe_op op_mul (pv 3) (pe_ix ix_tup (pv 1) (pe_un un_neg pe_int) (fun _ _ => rfl))) pa_nil)) (pv 0)) pe_int (nomark _)))) (fun _ _ _ _ _ => (pv 3))) pe_int (fun _ _ => rfl)))
      (pss_one (ps_ret (pe_callTy call_tuple_of (by rfl) b_tuple (by decide +kernel) (pa_cons (pe_lc (own := [("figure", 4)]) (by rfl) nd (pi_tup (pv 1)) (blkOk_by (own := [("figure", 4)]) (N := n_law_plain) (sc := defScope (topS 67)) (by decide +kernel)) (fun _ _ _ _ _ => (pg_name (i := 4) nd rfl (Or.inl rfl))) (fun _ _ _ _ _ => pts_nil) (fun _ _ _ _ _ => (pe_op op_mod (pe_callTy call_int1 (by rfl) b_int (by decide +kernel) (pa_cons (pe_op op_mul (pv 4) (pv 2)) pa_nil)) (pv 0)))) pa_nil))))), ss_law_plain⟩)
abbrev s_law_power : Stmt := topS 68
abbrev n_law_power : List Str := ["number", "many", "found", "lap"]
theorem sc_law_power : FnScope ["number", "many", "found", "lap"] ["number", "many"] (defScope s_law_power) := ⟨rfl, rfl, rfl, by decide +kernel, rfl, by decide +kernel, by decide +kernel⟩
theorem ok_law_power {f : Addr} {fd : FuncData} (F : L2.Fun K "_law_power" "_law_power" s_law_power f fd) (b_range : mg "range" = none) : FnOk P w K mg base CX0 1 f fd ["number", "many"] (spR K rel_law_power) :=
  have nd := sc_law_power.nd
  fn_R F sc_law_power len_law_power (fun cdv A outer s H E hr => ⟨t_law_power K, (pss_cons (ps_set (i := 2) nd rfl (Or.inl rfl) pe_int)
      (pss_cons (ps_for PassesOwn.never rfl (pi_range1 (by rfl) b_range (pa_cons (pv 1) pa_nil)) (pg_name (i := 3) nd rfl (Or.inl rfl)) (pss_one (ps_set (i := 2) nd rfl (Or.inl rfl) (pe_op op_mul (pv 2) (pv 0)))))
      (pss_one (ps_ret (pv 2))))), ss_law_power⟩)
abbrev s_law_factors : Stmt := topS 69
abbrev n_law_factors : List Str := ["base", "row", "found", "left", "size", "number", "late", "often", "lap", "part", "some", "pair"]
theorem sc_law_factors : FnScope ["base", "row", "found", "left", "size", "number", "late", "often", "lap", "part", "some", "pair"] ["base", "row"] (defScope s_law_factors) := ⟨rfl, rfl, rfl, by decide +kernel, rfl, by decide +kernel, by decide +kernel⟩
theorem ok_law_factors {f : Addr} {fd : FuncData} (F : L2.Fun K "_law_factors" "_law_factors" s_law_factors f fd) (h_law_plain : Fk P w K mg base "_law_plain" ["base", "row"] 1 (spR K rel_law_plain)) (h_law_power : Fk P w K mg base "_law_power" ["number", "many"] 1 (spR K rel_law_power)) (h_law_row : Fk P w K mg base "_law_row" ["base", "number"] 1 (spR K rel_law_row)) (h_law_divided : Fk P w K mg base "_law_divided" ["base", "one", "other"] 2 (spR K rel_law_divided)) (b_range : mg "range" = none) (b_len : mg "len" = none) (b_sum : mg "sum" = none) : FnOk P w K mg base CX0 3 f fd ["base", "row"] (spR K rel_law_factors) :=
  have nd := sc_law_factors.nd
  fn_R F sc_law_factors len_law_factors (fun cdv A outer s H E hr => ⟨t_law_factors K, (pss_cons (ps_asg (pe_tup (pa_cons (pe_lst pa_nil) (pa_cons (pe_f h_law_plain hr (by decide) (by rfl) (pa_cons (pv 0) (pa_cons (pv 1) pa_nil))) pa_nil))) (pg_tup rfl (pgs_cons (pg_name (i := 2) nd rfl (Or.inl rfl)) (pgs_cons (pg_name (i := 3) nd rfl (Or.inr rfl)) pgs_nil))))
      (pss_cons (ps_for PassesOwn.never rfl (pi_range2 (by rfl) b_range (pa_cons pe_int (pa_cons (pe_callB call_len_seq (by rfl) b_len PySem.boot_len (pa_cons (pv 1) pa_nil)) pa_nil))) (pg_name (i := 4) nd rfl (Or.inl rfl)) (pss_cons (ps_if (pt_cmpR op_le (pe_callB call_len_seq (by rfl) b_len PySem.boot_len (pa_cons (pv 3) pa_nil)) (pe_op op_mul pe_int (pv 4)) (nomark _)) (pss_one ps_break) pss_nil)
      (pss_one (ps_for PassesOwn.never rfl (pi_range2 (by rfl) b_range (pa_cons (pe_f h_law_power hr (by decide) (by rfl) (pa_cons (pv 0) (pa_cons (pv 4) pa_nil))) (pa_cons (pe_op op_mul pe_int (pe_f h_law_power hr (by decide) (by rfl) (pa_cons (pv 0) (pa_cons (pv 4) pa_nil)))) pa_nil))) (pg_name (i := 5) nd rfl (Or.inl rfl)) (pss_cons (ps_par (i := 6) (j := 7) rfl nd rfl rfl (by decide) rfl rfl (pa_cons (pe_f h_law_row hr (by decide) (by rfl) (pa_cons (pv 0) (pa_cons (pv 5) pa_nil))) (pa_cons pe_int pa_nil)) (by rfl))
      (pss_cons (ps_for PassesOwn.never rfl (pi_range1 (by rfl) b_range (pa_cons (pe_callB call_len_seq (by rfl) b_len PySem.boot_len (pa_cons (pv 1) pa_nil)) pa_nil)) (pg_name (i := 8) nd rfl (Or.inl rfl)) (pss_cons (ps_set (i := 9) nd rfl (Or.inl rfl) (pe_ifExp (pt_cmpR op_ge (pe_callB call_len_seq (by rfl) b_len PySem.boot_len (pa_cons (pv 3) pa_nil)) (pe_callB call_len_seq (by rfl) b_len PySem.boot_len (pa_cons (pv 6) pa_nil)) (nomark _)) (pe_f h_law_divided hr (by decide) (by rfl) (pa_cons (pv 0) (pa_cons (pv 3) (pa_cons (pv 6) pa_nil)))) (pe_tup (pa_cons (pe_tup pa_nil) (pa_cons (pe_tup (pa_cons pe_int pa_nil)) pa_nil)))))
      (pss_one (ps_if (pt_cmpR (op_eqD hr.units) (pe_ix ix_tup (pv 9) pe_int (fun _ _ => rfl)) (pe_tup pa_nil) (nomark _)) (pss_one (ps_asg (pe_tup (pa_cons (pe_ix ix_tup (pv 9) pe_int (fun _ _ => rfl)) (pa_cons (pe_op op_add (pv 7) pe_int) pa_nil))) (pg_tup rfl (pgs_cons (pg_name (i := 3) nd rfl (Or.inr rfl)) (pgs_cons (pg_name (i := 7) nd rfl (Or.inl rfl)) pgs_nil))))) pss_nil))))
      (pss_one (ps_if (pt_cmpR op_gt (pv 7) pe_int (nomark _)) (pss_one (ps_expr (pe_bm PySem.F.plainAttrs_list PySem.F.slot_list_append PySem.F.type_list_append mt_append (pv 2) (pa_cons (pe_tup (pa_cons (pv 6) (pa_cons (pv 7) pa_nil))) pa_nil)))) pss_nil))))))))
      (pss_cons (ps_if (pt_cmpR op_gt (pe_callB call_len_seq (by rfl) b_len PySem.boot_len (pa_cons (pv 3) pa_nil)) pe_int (nomark _)) (pss_cons (ps_setLc (i := 10) (own := [("pair", 11)]) (by rfl) nd rfl rfl (sw_true rfl rfl rfl (by decide +kernel)) (pi_list (pv 2)) (blkOk_by (own := [("pair", 11)]) (N := n_law_factors) (sc := defScope (topS 69)) (by decide +kernel)) (fun _ _ _ _ _ => (pg_name (i := 11) nd rfl (Or.inl rfl))) (fun _ _ _ _ _ => (pts_one (pt_cmpR (op_eqD hr.units) (pe_ix ix_tup (pv 11) pe_int (fun _ _ => rfl)) (pv 3) (nomark _)))) (fun _ _ _ _ _ => (pv 11)))
      (pss_one (ps_set (i := 2) nd rfl (Or.inl rfl) (pe_op op_cat (pe_lc (own := [("pair", 11)]) (by rfl) nd (pi_list (pv 2)) (blkOk_by (own := [("pair", 11)]) (N := n_law_factors) (sc := defScope (topS 69)) (by decide +kernel)) (fun _ _ _ _ _ => (pg_name (i := 11) nd rfl (Or.inl rfl))) (fun _ _ _ _ _ => (pts_one (pt_cmpR (op_neD hr.units) (pe_ix ix_tup (pv 11) pe_int (fun _ _ => rfl)) (pv 3) (nomark _)))) (fun _ _ _ _ _ => (pv 11))) (pe_lst (pa_cons (pe_tup (pa_cons (pv 3) (pa_cons (pe_op op_add pe_int (pe_callB (cr_sum rfl) (by rfl) b_sum (by decide +kernel) (pa_cons (pe_lc (own := [("late", 6), ("often", 7)]) (by rfl) nd (pi_list (pv 10)) (blkOk_by (own := [("late", 6), ("often", 7)]) (N := n_law_factors) (sc := defScope (topS 69)) (by decide +kernel)) (fun _ _ _ _ _ => (pg_tup rfl (pgs_cons (pg_name (i := 6) nd rfl (Or.inl rfl)) (pgs_cons (pg_name (i := 7) nd rfl (Or.inl rfl)) pgs_nil)))) (fun _ _ _ _ _ => pts_nil) (fun _ _ _ _ _ => (pv 7))) pa_nil))) pa_nil))) pa_nil)))))) pss_nil)
      (pss_one (ps_ret (pv 2)))))), ss_law_factors⟩)
abbrev s_law_is_prime : Stmt := topS 70
abbrev n_law_is_prime : List Str := ["base", "row"]
theorem sc_law_is_prime : FnScope ["base", "row"] ["base", "row"] (defScope s_law_is_prime) := ⟨rfl, rfl, rfl, by decide +kernel, rfl, by decide +kernel, by decide +kernel⟩
theorem ok_law_is_prime {f : Addr} {fd : FuncData} (F : L2.Fun K "_law_is_prime" "_law_is_prime" s_law_is_prime f fd) (h_law_factors : Fk P w K mg base "_law_factors" ["base", "row"] 3 (spR K rel_law_factors)) (b_len : mg "len" = none) : FnOk P w K mg base CX0 4 f fd ["base", "row"] (spR K rel_law_is_prime) :=
  have nd := sc_law_is_prime.nd
  fn_R F sc_law_is_prime len_law_is_prime (fun cdv A outer s H E hr => ⟨t_law_is_prime K, (pss_one (ps_ret (pe_and (pe_cmpR op_gt (pe_callB call_len_seq (by rfl) b_len PySem.boot_len (pa_cons (pv 1) pa_nil)) pe_int (nomark _)) (pe_and (pe_cmpR op_eq (pe_ix ix_tup (pv 1) (pe_un un_neg pe_int) (fun _ _ => rfl)) pe_int (nomark _)) (pe_one (pe_cmpR (op_eqD hr.units) (pe_f h_law_factors hr (by decide) (by rfl) (pa_cons (pv 0) (pa_cons (pv 1) pa_nil))) (pe_lst (pa_cons (pe_tup (pa_cons (pv 1) (pa_cons pe_int pa_nil))) pa_nil)) (nomark _))))))), ss_law_is_prime⟩)
abbrev s_law_prime : Stmt := topS 71
abbrev n_law_prime : List Str := ["draw", "base", "most", "size", "first", "at", "lap", "number"]
theorem sc_law_prime : FnScope ["draw", "base", "most", "size", "first", "at", "lap", "number"] ["draw", "base", "most"] (defScope s_law_prime) := ⟨rfl, rfl, rfl, by decide +kernel, rfl, by decide +kernel, by decide +kernel⟩
theorem ok_law_prime {f : Addr} {fd : FuncData} (F : L2.Fun K "_law_prime" "_law_prime" s_law_prime f fd) (h_law_take : Fk P w K mg base "_law_take" ["draw", "amount"] 2 (spD K rel_law_take)) (h_law_power : Fk P w K mg base "_law_power" ["number", "many"] 1 (spR K rel_law_power)) (h_law_is_prime : Fk P w K mg base "_law_is_prime" ["base", "row"] 4 (spR K rel_law_is_prime)) (h_law_row : Fk P w K mg base "_law_row" ["base", "number"] 1 (spR K rel_law_row)) (b_range : mg "range" = none) (b_int : mg "int" = none) : FnOk P w K mg base CX0 5 f fd ["draw", "base", "most"] (spD K rel_law_prime) :=
  have nd := sc_law_prime.nd
  fn_D F sc_law_prime len_law_prime (fun cdv A outer s H E hr => ⟨t_law_prime K, (pss_cons (ps_set (i := 3) nd rfl (Or.inl rfl) (pe_op op_add pe_int (pe_f h_law_take hr (by decide) (by rfl) (pa_cons (pv 0) (pa_cons (pv 2) pa_nil)))))
      (pss_cons (ps_set (i := 4) nd rfl (Or.inl rfl) (pe_f h_law_power hr (by decide) (by rfl) (pa_cons (pv 1) (pa_cons (pv 3) pa_nil))))
      (pss_cons (ps_set (i := 5) nd rfl (Or.inl rfl) (pe_f h_law_take hr (by decide) (by rfl) (pa_cons (pv 0) (pa_cons (pv 4) pa_nil))))
      (pss_cons (ps_for PassesOwn.never rfl (pi_range1 (by rfl) b_range (pa_cons (pv 4) pa_nil)) (pg_name (i := 6) nd rfl (Or.inl rfl)) (pss_cons (ps_set (i := 7) nd rfl (Or.inl rfl) (pe_op op_add (pv 4) (pe_op op_mod (pe_callTy call_int1 (by rfl) b_int (by decide +kernel) (pa_cons (pe_op op_add (pv 5) (pv 6)) pa_nil)) (pv 4))))
      (pss_one (ps_if (pt_val (pe_f h_law_is_prime hr (by decide) (by rfl) (pa_cons (pv 1) (pa_cons (pe_f h_law_row hr (by decide) (by rfl) (pa_cons (pv 1) (pa_cons (pv 7) pa_nil))) pa_nil)))) (pss_one (ps_ret (pv 7))) pss_nil))))
      (pss_one (ps_ret (pv 1))))))), fun a => ss_law_prime⟩)
abbrev s_law_modulus : Stmt := topS 72
abbrev n_law_modulus : List Str := ["draw", "base", "most", "way", "prime", "found", "lap", "late", "longer"]
theorem sc_law_modulus : FnScope ["draw", "base", "most", "way", "prime", "found", "lap", "late", "longer"] ["draw", "base", "most"] (defScope s_law_modulus) := ⟨rfl, rfl, rfl, by decide +kernel, rfl, by decide +kernel, by decide +kernel⟩
theorem ok_law_modulus {f : Addr} {fd : FuncData} (F : L2.Fun K "_law_modulus" "_law_modulus" s_law_modulus f fd) (h_law_take : Fk P w K mg base "_law_take" ["draw", "amount"] 2 (spD K rel_law_take)) (h_law_row : Fk P w K mg base "_law_row" ["base", "number"] 1 (spR K rel_law_row)) (h_law_prime : Fk P w K mg base "_law_prime" ["draw", "base", "most"] 5 (spD K rel_law_prime)) (h_law_times : Fk P w K mg base "_law_times" ["base", "one", "other"] 2 (spR K rel_law_times)) (h_law_worth : Fk P w K mg base "_law_worth" ["base", "row"] 1 (spR K rel_law_worth)) (h_law_power : Fk P w K mg base "_law_power" ["number", "many"] 1 (spR K rel_law_power)) (b_range : mg "range" = none) (b_len : mg "len" = none) : FnOk P w K mg base CX0 6 f fd ["draw", "base", "most"] (spD K rel_law_modulus) :=
  have nd := sc_law_modulus.nd
  fn_D F sc_law_modulus len_law_modulus (fun cdv A outer s H E hr => ⟨t_law_modulus K, (pss_cons (ps_par (i := 3) (j := 4) rfl nd rfl rfl (by decide) rfl rfl (pa_cons (pe_f h_law_take hr (by decide) (by rfl) (pa_cons (pv 0) (pa_cons pe_int pa_nil))) (pa_cons (pe_f h_law_row hr (by decide) (by rfl) (pa_cons (pv 1) (pa_cons (pe_f h_law_prime hr (by decide) (by rfl) (pa_cons (pv 0) (pa_cons (pv 1) (pa_cons pe_int pa_nil)))) pa_nil))) pa_nil)) (by rfl))
      (pss_cons (ps_if (pt_cmpR op_eq (pv 3) pe_int (nomark _)) (pss_one (ps_ret (pe_f h_law_prime hr (by decide) (by rfl) (pa_cons (pv 0) (pa_cons (pv 1) (pa_cons (pe_op op_sub (pv 2) pe_int) pa_nil)))))) pss_nil)
      (pss_cons (ps_set (i := 5) nd rfl (Or.inl rfl) (pv 4))
      (pss_cons (ps_for PassesOwn.never rfl (pi_range1 (by rfl) b_range (pa_cons (pe_op op_add pe_int (pe_f h_law_take hr (by decide) (by rfl) (pa_cons (pv 0) (pa_cons pe_int pa_nil)))) pa_nil)) (pg_name (i := 6) nd rfl (Or.inl rfl)) (pss_cons (ps_set (i := 7) nd rfl (Or.inl rfl) (pe_ifExp (pt_cmpR op_eq (pv 3) pe_int (nomark _)) (pv 4) (pe_f h_law_row hr (by decide) (by rfl) (pa_cons (pv 1) (pa_cons (pe_f h_law_prime hr (by decide) (by rfl) (pa_cons (pv 0) (pa_cons (pv 1) (pa_cons pe_int pa_nil)))) pa_nil)))))
      (pss_cons (ps_set (i := 8) nd rfl (Or.inl rfl) (pe_f h_law_times hr (by decide) (by rfl) (pa_cons (pv 1) (pa_cons (pv 5) (pa_cons (pv 7) pa_nil)))))
      (pss_one (ps_set (i := 5) nd rfl (Or.inl rfl) (pe_ifExp (pw_and (pt_cmpR op_le (pe_callB call_len_seq (by rfl) b_len PySem.boot_len (pa_cons (pv 8) pa_nil)) (pv 2) (nomark _)) (pw_and1 (pt_cmpR op_lt (pv 3) pe_int (nomark _)))).pt (pv 8) (pv 5)))))))
      (pss_cons (ps_if (pt_cmpR op_eq (pv 3) pe_int (nomark _)) (pss_one (ps_set (i := 5) nd rfl (Or.inl rfl) (pe_f h_law_times hr (by decide) (by rfl) (pa_cons (pv 1) (pa_cons (pv 5) (pa_cons (pe_tup (pa_cons (pe_op op_add pe_int (pe_f h_law_take hr (by decide) (by rfl) (pa_cons (pv 0) (pa_cons (pe_op op_sub (pv 1) pe_int) pa_nil)))) pa_nil)) pa_nil)))))) pss_nil)
      (pss_one (ps_ret (pe_ifExp (pt_cmpR op_lt (pv 3) pe_int (nomark _)) (pe_f h_law_worth hr (by decide) (by rfl) (pa_cons (pv 1) (pa_cons (pv 5) pa_nil))) (pe_op op_add (pv 1) (pe_f h_law_take hr (by decide) (by rfl) (pa_cons (pv 0) (pa_cons (pe_op op_sub (pe_f h_law_power hr (by decide) (by rfl) (pa_cons (pv 1) (pa_cons (pv 2) pa_nil))) (pv 1)) pa_nil)))))))))))), fun a => ss_law_modulus⟩)
abbrev s_law_symbol_by_squares : Stmt := topS 73
abbrev n_law_symbol_by_squares : List Str := ["base", "above", "prime", "row", "rest", "squares", "late"]
theorem sc_law_symbol_by_squares : FnScope ["base", "above", "prime", "row", "rest", "squares", "late"] ["base", "above", "prime"] (defScope s_law_symbol_by_squares) := ⟨rfl, rfl, rfl, by decide +kernel, rfl, by decide +kernel, by decide +kernel⟩
theorem ok_law_symbol_by_squares {f : Addr} {fd : FuncData} (F : L2.Fun K "_law_symbol_by_squares" "_law_symbol_by_squares" s_law_symbol_by_squares f fd) (h_law_row : Fk P w K mg base "_law_row" ["base", "number"] 1 (spR K rel_law_row)) (h_law_divided : Fk P w K mg base "_law_divided" ["base", "one", "other"] 2 (spR K rel_law_divided)) (h_law_power : Fk P w K mg base "_law_power" ["number", "many"] 1 (spR K rel_law_power)) (h_law_times : Fk P w K mg base "_law_times" ["base", "one", "other"] 2 (spR K rel_law_times)) (b_range : mg "range" = none) (b_len : mg "len" = none) : FnOk P w K mg base CX0 3 f fd ["base", "above", "prime"] (spR K rel_law_symbol_by_squares) :=
  have nd := sc_law_symbol_by_squares.nd
  fn_R F sc_law_symbol_by_squares len_law_symbol_by_squares (fun cdv A outer s H E hr => ⟨t_law_symbol_by_squares K, (pss_cons (ps_asg (pe_tup (pa_cons (pe_f h_law_row hr (by decide) (by rfl) (pa_cons (pv 0) (pa_cons (pv 2) pa_nil))) (pa_cons (pe_ix ix_tup (pe_f h_law_divided hr (by decide) (by rfl) (pa_cons (pv 0) (pa_cons (pe_f h_law_row hr (by decide) (by rfl) (pa_cons (pv 0) (pa_cons (pv 1) pa_nil))) (pa_cons (pe_f h_law_row hr (by decide) (by rfl) (pa_cons (pv 0) (pa_cons (pv 2) pa_nil))) pa_nil)))) pe_int (fun _ _ => rfl)) pa_nil))) (pg_tup rfl (pgs_cons (pg_name (i := 3) nd rfl (Or.inr rfl)) (pgs_cons (pg_name (i := 4) nd rfl (Or.inr rfl)) pgs_nil))))
      (pss_cons (ps_if (pt_cmpR (op_eqD hr.units) (pv 4) (pe_tup pa_nil) (nomark _)) (pss_one (ps_ret pe_int)) pss_nil)
      (pss_cons (ps_setLc (i := 5) (own := [("late", 6)]) (by rfl) nd rfl rfl (sw_true rfl rfl rfl (by decide +kernel)) (pi_range2 (by rfl) b_range (pa_cons pe_int (pa_cons (pe_f h_law_power hr (by decide) (by rfl) (pa_cons (pv 0) (pa_cons (pe_op op_sub (pe_callB call_len_seq (by rfl) b_len PySem.boot_len (pa_cons (pv 3) pa_nil)) pe_int) pa_nil))) pa_nil))) (blkOk_by (own := [("late", 6)]) (N := n_law_symbol_by_squares) (sc := defScope (topS 73)) (by decide +kernel)) (fun _ _ _ _ _ => (pg_name (i := 6) nd rfl (Or.inl rfl))) (fun _ _ _ _ _ => (pts_one (pt_cmpR (op_eqD hr.units) (pe_ix ix_tup (pe_f h_law_divided hr (by decide) (by rfl) (pa_cons (pv 0) (pa_cons (pe_f h_law_times hr (by decide) (by rfl) (pa_cons (pv 0) (pa_cons (pe_f h_law_row hr (by decide) (by rfl) (pa_cons (pv 0) (pa_cons (pv 6) pa_nil))) (pa_cons (pe_f h_law_row hr (by decide) (by rfl) (pa_cons (pv 0) (pa_cons (pv 6) pa_nil))) pa_nil)))) (pa_cons (pv 3) pa_nil)))) pe_int (fun _ _ => rfl)) (pv 4) (nomark _)))) (fun _ _ _ _ _ => pe_int))
      (pss_one (ps_ret (pe_ifExp (pt_cmpR (op_neD hr.units) (pv 5) (pe_lst pa_nil) (nomark _)) pe_int (pe_op op_sub pe_int pe_int))))))), ss_law_symbol_by_squares⟩)
abbrev s_law_right : Stmt := topS 74
abbrev n_law_right : List Str := ["draw", "base", "prime", "above", "due", "root", "below", "told", "whole", "late", "lap", "other", "both", "few", "many"]
theorem sc_law_right : FnScope ["draw", "base", "prime", "above", "due", "root", "below", "told", "whole", "late", "lap", "other", "both", "few", "many"] ["draw"] (defScope s_law_right) := ⟨rfl, rfl, rfl, by decide +kernel, rfl, by decide +kernel, by decide +kernel⟩
theorem ok_law_right {f : Addr} {fd : FuncData} (F : L2.Fun K "_law_right" "_law_right" s_law_right f fd) (h_law_pick : Fk P w K mg base "_law_pick" ["draw", "items"] 3 (spD K rel_law_pick)) (h_law_prime : Fk P w K mg base "_law_prime" ["draw", "base", "most"] 5 (spD K rel_law_prime)) (h_law_take : Fk P w K mg base "_law_take" ["draw", "amount"] 2 (spD K rel_law_take)) (h_law_symbol_by_squares : Fk P w K mg base "_law_symbol_by_squares" ["base", "above", "prime"] 3 (spR K rel_law_symbol_by_squares)) (h_root_of : Fk P w K mg base "root_of" ["base", "number", "prime"] 6 (spR K rel_root_of)) (h_square_symbol : Fk P w K mg base "square_symbol" ["base", "above", "below"] 5 (spR K rel_square_symbol)) (h_quotient_of : Fk P w K mg base "quotient_of" ["base", "one", "other"] 5 (spR K rel_quotient_of)) (h_product_of : Fk P w K mg base "product_of" ["base", "one", "other"] 5 (spR K rel_product_of)) (h_plain_of : Fk P w K mg base "plain_of" ["base", "number"] 4 (spR K rel_plain_of)) (h_law_modulus : Fk P w K mg base "_law_modulus" ["draw", "base", "most"] 6 (spD K rel_law_modulus)) (h_factors_of : Fk P w K mg base "factors_of" ["base", "number"] 4 (spR K rel_factors_of)) (h_squares_many : Fk P w K mg base "squares_many" ["base", "modulus"] 5 (spR K rel_squares_many)) (h_free_many : Fk P w K mg base "free_many" ["base", "number"] 5 (spR K rel_free_many)) (b_range : mg "range" = none) : FnOk P w K mg base CX0 7 f fd ["draw"] (spD K rel_law_right) :=
  have nd := sc_law_right.nd
  fn_D F sc_law_right len_law_right (fun cdv A outer s H E hr => ⟨t_law_right K, (pss_cons (ps_set (i := 1) nd rfl (Or.inl rfl) (pe_f h_law_pick hr (by decide) (by rfl) (pa_cons (pv 0) (pa_cons (pe_lst (pa_cons pe_int (pa_cons pe_int (pa_cons pe_int pa_nil)))) pa_nil))))
      (pss_cons (ps_par (i := 2) (j := 3) rfl nd rfl rfl (by decide) rfl rfl (pa_cons (pe_f h_law_prime hr (by decide) (by rfl) (pa_cons (pv 0) (pa_cons (pv 1) (pa_cons (pe_dget (hu_of hr) (pe_disp (pps_cons pe_int pe_int (pps_cons pe_int pe_int pps_nil)) (by rfl) (by rfl) (fun z => by cases z) (by decide)) (pv 1) (fun _ _ => rfl)) pa_nil)))) (pa_cons (pe_f h_law_take hr (by decide) (by rfl) (pa_cons (pv 0) (pa_cons pe_int pa_nil))) pa_nil)) (by rfl))
      (pss_cons (ps_par (i := 4) (j := 5) rfl nd rfl rfl (by decide) rfl rfl (pa_cons (pe_f h_law_symbol_by_squares hr (by decide) (by rfl) (pa_cons (pv 1) (pa_cons (pv 3) (pa_cons (pv 2) pa_nil)))) (pa_cons (pe_f h_root_of hr (by decide) (by rfl) (pa_cons (pv 1) (pa_cons (pv 3) (pa_cons (pv 2) pa_nil)))) pa_nil)) (by rfl))
      (pss_cons (ps_if (pw_or (pt_cmpR op_ne (pe_f h_square_symbol hr (by decide) (by rfl) (pa_cons (pv 1) (pa_cons (pv 3) (pa_cons (pv 2) pa_nil)))) (pv 4) (nomark _)) (pw_or1 (pt_cmpR op_ne (pe_cmpR op_isN (pv 5) pe_non (nomark _)) (pe_cmpR op_eq (pv 4) (pe_op op_sub pe_int pe_int) (nomark _)) (nomark _)))).pt (pss_one (ps_ret pe_bl)) pss_nil)
      (pss_cons (ps_if (pw_and (pt_cmpR op_notN (pv 5) pe_non (nomark _)) (pw_and1 (pt_cmpR op_ne (pe_ix ix_tup (pe_f h_quotient_of hr (by decide) (by rfl) (pa_cons (pv 1) (pa_cons (pe_f h_product_of hr (by decide) (by rfl) (pa_cons (pv 1) (pa_cons (pv 5) (pa_cons (pv 5) pa_nil)))) (pa_cons (pv 2) pa_nil)))) pe_int (fun _ _ => rfl)) (pe_ix ix_tup (pe_f h_quotient_of hr (by decide) (by rfl) (pa_cons (pv 1) (pa_cons (pv 3) (pa_cons (pv 2) pa_nil)))) pe_int (fun _ _ => rfl)) (nomark _)))).pt (pss_one (ps_ret pe_bl)) pss_nil)
      (pss_cons (ps_set (i := 6) nd rfl (Or.inl rfl) (pe_f h_plain_of hr (by decide) (by rfl) (pa_cons (pv 1) (pa_cons (pe_f h_law_modulus hr (by decide) (by rfl) (pa_cons (pv 0) (pa_cons (pv 1) (pa_cons (pe_dget (hu_of hr) (pe_disp (pps_cons pe_int pe_int (pps_cons pe_int pe_int pps_nil)) (by rfl) (by rfl) (fun z => by cases z) (by decide)) (pv 1) (fun _ _ => rfl)) pa_nil)))) pa_nil))))
      (pss_cons (ps_par (i := 7) (j := 8) rfl nd rfl rfl (by decide) rfl rfl (pa_cons (pe_frz (pe_f h_factors_of hr (by decide) (by rfl) (pa_cons (pv 1) (pa_cons (pv 6) pa_nil)))) (pa_cons pe_int pa_nil)) (by rfl))
      (pss_cons (ps_for PassesOwn.never rfl (pi_keys (pv 7)) (pg_name (i := 9) nd rfl (Or.inl rfl)) (pss_one (ps_for PassesOwn.never rfl (pi_range1 (by rfl) b_range (pa_cons (pe_dget (hu_of hr) (pv 7) (pv 9) (fun _ _ => rfl)) pa_nil)) (pg_name (i := 10) nd rfl (Or.inl rfl)) (pss_one (ps_set (i := 8) nd rfl (Or.inl rfl) (pe_op op_mul (pv 8) (pe_f h_law_symbol_by_squares hr (by decide) (by rfl) (pa_cons (pv 1) (pa_cons (pv 3) (pa_cons (pv 9) pa_nil))))))))))
      (pss_cons (ps_if (pt_cmpR op_ne (pe_f h_square_symbol hr (by decide) (by rfl) (pa_cons (pv 1) (pa_cons (pv 3) (pa_cons (pv 6) pa_nil)))) (pv 8) (nomark _)) (pss_one (ps_ret pe_bl)) pss_nil)
      (pss_cons (ps_set (i := 11) nd rfl (Or.inl rfl) (pe_f h_law_take hr (by decide) (by rfl) (pa_cons (pv 0) (pa_cons pe_int pa_nil))))
      (pss_cons (ps_set (i := 12) nd rfl (Or.inl rfl) (pe_f h_product_of hr (by decide) (by rfl) (pa_cons (pv 1) (pa_cons (pv 3) (pa_cons (pv 11) pa_nil)))))
      (pss_cons (ps_if (pw_and (pt_cmpR op_le (pv 12) (pe_op op_pow pe_int pe_int) (nomark _)) (pw_and1 (pt_cmpR op_ne (pe_f h_square_symbol hr (by decide) (by rfl) (pa_cons (pv 1) (pa_cons (pv 12) (pa_cons (pv 6) pa_nil)))) (pe_op op_mul (pv 8) (pe_f h_square_symbol hr (by decide) (by rfl) (pa_cons (pv 1) (pa_cons (pv 11) (pa_cons (pv 6) pa_nil))))) (nomark _)))).pt (pss_one (ps_ret pe_bl)) pss_nil)
      (pss_cons (ps_set (i := 13) nd rfl (Or.inl rfl) (pe_f h_plain_of hr (by decide) (by rfl) (pa_cons (pv 1) (pa_cons (pe_f h_law_modulus hr (by decide) (by rfl) (pa_cons (pv 0) (pa_cons (pv 1) (pa_cons pe_int pa_nil)))) pa_nil))))
      (pss_cons (ps_set (i := 14) nd rfl (Or.inl rfl) (pe_f h_squares_many hr (by decide) (by rfl) (pa_cons (pv 1) (pa_cons (pv 13) pa_nil))))
      (pss_cons (ps_for PassesOwn.never rfl (pi_keys (pe_frz (pe_f h_factors_of hr (by decide) (by rfl) (pa_cons (pv 1) (pa_cons (pv 13) pa_nil))))) (pg_name (i := 9) nd rfl (Or.inl rfl)) (pss_one (ps_set (i := 14) nd rfl (Or.inl rfl) (pe_op op_mul (pv 14) pe_int))))
      (pss_one (ps_ret (pe_cmpR op_eq (pv 14) (pe_f h_free_many hr (by decide) (by rfl) (pa_cons (pv 1) (pa_cons (pv 13) pa_nil))) (nomark _))))))))))))))))))), fun a => ss_law_right⟩)
abbrev s_law : Stmt := topS 75
abbrev n_law : List Str := ["script", "draw", "lap"]
theorem sc_law : FnScope ["script", "draw", "lap"] ["script"] (defScope s_law) := ⟨rfl, rfl, rfl, by decide +kernel, rfl, by decide +kernel, by decide +kernel⟩
theorem ok_law {f : Addr} {fd : FuncData} (F : L2.Fun K "law" "law" s_law f fd) (h_law_begun : Fk P w K mg base "_law_begun" ["script"] 1 (spBegun K)) (h_law_right : Fk P w K mg base "_law_right" ["draw"] 7 (spD K rel_law_right)) (h_square_symbol : Fk P w K mg base "square_symbol" ["base", "above", "below"] 5 (spR K rel_square_symbol)) (h_root_of : Fk P w K mg base "root_of" ["base", "number", "prime"] 6 (spR K rel_root_of)) (b_range : mg "range" = none) (b_min : mg "min" = none) (b_len : mg "len" = none) : FnOk P w K mg base CX0 8 f fd ["script"] (spLaw K) :=
  by
  have nd := sc_law.nd
  exact okx_law F sc_law rfl (fun cdv A outer s H E hr => ((pss_cons (ps_set (i := 1) nd rfl (Or.inl rfl) (pe_f h_law_begun hr (by decide) (by rfl) (pa_cons (pv 0) pa_nil)))
      (pss_cons (ps_for PassesOwn.never rfl (pi_range1 (by rfl) b_range (pa_cons (pe_op op_add pe_int (pe_callB (call_min2 rfl) (by rfl) b_min (by decide +kernel) (pa_cons (pe_callB call_len_seq (by rfl) b_len PySem.boot_len (pa_cons (pv 0) pa_nil)) (pa_cons pe_int pa_nil)))) pa_nil)) (pg_name (i := 2) nd rfl (Or.inl rfl)) (pss_one (ps_if (pt_not (pt_val (pe_f h_law_right hr (by decide) (by rfl) (pa_cons (pv 1) pa_nil)))) (pss_one (ps_ret pe_bl)) pss_nil)))
      (pss_one (ps_ret (pe_and (pe_cmpR op_eq (pe_f h_square_symbol hr (by decide) (by rfl) (pa_cons pe_int (pa_cons pe_int (pa_cons pe_int pa_nil)))) pe_int (nomark _)) (pe_and (pe_cmpR op_eq (pe_f h_root_of hr (by decide) (by rfl) (pa_cons pe_int (pa_cons pe_int (pa_cons pe_int pa_nil)))) pe_int (nomark _)) (pe_and (pe_cmpR op_eq (pe_f h_square_symbol hr (by decide) (by rfl) (pa_cons pe_int (pa_cons pe_int (pa_cons pe_int pa_nil)))) pe_int (nomark _)) (pe_one (pe_cmpR op_eq (pe_f h_square_symbol hr (by decide) (by rfl) (pa_cons pe_int (pa_cons pe_int (pa_cons pe_int pa_nil)))) (pe_un un_neg pe_int) (nomark _))))))))))))
end
theorem all_mk {l : PySem.W.OpenLaw} {w : World} {K : PySem.W.Frag} {h : Heap} {mg : Str → Option Value} {fa : Addr} (X : K.In h) (G : h.Ns mainGlobals mg) (hfa : mg "law" = some (.ref fa))
    {f_is_whole : Addr} {od_is_whole an_is_whole : Option Addr} {sl_is_whole : Array (Option Value)} {oc_is_whole kV_is_whole dc_is_whole pm_is_whole cd_is_whole ct_is_whole : Value} {f_is_within : Addr} {od_is_within an_is_within : Option Addr} {sl_is_within : Array (Option Value)} {oc_is_within kV_is_within dc_is_within pm_is_within cd_is_within ct_is_within : Value} {f_need_base : Addr} {od_need_base an_need_base : Option Addr} {sl_need_base : Array (Option Value)} {oc_need_base kV_need_base dc_need_base pm_need_base cd_need_base ct_need_base : Value} {f_need_as : Addr} {od_need_as an_need_as : Option Addr} {sl_need_as : Array (Option Value)} {oc_need_as kV_need_as dc_need_as pm_need_as cd_need_as ct_need_as : Value} {f_trimmed : Addr} {od_trimmed an_trimmed : Option Addr} {sl_trimmed : Array (Option Value)} {oc_trimmed kV_trimmed dc_trimmed pm_trimmed cd_trimmed ct_trimmed : Value} {f_row_of : Addr} {od_row_of an_row_of : Option Addr} {sl_row_of : Array (Option Value)} {oc_row_of kV_row_of dc_row_of pm_row_of cd_row_of ct_row_of : Value} {f_number_by : Addr} {od_number_by an_number_by : Option Addr} {sl_number_by : Array (Option Value)} {oc_number_by kV_number_by dc_number_by pm_number_by cd_number_by ct_number_by : Value} {f_plain_row : Addr} {od_plain_row an_plain_row : Option Addr} {sl_plain_row : Array (Option Value)} {oc_plain_row kV_plain_row dc_plain_row pm_plain_row cd_plain_row ct_plain_row : Value} {f_plain_of : Addr} {od_plain_of an_plain_of : Option Addr} {sl_plain_of : Array (Option Value)} {oc_plain_of kV_plain_of dc_plain_of pm_plain_of cd_plain_of ct_plain_of : Value} {f_times_rows : Addr} {od_times_rows an_times_rows : Option Addr} {sl_times_rows : Array (Option Value)} {oc_times_rows kV_times_rows dc_times_rows pm_times_rows cd_times_rows ct_times_rows : Value} {f_divided_rows : Addr} {od_divided_rows an_divided_rows : Option Addr} {sl_divided_rows : Array (Option Value)} {oc_divided_rows kV_divided_rows dc_divided_rows pm_divided_rows cd_divided_rows ct_divided_rows : Value} {f_need_two : Addr} {od_need_two an_need_two : Option Addr} {sl_need_two : Array (Option Value)} {oc_need_two kV_need_two dc_need_two pm_need_two cd_need_two ct_need_two : Value} {f_product_of : Addr} {od_product_of an_product_of : Option Addr} {sl_product_of : Array (Option Value)} {oc_product_of kV_product_of dc_product_of pm_product_of cd_product_of ct_product_of : Value} {f_quotient_of : Addr} {od_quotient_of an_quotient_of : Option Addr} {sl_quotient_of : Array (Option Value)} {oc_quotient_of kV_quotient_of dc_quotient_of pm_quotient_of cd_quotient_of ct_quotient_of : Value} {f_powered : Addr} {od_powered an_powered : Option Addr} {sl_powered : Array (Option Value)} {oc_powered kV_powered dc_powered pm_powered cd_powered ct_powered : Value} {f_plain_rows : Addr} {od_plain_rows an_plain_rows : Option Addr} {sl_plain_rows : Array (Option Value)} {oc_plain_rows kV_plain_rows dc_plain_rows pm_plain_rows cd_plain_rows ct_plain_rows : Value} {f_is_prime_row : Addr} {od_is_prime_row an_is_prime_row : Option Addr} {sl_is_prime_row : Array (Option Value)} {oc_is_prime_row kV_is_prime_row dc_is_prime_row pm_is_prime_row cd_is_prime_row ct_is_prime_row : Value} {f_is_prime_number : Addr} {od_is_prime_number an_is_prime_number : Option Addr} {sl_is_prime_number : Array (Option Value)} {oc_is_prime_number kV_is_prime_number dc_is_prime_number pm_is_prime_number cd_is_prime_number ct_is_prime_number : Value} {f_need_prime : Addr} {od_need_prime an_need_prime : Option Addr} {sl_need_prime : Array (Option Value)} {oc_need_prime kV_need_prime dc_need_prime pm_need_prime cd_need_prime ct_need_prime : Value} {f_factors_by : Addr} {od_factors_by an_factors_by : Option Addr} {sl_factors_by : Array (Option Value)} {oc_factors_by kV_factors_by dc_factors_by pm_factors_by cd_factors_by ct_factors_by : Value} {f_common_rows : Addr} {od_common_rows an_common_rows : Option Addr} {sl_common_rows : Array (Option Value)} {oc_common_rows kV_common_rows dc_common_rows pm_common_rows cd_common_rows ct_common_rows : Value} {f_free_by : Addr} {od_free_by an_free_by : Option Addr} {sl_free_by : Array (Option Value)} {oc_free_by kV_free_by dc_free_by pm_free_by cd_free_by ct_free_by : Value} {f_factors_of : Addr} {od_factors_of an_factors_of : Option Addr} {sl_factors_of : Array (Option Value)} {oc_factors_of kV_factors_of dc_factors_of pm_factors_of cd_factors_of ct_factors_of : Value} {f_free_many : Addr} {od_free_many an_free_many : Option Addr} {sl_free_many : Array (Option Value)} {oc_free_many kV_free_many dc_free_many pm_free_many cd_free_many ct_free_many : Value} {f_need_modulus : Addr} {od_need_modulus an_need_modulus : Option Addr} {sl_need_modulus : Array (Option Value)} {oc_need_modulus kV_need_modulus dc_need_modulus pm_need_modulus cd_need_modulus ct_need_modulus : Value} {f_need_odd_base : Addr} {od_need_odd_base an_need_odd_base : Option Addr} {sl_need_odd_base : Array (Option Value)} {oc_need_odd_base kV_need_odd_base dc_need_odd_base pm_need_odd_base cd_need_odd_base ct_need_odd_base : Value} {f_power_rest : Addr} {od_power_rest an_power_rest : Option Addr} {sl_power_rest : Array (Option Value)} {oc_power_rest kV_power_rest dc_power_rest pm_power_rest cd_power_rest ct_power_rest : Value} {f_symbol_by : Addr} {od_symbol_by an_symbol_by : Option Addr} {sl_symbol_by : Array (Option Value)} {oc_symbol_by kV_symbol_by dc_symbol_by pm_symbol_by cd_symbol_by ct_symbol_by : Value} {f_need_sides : Addr} {od_need_sides an_need_sides : Option Addr} {sl_need_sides : Array (Option Value)} {oc_need_sides kV_need_sides dc_need_sides pm_need_sides cd_need_sides ct_need_sides : Value} {f_square_symbol : Addr} {od_square_symbol an_square_symbol : Option Addr} {sl_square_symbol : Array (Option Value)} {oc_square_symbol kV_square_symbol dc_square_symbol pm_square_symbol cd_square_symbol ct_square_symbol : Value} {f_rests_of : Addr} {od_rests_of an_rests_of : Option Addr} {sl_rests_of : Array (Option Value)} {oc_rests_of kV_rests_of dc_rests_of pm_rests_of cd_rests_of ct_rests_of : Value} {f_square_rest : Addr} {od_square_rest an_square_rest : Option Addr} {sl_square_rest : Array (Option Value)} {oc_square_rest kV_square_rest dc_square_rest pm_square_rest cd_square_rest ct_square_rest : Value} {f_root_of : Addr} {od_root_of an_root_of : Option Addr} {sl_root_of : Array (Option Value)} {oc_root_of kV_root_of dc_root_of pm_root_of cd_root_of ct_root_of : Value} {f_squares_many : Addr} {od_squares_many an_squares_many : Option Addr} {sl_squares_many : Array (Option Value)} {oc_squares_many kV_squares_many dc_squares_many pm_squares_many cd_squares_many ct_squares_many : Value} {f_law_begun : Addr} {od_law_begun an_law_begun : Option Addr} {sl_law_begun : Array (Option Value)} {oc_law_begun kV_law_begun dc_law_begun pm_law_begun cd_law_begun ct_law_begun : Value} {f_law_mixed : Addr} {od_law_mixed an_law_mixed : Option Addr} {sl_law_mixed : Array (Option Value)} {oc_law_mixed kV_law_mixed dc_law_mixed pm_law_mixed cd_law_mixed ct_law_mixed : Value} {f_law_take : Addr} {od_law_take an_law_take : Option Addr} {sl_law_take : Array (Option Value)} {oc_law_take kV_law_take dc_law_take pm_law_take cd_law_take ct_law_take : Value} {f_law_pick : Addr} {od_law_pick an_law_pick : Option Addr} {sl_law_pick : Array (Option Value)} {oc_law_pick kV_law_pick dc_law_pick pm_law_pick cd_law_pick ct_law_pick : Value} {f_law_row : Addr} {od_law_row an_law_row : Option Addr} {sl_law_row : Array (Option Value)} {oc_law_row kV_law_row dc_law_row pm_law_row cd_law_row ct_law_row : Value} {f_law_worth : Addr} {od_law_worth an_law_worth : Option Addr} {sl_law_worth : Array (Option Value)} {oc_law_worth kV_law_worth dc_law_worth pm_law_worth cd_law_worth ct_law_worth : Value} {f_law_cut : Addr} {od_law_cut an_law_cut : Option Addr} {sl_law_cut : Array (Option Value)} {oc_law_cut kV_law_cut dc_law_cut pm_law_cut cd_law_cut ct_law_cut : Value} {f_law_times : Addr} {od_law_times an_law_times : Option Addr} {sl_law_times : Array (Option Value)} {oc_law_times kV_law_times dc_law_times pm_law_times cd_law_times ct_law_times : Value} {f_law_divided : Addr} {od_law_divided an_law_divided : Option Addr} {sl_law_divided : Array (Option Value)} {oc_law_divided kV_law_divided dc_law_divided pm_law_divided cd_law_divided ct_law_divided : Value} {f_law_plain : Addr} {od_law_plain an_law_plain : Option Addr} {sl_law_plain : Array (Option Value)} {oc_law_plain kV_law_plain dc_law_plain pm_law_plain cd_law_plain ct_law_plain : Value} {f_law_power : Addr} {od_law_power an_law_power : Option Addr} {sl_law_power : Array (Option Value)} {oc_law_power kV_law_power dc_law_power pm_law_power cd_law_power ct_law_power : Value} {f_law_factors : Addr} {od_law_factors an_law_factors : Option Addr} {sl_law_factors : Array (Option Value)} {oc_law_factors kV_law_factors dc_law_factors pm_law_factors cd_law_factors ct_law_factors : Value} {f_law_is_prime : Addr} {od_law_is_prime an_law_is_prime : Option Addr} {sl_law_is_prime : Array (Option Value)} {oc_law_is_prime kV_law_is_prime dc_law_is_prime pm_law_is_prime cd_law_is_prime ct_law_is_prime : Value} {f_law_prime : Addr} {od_law_prime an_law_prime : Option Addr} {sl_law_prime : Array (Option Value)} {oc_law_prime kV_law_prime dc_law_prime pm_law_prime cd_law_prime ct_law_prime : Value} {f_law_modulus : Addr} {od_law_modulus an_law_modulus : Option Addr} {sl_law_modulus : Array (Option Value)} {oc_law_modulus kV_law_modulus dc_law_modulus pm_law_modulus cd_law_modulus ct_law_modulus : Value} {f_law_symbol_by_squares : Addr} {od_law_symbol_by_squares an_law_symbol_by_squares : Option Addr} {sl_law_symbol_by_squares : Array (Option Value)} {oc_law_symbol_by_squares kV_law_symbol_by_squares dc_law_symbol_by_squares pm_law_symbol_by_squares cd_law_symbol_by_squares ct_law_symbol_by_squares : Value} {f_law_right : Addr} {od_law_right an_law_right : Option Addr} {sl_law_right : Array (Option Value)} {oc_law_right kV_law_right dc_law_right pm_law_right cd_law_right ct_law_right : Value} {f_law : Addr} {od_law an_law : Option Addr} {sl_law : Array (Option Value)} {oc_law kV_law dc_law pm_law cd_law ct_law : Value} {g_BASES : Addr} {od_BASES : Option Addr} {n_BASES : Nat} {sl_BASES : Array (Option Value)} {t0_BASES t1_BASES t2_BASES : Tok} {t_MOST : Tok} {t_MOST_TRIED : Tok}
    (a_is_whole : PySem.W.nsIn K mainGlobals "is_whole" = some (some (.ref f_is_whole))) (l_is_whole : K.lookup f_is_whole = some ⟨oc_is_whole, od_is_whole, .func (PySem.W.fnOf "is_whole" "is_whole" (defArgs s_is_whole) (defBody s_is_whole) (defScope s_is_whole) .none kV_is_whole dc_is_whole pm_is_whole an_is_whole cd_is_whole ct_is_whole), sl_is_whole⟩) (c_is_whole : PySem.W.codeIn K cd_is_whole "is_whole" = true) (k_is_whole : PySem.W.keepIn K (.ref f_is_whole) = true)
    (a_is_within : PySem.W.nsIn K mainGlobals "is_within" = some (some (.ref f_is_within))) (l_is_within : K.lookup f_is_within = some ⟨oc_is_within, od_is_within, .func (PySem.W.fnOf "is_within" "is_within" (defArgs s_is_within) (defBody s_is_within) (defScope s_is_within) .none kV_is_within dc_is_within pm_is_within an_is_within cd_is_within ct_is_within), sl_is_within⟩) (c_is_within : PySem.W.codeIn K cd_is_within "is_within" = true) (k_is_within : PySem.W.keepIn K (.ref f_is_within) = true)
    (a_need_base : PySem.W.nsIn K mainGlobals "need_base" = some (some (.ref f_need_base))) (l_need_base : K.lookup f_need_base = some ⟨oc_need_base, od_need_base, .func (PySem.W.fnOf "need_base" "need_base" (defArgs s_need_base) (defBody s_need_base) (defScope s_need_base) .none kV_need_base dc_need_base pm_need_base an_need_base cd_need_base ct_need_base), sl_need_base⟩) (c_need_base : PySem.W.codeIn K cd_need_base "need_base" = true) (k_need_base : PySem.W.keepIn K (.ref f_need_base) = true)
    (a_need_as : PySem.W.nsIn K mainGlobals "need_as" = some (some (.ref f_need_as))) (l_need_as : K.lookup f_need_as = some ⟨oc_need_as, od_need_as, .func (PySem.W.fnOf "need_as" "need_as" (defArgs s_need_as) (defBody s_need_as) (defScope s_need_as) .none kV_need_as dc_need_as pm_need_as an_need_as cd_need_as ct_need_as), sl_need_as⟩) (c_need_as : PySem.W.codeIn K cd_need_as "need_as" = true) (k_need_as : PySem.W.keepIn K (.ref f_need_as) = true)
    (a_trimmed : PySem.W.nsIn K mainGlobals "trimmed" = some (some (.ref f_trimmed))) (l_trimmed : K.lookup f_trimmed = some ⟨oc_trimmed, od_trimmed, .func (PySem.W.fnOf "trimmed" "trimmed" (defArgs s_trimmed) (defBody s_trimmed) (defScope s_trimmed) .none kV_trimmed dc_trimmed pm_trimmed an_trimmed cd_trimmed ct_trimmed), sl_trimmed⟩) (c_trimmed : PySem.W.codeIn K cd_trimmed "trimmed" = true) (k_trimmed : PySem.W.keepIn K (.ref f_trimmed) = true)
    (a_row_of : PySem.W.nsIn K mainGlobals "row_of" = some (some (.ref f_row_of))) (l_row_of : K.lookup f_row_of = some ⟨oc_row_of, od_row_of, .func (PySem.W.fnOf "row_of" "row_of" (defArgs s_row_of) (defBody s_row_of) (defScope s_row_of) .none kV_row_of dc_row_of pm_row_of an_row_of cd_row_of ct_row_of), sl_row_of⟩) (c_row_of : PySem.W.codeIn K cd_row_of "row_of" = true) (k_row_of : PySem.W.keepIn K (.ref f_row_of) = true)
    (a_number_by : PySem.W.nsIn K mainGlobals "number_by" = some (some (.ref f_number_by))) (l_number_by : K.lookup f_number_by = some ⟨oc_number_by, od_number_by, .func (PySem.W.fnOf "number_by" "number_by" (defArgs s_number_by) (defBody s_number_by) (defScope s_number_by) .none kV_number_by dc_number_by pm_number_by an_number_by cd_number_by ct_number_by), sl_number_by⟩) (c_number_by : PySem.W.codeIn K cd_number_by "number_by" = true) (k_number_by : PySem.W.keepIn K (.ref f_number_by) = true)
    (a_plain_row : PySem.W.nsIn K mainGlobals "plain_row" = some (some (.ref f_plain_row))) (l_plain_row : K.lookup f_plain_row = some ⟨oc_plain_row, od_plain_row, .func (PySem.W.fnOf "plain_row" "plain_row" (defArgs s_plain_row) (defBody s_plain_row) (defScope s_plain_row) .none kV_plain_row dc_plain_row pm_plain_row an_plain_row cd_plain_row ct_plain_row), sl_plain_row⟩) (c_plain_row : PySem.W.codeIn K cd_plain_row "plain_row" = true) (k_plain_row : PySem.W.keepIn K (.ref f_plain_row) = true)
    (a_plain_of : PySem.W.nsIn K mainGlobals "plain_of" = some (some (.ref f_plain_of))) (l_plain_of : K.lookup f_plain_of = some ⟨oc_plain_of, od_plain_of, .func (PySem.W.fnOf "plain_of" "plain_of" (defArgs s_plain_of) (defBody s_plain_of) (defScope s_plain_of) .none kV_plain_of dc_plain_of pm_plain_of an_plain_of cd_plain_of ct_plain_of), sl_plain_of⟩) (c_plain_of : PySem.W.codeIn K cd_plain_of "plain_of" = true) (k_plain_of : PySem.W.keepIn K (.ref f_plain_of) = true)
    (a_times_rows : PySem.W.nsIn K mainGlobals "times_rows" = some (some (.ref f_times_rows))) (l_times_rows : K.lookup f_times_rows = some ⟨oc_times_rows, od_times_rows, .func (PySem.W.fnOf "times_rows" "times_rows" (defArgs s_times_rows) (defBody s_times_rows) (defScope s_times_rows) .none kV_times_rows dc_times_rows pm_times_rows an_times_rows cd_times_rows ct_times_rows), sl_times_rows⟩) (c_times_rows : PySem.W.codeIn K cd_times_rows "times_rows" = true) (k_times_rows : PySem.W.keepIn K (.ref f_times_rows) = true)
    (a_divided_rows : PySem.W.nsIn K mainGlobals "divided_rows" = some (some (.ref f_divided_rows))) (l_divided_rows : K.lookup f_divided_rows = some ⟨oc_divided_rows, od_divided_rows, .func (PySem.W.fnOf "divided_rows" "divided_rows" (defArgs s_divided_rows) (defBody s_divided_rows) (defScope s_divided_rows) .none kV_divided_rows dc_divided_rows pm_divided_rows an_divided_rows cd_divided_rows ct_divided_rows), sl_divided_rows⟩) (c_divided_rows : PySem.W.codeIn K cd_divided_rows "divided_rows" = true) (k_divided_rows : PySem.W.keepIn K (.ref f_divided_rows) = true)
    (a_need_two : PySem.W.nsIn K mainGlobals "need_two" = some (some (.ref f_need_two))) (l_need_two : K.lookup f_need_two = some ⟨oc_need_two, od_need_two, .func (PySem.W.fnOf "need_two" "need_two" (defArgs s_need_two) (defBody s_need_two) (defScope s_need_two) .none kV_need_two dc_need_two pm_need_two an_need_two cd_need_two ct_need_two), sl_need_two⟩) (c_need_two : PySem.W.codeIn K cd_need_two "need_two" = true) (k_need_two : PySem.W.keepIn K (.ref f_need_two) = true)
    (a_product_of : PySem.W.nsIn K mainGlobals "product_of" = some (some (.ref f_product_of))) (l_product_of : K.lookup f_product_of = some ⟨oc_product_of, od_product_of, .func (PySem.W.fnOf "product_of" "product_of" (defArgs s_product_of) (defBody s_product_of) (defScope s_product_of) .none kV_product_of dc_product_of pm_product_of an_product_of cd_product_of ct_product_of), sl_product_of⟩) (c_product_of : PySem.W.codeIn K cd_product_of "product_of" = true) (k_product_of : PySem.W.keepIn K (.ref f_product_of) = true)
    (a_quotient_of : PySem.W.nsIn K mainGlobals "quotient_of" = some (some (.ref f_quotient_of))) (l_quotient_of : K.lookup f_quotient_of = some ⟨oc_quotient_of, od_quotient_of, .func (PySem.W.fnOf "quotient_of" "quotient_of" (defArgs s_quotient_of) (defBody s_quotient_of) (defScope s_quotient_of) .none kV_quotient_of dc_quotient_of pm_quotient_of an_quotient_of cd_quotient_of ct_quotient_of), sl_quotient_of⟩) (c_quotient_of : PySem.W.codeIn K cd_quotient_of "quotient_of" = true) (k_quotient_of : PySem.W.keepIn K (.ref f_quotient_of) = true)
    (a_powered : PySem.W.nsIn K mainGlobals "powered" = some (some (.ref f_powered))) (l_powered : K.lookup f_powered = some ⟨oc_powered, od_powered, .func (PySem.W.fnOf "powered" "powered" (defArgs s_powered) (defBody s_powered) (defScope s_powered) .none kV_powered dc_powered pm_powered an_powered cd_powered ct_powered), sl_powered⟩) (c_powered : PySem.W.codeIn K cd_powered "powered" = true) (k_powered : PySem.W.keepIn K (.ref f_powered) = true)
    (a_plain_rows : PySem.W.nsIn K mainGlobals "plain_rows" = some (some (.ref f_plain_rows))) (l_plain_rows : K.lookup f_plain_rows = some ⟨oc_plain_rows, od_plain_rows, .func (PySem.W.fnOf "plain_rows" "plain_rows" (defArgs s_plain_rows) (defBody s_plain_rows) (defScope s_plain_rows) .none kV_plain_rows dc_plain_rows pm_plain_rows an_plain_rows cd_plain_rows ct_plain_rows), sl_plain_rows⟩) (c_plain_rows : PySem.W.codeIn K cd_plain_rows "plain_rows" = true) (k_plain_rows : PySem.W.keepIn K (.ref f_plain_rows) = true)
    (a_is_prime_row : PySem.W.nsIn K mainGlobals "is_prime_row" = some (some (.ref f_is_prime_row))) (l_is_prime_row : K.lookup f_is_prime_row = some ⟨oc_is_prime_row, od_is_prime_row, .func (PySem.W.fnOf "is_prime_row" "is_prime_row" (defArgs s_is_prime_row) (defBody s_is_prime_row) (defScope s_is_prime_row) .none kV_is_prime_row dc_is_prime_row pm_is_prime_row an_is_prime_row cd_is_prime_row ct_is_prime_row), sl_is_prime_row⟩) (c_is_prime_row : PySem.W.codeIn K cd_is_prime_row "is_prime_row" = true) (k_is_prime_row : PySem.W.keepIn K (.ref f_is_prime_row) = true)
    (a_is_prime_number : PySem.W.nsIn K mainGlobals "is_prime_number" = some (some (.ref f_is_prime_number))) (l_is_prime_number : K.lookup f_is_prime_number = some ⟨oc_is_prime_number, od_is_prime_number, .func (PySem.W.fnOf "is_prime_number" "is_prime_number" (defArgs s_is_prime_number) (defBody s_is_prime_number) (defScope s_is_prime_number) .none kV_is_prime_number dc_is_prime_number pm_is_prime_number an_is_prime_number cd_is_prime_number ct_is_prime_number), sl_is_prime_number⟩) (c_is_prime_number : PySem.W.codeIn K cd_is_prime_number "is_prime_number" = true) (k_is_prime_number : PySem.W.keepIn K (.ref f_is_prime_number) = true)
    (a_need_prime : PySem.W.nsIn K mainGlobals "need_prime" = some (some (.ref f_need_prime))) (l_need_prime : K.lookup f_need_prime = some ⟨oc_need_prime, od_need_prime, .func (PySem.W.fnOf "need_prime" "need_prime" (defArgs s_need_prime) (defBody s_need_prime) (defScope s_need_prime) .none kV_need_prime dc_need_prime pm_need_prime an_need_prime cd_need_prime ct_need_prime), sl_need_prime⟩) (c_need_prime : PySem.W.codeIn K cd_need_prime "need_prime" = true) (k_need_prime : PySem.W.keepIn K (.ref f_need_prime) = true)
    (a_factors_by : PySem.W.nsIn K mainGlobals "factors_by" = some (some (.ref f_factors_by))) (l_factors_by : K.lookup f_factors_by = some ⟨oc_factors_by, od_factors_by, .func (PySem.W.fnOf "factors_by" "factors_by" (defArgs s_factors_by) (defBody s_factors_by) (defScope s_factors_by) .none kV_factors_by dc_factors_by pm_factors_by an_factors_by cd_factors_by ct_factors_by), sl_factors_by⟩) (c_factors_by : PySem.W.codeIn K cd_factors_by "factors_by" = true) (k_factors_by : PySem.W.keepIn K (.ref f_factors_by) = true)
    (a_common_rows : PySem.W.nsIn K mainGlobals "common_rows" = some (some (.ref f_common_rows))) (l_common_rows : K.lookup f_common_rows = some ⟨oc_common_rows, od_common_rows, .func (PySem.W.fnOf "common_rows" "common_rows" (defArgs s_common_rows) (defBody s_common_rows) (defScope s_common_rows) .none kV_common_rows dc_common_rows pm_common_rows an_common_rows cd_common_rows ct_common_rows), sl_common_rows⟩) (c_common_rows : PySem.W.codeIn K cd_common_rows "common_rows" = true) (k_common_rows : PySem.W.keepIn K (.ref f_common_rows) = true)
    (a_free_by : PySem.W.nsIn K mainGlobals "free_by" = some (some (.ref f_free_by))) (l_free_by : K.lookup f_free_by = some ⟨oc_free_by, od_free_by, .func (PySem.W.fnOf "free_by" "free_by" (defArgs s_free_by) (defBody s_free_by) (defScope s_free_by) .none kV_free_by dc_free_by pm_free_by an_free_by cd_free_by ct_free_by), sl_free_by⟩) (c_free_by : PySem.W.codeIn K cd_free_by "free_by" = true) (k_free_by : PySem.W.keepIn K (.ref f_free_by) = true)
    (a_factors_of : PySem.W.nsIn K mainGlobals "factors_of" = some (some (.ref f_factors_of))) (l_factors_of : K.lookup f_factors_of = some ⟨oc_factors_of, od_factors_of, .func (PySem.W.fnOf "factors_of" "factors_of" (defArgs s_factors_of) (defBody s_factors_of) (defScope s_factors_of) .none kV_factors_of dc_factors_of pm_factors_of an_factors_of cd_factors_of ct_factors_of), sl_factors_of⟩) (c_factors_of : PySem.W.codeIn K cd_factors_of "factors_of" = true) (k_factors_of : PySem.W.keepIn K (.ref f_factors_of) = true)
    (a_free_many : PySem.W.nsIn K mainGlobals "free_many" = some (some (.ref f_free_many))) (l_free_many : K.lookup f_free_many = some ⟨oc_free_many, od_free_many, .func (PySem.W.fnOf "free_many" "free_many" (defArgs s_free_many) (defBody s_free_many) (defScope s_free_many) .none kV_free_many dc_free_many pm_free_many an_free_many cd_free_many ct_free_many), sl_free_many⟩) (c_free_many : PySem.W.codeIn K cd_free_many "free_many" = true) (k_free_many : PySem.W.keepIn K (.ref f_free_many) = true)
    (a_need_modulus : PySem.W.nsIn K mainGlobals "need_modulus" = some (some (.ref f_need_modulus))) (l_need_modulus : K.lookup f_need_modulus = some ⟨oc_need_modulus, od_need_modulus, .func (PySem.W.fnOf "need_modulus" "need_modulus" (defArgs s_need_modulus) (defBody s_need_modulus) (defScope s_need_modulus) .none kV_need_modulus dc_need_modulus pm_need_modulus an_need_modulus cd_need_modulus ct_need_modulus), sl_need_modulus⟩) (c_need_modulus : PySem.W.codeIn K cd_need_modulus "need_modulus" = true) (k_need_modulus : PySem.W.keepIn K (.ref f_need_modulus) = true)
    (a_need_odd_base : PySem.W.nsIn K mainGlobals "need_odd_base" = some (some (.ref f_need_odd_base))) (l_need_odd_base : K.lookup f_need_odd_base = some ⟨oc_need_odd_base, od_need_odd_base, .func (PySem.W.fnOf "need_odd_base" "need_odd_base" (defArgs s_need_odd_base) (defBody s_need_odd_base) (defScope s_need_odd_base) .none kV_need_odd_base dc_need_odd_base pm_need_odd_base an_need_odd_base cd_need_odd_base ct_need_odd_base), sl_need_odd_base⟩) (c_need_odd_base : PySem.W.codeIn K cd_need_odd_base "need_odd_base" = true) (k_need_odd_base : PySem.W.keepIn K (.ref f_need_odd_base) = true)
    (a_power_rest : PySem.W.nsIn K mainGlobals "power_rest" = some (some (.ref f_power_rest))) (l_power_rest : K.lookup f_power_rest = some ⟨oc_power_rest, od_power_rest, .func (PySem.W.fnOf "power_rest" "power_rest" (defArgs s_power_rest) (defBody s_power_rest) (defScope s_power_rest) .none kV_power_rest dc_power_rest pm_power_rest an_power_rest cd_power_rest ct_power_rest), sl_power_rest⟩) (c_power_rest : PySem.W.codeIn K cd_power_rest "power_rest" = true) (k_power_rest : PySem.W.keepIn K (.ref f_power_rest) = true)
    (a_symbol_by : PySem.W.nsIn K mainGlobals "symbol_by" = some (some (.ref f_symbol_by))) (l_symbol_by : K.lookup f_symbol_by = some ⟨oc_symbol_by, od_symbol_by, .func (PySem.W.fnOf "symbol_by" "symbol_by" (defArgs s_symbol_by) (defBody s_symbol_by) (defScope s_symbol_by) .none kV_symbol_by dc_symbol_by pm_symbol_by an_symbol_by cd_symbol_by ct_symbol_by), sl_symbol_by⟩) (c_symbol_by : PySem.W.codeIn K cd_symbol_by "symbol_by" = true) (k_symbol_by : PySem.W.keepIn K (.ref f_symbol_by) = true)
    (a_need_sides : PySem.W.nsIn K mainGlobals "need_sides" = some (some (.ref f_need_sides))) (l_need_sides : K.lookup f_need_sides = some ⟨oc_need_sides, od_need_sides, .func (PySem.W.fnOf "need_sides" "need_sides" (defArgs s_need_sides) (defBody s_need_sides) (defScope s_need_sides) .none kV_need_sides dc_need_sides pm_need_sides an_need_sides cd_need_sides ct_need_sides), sl_need_sides⟩) (c_need_sides : PySem.W.codeIn K cd_need_sides "need_sides" = true) (k_need_sides : PySem.W.keepIn K (.ref f_need_sides) = true)
    (a_square_symbol : PySem.W.nsIn K mainGlobals "square_symbol" = some (some (.ref f_square_symbol))) (l_square_symbol : K.lookup f_square_symbol = some ⟨oc_square_symbol, od_square_symbol, .func (PySem.W.fnOf "square_symbol" "square_symbol" (defArgs s_square_symbol) (defBody s_square_symbol) (defScope s_square_symbol) .none kV_square_symbol dc_square_symbol pm_square_symbol an_square_symbol cd_square_symbol ct_square_symbol), sl_square_symbol⟩) (c_square_symbol : PySem.W.codeIn K cd_square_symbol "square_symbol" = true) (k_square_symbol : PySem.W.keepIn K (.ref f_square_symbol) = true)
    (a_rests_of : PySem.W.nsIn K mainGlobals "rests_of" = some (some (.ref f_rests_of))) (l_rests_of : K.lookup f_rests_of = some ⟨oc_rests_of, od_rests_of, .func (PySem.W.fnOf "rests_of" "rests_of" (defArgs s_rests_of) (defBody s_rests_of) (defScope s_rests_of) .none kV_rests_of dc_rests_of pm_rests_of an_rests_of cd_rests_of ct_rests_of), sl_rests_of⟩) (c_rests_of : PySem.W.codeIn K cd_rests_of "rests_of" = true) (k_rests_of : PySem.W.keepIn K (.ref f_rests_of) = true)
    (a_square_rest : PySem.W.nsIn K mainGlobals "square_rest" = some (some (.ref f_square_rest))) (l_square_rest : K.lookup f_square_rest = some ⟨oc_square_rest, od_square_rest, .func (PySem.W.fnOf "square_rest" "square_rest" (defArgs s_square_rest) (defBody s_square_rest) (defScope s_square_rest) .none kV_square_rest dc_square_rest pm_square_rest an_square_rest cd_square_rest ct_square_rest), sl_square_rest⟩) (c_square_rest : PySem.W.codeIn K cd_square_rest "square_rest" = true) (k_square_rest : PySem.W.keepIn K (.ref f_square_rest) = true)
    (a_root_of : PySem.W.nsIn K mainGlobals "root_of" = some (some (.ref f_root_of))) (l_root_of : K.lookup f_root_of = some ⟨oc_root_of, od_root_of, .func (PySem.W.fnOf "root_of" "root_of" (defArgs s_root_of) (defBody s_root_of) (defScope s_root_of) .none kV_root_of dc_root_of pm_root_of an_root_of cd_root_of ct_root_of), sl_root_of⟩) (c_root_of : PySem.W.codeIn K cd_root_of "root_of" = true) (k_root_of : PySem.W.keepIn K (.ref f_root_of) = true)
    (a_squares_many : PySem.W.nsIn K mainGlobals "squares_many" = some (some (.ref f_squares_many))) (l_squares_many : K.lookup f_squares_many = some ⟨oc_squares_many, od_squares_many, .func (PySem.W.fnOf "squares_many" "squares_many" (defArgs s_squares_many) (defBody s_squares_many) (defScope s_squares_many) .none kV_squares_many dc_squares_many pm_squares_many an_squares_many cd_squares_many ct_squares_many), sl_squares_many⟩) (c_squares_many : PySem.W.codeIn K cd_squares_many "squares_many" = true) (k_squares_many : PySem.W.keepIn K (.ref f_squares_many) = true)
    (a_law_begun : PySem.W.nsIn K mainGlobals "_law_begun" = some (some (.ref f_law_begun))) (l_law_begun : K.lookup f_law_begun = some ⟨oc_law_begun, od_law_begun, .func (PySem.W.fnOf "_law_begun" "_law_begun" (defArgs s_law_begun) (defBody s_law_begun) (defScope s_law_begun) .none kV_law_begun dc_law_begun pm_law_begun an_law_begun cd_law_begun ct_law_begun), sl_law_begun⟩) (c_law_begun : PySem.W.codeIn K cd_law_begun "_law_begun" = true) (k_law_begun : PySem.W.keepIn K (.ref f_law_begun) = true)
    (a_law_mixed : PySem.W.nsIn K mainGlobals "_law_mixed" = some (some (.ref f_law_mixed))) (l_law_mixed : K.lookup f_law_mixed = some ⟨oc_law_mixed, od_law_mixed, .func (PySem.W.fnOf "_law_mixed" "_law_mixed" (defArgs s_law_mixed) (defBody s_law_mixed) (defScope s_law_mixed) .none kV_law_mixed dc_law_mixed pm_law_mixed an_law_mixed cd_law_mixed ct_law_mixed), sl_law_mixed⟩) (c_law_mixed : PySem.W.codeIn K cd_law_mixed "_law_mixed" = true) (k_law_mixed : PySem.W.keepIn K (.ref f_law_mixed) = true)
    (a_law_take : PySem.W.nsIn K mainGlobals "_law_take" = some (some (.ref f_law_take))) (l_law_take : K.lookup f_law_take = some ⟨oc_law_take, od_law_take, .func (PySem.W.fnOf "_law_take" "_law_take" (defArgs s_law_take) (defBody s_law_take) (defScope s_law_take) .none kV_law_take dc_law_take pm_law_take an_law_take cd_law_take ct_law_take), sl_law_take⟩) (c_law_take : PySem.W.codeIn K cd_law_take "_law_take" = true) (k_law_take : PySem.W.keepIn K (.ref f_law_take) = true)
    (a_law_pick : PySem.W.nsIn K mainGlobals "_law_pick" = some (some (.ref f_law_pick))) (l_law_pick : K.lookup f_law_pick = some ⟨oc_law_pick, od_law_pick, .func (PySem.W.fnOf "_law_pick" "_law_pick" (defArgs s_law_pick) (defBody s_law_pick) (defScope s_law_pick) .none kV_law_pick dc_law_pick pm_law_pick an_law_pick cd_law_pick ct_law_pick), sl_law_pick⟩) (c_law_pick : PySem.W.codeIn K cd_law_pick "_law_pick" = true) (k_law_pick : PySem.W.keepIn K (.ref f_law_pick) = true)
    (a_law_row : PySem.W.nsIn K mainGlobals "_law_row" = some (some (.ref f_law_row))) (l_law_row : K.lookup f_law_row = some ⟨oc_law_row, od_law_row, .func (PySem.W.fnOf "_law_row" "_law_row" (defArgs s_law_row) (defBody s_law_row) (defScope s_law_row) .none kV_law_row dc_law_row pm_law_row an_law_row cd_law_row ct_law_row), sl_law_row⟩) (c_law_row : PySem.W.codeIn K cd_law_row "_law_row" = true) (k_law_row : PySem.W.keepIn K (.ref f_law_row) = true)
    (a_law_worth : PySem.W.nsIn K mainGlobals "_law_worth" = some (some (.ref f_law_worth))) (l_law_worth : K.lookup f_law_worth = some ⟨oc_law_worth, od_law_worth, .func (PySem.W.fnOf "_law_worth" "_law_worth" (defArgs s_law_worth) (defBody s_law_worth) (defScope s_law_worth) .none kV_law_worth dc_law_worth pm_law_worth an_law_worth cd_law_worth ct_law_worth), sl_law_worth⟩) (c_law_worth : PySem.W.codeIn K cd_law_worth "_law_worth" = true) (k_law_worth : PySem.W.keepIn K (.ref f_law_worth) = true)
    (a_law_cut : PySem.W.nsIn K mainGlobals "_law_cut" = some (some (.ref f_law_cut))) (l_law_cut : K.lookup f_law_cut = some ⟨oc_law_cut, od_law_cut, .func (PySem.W.fnOf "_law_cut" "_law_cut" (defArgs s_law_cut) (defBody s_law_cut) (defScope s_law_cut) .none kV_law_cut dc_law_cut pm_law_cut an_law_cut cd_law_cut ct_law_cut), sl_law_cut⟩) (c_law_cut : PySem.W.codeIn K cd_law_cut "_law_cut" = true) (k_law_cut : PySem.W.keepIn K (.ref f_law_cut) = true)
    (a_law_times : PySem.W.nsIn K mainGlobals "_law_times" = some (some (.ref f_law_times))) (l_law_times : K.lookup f_law_times = some ⟨oc_law_times, od_law_times, .func (PySem.W.fnOf "_law_times" "_law_times" (defArgs s_law_times) (defBody s_law_times) (defScope s_law_times) .none kV_law_times dc_law_times pm_law_times an_law_times cd_law_times ct_law_times), sl_law_times⟩) (c_law_times : PySem.W.codeIn K cd_law_times "_law_times" = true) (k_law_times : PySem.W.keepIn K (.ref f_law_times) = true)
    (a_law_divided : PySem.W.nsIn K mainGlobals "_law_divided" = some (some (.ref f_law_divided))) (l_law_divided : K.lookup f_law_divided = some ⟨oc_law_divided, od_law_divided, .func (PySem.W.fnOf "_law_divided" "_law_divided" (defArgs s_law_divided) (defBody s_law_divided) (defScope s_law_divided) .none kV_law_divided dc_law_divided pm_law_divided an_law_divided cd_law_divided ct_law_divided), sl_law_divided⟩) (c_law_divided : PySem.W.codeIn K cd_law_divided "_law_divided" = true) (k_law_divided : PySem.W.keepIn K (.ref f_law_divided) = true)
    (a_law_plain : PySem.W.nsIn K mainGlobals "_law_plain" = some (some (.ref f_law_plain))) (l_law_plain : K.lookup f_law_plain = some ⟨oc_law_plain, od_law_plain, .func (PySem.W.fnOf "_law_plain" "_law_plain" (defArgs s_law_plain) (defBody s_law_plain) (defScope s_law_plain) .none kV_law_plain dc_law_plain pm_law_plain an_law_plain cd_law_plain ct_law_plain), sl_law_plain⟩) (c_law_plain : PySem.W.codeIn K cd_law_plain "_law_plain" = true) (k_law_plain : PySem.W.keepIn K (.ref f_law_plain) = true)
    (a_law_power : PySem.W.nsIn K mainGlobals "_law_power" = some (some (.ref f_law_power))) (l_law_power : K.lookup f_law_power = some ⟨oc_law_power, od_law_power, .func (PySem.W.fnOf "_law_power" "_law_power" (defArgs s_law_power) (defBody s_law_power) (defScope s_law_power) .none kV_law_power dc_law_power pm_law_power an_law_power cd_law_power ct_law_power), sl_law_power⟩) (c_law_power : PySem.W.codeIn K cd_law_power "_law_power" = true) (k_law_power : PySem.W.keepIn K (.ref f_law_power) = true)
    (a_law_factors : PySem.W.nsIn K mainGlobals "_law_factors" = some (some (.ref f_law_factors))) (l_law_factors : K.lookup f_law_factors = some ⟨oc_law_factors, od_law_factors, .func (PySem.W.fnOf "_law_factors" "_law_factors" (defArgs s_law_factors) (defBody s_law_factors) (defScope s_law_factors) .none kV_law_factors dc_law_factors pm_law_factors an_law_factors cd_law_factors ct_law_factors), sl_law_factors⟩) (c_law_factors : PySem.W.codeIn K cd_law_factors "_law_factors" = true) (k_law_factors : PySem.W.keepIn K (.ref f_law_factors) = true)
    (a_law_is_prime : PySem.W.nsIn K mainGlobals "_law_is_prime" = some (some (.ref f_law_is_prime))) (l_law_is_prime : K.lookup f_law_is_prime = some ⟨oc_law_is_prime, od_law_is_prime, .func (PySem.W.fnOf "_law_is_prime" "_law_is_prime" (defArgs s_law_is_prime) (defBody s_law_is_prime) (defScope s_law_is_prime) .none kV_law_is_prime dc_law_is_prime pm_law_is_prime an_law_is_prime cd_law_is_prime ct_law_is_prime), sl_law_is_prime⟩) (c_law_is_prime : PySem.W.codeIn K cd_law_is_prime "_law_is_prime" = true) (k_law_is_prime : PySem.W.keepIn K (.ref f_law_is_prime) = true)
    (a_law_prime : PySem.W.nsIn K mainGlobals "_law_prime" = some (some (.ref f_law_prime))) (l_law_prime : K.lookup f_law_prime = some ⟨oc_law_prime, od_law_prime, .func (PySem.W.fnOf "_law_prime" "_law_prime" (defArgs s_law_prime) (defBody s_law_prime) (defScope s_law_prime) .none kV_law_prime dc_law_prime pm_law_prime an_law_prime cd_law_prime ct_law_prime), sl_law_prime⟩) (c_law_prime : PySem.W.codeIn K cd_law_prime "_law_prime" = true) (k_law_prime : PySem.W.keepIn K (.ref f_law_prime) = true)
    (a_law_modulus : PySem.W.nsIn K mainGlobals "_law_modulus" = some (some (.ref f_law_modulus))) (l_law_modulus : K.lookup f_law_modulus = some ⟨oc_law_modulus, od_law_modulus, .func (PySem.W.fnOf "_law_modulus" "_law_modulus" (defArgs s_law_modulus) (defBody s_law_modulus) (defScope s_law_modulus) .none kV_law_modulus dc_law_modulus pm_law_modulus an_law_modulus cd_law_modulus ct_law_modulus), sl_law_modulus⟩) (c_law_modulus : PySem.W.codeIn K cd_law_modulus "_law_modulus" = true) (k_law_modulus : PySem.W.keepIn K (.ref f_law_modulus) = true)
    (a_law_symbol_by_squares : PySem.W.nsIn K mainGlobals "_law_symbol_by_squares" = some (some (.ref f_law_symbol_by_squares))) (l_law_symbol_by_squares : K.lookup f_law_symbol_by_squares = some ⟨oc_law_symbol_by_squares, od_law_symbol_by_squares, .func (PySem.W.fnOf "_law_symbol_by_squares" "_law_symbol_by_squares" (defArgs s_law_symbol_by_squares) (defBody s_law_symbol_by_squares) (defScope s_law_symbol_by_squares) .none kV_law_symbol_by_squares dc_law_symbol_by_squares pm_law_symbol_by_squares an_law_symbol_by_squares cd_law_symbol_by_squares ct_law_symbol_by_squares), sl_law_symbol_by_squares⟩) (c_law_symbol_by_squares : PySem.W.codeIn K cd_law_symbol_by_squares "_law_symbol_by_squares" = true) (k_law_symbol_by_squares : PySem.W.keepIn K (.ref f_law_symbol_by_squares) = true)
    (a_law_right : PySem.W.nsIn K mainGlobals "_law_right" = some (some (.ref f_law_right))) (l_law_right : K.lookup f_law_right = some ⟨oc_law_right, od_law_right, .func (PySem.W.fnOf "_law_right" "_law_right" (defArgs s_law_right) (defBody s_law_right) (defScope s_law_right) .none kV_law_right dc_law_right pm_law_right an_law_right cd_law_right ct_law_right), sl_law_right⟩) (c_law_right : PySem.W.codeIn K cd_law_right "_law_right" = true) (k_law_right : PySem.W.keepIn K (.ref f_law_right) = true)
    (a_law : PySem.W.nsIn K mainGlobals "law" = some (some (.ref f_law))) (l_law : K.lookup f_law = some ⟨oc_law, od_law, .func (PySem.W.fnOf "law" "law" (defArgs s_law) (defBody s_law) (defScope s_law) .none kV_law dc_law pm_law an_law cd_law ct_law), sl_law⟩) (c_law : PySem.W.codeIn K cd_law "law" = true) (k_law : PySem.W.keepIn K (.ref f_law) = true)
    (z_isinstance : PySem.W.nsIn K mainGlobals "isinstance" = some none)
    (z_int : PySem.W.nsIn K mainGlobals "int" = some none)
    (z_bool : PySem.W.nsIn K mainGlobals "bool" = some none)
    (z_len : PySem.W.nsIn K mainGlobals "len" = some none)
    (z_tuple : PySem.W.nsIn K mainGlobals "tuple" = some none)
    (z_range : PySem.W.nsIn K mainGlobals "range" = some none)
    (z_enumerate : PySem.W.nsIn K mainGlobals "enumerate" = some none)
    (z_list : PySem.W.nsIn K mainGlobals "list" = some none)
    (z_max : PySem.W.nsIn K mainGlobals "max" = some none)
    (z_sum : PySem.W.nsIn K mainGlobals "sum" = some none)
    (z_min : PySem.W.nsIn K mainGlobals "min" = some none)
    (v_BASES : PySem.W.nsIn K mainGlobals "BASES" = some (some (.ref g_BASES))) (w_BASES : K.lookup g_BASES = some ⟨.type "tuple", od_BASES, .seq #[.int 2 t0_BASES, .int 3 t1_BASES, .int 5 t2_BASES] n_BASES, sl_BASES⟩)
    (v_MOST : PySem.W.nsIn K mainGlobals "MOST" = some (some (.int 1000000 t_MOST)))
    (v_MOST_TRIED : PySem.W.nsIn K mainGlobals "MOST_TRIED" = some (some (.int 2000 t_MOST_TRIED))) :
    ∃ fd : FuncData, (∀ (s : Shared) (v : Value), BindsTo s fd ⟨[v], []⟩ [("script", v)]) ∧ ∀ base : Heap, K.In base → base.Ns mainGlobals mg → FnOk l.prog w K mg base CX0 8 fa fd ["script"] (spLaw K) := by
  have e := hfa.symm.trans (PySem.W.mg_of X G a_law)
  cases e
  have m_BASES : ∃ a, mg "BASES" = some (.ref a) ∧ ∀ H, SqT K H a ([2, 3, 5].map V.int) := ⟨_, PySem.W.mg_of X G v_BASES, fun H => .inr ⟨_, _, _, w_BASES, rfl, rfl, by rw [sizeLine_eq]; show 3 ≤ _; decide, (.cons ⟨_, rfl⟩ (.cons ⟨_, rfl⟩ (.cons ⟨_, rfl⟩ .nil)))⟩⟩
  have m_MOST : ∃ t, mg "MOST" = some (.int 1000000 t) := ⟨_, PySem.W.mg_of X G v_MOST⟩
  have m_MOST_TRIED : ∃ t, mg "MOST_TRIED" = some (.int 2000 t) := ⟨_, PySem.W.mg_of X G v_MOST_TRIED⟩
  have b_isinstance := PySem.W.mg_none_of X G z_isinstance
  have b_int := PySem.W.mg_none_of X G z_int
  have b_bool := PySem.W.mg_none_of X G z_bool
  have b_len := PySem.W.mg_none_of X G z_len
  have b_tuple := PySem.W.mg_none_of X G z_tuple
  have b_range := PySem.W.mg_none_of X G z_range
  have b_enumerate := PySem.W.mg_none_of X G z_enumerate
  have b_list := PySem.W.mg_none_of X G z_list
  have b_max := PySem.W.mg_none_of X G z_max
  have b_sum := PySem.W.mg_none_of X G z_sum
  have b_min := PySem.W.mg_none_of X G z_min
  have F_is_whole := L2.fun_mk (st := s_is_whole) l_is_whole c_is_whole k_is_whole
  have h_is_whole : ∀ base : Heap, Fk l.prog w K mg base "is_whole" ["thing"] 1 (spR K rel_is_whole) := fun base => ⟨⟨f_is_whole, _, PySem.W.mg_of X G a_is_whole, k_is_whole, F_is_whole.binds (ps := ["thing"]) (fun _ _ _ _ _ _ us hl => match us, hl with | [_], _ => rfl), ok_is_whole F_is_whole b_isinstance b_int b_bool⟩⟩
  have F_is_within := L2.fun_mk (st := s_is_within) l_is_within c_is_within k_is_within
  have h_is_within : ∀ base : Heap, Fk l.prog w K mg base "is_within" ["thing", "low", "high"] 2 (spR K rel_is_within) := fun base => ⟨⟨f_is_within, _, PySem.W.mg_of X G a_is_within, k_is_within, F_is_within.binds (ps := ["thing", "low", "high"]) (fun _ _ _ _ _ _ us hl => match us, hl with | [_, _, _], _ => rfl), ok_is_within F_is_within (h_is_whole base)⟩⟩
  have F_need_base := L2.fun_mk (st := s_need_base) l_need_base c_need_base k_need_base
  have h_need_base : ∀ base : Heap, Fk l.prog w K mg base "need_base" ["base"] 2 (spR K rel_need_base) := fun base => ⟨⟨f_need_base, _, PySem.W.mg_of X G a_need_base, k_need_base, F_need_base.binds (ps := ["base"]) (fun _ _ _ _ _ _ us hl => match us, hl with | [_], _ => rfl), ok_need_base F_need_base (h_is_whole base) m_BASES⟩⟩
  have F_need_as := L2.fun_mk (st := s_need_as) l_need_as c_need_as k_need_as
  have h_need_as : ∀ base : Heap, Fk l.prog w K mg base "need_as" ["thing", "which", "low"] 3 (spR K rel_need_as) := fun base => ⟨⟨f_need_as, _, PySem.W.mg_of X G a_need_as, k_need_as, F_need_as.binds (ps := ["thing", "which", "low"]) (fun _ _ _ _ _ _ us hl => match us, hl with | [_, _, _], _ => rfl), ok_need_as F_need_as (h_is_within base) m_MOST⟩⟩
  have F_trimmed := L2.fun_mk (st := s_trimmed) l_trimmed c_trimmed k_trimmed
  have h_trimmed : ∀ base : Heap, Fk l.prog w K mg base "trimmed" ["row"] 1 (spR K rel_trimmed) := fun base => ⟨⟨f_trimmed, _, PySem.W.mg_of X G a_trimmed, k_trimmed, F_trimmed.binds (ps := ["row"]) (fun _ _ _ _ _ _ us hl => match us, hl with | [_], _ => rfl), ok_trimmed F_trimmed b_len b_tuple⟩⟩
  have F_row_of := L2.fun_mk (st := s_row_of) l_row_of c_row_of k_row_of
  have h_row_of : ∀ base : Heap, Fk l.prog w K mg base "row_of" ["base", "number"] 1 (spR K rel_row_of) := fun base => ⟨⟨f_row_of, _, PySem.W.mg_of X G a_row_of, k_row_of, F_row_of.binds (ps := ["base", "number"]) (fun _ _ _ _ _ _ us hl => match us, hl with | [_, _], _ => rfl), ok_row_of F_row_of b_tuple⟩⟩
  have F_number_by := L2.fun_mk (st := s_number_by) l_number_by c_number_by k_number_by
  have h_number_by : ∀ base : Heap, Fk l.prog w K mg base "number_by" ["base", "row"] 1 (spR K rel_number_by) := fun base => ⟨⟨f_number_by, _, PySem.W.mg_of X G a_number_by, k_number_by, F_number_by.binds (ps := ["base", "row"]) (fun _ _ _ _ _ _ us hl => match us, hl with | [_, _], _ => rfl), ok_number_by F_number_by⟩⟩
  have F_plain_row := L2.fun_mk (st := s_plain_row) l_plain_row c_plain_row k_plain_row
  have h_plain_row : ∀ base : Heap, Fk l.prog w K mg base "plain_row" ["base", "row"] 1 (spR K rel_plain_row) := fun base => ⟨⟨f_plain_row, _, PySem.W.mg_of X G a_plain_row, k_plain_row, F_plain_row.binds (ps := ["base", "row"]) (fun _ _ _ _ _ _ us hl => match us, hl with | [_, _], _ => rfl), ok_plain_row F_plain_row b_range b_tuple⟩⟩
  have F_plain_of := L2.fun_mk (st := s_plain_of) l_plain_of c_plain_of k_plain_of
  have h_plain_of : ∀ base : Heap, Fk l.prog w K mg base "plain_of" ["base", "number"] 4 (spR K rel_plain_of) := fun base => ⟨⟨f_plain_of, _, PySem.W.mg_of X G a_plain_of, k_plain_of, F_plain_of.binds (ps := ["base", "number"]) (fun _ _ _ _ _ _ us hl => match us, hl with | [_, _], _ => rfl), ok_plain_of F_plain_of (h_need_base base) (h_need_as base) (h_number_by base) (h_plain_row base) (h_row_of base)⟩⟩
  have F_times_rows := L2.fun_mk (st := s_times_rows) l_times_rows c_times_rows k_times_rows
  have h_times_rows : ∀ base : Heap, Fk l.prog w K mg base "times_rows" ["base", "one", "other"] 2 (spR K rel_times_rows) := fun base => ⟨⟨f_times_rows, _, PySem.W.mg_of X G a_times_rows, k_times_rows, F_times_rows.binds (ps := ["base", "one", "other"]) (fun _ _ _ _ _ _ us hl => match us, hl with | [_, _, _], _ => rfl), ok_times_rows F_times_rows (h_trimmed base) b_len b_enumerate⟩⟩
  have F_divided_rows := L2.fun_mk (st := s_divided_rows) l_divided_rows c_divided_rows k_divided_rows
  have h_divided_rows : ∀ base : Heap, Fk l.prog w K mg base "divided_rows" ["base", "one", "other"] 2 (spR K rel_divided_rows) := fun base => ⟨⟨f_divided_rows, _, PySem.W.mg_of X G a_divided_rows, k_divided_rows, F_divided_rows.binds (ps := ["base", "one", "other"]) (fun _ _ _ _ _ _ us hl => match us, hl with | [_, _, _], _ => rfl), ok_divided_rows F_divided_rows (h_trimmed base) b_list b_max b_len b_range b_enumerate⟩⟩
  have F_need_two := L2.fun_mk (st := s_need_two) l_need_two c_need_two k_need_two
  have h_need_two : ∀ base : Heap, Fk l.prog w K mg base "need_two" ["base", "one", "other"] 4 (spR K rel_need_two) := fun base => ⟨⟨f_need_two, _, PySem.W.mg_of X G a_need_two, k_need_two, F_need_two.binds (ps := ["base", "one", "other"]) (fun _ _ _ _ _ _ us hl => match us, hl with | [_, _, _], _ => rfl), ok_need_two F_need_two (h_need_base base) (h_need_as base)⟩⟩
  have F_product_of := L2.fun_mk (st := s_product_of) l_product_of c_product_of k_product_of
  have h_product_of : ∀ base : Heap, Fk l.prog w K mg base "product_of" ["base", "one", "other"] 5 (spR K rel_product_of) := fun base => ⟨⟨f_product_of, _, PySem.W.mg_of X G a_product_of, k_product_of, F_product_of.binds (ps := ["base", "one", "other"]) (fun _ _ _ _ _ _ us hl => match us, hl with | [_, _, _], _ => rfl), ok_product_of F_product_of (h_need_two base) (h_number_by base) (h_times_rows base) (h_row_of base)⟩⟩
  have F_quotient_of := L2.fun_mk (st := s_quotient_of) l_quotient_of c_quotient_of k_quotient_of
  have h_quotient_of : ∀ base : Heap, Fk l.prog w K mg base "quotient_of" ["base", "one", "other"] 5 (spR K rel_quotient_of) := fun base => ⟨⟨f_quotient_of, _, PySem.W.mg_of X G a_quotient_of, k_quotient_of, F_quotient_of.binds (ps := ["base", "one", "other"]) (fun _ _ _ _ _ _ us hl => match us, hl with | [_, _, _], _ => rfl), ok_quotient_of F_quotient_of (h_need_two base) (h_divided_rows base) (h_row_of base) (h_number_by base)⟩⟩
  have F_powered := L2.fun_mk (st := s_powered) l_powered c_powered k_powered
  have h_powered : ∀ base : Heap, Fk l.prog w K mg base "powered" ["number", "times"] 1 (spR K rel_powered) := fun base => ⟨⟨f_powered, _, PySem.W.mg_of X G a_powered, k_powered, F_powered.binds (ps := ["number", "times"]) (fun _ _ _ _ _ _ us hl => match us, hl with | [_, _], _ => rfl), ok_powered F_powered b_range⟩⟩
  have F_plain_rows := L2.fun_mk (st := s_plain_rows) l_plain_rows c_plain_rows k_plain_rows
  have h_plain_rows : ∀ base : Heap, Fk l.prog w K mg base "plain_rows" ["base", "size"] 2 (spR K rel_plain_rows) := fun base => ⟨⟨f_plain_rows, _, PySem.W.mg_of X G a_plain_rows, k_plain_rows, F_plain_rows.binds (ps := ["base", "size"]) (fun _ _ _ _ _ _ us hl => match us, hl with | [_, _], _ => rfl), ok_plain_rows F_plain_rows (h_powered base) (h_row_of base) b_range⟩⟩
  have F_is_prime_row := L2.fun_mk (st := s_is_prime_row) l_is_prime_row c_is_prime_row k_is_prime_row
  have h_is_prime_row : ∀ base : Heap, Fk l.prog w K mg base "is_prime_row" ["base", "row"] 3 (spR K rel_is_prime_row) := fun base => ⟨⟨f_is_prime_row, _, PySem.W.mg_of X G a_is_prime_row, k_is_prime_row, F_is_prime_row.binds (ps := ["base", "row"]) (fun _ _ _ _ _ _ us hl => match us, hl with | [_, _], _ => rfl), ok_is_prime_row F_is_prime_row (h_plain_rows base) (h_divided_rows base) b_len b_range⟩⟩
  have F_is_prime_number := L2.fun_mk (st := s_is_prime_number) l_is_prime_number c_is_prime_number k_is_prime_number
  have h_is_prime_number : ∀ base : Heap, Fk l.prog w K mg base "is_prime_number" ["base", "thing"] 4 (spR K rel_is_prime_number) := fun base => ⟨⟨f_is_prime_number, _, PySem.W.mg_of X G a_is_prime_number, k_is_prime_number, F_is_prime_number.binds (ps := ["base", "thing"]) (fun _ _ _ _ _ _ us hl => match us, hl with | [_, _], _ => rfl), ok_is_prime_number F_is_prime_number (h_is_within base) (h_is_prime_row base) (h_row_of base) m_MOST⟩⟩
  have F_need_prime := L2.fun_mk (st := s_need_prime) l_need_prime c_need_prime k_need_prime
  have h_need_prime : ∀ base : Heap, Fk l.prog w K mg base "need_prime" ["base", "prime"] 5 (spR K rel_need_prime) := fun base => ⟨⟨f_need_prime, _, PySem.W.mg_of X G a_need_prime, k_need_prime, F_need_prime.binds (ps := ["base", "prime"]) (fun _ _ _ _ _ _ us hl => match us, hl with | [_, _], _ => rfl), ok_need_prime F_need_prime (h_is_prime_number base)⟩⟩
  have F_factors_by := L2.fun_mk (st := s_factors_by) l_factors_by c_factors_by k_factors_by
  have h_factors_by : ∀ base : Heap, Fk l.prog w K mg base "factors_by" ["base", "row"] 3 (spR K rel_factors_by) := fun base => ⟨⟨f_factors_by, _, PySem.W.mg_of X G a_factors_by, k_factors_by, F_factors_by.binds (ps := ["base", "row"]) (fun _ _ _ _ _ _ us hl => match us, hl with | [_, _], _ => rfl), ok_factors_by F_factors_by (h_plain_row base) (h_plain_rows base) (h_divided_rows base) b_len b_enumerate⟩⟩
  have F_common_rows := L2.fun_mk (st := s_common_rows) l_common_rows c_common_rows k_common_rows
  have h_common_rows : ∀ base : Heap, Fk l.prog w K mg base "common_rows" ["base", "one", "other"] 3 (spR K rel_common_rows) := fun base => ⟨⟨f_common_rows, _, PySem.W.mg_of X G a_common_rows, k_common_rows, F_common_rows.binds (ps := ["base", "one", "other"]) (fun _ _ _ _ _ _ us hl => match us, hl with | [_, _, _], _ => rfl), ok_common_rows F_common_rows (h_divided_rows base) (h_plain_row base)⟩⟩
  have F_free_by := L2.fun_mk (st := s_free_by) l_free_by c_free_by k_free_by
  have h_free_by : ∀ base : Heap, Fk l.prog w K mg base "free_by" ["base", "row"] 4 (spR K rel_free_by) := fun base => ⟨⟨f_free_by, _, PySem.W.mg_of X G a_free_by, k_free_by, F_free_by.binds (ps := ["base", "row"]) (fun _ _ _ _ _ _ us hl => match us, hl with | [_, _], _ => rfl), ok_free_by F_free_by (h_factors_by base) (h_powered base) b_len⟩⟩
  have F_factors_of := L2.fun_mk (st := s_factors_of) l_factors_of c_factors_of k_factors_of
  have h_factors_of : ∀ base : Heap, Fk l.prog w K mg base "factors_of" ["base", "number"] 4 (spR K rel_factors_of) := fun base => ⟨⟨f_factors_of, _, PySem.W.mg_of X G a_factors_of, k_factors_of, F_factors_of.binds (ps := ["base", "number"]) (fun _ _ _ _ _ _ us hl => match us, hl with | [_, _], _ => rfl), ok_factors_of F_factors_of (h_need_base base) (h_need_as base) (h_factors_by base) (h_row_of base) (h_number_by base)⟩⟩
  have F_free_many := L2.fun_mk (st := s_free_many) l_free_many c_free_many k_free_many
  have h_free_many : ∀ base : Heap, Fk l.prog w K mg base "free_many" ["base", "number"] 5 (spR K rel_free_many) := fun base => ⟨⟨f_free_many, _, PySem.W.mg_of X G a_free_many, k_free_many, F_free_many.binds (ps := ["base", "number"]) (fun _ _ _ _ _ _ us hl => match us, hl with | [_, _], _ => rfl), ok_free_many F_free_many (h_need_base base) (h_need_as base) (h_free_by base) (h_row_of base)⟩⟩
  have F_need_modulus := L2.fun_mk (st := s_need_modulus) l_need_modulus c_need_modulus k_need_modulus
  have h_need_modulus : ∀ base : Heap, Fk l.prog w K mg base "need_modulus" ["base", "modulus"] 4 (spR K rel_need_modulus) := fun base => ⟨⟨f_need_modulus, _, PySem.W.mg_of X G a_need_modulus, k_need_modulus, F_need_modulus.binds (ps := ["base", "modulus"]) (fun _ _ _ _ _ _ us hl => match us, hl with | [_, _], _ => rfl), ok_need_modulus F_need_modulus (h_need_as base)⟩⟩
  have F_need_odd_base := L2.fun_mk (st := s_need_odd_base) l_need_odd_base c_need_odd_base k_need_odd_base
  have h_need_odd_base : ∀ base : Heap, Fk l.prog w K mg base "need_odd_base" ["base"] 2 (spR K rel_need_odd_base) := fun base => ⟨⟨f_need_odd_base, _, PySem.W.mg_of X G a_need_odd_base, k_need_odd_base, F_need_odd_base.binds (ps := ["base"]) (fun _ _ _ _ _ _ us hl => match us, hl with | [_], _ => rfl), ok_need_odd_base F_need_odd_base (h_is_whole base)⟩⟩
  have F_power_rest := L2.fun_mk (st := s_power_rest) l_power_rest c_power_rest k_power_rest
  have h_power_rest : ∀ base : Heap, Fk l.prog w K mg base "power_rest" ["base", "row", "often", "modulus"] 3 (spR K rel_power_rest) := fun base => ⟨⟨f_power_rest, _, PySem.W.mg_of X G a_power_rest, k_power_rest, F_power_rest.binds (ps := ["base", "row", "often", "modulus"]) (fun _ _ _ _ _ _ us hl => match us, hl with | [_, _, _, _], _ => rfl), ok_power_rest F_power_rest (h_divided_rows base) (h_times_rows base)⟩⟩
  have F_symbol_by := L2.fun_mk (st := s_symbol_by) l_symbol_by c_symbol_by k_symbol_by
  have h_symbol_by : ∀ base : Heap, Fk l.prog w K mg base "symbol_by" ["base", "above", "below"] 4 (spR K rel_symbol_by) := fun base => ⟨⟨f_symbol_by, _, PySem.W.mg_of X G a_symbol_by, k_symbol_by, F_symbol_by.binds (ps := ["base", "above", "below"]) (fun _ _ _ _ _ _ us hl => match us, hl with | [_, _, _], _ => rfl), ok_symbol_by F_symbol_by (h_factors_by base) (h_power_rest base) (h_powered base) b_len⟩⟩
  have F_need_sides := L2.fun_mk (st := s_need_sides) l_need_sides c_need_sides k_need_sides
  have h_need_sides : ∀ base : Heap, Fk l.prog w K mg base "need_sides" ["base", "above", "below"] 3 (spR K rel_need_sides) := fun base => ⟨⟨f_need_sides, _, PySem.W.mg_of X G a_need_sides, k_need_sides, F_need_sides.binds (ps := ["base", "above", "below"]) (fun _ _ _ _ _ _ us hl => match us, hl with | [_, _, _], _ => rfl), ok_need_sides F_need_sides (h_need_odd_base base) (h_is_within base) (h_row_of base) m_MOST⟩⟩
  have F_square_symbol := L2.fun_mk (st := s_square_symbol) l_square_symbol c_square_symbol k_square_symbol
  have h_square_symbol : ∀ base : Heap, Fk l.prog w K mg base "square_symbol" ["base", "above", "below"] 5 (spR K rel_square_symbol) := fun base => ⟨⟨f_square_symbol, _, PySem.W.mg_of X G a_square_symbol, k_square_symbol, F_square_symbol.binds (ps := ["base", "above", "below"]) (fun _ _ _ _ _ _ us hl => match us, hl with | [_, _, _], _ => rfl), ok_square_symbol F_square_symbol (h_need_sides base) (h_symbol_by base) (h_row_of base)⟩⟩
  have F_rests_of := L2.fun_mk (st := s_rests_of) l_rests_of c_rests_of k_rests_of
  have h_rests_of : ∀ base : Heap, Fk l.prog w K mg base "rests_of" ["base", "modulus"] 2 (spR K rel_rests_of) := fun base => ⟨⟨f_rests_of, _, PySem.W.mg_of X G a_rests_of, k_rests_of, F_rests_of.binds (ps := ["base", "modulus"]) (fun _ _ _ _ _ _ us hl => match us, hl with | [_, _], _ => rfl), ok_rests_of F_rests_of (h_powered base) b_len m_MOST_TRIED⟩⟩
  have F_square_rest := L2.fun_mk (st := s_square_rest) l_square_rest c_square_rest k_square_rest
  have h_square_rest : ∀ base : Heap, Fk l.prog w K mg base "square_rest" ["base", "number", "modulus"] 3 (spR K rel_square_rest) := fun base => ⟨⟨f_square_rest, _, PySem.W.mg_of X G a_square_rest, k_square_rest, F_square_rest.binds (ps := ["base", "number", "modulus"]) (fun _ _ _ _ _ _ us hl => match us, hl with | [_, _, _], _ => rfl), ok_square_rest F_square_rest (h_row_of base) (h_divided_rows base) (h_times_rows base)⟩⟩
  have F_root_of := L2.fun_mk (st := s_root_of) l_root_of c_root_of k_root_of
  have h_root_of : ∀ base : Heap, Fk l.prog w K mg base "root_of" ["base", "number", "prime"] 6 (spR K rel_root_of) := fun base => ⟨⟨f_root_of, _, PySem.W.mg_of X G a_root_of, k_root_of, F_root_of.binds (ps := ["base", "number", "prime"]) (fun _ _ _ _ _ _ us hl => match us, hl with | [_, _, _], _ => rfl), ok_root_of F_root_of (h_need_odd_base base) (h_need_as base) (h_need_prime base) (h_row_of base) (h_divided_rows base) (h_rests_of base) (h_square_rest base) b_range⟩⟩
  have F_squares_many := L2.fun_mk (st := s_squares_many) l_squares_many c_squares_many k_squares_many
  have h_squares_many : ∀ base : Heap, Fk l.prog w K mg base "squares_many" ["base", "modulus"] 5 (spR K rel_squares_many) := fun base => ⟨⟨f_squares_many, _, PySem.W.mg_of X G a_squares_many, k_squares_many, F_squares_many.binds (ps := ["base", "modulus"]) (fun _ _ _ _ _ _ us hl => match us, hl with | [_, _], _ => rfl), ok_squares_many F_squares_many (h_need_odd_base base) (h_need_modulus base) (h_row_of base) (h_rests_of base) (h_common_rows base) (h_square_rest base) b_range b_len⟩⟩
  have F_law_begun := L2.fun_mk (st := s_law_begun) l_law_begun c_law_begun k_law_begun
  have h_law_begun : ∀ base : Heap, Fk l.prog w K mg base "_law_begun" ["script"] 1 (spBegun K) := fun base => ⟨⟨f_law_begun, _, PySem.W.mg_of X G a_law_begun, k_law_begun, F_law_begun.binds (ps := ["script"]) (fun _ _ _ _ _ _ us hl => match us, hl with | [_], _ => rfl), ok_law_begun F_law_begun b_isinstance b_int⟩⟩
  have F_law_mixed := L2.fun_mk (st := s_law_mixed) l_law_mixed c_law_mixed k_law_mixed
  have h_law_mixed : ∀ base : Heap, Fk l.prog w K mg base "_law_mixed" ["draw"] 1 (spD K rel_law_mixed) := fun base => ⟨⟨f_law_mixed, _, PySem.W.mg_of X G a_law_mixed, k_law_mixed, F_law_mixed.binds (ps := ["draw"]) (fun _ _ _ _ _ _ us hl => match us, hl with | [_], _ => rfl), ok_law_mixed F_law_mixed b_int⟩⟩
  have F_law_take := L2.fun_mk (st := s_law_take) l_law_take c_law_take k_law_take
  have h_law_take : ∀ base : Heap, Fk l.prog w K mg base "_law_take" ["draw", "amount"] 2 (spD K rel_law_take) := fun base => ⟨⟨f_law_take, _, PySem.W.mg_of X G a_law_take, k_law_take, F_law_take.binds (ps := ["draw", "amount"]) (fun _ _ _ _ _ _ us hl => match us, hl with | [_, _], _ => rfl), ok_law_take F_law_take (h_law_mixed base) b_int⟩⟩
  have F_law_pick := L2.fun_mk (st := s_law_pick) l_law_pick c_law_pick k_law_pick
  have h_law_pick : ∀ base : Heap, Fk l.prog w K mg base "_law_pick" ["draw", "items"] 3 (spD K rel_law_pick) := fun base => ⟨⟨f_law_pick, _, PySem.W.mg_of X G a_law_pick, k_law_pick, F_law_pick.binds (ps := ["draw", "items"]) (fun _ _ _ _ _ _ us hl => match us, hl with | [_, _], _ => rfl), ok_law_pick F_law_pick (h_law_take base) b_len⟩⟩
  have F_law_row := L2.fun_mk (st := s_law_row) l_law_row c_law_row k_law_row
  have h_law_row : ∀ base : Heap, Fk l.prog w K mg base "_law_row" ["base", "number"] 1 (spR K rel_law_row) := fun base => ⟨⟨f_law_row, _, PySem.W.mg_of X G a_law_row, k_law_row, F_law_row.binds (ps := ["base", "number"]) (fun _ _ _ _ _ _ us hl => match us, hl with | [_, _], _ => rfl), ok_law_row F_law_row b_range b_int b_tuple⟩⟩
  have F_law_worth := L2.fun_mk (st := s_law_worth) l_law_worth c_law_worth k_law_worth
  have h_law_worth : ∀ base : Heap, Fk l.prog w K mg base "_law_worth" ["base", "row"] 1 (spR K rel_law_worth) := fun base => ⟨⟨f_law_worth, _, PySem.W.mg_of X G a_law_worth, k_law_worth, F_law_worth.binds (ps := ["base", "row"]) (fun _ _ _ _ _ _ us hl => match us, hl with | [_, _], _ => rfl), ok_law_worth F_law_worth⟩⟩
  have F_law_cut := L2.fun_mk (st := s_law_cut) l_law_cut c_law_cut k_law_cut
  have h_law_cut : ∀ base : Heap, Fk l.prog w K mg base "_law_cut" ["row"] 1 (spR K rel_law_cut) := fun base => ⟨⟨f_law_cut, _, PySem.W.mg_of X G a_law_cut, k_law_cut, F_law_cut.binds (ps := ["row"]) (fun _ _ _ _ _ _ us hl => match us, hl with | [_], _ => rfl), ok_law_cut F_law_cut b_len b_range b_tuple⟩⟩
  have F_law_times := L2.fun_mk (st := s_law_times) l_law_times c_law_times k_law_times
  have h_law_times : ∀ base : Heap, Fk l.prog w K mg base "_law_times" ["base", "one", "other"] 2 (spR K rel_law_times) := fun base => ⟨⟨f_law_times, _, PySem.W.mg_of X G a_law_times, k_law_times, F_law_times.binds (ps := ["base", "one", "other"]) (fun _ _ _ _ _ _ us hl => match us, hl with | [_, _, _], _ => rfl), ok_law_times F_law_times (h_law_cut base) b_len b_enumerate b_int⟩⟩
  have F_law_divided := L2.fun_mk (st := s_law_divided) l_law_divided c_law_divided k_law_divided
  have h_law_divided : ∀ base : Heap, Fk l.prog w K mg base "_law_divided" ["base", "one", "other"] 2 (spR K rel_law_divided) := fun base => ⟨⟨f_law_divided, _, PySem.W.mg_of X G a_law_divided, k_law_divided, F_law_divided.binds (ps := ["base", "one", "other"]) (fun _ _ _ _ _ _ us hl => match us, hl with | [_, _, _], _ => rfl), ok_law_divided F_law_divided (h_law_cut base) b_list b_max b_len b_range b_int b_enumerate⟩⟩
  have F_law_plain := L2.fun_mk (st := s_law_plain) l_law_plain c_law_plain k_law_plain
  have h_law_plain : ∀ base : Heap, Fk l.prog w K mg base "_law_plain" ["base", "row"] 1 (spR K rel_law_plain) := fun base => ⟨⟨f_law_plain, _, PySem.W.mg_of X G a_law_plain, k_law_plain, F_law_plain.binds (ps := ["base", "row"]) (fun _ _ _ _ _ _ us hl => match us, hl with | [_, _], _ => rfl), ok_law_plain F_law_plain b_range b_int b_tuple⟩⟩
  have F_law_power := L2.fun_mk (st := s_law_power) l_law_power c_law_power k_law_power
  have h_law_power : ∀ base : Heap, Fk l.prog w K mg base "_law_power" ["number", "many"] 1 (spR K rel_law_power) := fun base => ⟨⟨f_law_power, _, PySem.W.mg_of X G a_law_power, k_law_power, F_law_power.binds (ps := ["number", "many"]) (fun _ _ _ _ _ _ us hl => match us, hl with | [_, _], _ => rfl), ok_law_power F_law_power b_range⟩⟩
  have F_law_factors := L2.fun_mk (st := s_law_factors) l_law_factors c_law_factors k_law_factors
  have h_law_factors : ∀ base : Heap, Fk l.prog w K mg base "_law_factors" ["base", "row"] 3 (spR K rel_law_factors) := fun base => ⟨⟨f_law_factors, _, PySem.W.mg_of X G a_law_factors, k_law_factors, F_law_factors.binds (ps := ["base", "row"]) (fun _ _ _ _ _ _ us hl => match us, hl with | [_, _], _ => rfl), ok_law_factors F_law_factors (h_law_plain base) (h_law_power base) (h_law_row base) (h_law_divided base) b_range b_len b_sum⟩⟩
  have F_law_is_prime := L2.fun_mk (st := s_law_is_prime) l_law_is_prime c_law_is_prime k_law_is_prime
  have h_law_is_prime : ∀ base : Heap, Fk l.prog w K mg base "_law_is_prime" ["base", "row"] 4 (spR K rel_law_is_prime) := fun base => ⟨⟨f_law_is_prime, _, PySem.W.mg_of X G a_law_is_prime, k_law_is_prime, F_law_is_prime.binds (ps := ["base", "row"]) (fun _ _ _ _ _ _ us hl => match us, hl with | [_, _], _ => rfl), ok_law_is_prime F_law_is_prime (h_law_factors base) b_len⟩⟩
  have F_law_prime := L2.fun_mk (st := s_law_prime) l_law_prime c_law_prime k_law_prime
  have h_law_prime : ∀ base : Heap, Fk l.prog w K mg base "_law_prime" ["draw", "base", "most"] 5 (spD K rel_law_prime) := fun base => ⟨⟨f_law_prime, _, PySem.W.mg_of X G a_law_prime, k_law_prime, F_law_prime.binds (ps := ["draw", "base", "most"]) (fun _ _ _ _ _ _ us hl => match us, hl with | [_, _, _], _ => rfl), ok_law_prime F_law_prime (h_law_take base) (h_law_power base) (h_law_is_prime base) (h_law_row base) b_range b_int⟩⟩
  have F_law_modulus := L2.fun_mk (st := s_law_modulus) l_law_modulus c_law_modulus k_law_modulus
  have h_law_modulus : ∀ base : Heap, Fk l.prog w K mg base "_law_modulus" ["draw", "base", "most"] 6 (spD K rel_law_modulus) := fun base => ⟨⟨f_law_modulus, _, PySem.W.mg_of X G a_law_modulus, k_law_modulus, F_law_modulus.binds (ps := ["draw", "base", "most"]) (fun _ _ _ _ _ _ us hl => match us, hl with | [_, _, _], _ => rfl), ok_law_modulus F_law_modulus (h_law_take base) (h_law_row base) (h_law_prime base) (h_law_times base) (h_law_worth base) (h_law_power base) b_range b_len⟩⟩
  have F_law_symbol_by_squares := L2.fun_mk (st := s_law_symbol_by_squares) l_law_symbol_by_squares c_law_symbol_by_squares k_law_symbol_by_squares
  have h_law_symbol_by_squares : ∀ base : Heap, Fk l.prog w K mg base "_law_symbol_by_squares" ["base", "above", "prime"] 3 (spR K rel_law_symbol_by_squares) := fun base => ⟨⟨f_law_symbol_by_squares, _, PySem.W.mg_of X G a_law_symbol_by_squares, k_law_symbol_by_squares, F_law_symbol_by_squares.binds (ps := ["base", "above", "prime"]) (fun _ _ _ _ _ _ us hl => match us, hl with | [_, _, _], _ => rfl), ok_law_symbol_by_squares F_law_symbol_by_squares (h_law_row base) (h_law_divided base) (h_law_power base) (h_law_times base) b_range b_len⟩⟩
  have F_law_right := L2.fun_mk (st := s_law_right) l_law_right c_law_right k_law_right
  have h_law_right : ∀ base : Heap, Fk l.prog w K mg base "_law_right" ["draw"] 7 (spD K rel_law_right) := fun base => ⟨⟨f_law_right, _, PySem.W.mg_of X G a_law_right, k_law_right, F_law_right.binds (ps := ["draw"]) (fun _ _ _ _ _ _ us hl => match us, hl with | [_], _ => rfl), ok_law_right F_law_right (h_law_pick base) (h_law_prime base) (h_law_take base) (h_law_symbol_by_squares base) (h_root_of base) (h_square_symbol base) (h_quotient_of base) (h_product_of base) (h_plain_of base) (h_law_modulus base) (h_factors_of base) (h_squares_many base) (h_free_many base) b_range⟩⟩
  have F_law := L2.fun_mk (st := s_law) l_law c_law k_law
  exact ⟨_, fun s v => .of_eq rfl, fun base _ _ => ok_law F_law (h_law_begun base) (h_law_right base) (h_square_symbol base) (h_root_of base) b_range b_min b_len⟩
end EL
open PySem PySem.W PyProof.Rows
set_option maxHeartbeats 0 in
theorem PySem.Challenge.cw_nocarry_k60_across_squares_and_factors_holds : PySem.Challenge.rw_nocarry_k60_across_squares_and_factors.Holds := by
  w_on; o_law; k_head; (case hw => w_witness2)
  k_fill
  refine L2.walk_ofB (l := PySem.Challenge.rw_nocarry_k60_across_squares_and_factors) (n := 63) (k := 8) (x := "script") (CX := fun _ => L2.CX0) (sp := fun w => EL.spLaw _) rfl (by decide) rfl ⟨rfl, by decide, by decide⟩ (fun w h Y => PySem.W.kIn_of Y) ?F (fun _ _ a ns hl hb _ hS => ⟨a, ns, rfl, hS, hl, hb, fun _ => rfl⟩) (fun _ _ _ _ _ h => h)
  case F =>
    intro w mg fa h KX G hmg
    refine' EL.all_mk KX G hmg ?a_is_whole ?l_is_whole ?c_is_whole ?k_is_whole ?a_is_within ?l_is_within ?c_is_within ?k_is_within ?a_need_base ?l_need_base ?c_need_base ?k_need_base ?a_need_as ?l_need_as ?c_need_as ?k_need_as ?a_trimmed ?l_trimmed ?c_trimmed ?k_trimmed ?a_row_of ?l_row_of ?c_row_of ?k_row_of ?a_number_by ?l_number_by ?c_number_by ?k_number_by ?a_plain_row ?l_plain_row ?c_plain_row ?k_plain_row ?a_plain_of ?l_plain_of ?c_plain_of ?k_plain_of ?a_times_rows ?l_times_rows ?c_times_rows ?k_times_rows ?a_divided_rows ?l_divided_rows ?c_divided_rows ?k_divided_rows ?a_need_two ?l_need_two ?c_need_two ?k_need_two ?a_product_of ?l_product_of ?c_product_of ?k_product_of ?a_quotient_of ?l_quotient_of ?c_quotient_of ?k_quotient_of ?a_powered ?l_powered ?c_powered ?k_powered ?a_plain_rows ?l_plain_rows ?c_plain_rows ?k_plain_rows ?a_is_prime_row ?l_is_prime_row ?c_is_prime_row ?k_is_prime_row ?a_is_prime_number ?l_is_prime_number ?c_is_prime_number ?k_is_prime_number ?a_need_prime ?l_need_prime ?c_need_prime ?k_need_prime ?a_factors_by ?l_factors_by ?c_factors_by ?k_factors_by ?a_common_rows ?l_common_rows ?c_common_rows ?k_common_rows ?a_free_by ?l_free_by ?c_free_by ?k_free_by ?a_factors_of ?l_factors_of ?c_factors_of ?k_factors_of ?a_free_many ?l_free_many ?c_free_many ?k_free_many ?a_need_modulus ?l_need_modulus ?c_need_modulus ?k_need_modulus ?a_need_odd_base ?l_need_odd_base ?c_need_odd_base ?k_need_odd_base ?a_power_rest ?l_power_rest ?c_power_rest ?k_power_rest ?a_symbol_by ?l_symbol_by ?c_symbol_by ?k_symbol_by ?a_need_sides ?l_need_sides ?c_need_sides ?k_need_sides ?a_square_symbol ?l_square_symbol ?c_square_symbol ?k_square_symbol ?a_rests_of ?l_rests_of ?c_rests_of ?k_rests_of ?a_square_rest ?l_square_rest ?c_square_rest ?k_square_rest ?a_root_of ?l_root_of ?c_root_of ?k_root_of ?a_squares_many ?l_squares_many ?c_squares_many ?k_squares_many ?a_law_begun ?l_law_begun ?c_law_begun ?k_law_begun ?a_law_mixed ?l_law_mixed ?c_law_mixed ?k_law_mixed ?a_law_take ?l_law_take ?c_law_take ?k_law_take ?a_law_pick ?l_law_pick ?c_law_pick ?k_law_pick ?a_law_row ?l_law_row ?c_law_row ?k_law_row ?a_law_worth ?l_law_worth ?c_law_worth ?k_law_worth ?a_law_cut ?l_law_cut ?c_law_cut ?k_law_cut ?a_law_times ?l_law_times ?c_law_times ?k_law_times ?a_law_divided ?l_law_divided ?c_law_divided ?k_law_divided ?a_law_plain ?l_law_plain ?c_law_plain ?k_law_plain ?a_law_power ?l_law_power ?c_law_power ?k_law_power ?a_law_factors ?l_law_factors ?c_law_factors ?k_law_factors ?a_law_is_prime ?l_law_is_prime ?c_law_is_prime ?k_law_is_prime ?a_law_prime ?l_law_prime ?c_law_prime ?k_law_prime ?a_law_modulus ?l_law_modulus ?c_law_modulus ?k_law_modulus ?a_law_symbol_by_squares ?l_law_symbol_by_squares ?c_law_symbol_by_squares ?k_law_symbol_by_squares ?a_law_right ?l_law_right ?c_law_right ?k_law_right ?a_law ?l_law ?c_law ?k_law ?z_isinstance ?z_int ?z_bool ?z_len ?z_tuple ?z_range ?z_enumerate ?z_list ?z_max ?z_sum ?z_min ?v_BASES ?w_BASES ?v_MOST ?v_MOST_TRIED
    (case a_is_whole => k_is); (case l_is_whole => k_is); (case c_is_whole => k_is); (case k_is_whole => k_is); (case a_is_within => k_is); (case l_is_within => k_is); (case c_is_within => k_is); (case k_is_within => k_is); (case a_need_base => k_is); (case l_need_base => k_is); (case c_need_base => k_is); (case k_need_base => k_is); (case a_need_as => k_is); (case l_need_as => k_is); (case c_need_as => k_is); (case k_need_as => k_is); (case a_trimmed => k_is); (case l_trimmed => k_is); (case c_trimmed => k_is); (case k_trimmed => k_is); (case a_row_of => k_is); (case l_row_of => k_is); (case c_row_of => k_is); (case k_row_of => k_is); (case a_number_by => k_is); (case l_number_by => k_is); (case c_number_by => k_is); (case k_number_by => k_is); (case a_plain_row => k_is); (case l_plain_row => k_is); (case c_plain_row => k_is); (case k_plain_row => k_is); (case a_plain_of => k_is); (case l_plain_of => k_is); (case c_plain_of => k_is); (case k_plain_of => k_is); (case a_times_rows => k_is); (case l_times_rows => k_is); (case c_times_rows => k_is); (case k_times_rows => k_is); (case a_divided_rows => k_is); (case l_divided_rows => k_is); (case c_divided_rows => k_is); (case k_divided_rows => k_is); (case a_need_two => k_is); (case l_need_two => k_is); (case c_need_two => k_is); (case k_need_two => k_is); (case a_product_of => k_is); (case l_product_of => k_is); (case c_product_of => k_is); (case k_product_of => k_is); (case a_quotient_of => k_is); (case l_quotient_of => k_is); (case c_quotient_of => k_is); (case k_quotient_of => k_is); (case a_powered => k_is); (case l_powered => k_is); (case c_powered => k_is); (case k_powered => k_is); (case a_plain_rows => k_is); (case l_plain_rows => k_is); (case c_plain_rows => k_is); (case k_plain_rows => k_is); (case a_is_prime_row => k_is); (case l_is_prime_row => k_is); (case c_is_prime_row => k_is); (case k_is_prime_row => k_is); (case a_is_prime_number => k_is); (case l_is_prime_number => k_is); (case c_is_prime_number => k_is); (case k_is_prime_number => k_is); (case a_need_prime => k_is); (case l_need_prime => k_is); (case c_need_prime => k_is); (case k_need_prime => k_is); (case a_factors_by => k_is); (case l_factors_by => k_is); (case c_factors_by => k_is); (case k_factors_by => k_is); (case a_common_rows => k_is); (case l_common_rows => k_is); (case c_common_rows => k_is); (case k_common_rows => k_is); (case a_free_by => k_is); (case l_free_by => k_is); (case c_free_by => k_is); (case k_free_by => k_is); (case a_factors_of => k_is); (case l_factors_of => k_is); (case c_factors_of => k_is); (case k_factors_of => k_is); (case a_free_many => k_is); (case l_free_many => k_is); (case c_free_many => k_is); (case k_free_many => k_is); (case a_need_modulus => k_is); (case l_need_modulus => k_is); (case c_need_modulus => k_is); (case k_need_modulus => k_is); (case a_need_odd_base => k_is); (case l_need_odd_base => k_is); (case c_need_odd_base => k_is); (case k_need_odd_base => k_is); (case a_power_rest => k_is); (case l_power_rest => k_is); (case c_power_rest => k_is); (case k_power_rest => k_is); (case a_symbol_by => k_is); (case l_symbol_by => k_is); (case c_symbol_by => k_is); (case k_symbol_by => k_is); (case a_need_sides => k_is); (case l_need_sides => k_is); (case c_need_sides => k_is); (case k_need_sides => k_is); (case a_square_symbol => k_is); (case l_square_symbol => k_is); (case c_square_symbol => k_is); (case k_square_symbol => k_is); (case a_rests_of => k_is); (case l_rests_of => k_is); (case c_rests_of => k_is); (case k_rests_of => k_is); (case a_square_rest => k_is); (case l_square_rest => k_is); (case c_square_rest => k_is); (case k_square_rest => k_is); (case a_root_of => k_is); (case l_root_of => k_is); (case c_root_of => k_is); (case k_root_of => k_is); (case a_squares_many => k_is); (case l_squares_many => k_is); (case c_squares_many => k_is); (case k_squares_many => k_is); (case a_law_begun => k_is); (case l_law_begun => k_is); (case c_law_begun => k_is); (case k_law_begun => k_is); (case a_law_mixed => k_is); (case l_law_mixed => k_is); (case c_law_mixed => k_is); (case k_law_mixed => k_is); (case a_law_take => k_is); (case l_law_take => k_is); (case c_law_take => k_is); (case k_law_take => k_is); (case a_law_pick => k_is); (case l_law_pick => k_is); (case c_law_pick => k_is); (case k_law_pick => k_is); (case a_law_row => k_is); (case l_law_row => k_is); (case c_law_row => k_is); (case k_law_row => k_is); (case a_law_worth => k_is); (case l_law_worth => k_is); (case c_law_worth => k_is); (case k_law_worth => k_is); (case a_law_cut => k_is); (case l_law_cut => k_is); (case c_law_cut => k_is); (case k_law_cut => k_is); (case a_law_times => k_is); (case l_law_times => k_is); (case c_law_times => k_is); (case k_law_times => k_is); (case a_law_divided => k_is); (case l_law_divided => k_is); (case c_law_divided => k_is); (case k_law_divided => k_is); (case a_law_plain => k_is); (case l_law_plain => k_is); (case c_law_plain => k_is); (case k_law_plain => k_is); (case a_law_power => k_is); (case l_law_power => k_is); (case c_law_power => k_is); (case k_law_power => k_is); (case a_law_factors => k_is); (case l_law_factors => k_is); (case c_law_factors => k_is); (case k_law_factors => k_is); (case a_law_is_prime => k_is); (case l_law_is_prime => k_is); (case c_law_is_prime => k_is); (case k_law_is_prime => k_is); (case a_law_prime => k_is); (case l_law_prime => k_is); (case c_law_prime => k_is); (case k_law_prime => k_is); (case a_law_modulus => k_is); (case l_law_modulus => k_is); (case c_law_modulus => k_is); (case k_law_modulus => k_is); (case a_law_symbol_by_squares => k_is); (case l_law_symbol_by_squares => k_is); (case c_law_symbol_by_squares => k_is); (case k_law_symbol_by_squares => k_is); (case a_law_right => k_is); (case l_law_right => k_is); (case c_law_right => k_is); (case k_law_right => k_is); (case a_law => k_is); (case l_law => k_is); (case c_law => k_is); (case k_law => k_is); (case z_isinstance => k_is); (case z_int => k_is); (case z_bool => k_is); (case z_len => k_is); (case z_tuple => k_is); (case z_range => k_is); (case z_enumerate => k_is); (case z_list => k_is); (case z_max => k_is); (case z_sum => k_is); (case z_min => k_is); (case v_BASES => k_is); (case w_BASES => k_is); (case v_MOST => k_is); (case v_MOST_TRIED => k_is)
