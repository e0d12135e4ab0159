import PyProof.Rows.All
import Wide.All
import OpenK.AllK
import Wide.FinOn
import HandS.Base
import HandS.Call
import HandS.List
import HandS.Comp
import HandS.Conv
import HandS.Words
import HandS.WordsList
import HandS.TupLe
import HandS.TupAny
import HandS.Iter
import HandS.Dict
import KE.KeyNested
import KE.KDictKeyed
import PyProof.P3In
import PyProof.Rows.InDataRows
import HandS.IsInst
import HandS.TupSets
import HandS.SortInts
import KE.DataCmp
import KE.DataMinMax
import KE.DataIsa
import KE.DataFind
import KE.SortData
import KE.LtSeq
import KE.LtData
import KE.KSortTup
import HandS.Wide
import PyProof.FactsLen
import PyProof.Rows.FactsT1
import PyProof.Rows.FactsT2
import PyProof.Rows.FactsT3
import PyProof.Rows.FactsN_isinstance
import PyProof.Rows.FactsN_abs
import PyProof.Rows.SeqCalls
import PyProof.Rows.SeqRange
import PyProof.Rows.EnumRows
import KE.GoesEnum
import KE.GoesMore
import HandS.Style
import KE.KDictDisplayH
import KE.KDictWalk
import KE.KDictCopyH
import KE.KDictSum
import PyProof.Rows.SumGenD
import PyProof.SumAny
import KE.GoesZip
import HandS.TupMul
import HandS.SetFor
import HandS.Strs
import HandS.Deep
import KE.KEqDict
import KE.KTupSum
import PySem.Challenge.RW_handons_k74_across_long_forests
section
set_option Elab.async false
set_option linter.all false
set_option maxRecDepth 100000
/-! A layer of data over the hand layer: what an expression is worth as data, and what a block does to the frame's data. -/
namespace DL
open PySem PySem.Spec PyProof.Rows L2

abbrev D := PyData
/-! ### heaps -/
def Ex (H H' : Hp) : Prop := ∀ a o, H a = some o → H' a = some o
theorem Ex.refl (H : Hp) : Ex H H := fun _ _ h => h
theorem Ex.trans {H H1 H2 : Hp} (a : Ex H H1) (b : Ex H1 H2) : Ex H H2 := fun x o h => b x o (a x o h)
theorem Ex.new {H : Hp} {p : Addr} {o : HO} (h : H p = none) : Ex H (upd H p o) := fun b x e => by
  rw [upd_ne (ne_of_none e h)]
  exact e
theorem Ex.free {H H' : Hp} (e : Ex H H') {l : Addr} (h : H' l = Option.none) : H l = Option.none := by
  cases q : H l with
  | none => rfl
  | some o => rw [e l o q] at h; cases h
theorem Ex.rd {H H' : Hp} {a : Addr} {u : HO} (e : Ex H H') (h : Rd H a u) : Rd H' a u := by
  rcases h with h | ⟨o, h⟩
  · exact .inl (e _ _ h)
  · exact .inr ⟨o, e _ _ h⟩
theorem Ex.sql {K : PySem.W.Frag} {H H' : Hp} {a : Addr} {xs : List V} (e : Ex H H') (h : SqL K H a xs) : SqL K H' a xs := by
  rcases h with h | h
  · exact .inl (e.rd h)
  · exact .inr h
theorem Ex.sqt {K : PySem.W.Frag} {H H' : Hp} {a : Addr} {xs : List V} (e : Ex H H') (h : SqT K H a xs) : SqT K H' a xs := by
  rcases h with h | h
  · exact .inl (e.rd h)
  · exact .inr h
theorem Ex.both {F H : Hp} {p : Addr} {o : HO} (e : Ex F H) : Ex (upd F p o) (upd H p o) := fun b x q => by
  by_cases hb : b = p
  · subst hb
    rw [upd_same] at q ⊢
    exact q
  · rw [upd_ne hb] at q ⊢
    exact e b x q

/-! ### data in a heap -/
def keyD : Key → D
  | .inl i => .int i
  | .inr x => .str x
/-! keys: numbers, texts (a dict of such); tuples without texts, to depth 8 (a dict of such) -/
mutual
def nkD : D → Option NestedKey
  | .none => some .none
  | .bool b => some (.num (if b = true then 1 else 0))
  | .int i => some (.num i)
  | .tuple ds => (nkDs ds).map .tup
  | _ => none
def nkDs : List D → Option (List NestedKey)
  | [] => some []
  | d :: ds => (nkD d).bind fun k => (nkDs ds).map (k :: ·)
end
/-- the key that a value is, in a dict of tuples (t), of numbers and texts (not t) -/
def kOf (t : Bool) : D → Option NestedKey
  | .int i => if t then none else some (.num i)
  | .str x => if t then none else some (.text x)
  | .tuple ds => if t then (nkDs ds).bind fun ks => if (NestedKey.tup ks).depth ≤ 8 then some (.tup ks) else none else none
  | _ => none
abbrev DEs := List (NestedKey × Addr × Value)
/-- what is true of the object of a dict with tuple keys -/
def DPhi (a : Addr) (xs : DEs) (h : Heap) : Prop := (a == sysModules) = false ∧ xs.length ≤ sizeLine ∧ (xs.map (·.1)).Nodup ∧
  ∃ o es ep, h.get? a = some o ∧ o.ExactDict ∧ o.data = .dict es ep ∧ ∀ w : World, es.toList = xs.map fun x => ⟨x.1.hash w, .ref x.2.1, x.2.2⟩
def DN (a : Addr) (xs : DEs) : HO := .ext (DPhi a xs)
mutual
inductive Rp (K : PySem.W.Frag) (H : Hp) : V → D → Prop
  | non : Rp K H .non .none
  | bl (b : Bool) : Rp K H (.bl b) (.bool b)
  | int (i : Int) : Rp K H (.int i) (.int i)
  | str (x : Str) : Rp K H (.str x) (.str x)
  | lst {a : Addr} {xs : List V} {ds : List D} : SqL K H a xs → RpA K H xs ds → Rp K H (.ref a) (.list ds)
  | tup {a : Addr} {xs : List V} {ds : List D} : SqT K H a xs → RpA K H xs ds → Rp K H (.ref a) (.tuple ds)
  | dk {a : Addr} {o : Obj} {kvs : List (Key × V)} {ds : List (D × D)} : ds ≠ [] → H a = some (.frz o (.dK kvs)) → RpK K H kvs ds → Rp K H (.ref a) (.dict ds)
  | dn {a : Addr} {o : Obj} {xs : DEs} {ds : List (D × D)} : H a = some (.frz o (DN a xs)) → RpN K H xs ds → Rp K H (.ref a) (.dict ds)
inductive RpA (K : PySem.W.Frag) (H : Hp) : List V → List D → Prop
  | nil : RpA K H [] []
  | cons {v : V} {vs : List V} {d : D} {ds : List D} : Rp K H v d → RpA K H vs ds → RpA K H (v :: vs) (d :: ds)
inductive RpK (K : PySem.W.Frag) (H : Hp) : List (Key × V) → List (D × D) → Prop
  | nil : RpK K H [] []
  | cons {k : Key} {v : V} {d : D} {r : List (Key × V)} {ds : List (D × D)} : Rp K H v d → RpK K H r ds → RpK K H ((k, v) :: r) ((keyD k, d) :: ds)
inductive RpN (K : PySem.W.Frag) (H : Hp) : List (NestedKey × Addr × Value) → List (D × D) → Prop
  | nil : RpN K H [] []
  | cons {k : NestedKey} {q : Addr} {u : Value} {v : V} {kd d : D} {r : List (NestedKey × Addr × Value)} {ds : List (D × D)} : Rp K H (.ref q) kd → kOf true kd = some k → RelV v u → Rp K H v d → RpN K H r ds → RpN K H ((k, q, u) :: r) ((kd, d) :: ds)
end
section
variable {K : PySem.W.Frag} {F H H' : Hp}
mutual
theorem Rp.mono (e : Ex H H') : ∀ {v : V} {d : D}, Rp K H v d → Rp K H' v d
  | _, _, .non => .non
  | _, _, .bl b => .bl b
  | _, _, .int i => .int i
  | _, _, .str x => .str x
  | _, _, .lst h r => .lst (e.sql h) (RpA.mono e r)
  | _, _, .tup h r => .tup (e.sqt h) (RpA.mono e r)
  | _, _, .dk z h r => .dk z (e _ _ h) (RpK.mono e r)
  | _, _, .dn h r => .dn (e _ _ h) (RpN.mono e r)
theorem RpA.mono (e : Ex H H') : ∀ {v : List V} {d : List D}, RpA K H v d → RpA K H' v d
  | _, _, .nil => .nil
  | _, _, .cons h r => .cons (Rp.mono e h) (RpA.mono e r)
theorem RpK.mono (e : Ex H H') : ∀ {v : List (Key × V)} {d : List (D × D)}, RpK K H v d → RpK K H' v d
  | _, _, .nil => .nil
  | _, _, .cons h r => .cons (Rp.mono e h) (RpK.mono e r)
theorem RpN.mono (e : Ex H H') : ∀ {v : List (NestedKey × Addr × Value)} {d : List (D × D)}, RpN K H v d → RpN K H' v d
  | _, _, .nil => .nil
  | _, _, .cons h1 h2 h3 h4 r => .cons (Rp.mono e h1) h2 h3 (Rp.mono e h4) (RpN.mono e r)
end
theorem RpA.length {xs : List V} {ds : List D} (h : RpA K H xs ds) : xs.length = ds.length := by
  induction xs generalizing ds with
  | nil => cases h; rfl
  | cons x xs ih =>
    cases h with
    | cons _ r => rw [List.length_cons, List.length_cons, ih r]
theorem RpA.get : ∀ {xs : List V} {ds : List D} {i : Nat} {d : D}, RpA K H xs ds → ds[i]? = some d → ∃ v, xs[i]? = some v ∧ Rp K H v d
  | _, _, _, _, .nil, e => by simp at e
  | _, _, 0, _, .cons r _, e => by simp at e; subst e; exact ⟨_, rfl, r⟩
  | _, _, i + 1, d, .cons _ t, e => by
    obtain ⟨u, h1, h2⟩ := RpA.get (i := i) (d := d) t (by simpa using e)
    exact ⟨u, by simpa using h1, h2⟩
theorem RpA.getV : ∀ {xs : List V} {ds : List D} {i : Nat} {v : V}, RpA K H xs ds → xs[i]? = some v → ∃ d, ds[i]? = some d ∧ Rp K H v d
  | _, _, _, _, .nil, e => by simp at e
  | _, _, 0, _, .cons r _, e => by simp at e; subst e; exact ⟨_, rfl, r⟩
  | _, _, i + 1, d, .cons _ t, e => by
    obtain ⟨u, h1, h2⟩ := RpA.getV (i := i) (v := d) t (by simpa using e)
    exact ⟨u, by simpa using h1, h2⟩
theorem RpA.append : ∀ {xs ys : List V} {ds es : List D}, RpA K H xs ds → RpA K H ys es → RpA K H (xs ++ ys) (ds ++ es)
  | _, _, _, _, .nil, s => s
  | _, _, _, _, .cons r t, s => .cons r (RpA.append t s)
theorem RpA.one {v : V} {d : D} (r : Rp K H v d) : RpA K H [v] [d] := .cons r .nil
theorem RpA.take : ∀ {xs : List V} {ds : List D} (n : Nat), RpA K H xs ds → RpA K H (xs.take n) (ds.take n)
  | _, _, 0, _ => by rw [List.take_zero, List.take_zero]; exact .nil
  | _, _, _ + 1, .nil => .nil
  | _, _, n + 1, .cons r t => .cons r (RpA.take n t)
theorem RpA.drop : ∀ {xs : List V} {ds : List D} (n : Nat), RpA K H xs ds → RpA K H (xs.drop n) (ds.drop n)
  | _, _, 0, r => r
  | _, _, _ + 1, .nil => .nil
  | _, _, n + 1, .cons _ t => RpA.drop n t
theorem RpA.set {v : V} {d : D} (r : Rp K H v d) : ∀ {xs : List V} {ds : List D} (i : Nat), RpA K H xs ds → RpA K H (xs.set i v) (ds.set i d)
  | _, _, _, .nil => .nil
  | _, _, 0, .cons _ t => .cons r t
  | _, _, i + 1, .cons q t => .cons q (RpA.set r i t)
theorem RpA.reverse : ∀ {xs : List V} {ds : List D}, RpA K H xs ds → RpA K H xs.reverse ds.reverse
  | _, _, .nil => .nil
  | _, _, .cons r t => by
    rw [List.reverse_cons, List.reverse_cons]
    exact RpA.append (RpA.reverse t) (.one r)
/-! scalars -/
def scD : D → Bool
  | .none => true | .bool _ => true | .int _ => true | .str _ => true | _ => false
theorem Rp.sc {v : V} {d : D} (h : Rp K H v d) (s : scD d = true) : ∀ F, Rp K F v d := by
  cases h <;> intro F
  · exact .non
  · exact .bl _
  · exact .int _
  · exact .str _
  all_goals (simp only [scD] at s; cases s)
/-! without dicts: the library's own relation -/
mutual
def nd : D → Bool
  | .list xs => ndA xs
  | .tuple xs => ndA xs
  | .dict _ => false
  | _ => true
def ndA : List D → Bool
  | [] => true
  | x :: xs => nd x && ndA xs
end
mutual
theorem Rp.dp : ∀ {v : V} {d : D}, Rp K H v d → nd d = true → Dp K H v d
  | _, _, .non, _ => .non
  | _, _, .bl b, _ => .bl b
  | _, _, .int i, _ => .int i
  | _, _, .str x, _ => .str x
  | _, _, .lst h r, e => .lst h (RpA.dp r (by simpa only [nd] using e))
  | _, _, .tup h r, e => .tup h (RpA.dp r (by simpa only [nd] using e))
  | _, _, .dk _ h r, e => by simp only [nd] at e; cases e
  | _, _, .dn h r, e => by simp only [nd] at e; cases e
theorem RpA.dp : ∀ {v : List V} {d : List D}, RpA K H v d → ndA d = true → DpAll K H v d
  | _, _, .nil, _ => .nil
  | _, _, .cons h r, e => by
    simp only [ndA, Bool.and_eq_true] at e
    exact .cons (Rp.dp h e.1) (RpA.dp r e.2)
end
end

/-! ### the frame's data -/
inductive B where
  /-- nothing is known | data that may be held elsewhere | a list of the frame's own | the caller's list, handed down | a dict of the frame's own (t: of tuple keys) -/
  | no | sh (d : D) | ow (ds : List D) | io (ds : List D) | od (t : Bool) (kvs : List (D × D))
def B.own : B → Bool
  | .ow _ => true
  | .io _ => true
  | .od _ _ => true
  | _ => false
abbrev Fm := List B
def ownA (σ : L2.St) (ρ : Fm) (a : Addr) : Prop := ∃ (i : Nat) (b : B), ρ[i]? = some b ∧ b.own = true ∧ σ[i]? = some (some (.ref a))
def OwnL (K : PySem.W.Frag) (F H : Hp) (o : Option (Option V)) (ds : List D) : Prop := ∃ (a : Addr) (vs : List V), o = some (some (.ref a)) ∧ H a = some (.lst vs) ∧ F a = none ∧ RpA K F vs ds
/-- the dict at a, of one's own, as data -/
def Dct (K : PySem.W.Frag) (F H : Hp) (a : Addr) : Bool → List (D × D) → Prop
  | false, ds => ∃ kvs, H a = some (.dK kvs) ∧ RpK K F kvs ds
  | true, ds => ∃ xs, H a = some (DN a xs) ∧ RpN K F xs ds
def OwnD (K : PySem.W.Frag) (F H : Hp) (o : Option (Option V)) (t : Bool) (ds : List (D × D)) : Prop := ∃ a : Addr, o = some (some (.ref a)) ∧ F a = none ∧ Dct K F H a t ds
def BRel (K : PySem.W.Frag) (F H : Hp) (o : Option (Option V)) : B → Prop
  | .no => True
  | .sh d => ∃ v, o = some (some v) ∧ Rp K F v d
  | .ow ds => OwnL K F H o ds
  | .io ds => OwnL K F H o ds
  | .od t kvs => OwnD K F H o t kvs
structure Rel (K : PySem.W.Frag) (F H : Hp) (σ : L2.St) (ρ : Fm) : Prop where
  ex : Ex F H
  len : σ.length = ρ.length
  at_ : ∀ (i : Nat) (b : B), ρ[i]? = some b → BRel K F H σ[i]? b
  sep : ∀ (i j : Nat) (b c : B) (a : Addr), ρ[i]? = some b → b.own = true → ρ[j]? = some c → c.own = true → σ[i]? = some (some (.ref a)) → σ[j]? = some (some (.ref a)) → i = j
/-- the heap has grown, nothing of it is changed, what was hidden is hidden -/
structure Gr (F H F' H' : Hp) : Prop where
  ex : Ex F F'
  in_ : Ex F' H'
  keep : Ex H H'
  hide : ∀ a, H a ≠ none → F a = none → F' a = none
theorem Gr.refl {F H : Hp} (e : Ex F H) : Gr F H F H := ⟨.refl _, e, .refl _, fun _ _ h => h⟩
theorem Gr.trans {F H F1 H1 F2 H2 : Hp} (a : Gr F H F1 H1) (b : Gr F1 H1 F2 H2) : Gr F H F2 H2 :=
  ⟨a.ex.trans b.ex, b.in_, a.keep.trans b.keep, fun x hx hf => b.hide x (fun z => hx (a.keep.free z)) (a.hide x hx hf)⟩
/-- a new object, seen -/
theorem Gr.new {F H : Hp} {p : Addr} {o : HO} (e : Ex F H) (hp : H p = none) : Gr F H (upd F p o) (upd H p o) :=
  ⟨.new (e.free hp), e.both, .new hp, fun a ha hf => by
    have : a ≠ p := fun z => ha (by rw [z]; exact hp)
    rw [upd_ne this]
    exact hf⟩
/-- a new object, not seen -/
theorem Gr.newH {F H : Hp} {p : Addr} {o : HO} (e : Ex F H) (hp : H p = none) : Gr F H F (upd H p o) :=
  ⟨.refl _, e.trans (.new hp), .new hp, fun a _ hf => hf⟩
theorem Gr.ext {F H H' : Hp} (e : Ex F H) (k : Ex H H') : Gr F H F H' := ⟨.refl _, e.trans k, k, fun _ _ h => h⟩
section
variable {K : PySem.W.Frag} {F H F' H' F2 H2 : Hp} {σ σ' σ2 : L2.St} {ρ ρ' ρ2 : Fm}
theorem OwnL.gr {o : Option (Option V)} {ds : List D} (h : OwnL K F H o ds) (g : Gr F H F' H') : OwnL K F' H' o ds := by
  obtain ⟨a, vs, e1, e2, e3, r⟩ := h
  exact ⟨a, vs, e1, g.keep _ _ e2, g.hide a (by rw [e2]; intro z; cases z) e3, r.mono g.ex⟩
theorem Dct.live {a : Addr} {t : Bool} {ds : List (D × D)} (h : Dct K F H a t ds) : ∃ u, H a = some u ∧ Mut (some u) := by
  cases t with
  | false =>
    obtain ⟨kvs, e, _⟩ := h
    exact ⟨_, e, trivial⟩
  | true =>
    obtain ⟨xs, e, _⟩ := h
    exact ⟨_, e, trivial⟩
theorem Dct.move {a : Addr} {t : Bool} {ds : List (D × D)} (h : Dct K F H a t ds) (e : Ex F F') (k : ∀ u, H a = some u → H' a = some u) : Dct K F' H' a t ds := by
  cases t with
  | false =>
    obtain ⟨kvs, e1, r⟩ := h
    exact ⟨kvs, k _ e1, RpK.mono e r⟩
  | true =>
    obtain ⟨xs, e1, r⟩ := h
    exact ⟨xs, k _ e1, RpN.mono e r⟩
theorem OwnD.gr {o : Option (Option V)} {t : Bool} {ds : List (D × D)} (h : OwnD K F H o t ds) (g : Gr F H F' H') : OwnD K F' H' o t ds := by
  obtain ⟨a, e1, e3, d⟩ := h
  obtain ⟨u, e2, _⟩ := d.live
  exact ⟨a, e1, g.hide a (by rw [e2]; intro z; cases z) e3, d.move g.ex fun u e => g.keep _ _ e⟩
theorem BRel.gr {o : Option (Option V)} : ∀ {b : B}, BRel K F H o b → Gr F H F' H' → BRel K F' H' o b
  | .no, _, _ => trivial
  | .sh d, ⟨v, e, r⟩, g => ⟨v, e, r.mono g.ex⟩
  | .ow ds, h, g => OwnL.gr (show OwnL K F H o ds from h) g
  | .io ds, h, g => OwnL.gr (show OwnL K F H o ds from h) g
  | .od t ds, h, g => OwnD.gr (show OwnD K F H o t ds from h) g
theorem Rel.gr (h : Rel K F H σ ρ) (g : Gr F H F' H') : Rel K F' H' σ ρ :=
  ⟨g.in_, h.len, fun i b e => (h.at_ i b e).gr g, h.sep⟩
/-- what a step may do: own lists change, new own lists are new objects -/
structure Go (K : PySem.W.Frag) (F H : Hp) (σ : L2.St) (ρ : Fm) (F' H' : Hp) (σ' : L2.St) (ρ' : Fm) : Prop where
  rel : Rel K F' H' σ' ρ'
  ex : Ex F F'
  keep : ∀ a o, H a = some o → ¬ ownA σ ρ a → H' a = some o
  live : ∀ a, H a ≠ none → H' a ≠ none
  hide : ∀ a, H a ≠ none → F a = none → ¬ ownA σ ρ a → F' a = none
  sub : ∀ a, ownA σ' ρ' a → ownA σ ρ a ∨ H a = none
  io : ∀ (i : Nat) (ds : List D), ρ'[i]? = some (.io ds) → (∃ ds0, ρ[i]? = some (.io ds0)) ∧ σ'[i]? = σ[i]?
theorem Go.refl (h : Rel K F H σ ρ) : Go K F H σ ρ F H σ ρ :=
  ⟨h, .refl _, fun _ _ e _ => e, fun _ e => e, fun _ _ e _ => e, fun _ o => .inl o, fun _ ds e => ⟨⟨ds, e⟩, rfl⟩⟩
theorem Go.trans (a : Go K F H σ ρ F' H' σ' ρ') (b : Go K F' H' σ' ρ' F2 H2 σ2 ρ2) : Go K F H σ ρ F2 H2 σ2 ρ2 where
  rel := b.rel
  ex := a.ex.trans b.ex
  keep := fun x o e n => b.keep x o (a.keep x o e n) fun z => (a.sub x z).elim n fun w => by rw [w] at e; cases e
  live := fun x e => b.live x (a.live x e)
  hide := fun x e f n => b.hide x (a.live x e) (a.hide x e f n) fun z => (a.sub x z).elim n fun w => e w
  sub := fun x o => (b.sub x o).elim (a.sub x) fun w => .inr (by
    cases q : H x with
    | none => rfl
    | some u => exact absurd w (a.live x (by rw [q]; intro z; cases z)))
  io := fun i ds e => by
    obtain ⟨⟨d1, e1⟩, s1⟩ := b.io i ds e
    obtain ⟨h2, s2⟩ := a.io i d1 e1
    exact ⟨h2, s1.trans s2⟩
theorem Go.gr (h : Rel K F H σ ρ) (g : Gr F H F' H') : Go K F H σ ρ F' H' σ ρ where
  rel := h.gr g
  ex := g.ex
  keep := fun a o e _ => g.keep a o e
  live := fun a e z => e (g.keep.free z)
  hide := fun a e f _ => g.hide a e f
  sub := fun _ o => .inl o
  io := fun _ ds e => ⟨⟨ds, e⟩, rfl⟩
end

/-! ### what a reading is worth -/
/-- the value d comes: as something new or as something that is there -/
def Res (K : PySem.W.Frag) (F H : Hp) (d : D) (Q : VK) : Prop := ∀ v F' H', Gr F H F' H' → Rp K F' v d → Q v H'
/-- a value that may be an own list (to be read only) -/
def DV (K : PySem.W.Frag) (F H : Hp) (a : Addr) (ds : List (D × D)) : Prop := (∃ kvs, Rd H a (.dK kvs) ∧ RpK K F kvs ds) ∨ ∃ xs, Rd H a (DN a xs) ∧ RpN K F xs ds
inductive Vw (K : PySem.W.Frag) (F H : Hp) (v : V) (d : D) : Prop
  | inl (h : Rp K F v d)
  | inr (h : ∃ (a : Addr) (vs : List V) (ds : List D), v = .ref a ∧ d = .list ds ∧ H a = some (.lst vs) ∧ RpA K F vs ds)
  | ind (h : ∃ (a : Addr) (ds : List (D × D)), v = .ref a ∧ d = .dict ds ∧ DV K F H a ds)
def ResV (K : PySem.W.Frag) (F H : Hp) (d : D) (Q : VK) : Prop := ∀ v F' H', Gr F H F' H' → Vw K F' H' v d → Q v H'
def ResA (K : PySem.W.Frag) (F H : Hp) (ds : List D) (Q : List V → Hp → Prop) : Prop := ∀ vs F' H', Gr F H F' H' → RpA K F' vs ds → Q vs H'
def ResB (F H : Hp) (b : Bool) (Q : Bool → Hp → Prop) : Prop := ∀ F' H', Gr F H F' H' → Q b H'
/-- plain: nothing of the frame is changed -/
def SP (K : PySem.W.Frag) (t : TE) (f : Fm → Option D) : Prop := ∀ F H σ ρ d, f ρ = some d → Rel K F H σ ρ → ∀ Q : VK, Res K F H d Q → t σ H Q
def SV (K : PySem.W.Frag) (t : TE) (f : Fm → Option D) : Prop := ∀ F H σ ρ d, f ρ = some d → Rel K F H σ ρ → ∀ Q : VK, ResV K F H d Q → t σ H Q
def SB (K : PySem.W.Frag) (t : TT) (f : Fm → Option Bool) : Prop := ∀ F H σ ρ b, f ρ = some b → Rel K F H σ ρ → ∀ Q : Bool → Hp → Prop, ResB F H b Q → t σ H Q
def SA (K : PySem.W.Frag) (t : TA) (f : Fm → Option (List D)) : Prop := ∀ F H σ ρ ds, f ρ = some ds → Rel K F H σ ρ → ∀ Q : List V → Hp → Prop, ResA K F H ds Q → t σ H Q
/-- with an effect on own lists -/
def SE (K : PySem.W.Frag) (t : TE) (f : Fm → Option (D × Fm)) : Prop := ∀ F H σ ρ d ρ', f ρ = some (d, ρ') → Rel K F H σ ρ → ∀ Q : VK, (∀ v F' H', Go K F H σ ρ F' H' σ ρ' → Rp K F' v d → Q v H') → t σ H Q
def SEB (K : PySem.W.Frag) (t : TT) (f : Fm → Option (Bool × Fm)) : Prop := ∀ F H σ ρ b ρ', f ρ = some (b, ρ') → Rel K F H σ ρ → ∀ Q : Bool → Hp → Prop, (∀ F' H', Go K F H σ ρ F' H' σ ρ' → Q b H') → t σ H Q
def SEA (K : PySem.W.Frag) (t : TA) (f : Fm → Option (List D × Fm)) : Prop := ∀ F H σ ρ ds ρ', f ρ = some (ds, ρ') → Rel K F H σ ρ → ∀ Q : List V → Hp → Prop, (∀ vs F' H', Go K F H σ ρ F' H' σ ρ' → RpA K F' vs ds → Q vs H') → t σ H Q
/-- how a block ends -/
inductive Fl where
  | nx | bk | rt (d : D)
def SS (K : PySem.W.Frag) (t : TS) (f : Fm → Option (Fl × Fm)) : Prop := ∀ F H σ ρ fl ρ', f ρ = some (fl, ρ') → Rel K F H σ ρ → ∀ E : Ends,
  (fl = .nx → ∀ σ' F' H', Go K F H σ ρ F' H' σ' ρ' → E.nx σ' H') → (fl = .bk → ∀ σ' F' H', Go K F H σ ρ F' H' σ' ρ' → E.bk σ' H') →
  (∀ d, fl = .rt d → ∀ v σ' F' H', Go K F H σ ρ F' H' σ' ρ' → Rp K F' v d → E.rt v H') → t E σ H
/-- the judgements of syntax -/
def PP (X : Cx) (e : Expr) (f : Fm → Option D) : Prop := ∃ t, PE X e t ∧ SP X.K t f
def PV (X : Cx) (e : Expr) (f : Fm → Option D) : Prop := ∃ t, PE X e t ∧ SV X.K t f
def PB (X : Cx) (e : Expr) (f : Fm → Option Bool) : Prop := ∃ t, PT X e t ∧ SB X.K t f
def PAs (X : Cx) (es : List Expr) (f : Fm → Option (List D)) : Prop := ∃ t, PA X es t ∧ SA X.K t f ∧ ∀ ρ ds, f ρ = some ds → ds.length = es.length
def PX (X : Cx) (e : Expr) (f : Fm → Option (D × Fm)) : Prop := ∃ t, PE X e t ∧ SE X.K t f
def PXB (X : Cx) (e : Expr) (f : Fm → Option (Bool × Fm)) : Prop := ∃ t, PT X e t ∧ SEB X.K t f
def PXA (X : Cx) (es : List Expr) (f : Fm → Option (List D × Fm)) : Prop := ∃ t, PA X es t ∧ SEA X.K t f ∧ ∀ ρ ds ρ', f ρ = some (ds, ρ') → ds.length = es.length
def PSt (X : Cx) (s : Stmt) (f : Fm → Option (Fl × Fm)) : Prop := ∃ t, PS X s t ∧ SS X.K t f
def PBl (X : Cx) (ss : List Stmt) (f : Fm → Option (Fl × Fm)) : Prop := ∃ t, PSs X ss t ∧ SS X.K t f
end DL
end
section
set_option Elab.async false
set_option linter.all false
set_option maxRecDepth 100000
/-! Operators on data. -/
namespace DL
open PySem PySem.Spec PyProof.Rows L2
section
variable {K : PySem.W.Frag} {F H F' H' : Hp} {v : V} {d : D}
theorem DV.gr {a : Addr} {ds : List (D × D)} (h : DV K F H a ds) (g : Gr F H F' H') : DV K F' H' a ds := by
  rcases h with ⟨kvs, e, r⟩ | ⟨xs, e, r⟩
  · exact .inl ⟨kvs, g.keep.rd e, RpK.mono g.ex r⟩
  · exact .inr ⟨xs, g.keep.rd e, RpN.mono g.ex r⟩
theorem Dct.dv {a : Addr} {t : Bool} {ds : List (D × D)} (h : Dct K F H a t ds) : DV K F H a ds := by
  cases t with
  | false =>
    obtain ⟨kvs, e, r⟩ := h
    exact .inl ⟨kvs, .inl e, r⟩
  | true =>
    obtain ⟨xs, e, r⟩ := h
    exact .inr ⟨xs, .inl e, r⟩
theorem Vw.rp (h : Vw K F H v d) (e : Ex F H) (hn : nd d = true) : Rp K H v d := by
  rcases h with h | ⟨a, vs, ds, rfl, rfl, h1, h2⟩ | ⟨a, ds, rfl, rfl, h1⟩
  · exact h.mono e
  · exact .lst (.inl (.inl h1)) (h2.mono e)
  · simp only [nd] at hn; cases hn
theorem Vw.gr (h : Vw K F H v d) (g : Gr F H F' H') : Vw K F' H' v d := by
  rcases h with h | ⟨a, vs, ds, rfl, rfl, h1, h2⟩ | ⟨a, ds, rfl, rfl, h1⟩
  · exact .inl (h.mono g.ex)
  · exact .inr ⟨a, vs, ds, rfl, rfl, g.keep _ _ h1, h2.mono g.ex⟩
  · exact .ind ⟨a, ds, rfl, rfl, h1.gr g⟩
/-- a list to be read: its items are seen -/
theorem Vw.list {ds : List D} (h : Vw K F H v (.list ds)) (e : Ex F H) : ∃ (a : Addr) (xs : List V), v = .ref a ∧ SqL K H a xs ∧ RpA K F xs ds := by
  rcases h with h | ⟨a, vs, es, rfl, q, h1, h2⟩ | ⟨a, ds, rfl, q, h1⟩
  · cases h with
    | lst hs r => exact ⟨_, _, rfl, e.sql hs, r⟩
  · cases q
    exact ⟨_, _, rfl, .inl (.inl h1), h2⟩
  · cases q
theorem Vw.tuple {ds : List D} (h : Vw K F H v (.tuple ds)) (e : Ex F H) : ∃ (a : Addr) (xs : List V), v = .ref a ∧ SqT K H a xs ∧ RpA K F xs ds := by
  rcases h with h | ⟨a, vs, es, rfl, q, h1, h2⟩ | ⟨a, ds, rfl, q, h1⟩
  · cases h with
    | tup hs r => exact ⟨_, _, rfl, e.sqt hs, r⟩
  · cases q
  · cases q
theorem Vw.dict {ds : List (D × D)} (h : Vw K F H v (.dict ds)) (e : Ex F H) : ∃ a : Addr, v = .ref a ∧ DV K F H a ds := by
  rcases h with h | ⟨a, vs, es, rfl, q, h1, h2⟩ | ⟨a, ds, rfl, q, h1⟩
  · cases h with
    | dk z hs r => exact ⟨_, rfl, .inl ⟨_, .inr ⟨_, e _ _ hs⟩, r⟩⟩
    | dn hs r => exact ⟨_, rfl, .inr ⟨_, .inr ⟨_, e _ _ hs⟩, r⟩⟩
  · cases q
  · cases q
    exact ⟨a, rfl, h1⟩
theorem Vw.sc (h : Vw K F H v d) (s : scD d = true) : ∀ F, Rp K F v d := by
  rcases h with h | ⟨a, vs, es, rfl, rfl, h1, h2⟩ | ⟨a, ds, rfl, rfl, h1⟩
  · exact h.sc s
  · cases s
  · cases s
theorem Rp.intI {i : Int} (h : Rp K H v (.int i)) : v = .int i := by cases h; rfl
theorem Rp.blI {b : Bool} (h : Rp K H v (.bool b)) : v = .bl b := by cases h; rfl
theorem Rp.strI {x : Str} (h : Rp K H v (.str x)) : v = .str x := by cases h; rfl
theorem Rp.noneI (h : Rp K H v .none) : v = .non := by cases h; rfl
theorem Vw.int {i : Int} (h : Vw K F H v (.int i)) : v = .int i := (h.sc rfl H).intI
theorem Vw.bl {b : Bool} (h : Vw K F H v (.bool b)) : v = .bl b := (h.sc rfl H).blI
theorem Vw.str {x : Str} (h : Vw K F H v (.str x)) : v = .str x := (h.sc rfl H).strI
/-! results -/
theorem Res.sc {Q : VK} (k : Res K F H d Q) (e : Ex F H) (h : ∀ F, Rp K F v d) : Q v H := k v F H (.refl e) (h F)
theorem Res.at_ {Q : VK} (k : Res K F H d Q) (e : Ex F H) (h : Rp K F v d) : Q v H := k v F H (.refl e) h
theorem Res.lst {Q : VK} {ds : List D} {xs : List V} (k : Res K F H (.list ds) Q) (e : Ex F H) (h : RpA K F xs ds) : ∀ p, H p = none → Q (.ref p) (upd H p (.lst xs)) := fun p hp =>
  k (.ref p) _ _ (.new e hp) (.lst (.inl (.inl upd_same)) (h.mono (.new (e.free hp))))
theorem Res.tup {Q : VK} {ds : List D} {xs : List V} (k : Res K F H (.tuple ds) Q) (e : Ex F H) (h : RpA K F xs ds) : ∀ p, H p = none → Q (.ref p) (upd H p (.tup xs)) := fun p hp =>
  k (.ref p) _ _ (.new e hp) (.tup (.inl (.inl upd_same)) (h.mono (.new (e.free hp))))
theorem Res.gr {Q : VK} (k : Res K F H d Q) (g : Gr F H F' H') : Res K F' H' d Q := fun v F2 H2 g2 r => k v F2 H2 (g.trans g2) r
theorem ResV.gr {Q : VK} (k : ResV K F H d Q) (g : Gr F H F' H') : ResV K F' H' d Q := fun v F2 H2 g2 r => k v F2 H2 (g.trans g2) r
theorem resOfV {Q : VK} (k : ResV K F H d Q) : Res K F H d Q := fun v F2 H2 g r => k v F2 H2 g (.inl r)
end
/-! ### names, constants -/
def fVar (i : Nat) (ρ : Fm) : Option D := match ρ[i]? with
  | some (.sh d) => some d
  | _ => none
def fOwn (i : Nat) (ρ : Fm) : Option D := match ρ[i]? with
  | some (.sh d) => some d
  | some (.ow ds) => some (.list ds)
  | some (.io ds) => some (.list ds)
  | some (.od _ ds) => some (.dict ds)
  | _ => none
def fC (d : D) (_ : Fm) : Option D := some d
def fOp2 (g : D → D → Option D) (fa fb : Fm → Option D) (ρ : Fm) : Option D := (fa ρ).bind fun x => (fb ρ).bind fun y => g x y
def fOp1 (g : D → Option D) (fa : Fm → Option D) (ρ : Fm) : Option D := (fa ρ).bind g
section
variable {K : PySem.W.Frag} {ta tb te : TE} {fa fb fe : Fm → Option D}
theorem sp_var {i : Nat} : SP K (tVar i) (fVar i) := by
  intro F H σ ρ d hf hR Q k
  unfold fVar at hf
  cases e : ρ[i]? with
  | none => rw [e] at hf; cases hf
  | some b =>
    rw [e] at hf
    cases b <;> cases hf
    obtain ⟨v, e1, r⟩ := hR.at_ i _ e
    exact ⟨v, e1, k.at_ hR.ex r⟩
theorem sv_own {i : Nat} : SV K (tVar i) (fOwn i) := by
  intro F H σ ρ d hf hR Q k
  unfold fOwn at hf
  cases e : ρ[i]? with
  | none => rw [e] at hf; cases hf
  | some b =>
    rw [e] at hf
    cases b with
    | no => cases hf
    | sh d =>
      cases hf
      obtain ⟨v, e1, r⟩ := hR.at_ i _ e
      exact ⟨v, e1, k v F H (.refl hR.ex) (.inl r)⟩
    | ow ds =>
      cases hf
      obtain ⟨a, vs, e1, e2, e3, r⟩ := hR.at_ i _ e
      exact ⟨.ref a, e1, k _ F H (.refl hR.ex) (.inr ⟨a, vs, ds, rfl, rfl, e2, r⟩)⟩
    | io ds =>
      cases hf
      obtain ⟨a, vs, e1, e2, e3, r⟩ := hR.at_ i _ e
      exact ⟨.ref a, e1, k _ F H (.refl hR.ex) (.inr ⟨a, vs, ds, rfl, rfl, e2, r⟩)⟩
    | od t ds =>
      cases hf
      obtain ⟨a, e1, e3, r⟩ := hR.at_ i _ e
      exact ⟨.ref a, e1, k _ F H (.refl hR.ex) (.ind ⟨a, ds, rfl, rfl, r.dv⟩)⟩
theorem SP.sv (h : SP K te fe) : SV K te fe := fun F H σ ρ d hf hR Q k => h F H σ ρ d hf hR Q (resOfV k)
theorem sp_c {v : V} {d : D} (h : ∀ F, Rp K F v d) : SP K (tC v) (fC d) := by
  intro F H σ ρ d' hf hR Q k
  cases hf
  exact k.sc hR.ex h
/-- two operands, read -/
theorem sp_op2 {r : R2} {g : D → D → Option D} (hr : ∀ F H x y dx dy dz, Ex F H → Vw K F H x dx → Vw K F H y dy → g dx dy = some dz → ∀ Q : VK, Res K F H dz Q → r x y H Q)
    (ha : SV K ta fa) (hb : SV K tb fb) : SP K (tOp r ta tb) (fOp2 g fa fb) := by
  intro F H σ ρ d hf hR Q k
  unfold fOp2 at hf
  obtain ⟨dx, h1, hf⟩ := Option.bind_eq_some_iff.mp hf
  obtain ⟨dy, h2, hf⟩ := Option.bind_eq_some_iff.mp hf
  refine ha F H σ ρ dx h1 hR _ fun x F1 H1 g1 r1 => ?_
  refine hb F1 H1 σ ρ dy h2 (hR.gr g1) _ fun y F2 H2 g2 r2 => ?_
  exact hr F2 H2 x y dx dy d g2.in_ (r1.gr g2) r2 hf Q (k.gr (g1.trans g2))
theorem sp_op1 {r : V → Hp → VK → Prop} {g : D → Option D} (hr : ∀ F H x dx dz, Ex F H → Vw K F H x dx → g dx = some dz → ∀ Q : VK, Res K F H dz Q → r x H Q)
    (ha : SV K ta fa) : SP K (tUn r ta) (fOp1 g fa) := by
  intro F H σ ρ d hf hR Q k
  unfold fOp1 at hf
  obtain ⟨dx, h1, hf⟩ := Option.bind_eq_some_iff.mp hf
  refine ha F H σ ρ dx h1 hR _ fun x F1 H1 g1 r1 => ?_
  exact hr F1 H1 x dx d g1.in_ r1 hf Q (k.gr g1)
end
/-! ### arithmetic and + -/
def gI2 (p : Int → Int → Bool) (f : Int → Int → Int) : D → D → Option D
  | .int i, .int j => if p i j then some (.int (f i j)) else none
  | _, _ => none
def smI (i : Int) : Bool := decide (-(2 ^ 64) < i) && decide (i < 2 ^ 64)
def gSub : D → D → Option D := gI2 (fun _ _ => true) fun i j => i - j
def gMulI : D → D → Option D := gI2 (fun i j => smI i || smI j) fun i j => i * j
def gDiv : D → D → Option D := gI2 (fun _ j => decide (0 < j) && decide (j < 18446744073709551616)) fun i j => i / j
def gMod : D → D → Option D := gI2 (fun _ j => decide (0 < j)) fun i j => i % j
def gPow : D → D → Option D := gI2 (fun i j => decide (0 ≤ j) && decide (j ≤ 1000000) && decide (i.natAbs < 2 ^ 64)) fun i j => i ^ j.toNat
def bigN : Nat := 1000000
def gAdd : D → D → Option D
  | .int i, .int j => some (.int (i + j))
  | .list xs, .list ys => if xs.length + ys.length ≤ bigN then some (.list (xs ++ ys)) else none
  | .tuple xs, .tuple ys => if xs.length + ys.length ≤ bigN then some (.tuple (xs ++ ys)) else none
  | .str x, .str y => if x.length + y.length ≤ bigN then some (.str (x ++ y)) else none
  | _, _ => none
theorem big_le : bigN ≤ sizeLine := by decide
section
variable {K : PySem.W.Frag}
theorem vw_I2 {C : Int → Int → Prop} {p : Int → Int → Bool} {f : Int → Int → Int} (hp : ∀ i j, p i j = true → C i j) :
    ∀ F H x y dx dy dz, Ex F H → Vw K F H x dx → Vw K F H y dy → gI2 p f dx dy = some dz → ∀ Q : VK, Res K F H dz Q → rI C (fun i j => .int (f i j)) x y H Q := by
  intro F H x y dx dy dz e hx hy hg Q k
  unfold gI2 at hg
  split at hg
  · split at hg
    · rename_i hc
      cases hg
      exact ⟨_, _, hx.int, hy.int, hp _ _ hc, k.sc e fun _ => .int _⟩
    · cases hg
  · cases hg
theorem vw_I20 {f : Int → Int → Int} :
    ∀ F H x y dx dy dz, Ex F H → Vw K F H x dx → Vw K F H y dy → gI2 (fun _ _ => true) f dx dy = some dz → ∀ Q : VK, Res K F H dz Q → rI0 (fun i j => .int (f i j)) x y H Q := by
  intro F H x y dx dy dz e hx hy hg Q k
  obtain ⟨i, j, h1, h2, _, h3⟩ := vw_I2 (C := fun _ _ => True) (fun _ _ _ => trivial) F H x y dx dy dz e hx hy hg Q k
  exact ⟨i, j, h1, h2, h3⟩
theorem smI_mul {i j : Int} (h : (smI i || smI j) = true) : CMul i j := by
  unfold smI at h
  simp only [Bool.or_eq_true, Bool.and_eq_true, decide_eq_true_eq] at h
  exact h
end
/-- list + list, whatever list -/
def rCatS (K : PySem.W.Frag) : R2 := fun x y H Q => ∃ l b xs zs, x = .ref l ∧ y = .ref b ∧ SqL K H l xs ∧ SqL K H b zs ∧ xs.length + zs.length ≤ sizeLine ∧ ∀ p, H p = none → Q (.ref p) (upd H p (.lst (xs ++ zs)))

section
variable {X : Cx}
theorem op_catS : OpR X (binaryOp .Add) (rCatS X.K) := by
  intro pins s σ H x y v u Q I rx ry h
  obtain ⟨l, b, xs, zs, rfl, rfl, hH, hB, hz, q⟩ := h
  cases rx
  cases ry
  obtain ⟨its, r, pl, z⟩ := I.list hH
  obtain ⟨its2, r2, pl2, z2⟩ := I.list hB
  obtain ⟨⟨cls, dd, data, sl⟩, ho, hc, n, hd⟩ := pl.isList
  obtain ⟨⟨cls2, dd2, data2, sl2⟩, ho2, hc2, n2, hd2⟩ := pl2.isList
  simp only at hc hd hc2 hd2
  subst hc hd hc2 hd2
  have e : its.toArray ++ its2.toArray = (its ++ its2).toArray := by simp
  have e1 := r.length
  have e2 := r2.length
  refine concat_meets ⟨_, ho, rfl⟩ ⟨_, ho2, rfl⟩ noFill_list_add seq_list_add PySem.F.slot_list_add PySem.F.entry_list_add (PySem.F.args_list_add_2 _ _) (list_addW l b its.toArray its2.toArray n n2 dd dd2 sl sl2 (by simp only [List.size_toArray]; omega)) ⟨ho, ho2, ?_⟩
  rw [e]
  exact ⟨.ref _, _, I.lnew (t' := s.toks) (r.append r2) (by rw [List.length_append]; omega), rfl, q _ I.fresh⟩
/-- + of ints, lists, tuples, texts -/
def rAddAny (K : PySem.W.Frag) : R2 := fun x y H Q => rI0 (fun i j => .int (i + j)) x y H Q ∨ rCatS K x y H Q ∨ rCatA K x y H Q ∨ ∃ i j, x = .str i ∧ y = .str j ∧ i.length + j.length ≤ sizeLine ∧ Q (.str (i ++ j)) H
theorem op_addAny : OpR X (binaryOp .Add) (rAddAny X.K) := op_add.or (op_catS.or (op_catA.or op_add_str))
end
section
variable {K : PySem.W.Frag} {F H F' H' : Hp} {v : V} {d : D}
theorem vw_add : ∀ F H x y dx dy dz, Ex F H → Vw K F H x dx → Vw K F H y dy → gAdd dx dy = some dz → ∀ Q : VK, Res K F H dz Q → rAddAny K x y H Q := by
  intro F H x y dx dy dz e hx hy hg Q k
  unfold gAdd at hg
  split at hg
  · cases hg
    exact .inl ⟨_, _, hx.int, hy.int, k.sc e fun _ => .int _⟩
  · split at hg
    · rename_i hz
      cases hg
      obtain ⟨a, xs, rfl, s1, r1⟩ := hx.list e
      obtain ⟨b, ys, rfl, s2, r2⟩ := hy.list e
      have l1 := r1.length
      have l2 := r2.length
      exact .inr (.inl ⟨a, b, xs, ys, rfl, rfl, s1, s2, Nat.le_trans (by omega) big_le, k.lst e (r1.append r2)⟩)
    · cases hg
  · split at hg
    · rename_i hz
      cases hg
      obtain ⟨a, xs, rfl, s1, r1⟩ := hx.tuple e
      obtain ⟨b, ys, rfl, s2, r2⟩ := hy.tuple e
      have l1 := r1.length
      have l2 := r2.length
      refine .inr (.inr (.inl ⟨a, b, xs, ys, rfl, rfl, s1, s2, Nat.le_trans (by omega) big_le, fun n => ?_, fun n m => ?_, fun n m => k.tup e (r1.append r2)⟩))
      · subst n
        cases r1
        rcases hy with hy | ⟨_, _, _, _, q, _⟩ | ⟨_, _, _, q, _⟩
        · exact k.at_ e hy
        · cases q
        · cases q
      · subst m
        cases r2
        rw [List.append_nil] at k
        rcases hx with hx | ⟨_, _, _, _, q, _⟩ | ⟨_, _, _, q, _⟩
        · exact k.at_ e hx
        · cases q
        · cases q
    · cases hg
  · split at hg
    · rename_i hz
      cases hg
      exact .inr (.inr (.inr ⟨_, _, hx.str, hy.str, Nat.le_trans hz big_le, k.sc e fun _ => .str _⟩))
    · cases hg
  · cases hg
end
/-! ### comparisons -/
def okD (d : D) : Bool := SeqAt.shaped d
mutual
theorem nd_lay : ∀ {d : D}, PyData.canLay0 d = true → nd d = true
  | .none, _ => rfl
  | .bool _, _ => rfl
  | .int _, _ => rfl
  | .str _, _ => rfl
  | .list xs, h => by
    simp only [nd]
    exact ndA_lay (by simpa only [PyData.canLay0] using h)
  | .tuple xs, h => by
    simp only [nd]
    exact ndA_lay (by simpa only [PyData.canLay0] using h)
  | .dict _, h => by simp only [PyData.canLay0] at h; cases h
theorem ndA_lay : ∀ {ds : List D}, PyData.canLayAll0 ds = true → ndA ds = true
  | [], _ => rfl
  | x :: xs, h => by
    simp only [PyData.canLayAll0, Bool.and_eq_true] at h
    simp only [ndA, Bool.and_eq_true]
    exact ⟨nd_lay h.1, ndA_lay h.2⟩
end
theorem nd_ok {d : D} (h : okD d = true) : nd d = true := nd_lay (SeqAt.canLay_of_shaped h)
def gEq : D → D → Option D := fun x y => if okD x && okD y then some (.bool (PyData.eqv x y)) else none
def gNe : D → D → Option D := fun x y => if okD x && okD y then some (.bool (!PyData.eqv x y)) else none
def itemsD : D → Option (List D)
  | .list xs => some xs
  | .tuple xs => some xs
  | _ => none
def gIn (neg : Bool) : D → D → Option D := fun x y => match itemsD y with
  | some ds => if okD x && okD y then some (.bool (if neg then !ds.any (fun z => PyData.eqv z x) else ds.any fun z => PyData.eqv z x)) else none
  | none => none
/-- in a list or a tuple -/
def rInLT (K : PySem.W.Frag) (neg : Bool) : R2 := fun x y H Q => ∃ d ds, Dp K H x d ∧ (Dp K H y (.list ds) ∨ Dp K H y (.tuple ds)) ∧ SeqAt.shaped d = true ∧ PyData.canLayAll0 ds = true ∧
  Q (.bl (if neg then !ds.any (fun z => PyData.eqv z d) else ds.any fun z => PyData.eqv z d)) H
section
variable {X : Cx}
theorem op_inLT (hu : X.A.units + 65 < cLine) : OpR X (compareOp .In) (rInLT X.K false) := by
  intro pins s σ H x y v u Q I rx ry h
  obtain ⟨d, ds, hd, he, sd, se, q⟩ := h
  obtain ⟨as, r1⟩ := Dp.reads I d x v hd rx
  rcases he with he | he
  · obtain ⟨bs, r2⟩ := Dp.reads I (.list ds) y u he ry
    exact SeqAt.in_list_reads r2 r1 se (SeqAt.canLay_of_shaped sd) (room_in_shaped sd hu) ⟨.bl _, H, I, rfl, q⟩
  · obtain ⟨bs, r2⟩ := Dp.reads I (.tuple ds) y u he ry
    exact SeqAt.in_tuple_reads r2 r1 se (SeqAt.canLay_of_shaped sd) (room_in_shaped sd hu) ⟨.bl _, H, I, rfl, q⟩
theorem op_niLT (hu : X.A.units + 65 < cLine) : OpR X (compareOp .NotIn) (rInLT X.K true) := by
  intro pins s σ H x y v u Q I rx ry h
  obtain ⟨d, ds, hd, he, sd, se, q⟩ := h
  obtain ⟨as, r1⟩ := Dp.reads I d x v hd rx
  rcases he with he | he
  · obtain ⟨bs, r2⟩ := Dp.reads I (.list ds) y u he ry
    exact SeqAt.notIn_list_reads r2 r1 se (SeqAt.canLay_of_shaped sd) (room_in_shaped sd hu) ⟨.bl _, H, I, rfl, q⟩
  · obtain ⟨bs, r2⟩ := Dp.reads I (.tuple ds) y u he ry
    exact SeqAt.notIn_tuple_reads r2 r1 se (SeqAt.canLay_of_shaped sd) (room_in_shaped sd hu) ⟨.bl _, H, I, rfl, q⟩
end
section
variable {K : PySem.W.Frag}
theorem vw_eq : ∀ F H x y dx dy dz, Ex F H → Vw K F H x dx → Vw K F H y dy → gEq dx dy = some dz → ∀ Q : VK, Res K F H dz Q → rEqD K x y H Q := by
  intro F H x y dx dy dz e hx hy hg Q k
  unfold gEq at hg
  split at hg
  · rename_i hc
    cases hg
    simp only [Bool.and_eq_true] at hc
    exact ⟨dx, dy, (hx.rp e (nd_ok hc.1)).dp (nd_ok hc.1), (hy.rp e (nd_ok hc.2)).dp (nd_ok hc.2), hc.1, hc.2, k.sc e fun _ => .bl _⟩
  · cases hg
theorem vw_ne : ∀ F H x y dx dy dz, Ex F H → Vw K F H x dx → Vw K F H y dy → gNe dx dy = some dz → ∀ Q : VK, Res K F H dz Q → rNeD K x y H Q := by
  intro F H x y dx dy dz e hx hy hg Q k
  unfold gNe at hg
  split at hg
  · rename_i hc
    cases hg
    simp only [Bool.and_eq_true] at hc
    exact ⟨dx, dy, (hx.rp e (nd_ok hc.1)).dp (nd_ok hc.1), (hy.rp e (nd_ok hc.2)).dp (nd_ok hc.2), hc.1, hc.2, k.sc e fun _ => .bl _⟩
  · cases hg
theorem vw_in {neg : Bool} : ∀ F H x y dx dy dz, Ex F H → Vw K F H x dx → Vw K F H y dy → gIn neg dx dy = some dz → ∀ Q : VK, Res K F H dz Q → rInLT K neg x y H Q := by
  intro F H x y dx dy dz e hx hy hg Q k
  unfold gIn at hg
  split at hg
  · rename_i ds hi
    split at hg
    · rename_i hc
      cases hg
      simp only [Bool.and_eq_true] at hc
      refine ⟨dx, ds, (hx.rp e (nd_ok hc.1)).dp (nd_ok hc.1), ?_, hc.1, ?_, k.sc e fun _ => .bl _⟩
      · have h2 := (hy.rp e (nd_ok hc.2)).dp (nd_ok hc.2)
        cases dy <;> cases hi
        · exact .inl h2
        · exact .inr h2
      · have h2 := SeqAt.canLay_of_shaped hc.2
        cases dy <;> cases hi <;> simpa only [PyData.canLay0] using h2
    · cases hg
  · cases hg
end
end DL
end
section
set_option Elab.async false
set_option linter.all false
set_option maxRecDepth 100000
/-! Order, length, places, built-ins on data. -/
namespace DL
open PySem PySem.Spec PyProof.Rows L2
/-! ### order -/
def ltOk (x y : D) : Bool := okD x && okD y && PySem.W.alike x y && (match x with | .none => false | _ => true)
def gLt : D → D → Option D := fun x y => if ltOk x y then some (.bool (PySem.W.dataLt x y)) else none
def gGt : D → D → Option D := fun x y => if ltOk x y then some (.bool (PySem.W.dataLt y x)) else none
def gLe : D → D → Option D := fun x y => if ltOk x y then some (.bool (!PySem.W.dataLt y x)) else none
def gGe : D → D → Option D := fun x y => if ltOk x y then some (.bool (!PySem.W.dataLt x y)) else none
def rOrd (K : PySem.W.Frag) (f : D → D → Bool) : R2 := fun x y H Q => ∃ d e, Dp K H x d ∧ Dp K H y e ∧ ltOk d e = true ∧ Q (.bl (f d e)) H
theorem ltOk_ok {d e : D} (h : ltOk d e = true) : SeqAt.shaped d = true ∧ SeqAt.shaped e = true ∧ PySem.W.alike d e = true ∧ d ≠ .none := by
  unfold ltOk at h
  simp only [Bool.and_eq_true] at h
  obtain ⟨⟨⟨h1, h2⟩, h3⟩, h4⟩ := h
  exact ⟨h1, h2, h3, fun z => by subst z; cases h4⟩
section
variable {X : Cx}
theorem op_ord {op : CmpOp} {f : D → D → Bool} (hu : X.A.units + 64 < cLine)
    (rule : ∀ (s : Shared) (a b : Value) (da db : D) (as bs : List Addr) (Q : Value → Shared → Prop) (E : Value → Shared → Prop), Reads s.heap a da as → Reads s.heap b db bs → PySem.W.alike da db = true → da ≠ .none → X.A.units + min da.depth db.depth < cLine → Q (.bool (f da db)) s →
      wpAny (model X.prog X.w) X.A (compareOp op a b) Q E s) : OpR X (compareOp op) (rOrd X.K f) := by
  intro pins s σ H x y v u Q I rx ry h
  obtain ⟨d, e, hd, he, ok, q⟩ := h
  obtain ⟨o1, o2, o3, o4⟩ := ltOk_ok ok
  obtain ⟨as, r1⟩ := Dp.reads I d x v hd rx
  obtain ⟨bs, r2⟩ := Dp.reads I e y u he ry
  exact rule s v u d e as bs _ _ r1 r2 o3 o4 (SeqAt.room_of_shaped o1 hu) ⟨.bl _, H, I, rfl, q⟩
theorem op_ltD (hu : X.A.units + 64 < cLine) : OpR X (compareOp .Lt) (rOrd X.K fun d e => PySem.W.dataLt d e) := op_ord hu fun s a b da db as bs Q E r1 r2 h n u q => PySem.W.lt_data r1 r2 h n u q
theorem op_gtD (hu : X.A.units + 64 < cLine) : OpR X (compareOp .Gt) (rOrd X.K fun d e => PySem.W.dataLt e d) := op_ord hu fun s a b da db as bs Q E r1 r2 h n u q => PySem.W.gt_data r1 r2 h n u q
theorem op_leD (hu : X.A.units + 64 < cLine) : OpR X (compareOp .LtE) (rOrd X.K fun d e => !PySem.W.dataLt e d) := op_ord hu fun s a b da db as bs Q E r1 r2 h n u q => PySem.W.le_data r1 r2 h n u q
theorem op_geD (hu : X.A.units + 64 < cLine) : OpR X (compareOp .GtE) (rOrd X.K fun d e => !PySem.W.dataLt d e) := op_ord hu fun s a b da db as bs Q E r1 r2 h n u q => PySem.W.ge_data r1 r2 h n u q
end
section
variable {K : PySem.W.Frag}
theorem vw_ord {f : D → D → Bool} {g : D → D → Option D} (hg0 : ∀ x y, g x y = if ltOk x y then some (.bool (f x y)) else none) : ∀ F H x y dx dy dz, Ex F H → Vw K F H x dx → Vw K F H y dy → g dx dy = some dz → ∀ Q : VK, Res K F H dz Q → rOrd K f x y H Q := by
  intro F H x y dx dy dz e hx hy hg Q k
  rw [hg0] at hg
  split at hg
  · rename_i hc
    cases hg
    obtain ⟨o1, o2, o3, o4⟩ := ltOk_ok hc
    exact ⟨dx, dy, (hx.rp e (nd_ok o1)).dp (nd_ok o1), (hy.rp e (nd_ok o2)).dp (nd_ok o2), hc, k.sc e fun _ => .bl _⟩
  · cases hg
end
/-! ### is None -/
def isNoneD : D → Bool
  | .none => true
  | _ => false
def gIsN (neg : Bool) : D → D → Option D
  | .none, .none => some (.bool (!neg))
  | _, .none => some (.bool neg)
  | _, _ => none
section
variable {K : PySem.W.Frag}
theorem Vw.non {F H : Hp} {v : V} {d : D} (h : Vw K F H v d) : decide (v = .non) = isNoneD d := by
  rcases h with h | ⟨a, vs, ds, rfl, rfl, _⟩ | ⟨a, ds, rfl, rfl, _⟩
  · cases h <;> rfl
  · rfl
  · rfl
theorem vw_isN : ∀ F H x y dx dy dz, Ex F H → Vw K F H x dx → Vw K F H y dy → gIsN false dx dy = some dz → ∀ Q : VK, Res K F H dz Q → (y = .non ∧ Q (.bl (decide (x = .non))) H) := by
  intro F H x y dx dy dz e hx hy hg Q k
  have hn := hx.non
  unfold gIsN at hg
  split at hg
  · cases hg
    rw [hn]
    exact ⟨(hy.sc rfl H).noneI, k.sc e fun _ => .bl _⟩
  · rename_i hne
    cases hg
    rw [hn]
    refine ⟨(hy.sc rfl H).noneI, ?_⟩
    have : isNoneD dx = false := by
      unfold isNoneD
      split
      · exact (hne rfl).elim
      · rfl
    rw [this]
    exact k.sc e fun _ => .bl _
  · cases hg
theorem vw_notN : ∀ F H x y dx dy dz, Ex F H → Vw K F H x dx → Vw K F H y dy → gIsN true dx dy = some dz → ∀ Q : VK, Res K F H dz Q → (y = .non ∧ Q (.bl (!decide (x = .non))) H) := by
  intro F H x y dx dy dz e hx hy hg Q k
  have hn := hx.non
  unfold gIsN at hg
  split at hg
  · cases hg
    rw [hn]
    exact ⟨(hy.sc rfl H).noneI, k.sc e fun _ => .bl _⟩
  · rename_i hne
    cases hg
    rw [hn]
    refine ⟨(hy.sc rfl H).noneI, ?_⟩
    have : isNoneD dx = false := by
      unfold isNoneD
      split
      · exact (hne rfl).elim
      · rfl
    rw [this]
    exact k.sc e fun _ => .bl _
  · cases hg
end
/-! ### places -/
def gIx : D → D → Option D
  | .list xs, .int i => atI xs i
  | .tuple xs, .int i => atI xs i
  | .str z, .int i => if z.length ≤ bigN then (atI z.cps.toList i).map fun c => .str ⟨#[c]⟩ else none
  | _, _ => none
section
variable {K : PySem.W.Frag}
theorem RpA.at_ {H : Hp} {xs : List V} {ds : List D} {i : Int} {d : D} (r : RpA K H xs ds) (h : atI ds i = some d) : ∃ v, atI xs i = some v ∧ Rp K H v d := by
  unfold atI at h ⊢
  rw [r.length]
  obtain ⟨j, h1, h2⟩ := Option.bind_eq_some_iff.mp h
  obtain ⟨v, h3, h4⟩ := r.get h2
  exact ⟨v, by rw [h1]; exact h3, h4⟩
theorem vw_ix : ∀ F H x y dx dy dz, Ex F H → Vw K F H x dx → Vw K F H y dy → gIx dx dy = some dz → ∀ Q : VK, Res K F H dz Q → rIx K x y H Q := by
  intro F H x y dx dy dz e hx hy hg Q k
  unfold gIx at hg
  split at hg
  · obtain ⟨a, xs, rfl, s1, r1⟩ := hx.list e
    obtain ⟨v, h1, h2⟩ := r1.at_ hg
    exact .inl ⟨a, xs, _, v, rfl, hy.int, s1, h1, k.at_ e h2⟩
  · obtain ⟨a, xs, rfl, s1, r1⟩ := hx.tuple e
    obtain ⟨v, h1, h2⟩ := r1.at_ hg
    exact .inr (.inl ⟨a, xs, _, v, rfl, hy.int, s1, h1, k.at_ e h2⟩)
  · split at hg
    · rename_i hz
      obtain ⟨c, h1, h2⟩ := Option.map_eq_some_iff.mp hg
      subst h2
      exact .inr (.inr ⟨_, _, c, hx.str, hy.int, Nat.le_trans hz big_le, h1, k.sc e fun _ => .str _⟩)
    · cases hg
  · cases hg
end
/-! ### calls of built-ins with one argument -/
/-- f(e) -/
def gLen : D → Option D
  | .list xs => some (.int xs.length)
  | .tuple xs => some (.int xs.length)
  | .str x => if x.length ≤ bigN then some (.int x.length) else none
  | _ => none
def gTuple : D → Option D
  | .list xs => some (.tuple xs)
  | .tuple xs => some (.tuple xs)
  | _ => none
def gList : D → Option D
  | .list xs => some (.list xs)
  | .tuple xs => some (.list xs)
  | _ => none
def gInt : D → Option D
  | .int i => some (.int i)
  | .bool b => some (.int (if b then 1 else 0))
  | _ => none
def gBool : D → Option D
  | .int i => some (.bool (i != 0))
  | .bool b => some (.bool b)
  | _ => none
def gAbs : D → Option D
  | .int i => some (.int (if i < 0 then -i else i))
  | _ => none
def gNeg : D → Option D
  | .int i => some (.int (-i))
  | _ => none
def gStr : D → Option D
  | .int i => if i.natAbs.log2 < 1920 then some (.str (toString i)) else none
  | _ => none
def intsD : List D → Option (List Int)
  | [] => some []
  | .int i :: r => (intsD r).map (i :: ·)
  | _ :: _ => none
def gSum : D → Option D
  | .list xs => (intsD xs).map fun ns => .int ns.sum
  | _ => none
def rCB1 := List V → Hp → VK → Prop
section
variable {K : PySem.W.Frag}
theorem ints_of {H : Hp} : ∀ {xs : List V} {ds : List D} {ns : List Int}, RpA K H xs ds → intsD ds = some ns → xs = ns.map V.int
  | _, _, _, .nil, h => by cases h; rfl
  | _, _, ns, .cons (d := d) r t, h => by
    cases d <;> simp only [intsD] at h <;> try cases h
    obtain ⟨ms, h1, h2⟩ := Option.map_eq_some_iff.mp h
    subst h2
    rw [ints_of t h1, r.intI]
    rfl
/-- a call with one value, by what it does to data -/
theorem sp_call1 {r : List V → Hp → VK → Prop} {g : D → Option D} {te : TE} {fe : Fm → Option D} (hr : ∀ F H x dx dz, Ex F H → Vw K F H x dx → g dx = some dz → ∀ Q : VK, Res K F H dz Q → r [x] H Q)
    (ha : SV K te fe) : SP K (tCB r (tCons te tNil)) (fOp1 g fe) := by
  intro F H σ ρ d hf hR Q k
  unfold fOp1 at hf
  obtain ⟨dx, h1, hf⟩ := Option.bind_eq_some_iff.mp hf
  refine ha F H σ ρ dx h1 hR _ fun x F1 H1 g1 r1 => ?_
  exact hr F1 H1 x dx d g1.in_ r1 hf Q (k.gr g1)
theorem vw_len : ∀ F H x dx dz, Ex F H → Vw K F H x dx → gLen dx = some dz → ∀ Q : VK, Res K F H dz Q → (fun xs H Q => ∃ x n, xs = [x] ∧ LenV K x H n ∧ Q (.int (n : Nat)) H) [x] H Q := by
  intro F H x dx dz e hx hg Q k
  unfold gLen at hg
  split at hg
  · cases hg
    obtain ⟨a, xs, rfl, s1, r1⟩ := hx.list e
    refine ⟨_, xs.length, rfl, .inl ⟨xs, s1, rfl⟩, ?_⟩
    rw [r1.length]
    exact k.sc e fun _ => .int _
  · cases hg
    obtain ⟨a, xs, rfl, s1, r1⟩ := hx.tuple e
    refine ⟨_, xs.length, rfl, .inr ⟨xs, s1, rfl⟩, ?_⟩
    rw [r1.length]
    exact k.sc e fun _ => .int _
  · split at hg
    · rename_i hz
      cases hg
      have := hx.str
      subst this
      exact ⟨_, _, rfl, ⟨Nat.le_trans hz big_le, rfl⟩, k.sc e fun _ => .int _⟩
    · cases hg
  · cases hg
theorem vw_tuple : ∀ F H x dx dz, Ex F H → Vw K F H x dx → gTuple dx = some dz → ∀ Q : VK, Res K F H dz Q →
    (fun xs H Q => ∃ p ys, xs = [.ref p] ∧ ((SqL K H p ys ∧ ∀ l, H l = none → Q (.ref l) (upd H l (.tup ys))) ∨ (SqT K H p ys ∧ Q (.ref p) H))) [x] H Q := by
  intro F H x dx dz e hx hg Q k
  unfold gTuple at hg
  split at hg
  · cases hg
    obtain ⟨a, xs, rfl, s1, r1⟩ := hx.list e
    exact ⟨a, xs, rfl, .inl ⟨s1, k.tup e r1⟩⟩
  · cases hg
    obtain ⟨a, xs, rfl, s1, r1⟩ := hx.tuple e
    rcases hx with hx | ⟨_, _, _, _, q, _⟩ | ⟨_, _, _, q, _⟩
    · exact ⟨a, xs, rfl, .inr ⟨s1, k.at_ e hx⟩⟩
    · cases q
    · cases q
  · cases hg
theorem vw_list : ∀ F H x dx dz, Ex F H → Vw K F H x dx → gList dx = some dz → ∀ Q : VK, Res K F H dz Q →
    (fun xs H Q => ∃ p ys, xs = [.ref p] ∧ (SqL K H p ys ∨ SqT K H p ys) ∧ ∀ l, H l = none → Q (.ref l) (upd H l (.lst ys))) [x] H Q := by
  intro F H x dx dz e hx hg Q k
  unfold gList at hg
  split at hg
  · cases hg
    obtain ⟨a, xs, rfl, s1, r1⟩ := hx.list e
    exact ⟨a, xs, rfl, .inl s1, k.lst e r1⟩
  · cases hg
    obtain ⟨a, xs, rfl, s1, r1⟩ := hx.tuple e
    exact ⟨a, xs, rfl, .inr s1, k.lst e r1⟩
  · cases hg
theorem vw_int : ∀ F H x dx dz, Ex F H → Vw K F H x dx → gInt dx = some dz → ∀ Q : VK, Res K F H dz Q →
    (fun xs H Q => (∃ i, xs = [.int i] ∧ Q (.int i) H) ∨ ∃ k, xs = [.bl k] ∧ Q (.int (if k then 1 else 0)) H) [x] H Q := by
  intro F H x dx dz e hx hg Q k
  unfold gInt at hg
  split at hg
  · cases hg
    exact .inl ⟨_, by rw [hx.int], k.sc e fun _ => .int _⟩
  · cases hg
    exact .inr ⟨_, by rw [hx.bl], k.sc e fun _ => .int _⟩
  · cases hg
theorem vw_bool : ∀ F H x dx dz, Ex F H → Vw K F H x dx → gBool dx = some dz → ∀ Q : VK, Res K F H dz Q →
    (fun xs H Q => (∃ i, xs = [.int i] ∧ Q (.bl (i != 0)) H) ∨ ∃ k, xs = [.bl k] ∧ Q (.bl k) H) [x] H Q := by
  intro F H x dx dz e hx hg Q k
  unfold gBool at hg
  split at hg
  · cases hg
    exact .inl ⟨_, by rw [hx.int], k.sc e fun _ => .bl _⟩
  · cases hg
    exact .inr ⟨_, by rw [hx.bl], k.sc e fun _ => .bl _⟩
  · cases hg
theorem vw_abs : ∀ F H x dx dz, Ex F H → Vw K F H x dx → gAbs dx = some dz → ∀ Q : VK, Res K F H dz Q →
    (fun xs H Q => ∃ i, xs = [.int i] ∧ Q (.int (if i < 0 then -i else i)) H) [x] H Q := by
  intro F H x dx dz e hx hg Q k
  unfold gAbs at hg
  split at hg
  · cases hg
    exact ⟨_, by rw [hx.int], k.sc e fun _ => .int _⟩
  · cases hg
theorem vw_str : ∀ F H x dx dz, Ex F H → Vw K F H x dx → gStr dx = some dz → ∀ Q : VK, Res K F H dz Q →
    (fun xs H Q => ∃ i, xs = [.int i] ∧ i.natAbs.log2 < 1920 ∧ Q (.str (toString i)) H) [x] H Q := by
  intro F H x dx dz e hx hg Q k
  unfold gStr at hg
  split at hg
  · split at hg
    · rename_i hz
      cases hg
      exact ⟨_, by rw [hx.int], hz, k.sc e fun _ => .str _⟩
    · cases hg
  · cases hg
theorem vw_neg : ∀ F H x dx dz, Ex F H → Vw K F H x dx → gNeg dx = some dz → ∀ Q : VK, Res K F H dz Q → rU (fun i => .int (-i)) x H Q := by
  intro F H x dx dz e hx hg Q k
  unfold gNeg at hg
  split at hg
  · cases hg
    exact ⟨_, hx.int, k.sc e fun _ => .int _⟩
  · cases hg
theorem vw_sum : ∀ F H x dx dz, Ex F H → Vw K F H x dx → gSum dx = some dz → ∀ Q : VK, Res K F H dz Q → rSum K [x] H Q := by
  intro F H x dx dz e hx hg Q k
  unfold gSum at hg
  split at hg
  · obtain ⟨ns, h1, h2⟩ := Option.map_eq_some_iff.mp hg
    subst h2
    obtain ⟨a, xs, rfl, s1, r1⟩ := hx.list e
    rw [ints_of r1 h1] at s1
    exact ⟨a, ns, rfl, s1, k.sc e fun _ => .int _⟩
  · cases hg
end
/-! ### max, min, sorted of data -/
def alAll : List D → Bool
  | xs => xs.all fun x => xs.all (fun y => PySem.W.alike x y) && (match x with | .none => false | _ => true)
theorem alAll_ok {xs : List D} (h : alAll xs = true) : PySem.W.AlikeAll xs := by
  unfold alAll at h
  rw [List.all_eq_true] at h
  refine ⟨fun x hx y hy => ?_, fun x hx z => ?_⟩
  · have := h x hx
    simp only [Bool.and_eq_true, List.all_eq_true] at this
    exact this.1 y hy
  · have := h x hx
    subst z
    simp at this
def gMax : D → Option D
  | .list (x :: xs) => if okD (.list (x :: xs)) && alAll (x :: xs) then some (PySem.W.maxD x xs) else none
  | .tuple (x :: xs) => if okD (.tuple (x :: xs)) && alAll (x :: xs) then some (PySem.W.maxD x xs) else none
  | _ => none
def gMin : D → Option D
  | .list (x :: xs) => if okD (.list (x :: xs)) && alAll (x :: xs) then some (PySem.W.minD x xs) else none
  | .tuple (x :: xs) => if okD (.tuple (x :: xs)) && alAll (x :: xs) then some (PySem.W.minD x xs) else none
  | _ => none
/-- the answer is the item at some place, which is worth d -/
def rPickD (K : PySem.W.Frag) (g : D → List D → D) : List V → Hp → VK → Prop := fun vs H Q => ∃ (a : Addr) (xs : List V) (d : D) (ds : List D), vs = [.ref a] ∧ (SqL K H a xs ∨ SqT K H a xs) ∧ DpAll K H xs (d :: ds) ∧ PySem.W.AlikeAll (d :: ds) ∧ PyData.canLayAll0 (d :: ds) = true ∧ PyData.depthAll (d :: ds) ≤ 64 ∧
  ∀ (i : Nat) (v : V), xs[i]? = some v → (d :: ds)[i]? = some (g d ds) → Q v H
theorem RpA.dpA {K : PySem.W.Frag} {H : Hp} {xs : List V} {ds : List D} (r : RpA K H xs ds) (h : PyData.canLayAll0 ds = true) : DpAll K H xs ds := r.dp (ndA_lay h)
section
variable {X : Cx}
theorem dpA_len {K : PySem.W.Frag} {H : Hp} : ∀ {xs : List V} {ds : List D}, DpAll K H xs ds → xs.length = ds.length
  | _, _, .nil => rfl
  | _, _, .cons _ t => by rw [List.length_cons, List.length_cons, dpA_len t]
theorem readsAll_get {h : Heap} : ∀ {vs : List Value} {ds : List D} {as : List Addr}, ReadsAll h vs ds as → ∀ (i : Nat) (v : Value), vs[i]? = some v → ∃ d bs, ds[i]? = some d ∧ Reads h v d bs
  | _, _, _, .nil, _, _, hv => by simp at hv
  | _, _, _, .cons r rs, 0, v, hv => by
    simp only [List.getElem?_cons_zero, Option.some.injEq] at hv
    subst hv
    exact ⟨_, _, rfl, r⟩
  | _, _, _, .cons r rs, i + 1, v, hv => by
    obtain ⟨d, bs, h1, h2⟩ := readsAll_get rs i v (by simpa using hv)
    exact ⟨d, bs, by simpa using h1, h2⟩
theorem reads_keep {h h' : Heap} (k : ∀ b o, h.get? b = some o → h'.get? b = some o) : ∀ {d : D} {v : Value} {as : List Addr}, Reads h v d as → Reads h' v d as := fun r => Reads.keeps k r
end
end DL
end
section
set_option Elab.async false
set_option linter.all false
set_option maxRecDepth 100000
/-! sorted of tuples of which the first one is empty. -/
namespace DL
open PySem PySem.SeqAt PyProof.Rows PySem.Calls PySem.W
section
variable {prog : Program} {w : World} {A : Around} {E : Value → Shared → Prop} {s : Shared}
theorem tup_lt_call {Q : Value → Shared → Prop} {l b : Addr} {items items2 : Array Value} {e r : Nat → Bool} (hl : s.heap.IsTuple l items) (hb : s.heap.IsTuple b items2)
    (he : ∀ j (h1 : j < items.size) (h2 : j < items2.size), EqAt A.in1 s items[j] items2[j] (e j)) (hr : ∀ j (h1 : j < items.size) (h2 : j < items2.size), e j = false → RcLt A.in1 s items[j] items2[j] (r j))
    (h : Q (.bool (firstLt e r (decide (items.size < items2.size)) (List.range (min items.size items2.size)))) s) : wpAny (model prog w) A (call (.builtin "tuple.__lt__") [.ref l, .ref b]) Q E s := by
  obtain ⟨⟨c1, d1, t1, s1⟩, ho, hc, n, hd⟩ := id hl
  obtain ⟨⟨c2, d2, t2, s2⟩, ho2, hc2, n2, hd2⟩ := id hb
  simp only at hc hd hc2 hd2
  subst hc hd hc2 hd2
  exact call_meets F.slot_tuple_lt ⟨_, ho, rfl⟩ F.entry_tuple_lt (F.args_tuple_lt_2 _ _) (tuple_ltAt l b items items2 n n2 d1 d2 s1 s2 e r) ⟨ho, ho2, he, hr, h⟩
/-- one tuple against another, all of one type -/
theorem tup_lt_one {xs ys : List PyData} {a b : Value} {as bs : List Addr} {Q : Bool → Shared → Prop} (ra : Reads s.heap a (.tuple xs) as) (rb : Reads s.heap b (.tuple ys) bs) (h : alike (.tuple xs) (.tuple ys) = true)
    (hu : A.units + min (PyData.depth (.tuple xs)) (PyData.depth (.tuple ys)) < cLine) (hq : Q (dataLt (.tuple xs) (.tuple ys)) s) : wpAny (model prog w) A (oneLt' true a b) Q E s := by
  have hal : alikeAll xs ys = true := by simpa [alike] using h
  cases ra with
  | @tuple l o vs n _ as1 h1 h2 h3 h4 =>
    cases rb with
    | @tuple l' o' vs' n' _ bs1 k1 k2 k3 k4 =>
      have n1 : vs.size = xs.length := by simpa using ReadsAll.length _ _ _ h4
      have n2 : vs'.size = ys.length := by simpa using ReadsAll.length _ _ _ k4
      rw [dataLt_tuple, ← firstLt_toks xs ys hal, ← n1, ← n2] at hq
      rw [oneLt'_eq]
      simp only [if_true]
      refine wpAny_bind (wpAny_cRoomFor (room_here hu) ?_)
      refine wpAny_bind (wpAny_callSpecialIfBound?_slot (T := "tuple") ⟨_, h1, h2⟩ F.slot_tuple_lt (tup_lt_call (e := pairEq xs ys) (r := fun j => dataLt (xs.getD j .none) (ys.getD j .none)) ⟨_, h1, h2, _, h3⟩ ⟨_, k1, k2, _, k3⟩ (fun j j1 j2 => ?_) (fun j j1 j2 hj => ?_) ?_))
      · have := eqAt_alikeAll xs ys A.in1 s vs.toList vs'.toList _ _ h4 k4 hal (room_in hu) j (by simpa using j1) (by simpa using j2)
        simpa using this
      · have := rcLt_alikeAll xs ys A.in1 s vs.toList vs'.toList _ _ h4 k4 hal (room_in hu) j (by simpa using j1) (by simpa using j2) hj
        simpa using this
      · exact wpAny_truthy_bool hq
end
section
variable {M : Model} {A : Around} {E : Value → Shared → Prop} {s : Shared}
theorem mapM_wp {α β : Type} {f : α → Sem β} (r : α → β) : ∀ (l : List α) {Q : List β → Shared → Prop}, (∀ v ∈ l, ∀ (Q' : β → Shared → Prop), Q' (r v) s → wpAny M A (f v) Q' E s) → Q (l.map r) s → wpAny M A (l.mapM f) Q E s
  | [], _, _, h => by rw [List.mapM_nil]; exact wpAny_pure h
  | x :: l, Q, hf, h => by
    rw [List.mapM_cons]
    exact wpAny_bind (hf x (.head _) _ (wpAny_bind (mapM_wp r l (Q := fun bs s' => wpAny M A (pure (r x :: bs)) Q E s') (fun v hv => hf v (.tail _ hv)) (wpAny_pure h))))
/-- the first item of a tuple of the heap -/
def firstIn (h : Heap) : Value → Option Value
  | .ref a => match h.get? a with
    | some o => match o.data with
      | .seq xs _ => xs[0]?
      | _ => none
    | none => none
  | _ => none
theorem first_wp {v : Value} {xs : List PyData} {as : List Addr} {Q : Option Value → Shared → Prop} (r : Reads s.heap v (.tuple xs) as) (h : Q (firstIn s.heap v) s) : wpAny M A (firstOfTuple' v) Q E s := by
  cases r with
  | @tuple l o vs n _ as1 h1 h2 h3 h4 =>
    rw [kas_first_eq]
    refine wpAny_bind (Looks.here (show Looks M s.heap (typeOf (.ref l)) o.cls from (Looks.ld h1).andThen .now) ?_)
    rw [h2, if_neg (by first | decide | simp)]
    refine wpAny_bind (listItems_at h1 h3 (wpAny_pure ?_))
    have e : firstIn s.heap (.ref l) = vs[0]? := by
      simp only [firstIn, h1, h3]
    rw [e] at h
    exact h
theorem first_none {v : Value} {as : List Addr} (r : Reads s.heap v (.tuple []) as) : firstIn s.heap v = none := by
  cases r with
  | @tuple l o vs n _ as1 h1 h2 h3 h4 =>
    have n1 : vs.size = 0 := by simpa using ReadsAll.length _ _ _ h4
    simp only [firstIn, h1, h3]
    exact Array.getElem?_eq_none (by omega)
/-- the kind of keys: tuples, the first one empty -/
theorem kind_wp {v : Value} {vs : List Value} {as : List Addr} {Q : SortKind → Shared → Prop} (h0 : Reads s.heap v (.tuple []) as) (hT : ∀ u ∈ v :: vs, ∃ xs as, Reads s.heap u (.tuple xs) as) (h : Q oneType' s) :
    wpAny M A (keyKind' (v :: vs).toArray) Q E s := by
  rw [keyKind'_eq, List.mapM_toArray, map_eq_pure_bind]
  refine wpAny_bind (wpAny_bind (mapM_wp (firstIn s.heap) _ (fun u hu Q' hq => ?_) (wpAny_pure ?_)))
  · obtain ⟨xs, as, r⟩ := hT u hu
    exact first_wp r hq
  · have e0 : (List.map (firstIn s.heap) (v :: vs)).toArray.all (fun x => x.isSome) = false := by
      rw [List.map_cons, first_none h0]
      simp
    rw [if_neg (by rw [e0]; decide)]
    have e1 : (List.map (firstIn s.heap) (v :: vs)).toArray[0]? = some none := by
      rw [List.map_cons, first_none h0]
      simp
    rw [e1, if_neg (by decide)]
    rw [oneTypeOnly'_eq, List.mapM_toArray, map_eq_pure_bind]
    refine wpAny_bind (wpAny_bind (wpAny_bind (kas_mapM (r := Value.type "tuple") _ (fun u hu Q' hq => by
      obtain ⟨xs, as, r⟩ := hT u hu
      exact (looks_reads r).here hq) (wpAny_pure ?_))))
    have hall : ((List.map (fun _ => Value.type "tuple") (v :: vs)).toArray.all fun x => x == Value.type "tuple") = true := by
      simp only [List.all_toArray, List.all_map, List.all_eq_true]
      intro _ _
      exact beq_self_eq_true _
    have h00 : (List.map (fun _ => Value.type "tuple") (v :: vs)).toArray[0]? = some (Value.type "tuple") := by simp
    rw [h00]
    simp only [hall, if_true]
    exact wpAny_pure (wpAny_pure h)
end
section
variable {prog : Program} {w : World} {A : Around} {s : Shared}
theorem sorts_tups {vs : List Value} {ds : List PyData} (e : EachIs (fun v d => ∃ as, Reads s.heap v d as) vs (.tuple [] :: ds)) (hal : AllAlike (.tuple [] :: ds)) (ht : ∀ d ∈ PyData.tuple [] :: ds, ∃ xs, d = .tuple xs) (hu : ∀ d, d ∈ PyData.tuple [] :: ds → A.units + d.depth < cLine) : SortsAt prog w A s (dataKind s.heap (.tuple [] :: ds)) vs := by
  refine ⟨fun v hv => ?_, oneType', ?_, fun h2 E Q hq => ?_⟩
  · obtain ⟨d, hd, as, r⟩ := e.left v hv
    exact ⟨_, dataKind_some hal hd r⟩
  · intro E x y a b Q ha hb hq
    obtain ⟨d, as, hd, ra, rfl⟩ := dataKind_inv ha
    obtain ⟨d', as', hd', rb, rfl⟩ := dataKind_inv hb
    rw [keyLt'_oneType]
    obtain ⟨xs, rfl⟩ := ht d hd
    obtain ⟨ys, rfl⟩ := ht d' hd'
    exact tup_lt_one ra rb (hal _ hd _ hd') (Nat.lt_of_le_of_lt (Nat.add_le_add_left (Nat.min_le_left _ _) _) (hu _ hd)) hq
  · cases e with
    | cons h0 t =>
      obtain ⟨as, h0⟩ := h0
      refine kind_wp h0 (fun u hu => ?_) hq
      rcases List.mem_cons.mp hu with rfl | hu
      · exact ⟨_, _, h0⟩
      · obtain ⟨d, hd, as, r⟩ := t.left u hu
        obtain ⟨xs, rfl⟩ := ht d (List.mem_cons_of_mem _ hd)
        exact ⟨_, _, r⟩
theorem sorted_data2 {E : Value → Shared → Prop} {vs : List Value} {ds : List PyData} {R : Value → PyData → Prop} {l : Addr} {Q : Value → Shared → Prop} (hl : s.heap.IsList l vs.toArray) (e : EachIs R vs (.tuple [] :: ds)) (er : EachIs (fun v b => ∃ as, Reads s.heap v b as) vs (.tuple [] :: ds)) (hal : AllAlike (.tuple [] :: ds)) (ht : ∀ d ∈ PyData.tuple [] :: ds, ∃ xs, d = .tuple xs) (hL : (PyData.tuple [] :: ds).length ≤ sizeLine)
    (hu : ∀ b, b ∈ PyData.tuple [] :: ds → A.units + 2 + b.depth < cLine) (h : ∀ out, out.length = (PyData.tuple [] :: ds).length → EachIs R out ((PyData.tuple [] :: ds).mergeSort (dataLe false id)) → Q (.ref (s.heap.objs.size + 1)) { s with heap := sortedAll s.heap vs (List.toArray out) }) :
    wpAny (model prog w) A (call (.builtin "sorted") [.ref l]) Q E s := by
  have er' : EachIs (fun v b => ∃ as, Reads (sortingHeap (copyHeap s.heap vs) (s.heap.objs.size + 1) vs) v b as) vs (.tuple [] :: ds) := er.mono fun _ _ ⟨as, r⟩ => ⟨as, PyProof.Rows.Reads.keeps (fun _ _ => sorting_copy_old) r⟩
  have S := sorts_tups (prog := prog) (w := w) (A := A.in1.in1) (s := { s with heap := sortingHeap (copyHeap s.heap vs) (s.heap.objs.size + 1) vs }) er' hal ht hu
  refine sorted_vals hl S (by rw [e.length]; exact hL) (h _ (by rw [sortVals_length false rfl]; exact e.length) ?_)
  have := sortVals_data (enc := id) (bs := .tuple [] :: ds) false e er' (by rw [List.map_id]; exact hal)
  rw [List.map_id] at this
  exact this
end
end DL
end
section
set_option Elab.async false
set_option linter.all false
set_option maxRecDepth 100000
/-! sorted of tuples, some of them empty. -/
namespace DL
open PySem PySem.SeqAt PyProof.Rows PySem.Calls PySem.W
section
variable {prog : Program} {w : World} {A : Around} {E : Value → Shared → Prop} {s : Shared}
theorem tup_lt_gen {xs ys : List PyData} {a b : Value} {as bs : List Addr} {Q : Bool → Shared → Prop} (ra : Reads s.heap a (.tuple xs) as) (rb : Reads s.heap b (.tuple ys) bs) (h : alike (.tuple xs) (.tuple ys) = true)
    (hu : A.units + min (PyData.depth (.tuple xs)) (PyData.depth (.tuple ys)) < cLine) (hq : Q (dataLt (.tuple xs) (.tuple ys)) s) : wpAny (model prog w) A (keyLt' general' a b) Q E s := by
  show wpAny _ _ (oneLt' false a b) Q E s
  rw [oneLt'_eq]
  simp only [Bool.false_eq_true, if_false]
  exact wpAny_bind (PySem.W.lt_data ra rb h (by intro z; cases z) hu (wpAny_truthy_bool hq))
end
section
variable {M : Model} {A : Around} {E : Value → Shared → Prop} {s : Shared}
theorem kind_gen {v : Value} {vs : List Value} {Q : SortKind → Shared → Prop} (hT : ∀ u ∈ v :: vs, ∃ xs as, Reads s.heap u (.tuple xs) as) (hf : (firstIn s.heap v).isSome = true) (hn : ∃ u ∈ v :: vs, firstIn s.heap u = none) (h : Q general' s) :
    wpAny M A (keyKind' (v :: vs).toArray) Q E s := by
  rw [keyKind'_eq, List.mapM_toArray, map_eq_pure_bind]
  refine wpAny_bind (wpAny_bind (mapM_wp (firstIn s.heap) _ (fun u hu Q' hq => ?_) (wpAny_pure ?_)))
  · obtain ⟨xs, as, r⟩ := hT u hu
    exact first_wp r hq
  · obtain ⟨u, hu, e⟩ := hn
    have e0 : (List.map (firstIn s.heap) (v :: vs)).toArray.all (fun x => x.isSome) = false := by
      rw [Bool.eq_false_iff]
      intro z
      simp only [List.all_toArray, List.all_map, List.all_eq_true] at z
      have := z u hu
      simp only [Function.comp, e] at this
      cases this
    rw [if_neg (by rw [e0]; decide)]
    obtain ⟨f, hf'⟩ := Option.isSome_iff_exists.mp hf
    have e1 : (List.map (firstIn s.heap) (v :: vs)).toArray[0]? = some (some f) := by
      rw [List.map_cons, hf']
      simp
    rw [e1, if_pos (by rfl)]
    exact wpAny_pure h
theorem first_some {v : Value} {x : PyData} {xs : List PyData} {as : List Addr} (r : Reads s.heap v (.tuple (x :: xs)) as) : (firstIn s.heap v).isSome = true := by
  cases r with
  | @tuple l o vs n _ as1 h1 h2 h3 h4 =>
    have n1 : vs.size = (x :: xs).length := by simpa using ReadsAll.length _ _ _ h4
    simp only [firstIn, h1, h3]
    rw [Array.getElem?_eq_getElem (by rw [n1]; exact Nat.succ_pos _)]
    rfl
end
section
variable {prog : Program} {w : World} {A : Around} {s : Shared}
theorem sorts_any {vs : List Value} {ds : List PyData} (e : EachIs (fun v d => ∃ as, Reads s.heap v d as) vs ds) (hal : AllAlike ds) (hm : PyData.tuple [] ∈ ds) (ht : ∀ d ∈ ds, ∃ xs, d = .tuple xs) (hu : ∀ d, d ∈ ds → A.units + d.depth < cLine) : SortsAt prog w A s (dataKind s.heap ds) vs := by
  cases ds with
  | nil => cases hm
  | cons d0 ds =>
    obtain ⟨ys, rfl⟩ := ht d0 (.head _)
    cases ys with
    | nil => exact sorts_tups e hal ht hu
    | cons y ys =>
      refine ⟨fun v hv => ?_, general', ?_, fun h2 E Q hq => ?_⟩
      · obtain ⟨d, hd, as, r⟩ := e.left v hv
        exact ⟨_, dataKind_some hal hd r⟩
      · intro E x z a b Q ha hb hq
        obtain ⟨d, as, hd, ra, rfl⟩ := dataKind_inv ha
        obtain ⟨d', as', hd', rb, rfl⟩ := dataKind_inv hb
        obtain ⟨xs, rfl⟩ := ht d hd
        obtain ⟨zs, rfl⟩ := ht d' hd'
        exact tup_lt_gen ra rb (hal _ hd _ hd') (Nat.lt_of_le_of_lt (Nat.add_le_add_left (Nat.min_le_left _ _) _) (hu _ hd)) hq
      · cases e with
        | @cons v0 _ vs0 _ h0 t =>
          have hn : ∃ u ∈ v0 :: vs0, firstIn s.heap u = none := by
            have hm' : PyData.tuple [] ∈ ds := by
              rcases List.mem_cons.mp hm with z | z
              · cases z
              · exact z
            clear hu ht hal hq h2 h0
            induction t with
            | nil => cases hm'
            | @cons v1 d1 vs1 ds1 h1 t1 ih =>
              rcases List.mem_cons.mp hm' with z | z
              · subst z
                obtain ⟨as, h1⟩ := h1
                exact ⟨v1, .tail _ (.head _), first_none h1⟩
              · obtain ⟨u, hu, e⟩ := ih (.tail _ z) z
                rcases List.mem_cons.mp hu with z' | z'
                · exact ⟨u, by rw [z']; exact .head _, e⟩
                · exact ⟨u, .tail _ (.tail _ z'), e⟩
          obtain ⟨as, h0'⟩ := h0
          refine kind_gen (fun u hu => ?_) (first_some h0') hn hq
          rcases List.mem_cons.mp hu with rfl | hu
          · exact ⟨_, _, h0'⟩
          · obtain ⟨d, hd, as, r⟩ := t.left u hu
            obtain ⟨xs, rfl⟩ := ht d (List.mem_cons_of_mem _ hd)
            exact ⟨_, _, r⟩
theorem sorted_data3 {E : Value → Shared → Prop} {vs : List Value} {ds : List PyData} {R : Value → PyData → Prop} {l : Addr} {Q : Value → Shared → Prop} (hl : s.heap.IsList l vs.toArray) (e : EachIs R vs ds) (er : EachIs (fun v b => ∃ as, Reads s.heap v b as) vs ds) (hal : AllAlike ds) (hm : PyData.tuple [] ∈ ds) (ht : ∀ d ∈ ds, ∃ xs, d = .tuple xs) (hL : ds.length ≤ sizeLine)
    (hu : ∀ b, b ∈ ds → A.units + 2 + b.depth < cLine) (h : ∀ out, out.length = ds.length → EachIs R out (ds.mergeSort (dataLe false id)) → Q (.ref (s.heap.objs.size + 1)) { s with heap := sortedAll s.heap vs (List.toArray out) }) :
    wpAny (model prog w) A (call (.builtin "sorted") [.ref l]) Q E s := by
  have er' : EachIs (fun v b => ∃ as, Reads (sortingHeap (copyHeap s.heap vs) (s.heap.objs.size + 1) vs) v b as) vs ds := er.mono fun _ _ ⟨as, r⟩ => ⟨as, PyProof.Rows.Reads.keeps (fun _ _ => sorting_copy_old) r⟩
  have S := sorts_any (prog := prog) (w := w) (A := A.in1.in1) (s := { s with heap := sortingHeap (copyHeap s.heap vs) (s.heap.objs.size + 1) vs }) er' hal hm ht hu
  refine sorted_vals hl S (by rw [e.length]; exact hL) (h _ (by rw [sortVals_length false rfl]; exact e.length) ?_)
  have := sortVals_data (enc := id) (bs := ds) false e er' (by rw [List.map_id]; exact hal)
  rw [List.map_id] at this
  exact this
/-- list.sort of a list of tuples, some of them empty -/
theorem sort_data3 {E : Value → Shared → Prop} {vs : List Value} {ds : List PyData} {R : Value → PyData → Prop} {a : Addr} {n : Nat} {Q : Value → Shared → Prop} (ho : s.heap.get? a = some (seqObj "list" vs.toArray n)) (e : EachIs R vs ds) (er : EachIs (fun v b => ∃ as, Reads s.heap v b as ∧ a ∉ as) vs ds) (hal : AllAlike ds) (hm : PyData.tuple [] ∈ ds) (ht : ∀ d ∈ ds, ∃ xs, d = .tuple xs) (hL : ds.length ≤ sizeLine) : True := trivial
end
end DL
end
section
set_option Elab.async false
set_option linter.all false
set_option maxRecDepth 100000
/-! max, min, sorted, isinstance. -/
namespace DL
open PySem PySem.Spec PyProof.Rows L2
section
variable {X : Cx}
theorem dpA_get {K : PySem.W.Frag} {H : Hp} : ∀ {xs : List V} {ds : List D}, DpAll K H xs ds → ∀ (i : Nat) (v : V), xs[i]? = some v → ∃ d, ds[i]? = some d ∧ Dp K H v d
  | _, _, .nil, _, _, hv => by simp at hv
  | _, _, .cons r rs, 0, v, hv => by
    simp only [List.getElem?_cons_zero, Option.some.injEq] at hv
    subst hv
    exact ⟨_, rfl, r⟩
  | _, _, .cons r rs, i + 1, v, hv => by
    obtain ⟨d, h1, h2⟩ := dpA_get rs i v (by simpa using hv)
    exact ⟨d, by simpa using h1, h2⟩
theorem vals_at : ∀ {xs : List V} {us : List Value}, Vals xs us → ∀ (i : Nat) (u : Value), us[i]? = some u → ∃ x, xs[i]? = some x ∧ RelV x u
  | _, _, .nil, _, _, hv => by simp at hv
  | _, _, .cons r rs, 0, v, hv => by
    simp only [List.getElem?_cons_zero, Option.some.injEq] at hv
    subst hv
    exact ⟨_, rfl, r⟩
  | _, _, .cons r rs, i + 1, v, hv => by
    obtain ⟨d, h1, h2⟩ := vals_at rs i v (by simpa using hv)
    exact ⟨d, by simpa using h1, h2⟩
/-- what stands at the place is worth what it reads as -/
theorem pick_end {pins : List (Addr × Obj)} {σ : L2.St} {H : Hp} {s : Shared} {xs : List V} {its : List Value} {ds : List D} {m : D} {h' : Heap} {tk : Nat} {i : Nat} {v : Value} {bs : List Addr} {Q : VK}
    (I : Inv X pins σ H s) (rv : Vals xs its) (hd : DpAll X.K H xs ds) (hc : PyData.canLayAll0 ds = true) (hv : its.toArray[i]? = some v) (rd : Reads h' v m bs) (kp : ∀ b o, s.heap.get? b = some o → h'.get? b = some o)
    (q : ∀ (i : Nat) (v : V), xs[i]? = some v → ds[i]? = some m → Q v H) : EP X pins σ Q v { s with heap := h', toks := tk } := by
  have hv' : its[i]? = some v := by simpa using hv
  obtain ⟨x, hx, rx⟩ := vals_at rv i v hv'
  obtain ⟨d, h1, h2⟩ := dpA_get hd i x hx
  obtain ⟨as, r1⟩ := Dp.reads I d x v h2 rx
  have hcd : d.canLay0 = true := by
    have : ∀ {ds : List D}, PyData.canLayAll0 ds = true → ∀ (i : Nat) d, ds[i]? = some d → d.canLay0 = true := by
      intro ds
      induction ds with
      | nil => intro _ i d h; simp at h
      | cons y ys ih =>
        intro h i d hd
        simp only [PyData.canLayAll0, Bool.and_eq_true] at h
        cases i with
        | zero => simp only [List.getElem?_cons_zero, Option.some.injEq] at hd; subst hd; exact h.1
        | succ i => exact ih h.2 i d (by simpa using hd)
    exact this hc i d h1
  have e : d = m := (Reads.unique (reads_keep kp r1) _ _ rd).1
  subst e
  exact ⟨x, H, I.kept (t' := tk) kp, rx, q i x hx h1⟩
theorem cr_maxD (hc : X.calm = true) (hu : X.A.units + 66 < cLine) : CallR X (.builtin "max") (rPickD X.K PySem.W.maxD) := by
  intro pins s σ H vs us Q I r h
  obtain ⟨a, xs, d, ds, rfl, hs, hd, ha, hl, hdp, q⟩ := h
  rw [Vals.ref1 r]
  rcases hs with hs | hs
  · obtain ⟨its, rv, pl, _⟩ := I.list hs
    obtain ⟨as, r1⟩ := Dp.readsAll I _ _ its hd rv
    exact PySem.W.max_list_data (vs := its.toArray) (I.ok.hd hc) pl.isList (by simpa using r1) ha (by omega) fun i v h' tk bs hv rd kp => pick_end I rv hd hl hv rd kp q
  · obtain ⟨its, rv, pl, _⟩ := I.tuple hs
    obtain ⟨as, r1⟩ := Dp.readsAll I _ _ its hd rv
    exact PySem.W.max_tuple_data (vs := its.toArray) (I.ok.hd hc) pl (by simpa using r1) ha (by omega) fun i v h' tk bs hv rd kp => pick_end I rv hd hl hv rd kp q
theorem cr_minD (hc : X.calm = true) (hu : X.A.units + 66 < cLine) : CallR X (.builtin "min") (rPickD X.K PySem.W.minD) := by
  intro pins s σ H vs us Q I r h
  obtain ⟨a, xs, d, ds, rfl, hs, hd, ha, hl, hdp, q⟩ := h
  rw [Vals.ref1 r]
  rcases hs with hs | hs
  · obtain ⟨its, rv, pl, _⟩ := I.list hs
    obtain ⟨as, r1⟩ := Dp.readsAll I _ _ its hd rv
    exact PySem.W.min_list_data (vs := its.toArray) (I.ok.hd hc) pl.isList (by simpa using r1) ha (by omega) fun i v h' tk bs hv rd kp => pick_end I rv hd hl hv rd kp q
  · obtain ⟨its, rv, pl, _⟩ := I.tuple hs
    obtain ⟨as, r1⟩ := Dp.readsAll I _ _ its hd rv
    exact PySem.W.min_tuple_data (vs := its.toArray) (I.ok.hd hc) pl (by simpa using r1) ha (by omega) fun i v h' tk bs hv rd kp => pick_end I rv hd hl hv rd kp q
end
section
variable {K : PySem.W.Frag}
theorem okD_list {ds : List D} (h : okD (.list ds) = true) : PyData.canLayAll0 ds = true ∧ PyData.depthAll ds ≤ 64 := by
  have h1 := SeqAt.canLay_of_shaped h
  have h2 := SeqAt.depth_of_shaped h
  simp only [PyData.canLay0] at h1
  simp only [PyData.depth] at h2
  exact ⟨h1, by omega⟩
theorem okD_tuple {ds : List D} (h : okD (.tuple ds) = true) : PyData.canLayAll0 ds = true ∧ PyData.depthAll ds ≤ 64 := by
  have h1 := SeqAt.canLay_of_shaped h
  have h2 := SeqAt.depth_of_shaped h
  simp only [PyData.canLay0] at h1
  simp only [PyData.depth] at h2
  exact ⟨h1, by omega⟩
theorem vw_pick {g : D → List D → D} {F H : Hp} {x : V} {d : D} {ds : List D} {a : Addr} {xs : List V} (e : Ex F H) (hs : SqL K H a xs ∨ SqT K H a xs) (r : RpA K F xs (d :: ds)) (hl : PyData.canLayAll0 (d :: ds) = true) (hdp : PyData.depthAll (d :: ds) ≤ 64) (ha : PySem.W.AlikeAll (d :: ds))
    {Q : VK} (k : Res K F H (g d ds) Q) : rPickD K g [.ref a] H Q :=
  ⟨a, xs, d, ds, rfl, hs, (r.mono e).dpA hl, ha, hl, hdp, fun i v hv hd => by
    obtain ⟨w, h1, h2⟩ := r.get hd
    rw [hv] at h1
    cases h1
    exact k.at_ e h2⟩
theorem vw_max : ∀ F H x dx dz, Ex F H → Vw K F H x dx → gMax dx = some dz → ∀ Q : VK, Res K F H dz Q → rPickD K PySem.W.maxD [x] H Q := by
  intro F H x dx dz e hx hg Q k
  unfold gMax at hg
  split at hg
  · split at hg
    · rename_i hc
      cases hg
      simp only [Bool.and_eq_true] at hc
      obtain ⟨a, xs, rfl, s1, r1⟩ := hx.list e
      exact vw_pick (x := .ref a) e (.inl s1) r1 (okD_list hc.1).1 (okD_list hc.1).2 (alAll_ok hc.2) k
    · cases hg
  · split at hg
    · rename_i hc
      cases hg
      simp only [Bool.and_eq_true] at hc
      obtain ⟨a, xs, rfl, s1, r1⟩ := hx.tuple e
      exact vw_pick (x := .ref a) e (.inr s1) r1 (okD_tuple hc.1).1 (okD_tuple hc.1).2 (alAll_ok hc.2) k
    · cases hg
  · cases hg
theorem vw_min : ∀ F H x dx dz, Ex F H → Vw K F H x dx → gMin dx = some dz → ∀ Q : VK, Res K F H dz Q → rPickD K PySem.W.minD [x] H Q := by
  intro F H x dx dz e hx hg Q k
  unfold gMin at hg
  split at hg
  · split at hg
    · rename_i hc
      cases hg
      simp only [Bool.and_eq_true] at hc
      obtain ⟨a, xs, rfl, s1, r1⟩ := hx.list e
      exact vw_pick (x := .ref a) e (.inl s1) r1 (okD_list hc.1).1 (okD_list hc.1).2 (alAll_ok hc.2) k
    · cases hg
  · split at hg
    · rename_i hc
      cases hg
      simp only [Bool.and_eq_true] at hc
      obtain ⟨a, xs, rfl, s1, r1⟩ := hx.tuple e
      exact vw_pick (x := .ref a) e (.inr s1) r1 (okD_tuple hc.1).1 (okD_tuple hc.1).2 (alAll_ok hc.2) k
    · cases hg
  · cases hg
end
/-! ### sorted -/
def srtOk (xs : List D) : Bool := ((xs.all fun x => match x with | .tuple (_ :: _) => true | _ => false) || xs.all fun x => match x with | .none => false | .tuple _ => false | _ => true) || xs.any (fun x => match x with | .tuple [] => true | _ => false) && xs.all fun x => match x with | .tuple _ => true | _ => false
def putD (a : D) : List D → List D
  | [] => [a]
  | b :: l => cond (PySem.W.dataLt b a) (b :: putD a l) (a :: b :: l)
def sortD : List D → List D
  | [] => []
  | a :: l => putD a (sortD l)
theorem putD_two (a : D) (l2 : List D) (h : ∀ b ∈ l2, PySem.W.dataLt b a = false) : ∀ l1 : List D, (∀ b ∈ l1, PySem.W.dataLt b a = true) → putD a (l1 ++ l2) = l1 ++ a :: l2
  | [], _ => by
    cases l2 with
    | nil => rfl
    | cons b l => simp only [List.nil_append, putD, h b (.head _), cond_false]
  | b :: l1, h1 => by
    simp only [List.cons_append, putD, h1 b (.head _), cond_true]
    rw [putD_two a l2 h l1 fun c hc => h1 c (.tail _ hc)]
theorem sortD_eq (xs : List D) : sortD xs = xs.mergeSort fun a b => !PySem.W.dataLt b a := by
  have T := PySem.W.sortLe_total (PyProof.Rows.listOrd PyProof.Rows.itemOrd) false (fun b : D => PySem.W.keyToks b)
  induction xs with
  | nil => rw [sortD, List.mergeSort_nil]
  | cons a l ih =>
    obtain ⟨l1, l2, e1, e2, h1⟩ := List.mergeSort_cons (le := fun a b : D => !PySem.W.dataLt b a) (fun x y z => T.trans x y z) (fun x y => Bool.or_eq_true _ _ ▸ T.total x y) a l
    have ps := List.pairwise_mergeSort (le := fun a b : D => !PySem.W.dataLt b a) (fun x y z => T.trans x y z) (fun x y => Bool.or_eq_true _ _ ▸ T.total x y) (a :: l)
    rw [e1] at ps ⊢
    rw [sortD, ih, e2]
    have p2 := (List.pairwise_append.mp ps).2.1
    refine putD_two a l2 (fun b hb => ?_) l1 fun b hb => by simpa using h1 b hb
    have := List.rel_of_pairwise_cons p2 hb
    simpa using this
def gSorted : D → Option D
  | .list xs => if okD (.list xs) && alAll xs && srtOk xs && decide (xs.length ≤ bigN) then some (.list (sortD xs)) else none
  | .tuple xs => if okD (.tuple xs) && alAll xs && srtOk xs && decide (xs.length ≤ bigN) then some (.list (sortD xs)) else none
  | _ => none
theorem srtOk_ok {xs : List D} (h : srtOk xs = true) : PySem.W.Sortable xs ∨ PyData.tuple [] ∈ xs ∧ ∀ d ∈ xs, ∃ zs, d = .tuple zs := by
  unfold srtOk at h
  rw [Bool.or_eq_true, Bool.or_eq_true, Bool.and_eq_true] at h
  simp only [List.all_eq_true, List.any_eq_true] at h
  rcases h with (h | h) | h
  · refine .inl (.inl fun d hd => ?_)
    have := h d hd
    split at this
    · exact ⟨_, _, rfl⟩
    · cases this
  · refine .inl (.inr fun d hd => ?_)
    have := h d hd
    split at this
    · cases this
    · cases this
    · rename_i n1 n2
      exact ⟨n1, n2⟩
  · refine .inr ⟨?_, fun d hd => ?_⟩
    · obtain ⟨d, hd, this⟩ := h.1
      split at this
      · exact hd
      · cases this
    · have := h.2 d hd
      split at this
      · exact ⟨_, rfl⟩
      · cases this
/-- Rp items that read as the data: the sorted ones -/
def rSortD (K : PySem.W.Frag) : List V → Hp → VK → Prop := fun vs H Q => ∃ (a : Addr) (xs : List V) (ds : List D) (W : V → D → Prop), vs = [.ref a] ∧ (SqL K H a xs ∨ SqT K H a xs) ∧ DpAll K H xs ds ∧ Paired W xs ds ∧ alAll ds = true ∧ srtOk ds = true ∧ ds.length ≤ bigN ∧ PyData.depthAll ds ≤ 64 ∧
  ∀ ys p, Paired W ys (sortD ds) → H p = none → Q (.ref p) (upd H p (.lst ys))
theorem each_iff {α β : Type} {R : α → β → Prop} {xs : List α} {ys : List β} (h : PySem.W.EachIs R xs ys) : Paired R xs ys := by
  induction h with
  | nil => exact .nil
  | cons a _ ih => exact .cons a ih
theorem each_of {α β : Type} {R : α → β → Prop} {xs : List α} {ys : List β} (h : Paired R xs ys) : PySem.W.EachIs R xs ys := by
  induction h with
  | nil => exact .nil
  | cons a _ ih => exact .cons a ih
section
open PySem.Calls
variable {X : Cx} {pins : List (Addr × Obj)} {σ : L2.St} {H : Hp} {s : Shared}
theorem each_two {W : V → D → Prop} : ∀ {xs : List V} {vs : List Value} {ds : List D}, Vals xs vs → Paired W xs ds → PySem.W.EachIs (fun v d => ∃ x, RelV x v ∧ W x d) vs ds
  | _, _, _, .nil, .nil => .nil
  | _, _, _, .cons r t, .cons w u => .cons ⟨_, r, w⟩ (each_two t u)
theorem okD_list' {ds : List D} (h : okD (.list ds) = true) : PyData.canLayAll0 ds = true ∧ PyData.depthAll ds ≤ 64 := okD_list h
/-- sorted of what collects to the values of xs -/
theorem sorted_by {W : V → D → Prop} {r : Addr} {xs : List V} {ys : List D} {Q : VK} (hu : X.A.units + 70 < cLine) (I : Inv X pins σ H s) (hd : DpAll X.K H xs ys) (pz : Paired W xs ys) (c2 : alAll ys = true) (c3 : srtOk ys = true) (hln : ys.length ≤ bigN) (hdp : PyData.depthAll ys ≤ 64)
    (hcol : ∀ (R : List Value → Shared → Prop) (E : Value → Shared → Prop), (∀ (h1 : Heap) (tk : Nat) (vs : List Value), (∀ b o, s.heap.get? b = some o → h1.get? b = some o) → Vals xs vs → R vs { s with heap := h1, toks := tk }) → wpAny (model X.prog X.w) X.A.in1 (collect (.ref r)) R E s)
    (k : ∀ (ws : List V) (p : Addr), Paired W ws (sortD ys) → H p = none → Q (.ref p) (upd H p (.lst ws))) : wpAny (model X.prog X.w) X.A (call (.builtin "sorted") [.ref r]) (EP X pins σ Q) X.xe s := by
  have hal : PySem.W.AllAlike ys := fun d hd d' hd' => (alAll_ok c2).1 d hd d' hd'
  have hdep : ∀ b, b ∈ ys → b.depth ≤ PyData.depthAll ys := by
    clear hal hdp hd pz k c2 c3 hln
    intro b hb
    induction ys with
    | nil => cases hb
    | cons y ys ih =>
      simp only [PyData.depthAll]
      rcases List.mem_cons.mp hb with rfl | hb
      · exact Nat.le_max_left _ _
      · exact Nat.le_trans (ih hb) (Nat.le_max_right _ _)
  have hub : ∀ b, b ∈ ys → X.A.in1.in1.units + PyData.depth b < cLine := fun b hb => by
    have := hdep b hb
    show X.A.units + 1 + 1 + _ < _
    omega
  have hlen : xs.length = ys.length := dpA_len hd
  refine call_function_entry kind_sorted plain_sorted entry_sorted (args_sorted1 _) ?_
  unfold Builtin.«sorted»
  refine wpAny_bind (m := checkCount "sorted" 1 1 _) (wpAny_pure ?_)
  refine wpAny_bind (hcol _ _ fun h1 tk vs hk rv => ?_)
  have hl : vs.length = ys.length := by rw [← rv.length, hlen]
  have hlz : vs.length ≤ sizeLine := by rw [hl]; exact Nat.le_trans hln big_le
  refine wpAny_bind (wpAny_newList ?_ hlz)
  have I0 : Inv X pins σ H { s with heap := h1, toks := tk } := I.kept (t' := tk) hk
  obtain ⟨as, r1⟩ := Dp.readsAll I0 _ _ vs hd rv
  have er0 : PySem.W.EachIs (fun v b => ∃ as, Reads h1 v b as) vs ys := PySem.W.readsAll_each (h := h1) (id : D → D) (vs := vs) (bs := ys) (as := as) (by rw [List.map_id]; exact r1)
  have ho : (h1.push { cls := .type "list", data := .seq vs.toArray }).get? h1.objs.size = some (seqObj "list" vs.toArray 0) := Heap.get?_push_size _ rfl
  generalize hS0 : PySem.W.sortingHeap (h1.push { cls := .type "list", data := .seq vs.toArray }) h1.objs.size vs = hS1
  have keepS : ∀ b o, h1.get? b = some o → hS1.get? b = some o := fun b o w => by
    rw [← hS0]
    exact PySem.W.sortingHeap_old (Nat.ne_of_lt (Heap.lt_size w)) (Heap.get?_push_of_some _ w)
  have er : PySem.W.EachIs (fun v b => ∃ as, Reads hS1 v b as) vs ys := er0.mono fun _ _ ⟨as, w⟩ => ⟨as, PyProof.Rows.Reads.keeps keepS w⟩
  have S : PySem.W.SortsAt X.prog X.w X.A.in1.in1 { s with heap := hS1, toks := tk } (PySem.W.dataKind hS1 ys) vs := by
    rcases srtOk_ok c3 with hS | ⟨hm, hT⟩
    · exact PySem.W.SortsAt.data er hal hS hub
    · exact sorts_any er hal hm hT hub
  have e : PySem.W.EachIs (fun v d => ∃ x, RelV x v ∧ W x d) vs ys := each_two rv pz
  have hso : PySem.W.EachIs (fun v d => ∃ x, RelV x v ∧ W x d) (PySem.W.sortVals (PySem.W.dataKind hS1 ys) false vs vs) (ys.mergeSort (PySem.W.dataLe false id)) := by
    have := PySem.W.sortVals_data (enc := id) (bs := ys) false e er (by rw [List.map_id]; exact hal)
    rw [List.map_id] at this
    exact this
  have hlen2 : (PySem.W.sortVals (PySem.W.dataKind hS1 ys) false vs vs).length = vs.length := PySem.W.sortVals_length false rfl
  subst hS0
  refine wpAny_bind (wpAny_holding (wpAny_call_entry slot_list_sort ⟨_, ho, rfl⟩ entry_list_sort (PySem.W.list_sort_vals (s := { s with heap := h1.push { cls := .type "list", data := .seq vs.toArray }, toks := tk }) ho S hlz ⟨.none, rfl, ?_⟩) (args_list_sort _)))
  refine wpAny_pure ⟨_, rfl, ?_⟩
  generalize PySem.W.sortVals (PySem.W.dataKind (PySem.W.sortingHeap (h1.push { cls := .type "list", data := .seq vs.toArray }) h1.objs.size vs) ys) false vs vs = out at hso hlen2
  obtain ⟨ws, hw1, hw2⟩ : ∃ ws, Vals ws out ∧ Paired W ws (sortD ys) := by
    have ho' : Paired (fun v d => ∃ x, RelV x v ∧ W x d) out (sortD ys) := by
      rw [sortD_eq]
      exact each_iff hso
    generalize sortD ys = ts at ho'
    clear hso hlen2
    induction ho' with
    | nil => exact ⟨[], .nil, .nil⟩
    | cons a _ ih =>
      obtain ⟨x, r, w⟩ := a
      obtain ⟨ws, i1, i2⟩ := ih
      exact ⟨x :: ws, .cons r i1, .cons w i2⟩
  obtain ⟨c, hc2⟩ := PyProof.Rows.sortedHeap_at (vs := vs) (out := out.toArray) ho
  refine ⟨.ref h1.objs.size, upd H h1.objs.size (.lst ws), I0.laid (t' := tk) (fun b u w => ?_) (Nat.le_refl _) ⟨?_, out, c, hw1, hc2⟩, rfl, k ws _ hw2 (I0.hok.fresh (Nat.le_refl _))⟩
  · rw [PyProof.Rows.sortedHeap_old (Nat.ne_of_lt (Heap.lt_size w)) (by rw [Heap.size_push]; exact Nat.lt_succ_of_lt (Heap.lt_size w))]
    exact Heap.get?_push_of_some _ w
  · rw [hw1.length, hlen2]; exact hlz
end
section
variable {X : Cx}
theorem cr_sortD (hu : X.A.units + 70 < cLine) : CallR X (.builtin "sorted") (rSortD X.K) := by
  intro pins s σ H vs us Q I r h
  obtain ⟨a, xs, ds, W, rfl, hs, hd, hw, ha, hso, hn, hdp, q⟩ := h
  rw [Vals.ref1 r]
  refine sorted_by hu I hd hw ha hso hn hdp (fun R E hR => ?_) q
  rcases hs with hs | hs
  · obtain ⟨its, rv, pl, hz⟩ := I.list hs
    obtain ⟨o, h1, h2, n, h3⟩ := pl.isList
    exact PySem.wpAny_collect_seq a (.inl rfl) h1 h2 h3 (fun h' hk => hR h' s.toks _ hk (by simpa using rv)) (by have := rv.length; simp; omega)
  · obtain ⟨its, rv, ⟨o, h1, h2, n, h3⟩, hz⟩ := I.tuple hs
    exact PySem.wpAny_collect_seq a (.inr rfl) h1 h2 h3 (fun h' hk => hR h' s.toks _ hk (by simpa using rv)) (by have := rv.length; simp; omega)
end
theorem rpA_pair {K : PySem.W.Frag} {H : Hp} {xs : List V} {ds : List D} (r : RpA K H xs ds) : Paired (Rp K H) xs ds := by
  induction xs generalizing ds with
  | nil => cases r; exact .nil
  | cons x xs ih =>
    cases r with
    | cons h t => exact .cons h (ih t)
theorem pair_rpA {K : PySem.W.Frag} {H : Hp} {xs : List V} {ds : List D} (r : Paired (Rp K H) xs ds) : RpA K H xs ds := by
  induction r with
  | nil => exact .nil
  | cons h _ ih => exact .cons h ih
section
variable {K : PySem.W.Frag}
theorem vw_sorted : ∀ F H x dx dz, Ex F H → Vw K F H x dx → gSorted dx = some dz → ∀ Q : VK, Res K F H dz Q → rSortD K [x] H Q := by
  intro F H x dx dz e hx hg Q k
  unfold gSorted at hg
  split at hg
  · split at hg
    · rename_i hc
      cases hg
      simp only [Bool.and_eq_true, decide_eq_true_eq] at hc
      obtain ⟨⟨⟨c1, c2⟩, c3⟩, c4⟩ := hc
      obtain ⟨a, xs, rfl, s1, r1⟩ := hx.list e
      exact ⟨a, xs, _, Rp K F, rfl, .inl s1, (r1.mono e).dpA (okD_list c1).1, rpA_pair r1, c2, c3, c4, (okD_list c1).2, fun ys p hy hp => k.lst e (pair_rpA hy) p hp⟩
    · cases hg
  · split at hg
    · rename_i hc
      cases hg
      simp only [Bool.and_eq_true, decide_eq_true_eq] at hc
      obtain ⟨⟨⟨c1, c2⟩, c3⟩, c4⟩ := hc
      obtain ⟨a, xs, rfl, s1, r1⟩ := hx.tuple e
      exact ⟨a, xs, _, Rp K F, rfl, .inr s1, (r1.mono e).dpA (okD_tuple c1).1, rpA_pair r1, c2, c3, c4, (okD_tuple c1).2, fun ys p hy hp => k.lst e (pair_rpA hy) p hp⟩
    · cases hg
  · cases hg
end
end DL
end
section
set_option Elab.async false
set_option linter.all false
set_option maxRecDepth 100000
/-! Expressions: syntax and data. -/
namespace DL
open PySem PySem.Spec PyProof.Rows L2
section
variable {X : Cx} {e a b c : Expr} {es : List Expr} {pos p : Pos} {fe fa fb fc : Fm → Option D} {ft fu : Fm → Option Bool}
theorem PP.pv (h : PP X e fe) : PV X e fe := let ⟨t, h1, h2⟩ := h; ⟨t, h1, h2.sv⟩
/-! ### names, constants -/
theorem d_var (i : Nat) {x : Str} (hN : X.N[i]? = some x := by rfl) (hv : Vis X.env.scope x := by first | exact Or.inl rfl | exact Or.inr (Or.inl rfl) | exact Or.inr (Or.inr rfl)) (hd : (x == ("__debug__" : Str)) = false := by decide)
    (hcd : (x == ("__classdict__" : Str)) = false := by decide) : PP X (.Name x pos) (fVar i) := ⟨_, pe_var hN hv hd hcd, sp_var⟩
theorem d_own (i : Nat) {x : Str} (hN : X.N[i]? = some x := by rfl) (hv : Vis X.env.scope x := by first | exact Or.inl rfl | exact Or.inr (Or.inl rfl) | exact Or.inr (Or.inr rfl)) (hd : (x == ("__debug__" : Str)) = false := by decide)
    (hcd : (x == ("__classdict__" : Str)) = false := by decide) : PV X (.Name x pos) (fOwn i) := ⟨_, pe_var hN hv hd hcd, sv_own⟩
theorem d_int {i : Int} {j} : PP X (.Constant (.int i) j pos) (fC (.int i)) := ⟨_, pe_int, sp_c fun _ => .int i⟩
theorem d_bl {i : Bool} {j} : PP X (.Constant (.bool i) j pos) (fC (.bool i)) := ⟨_, pe_bl, sp_c fun _ => .bl i⟩
theorem d_non {j} : PP X (.Constant .none j pos) (fC .none) := ⟨_, pe_non, sp_c fun _ => .non⟩
theorem d_str {x : Str} {j} : PP X (.Constant (.str x) j pos) (fC (.str x)) := ⟨_, pe_str, sp_c fun _ => .str x⟩
theorem d_gint {x : Str} {i : Int} {t : Tok} (hg : Gl X x) (hm : X.mg x = some (.int i t)) (hd : (x == ("__debug__" : Str)) = false := by decide) : PP X (.Name x pos) (fC (.int i)) := ⟨_, pe_glob hg hm (v := .int i) ⟨t, rfl⟩ hd, sp_c fun _ => .int i⟩
theorem d_gstr {x y : Str} {t : Tok} (hg : Gl X x) (hm : X.mg x = some (.str y t)) (hd : (x == ("__debug__" : Str)) = false := by decide) : PP X (.Name x pos) (fC (.str y)) := ⟨_, pe_glob hg hm (v := .str y) ⟨t, rfl⟩ hd, sp_c fun _ => .str y⟩
/-! ### operators -/
theorem d_add (ha : PV X a fa) (hb : PV X b fb) : PP X (.BinOp a .Add b pos) (fOp2 gAdd fa fb) := let ⟨_, h1, h2⟩ := ha; let ⟨_, h3, h4⟩ := hb; ⟨_, pe_op op_addAny h1 h3, sp_op2 vw_add h2 h4⟩
theorem d_sub (ha : PV X a fa) (hb : PV X b fb) : PP X (.BinOp a .Sub b pos) (fOp2 gSub fa fb) := let ⟨_, h1, h2⟩ := ha; let ⟨_, h3, h4⟩ := hb; ⟨_, pe_op op_sub h1 h3, sp_op2 vw_I20 h2 h4⟩
theorem d_mulI (ha : PV X a fa) (hb : PV X b fb) : PP X (.BinOp a .Mult b pos) (fOp2 gMulI fa fb) := let ⟨_, h1, h2⟩ := ha; let ⟨_, h3, h4⟩ := hb; ⟨_, pe_op op_mul h1 h3, sp_op2 (vw_I2 fun _ _ h => smI_mul h) h2 h4⟩
theorem d_div (ha : PV X a fa) (hb : PV X b fb) : PP X (.BinOp a .FloorDiv b pos) (fOp2 gDiv fa fb) := let ⟨_, h1, h2⟩ := ha; let ⟨_, h3, h4⟩ := hb; ⟨_, pe_op op_fdivW h1 h3, sp_op2 (vw_I2 fun i j h => by
  simp only [Bool.and_eq_true, decide_eq_true_eq] at h
  exact wide_div (b := 64) h.1 (by have := h.2; omega) (by decide) (by decide)) h2 h4⟩
theorem d_mod (ha : PV X a fa) (hb : PV X b fb) : PP X (.BinOp a .Mod b pos) (fOp2 gMod fa fb) := let ⟨_, h1, h2⟩ := ha; let ⟨_, h3, h4⟩ := hb; ⟨_, pe_op op_mod h1 h3, sp_op2 (vw_I2 fun i j h => by simpa only [decide_eq_true_eq] using h) h2 h4⟩
theorem d_pow (ha : PV X a fa) (hb : PV X b fb) : PP X (.BinOp a .Pow b pos) (fOp2 gPow fa fb) := let ⟨_, h1, h2⟩ := ha; let ⟨_, h3, h4⟩ := hb; ⟨_, pe_op op_pow h1 h3, sp_op2 (vw_I2 fun i j h => by
  simp only [Bool.and_eq_true, decide_eq_true_eq] at h
  exact ⟨h.1.1, h.1.2, h.2⟩) h2 h4⟩
theorem d_neg (ha : PV X a fa) : PP X (.UnaryOp .USub a pos) (fOp1 gNeg fa) := let ⟨_, h1, h2⟩ := ha; ⟨_, pe_un un_neg h1, sp_op1 vw_neg h2⟩
/-! ### comparisons: as values, as tests -/
/-- a comparison -/
def PCm (X : Cx) (op : CmpOp) (a b : Expr) (f : Fm → Option D) : Prop := ∃ (r : R2) (ta tb : TE), OpR X (compareOp op) r ∧ PE X a ta ∧ PE X b tb ∧ SP X.K (tOp r ta tb) f
theorem c_eq {k : Nat} (hr : Room k X.A) (ha : PV X a fa) (hb : PV X b fb) : PCm X .Eq a b (fOp2 gEq fa fb) := let ⟨ta, h1, h2⟩ := ha; let ⟨tb, h3, h4⟩ := hb; ⟨_, ta, tb, op_eqD hr.units, h1, h3, sp_op2 vw_eq h2 h4⟩
theorem c_ne {k : Nat} (hr : Room k X.A) (ha : PV X a fa) (hb : PV X b fb) : PCm X .NotEq a b (fOp2 gNe fa fb) := let ⟨ta, h1, h2⟩ := ha; let ⟨tb, h3, h4⟩ := hb; ⟨_, ta, tb, op_neD hr.units, h1, h3, sp_op2 vw_ne h2 h4⟩
theorem Room.u66 {k : Nat} {A : Around} (hr : Room k A) : A.units + 66 < cLine := by have := hr.un; omega
theorem Room.u70 {k : Nat} {A : Around} (hr : Room k A) : A.units + 70 < cLine := by have := hr.un; omega
theorem c_in {k : Nat} (hr : Room k X.A) (ha : PV X a fa) (hb : PV X b fb) : PCm X .In a b (fOp2 (gIn false) fa fb) := let ⟨ta, h1, h2⟩ := ha; let ⟨tb, h3, h4⟩ := hb; ⟨_, ta, tb, op_inLT (by have := Room.u66 hr; omega), h1, h3, sp_op2 vw_in h2 h4⟩
theorem c_ni {k : Nat} (hr : Room k X.A) (ha : PV X a fa) (hb : PV X b fb) : PCm X .NotIn a b (fOp2 (gIn true) fa fb) := let ⟨ta, h1, h2⟩ := ha; let ⟨tb, h3, h4⟩ := hb; ⟨_, ta, tb, op_niLT (by have := Room.u66 hr; omega), h1, h3, sp_op2 vw_in h2 h4⟩
theorem c_lt {k : Nat} (hr : Room k X.A) (ha : PV X a fa) (hb : PV X b fb) : PCm X .Lt a b (fOp2 gLt fa fb) := let ⟨ta, h1, h2⟩ := ha; let ⟨tb, h3, h4⟩ := hb; ⟨_, ta, tb, op_ltD hr.units, h1, h3, sp_op2 (vw_ord fun _ _ => rfl) h2 h4⟩
theorem c_le {k : Nat} (hr : Room k X.A) (ha : PV X a fa) (hb : PV X b fb) : PCm X .LtE a b (fOp2 gLe fa fb) := let ⟨ta, h1, h2⟩ := ha; let ⟨tb, h3, h4⟩ := hb; ⟨_, ta, tb, op_leD hr.units, h1, h3, sp_op2 (vw_ord fun _ _ => rfl) h2 h4⟩
theorem c_gt {k : Nat} (hr : Room k X.A) (ha : PV X a fa) (hb : PV X b fb) : PCm X .Gt a b (fOp2 gGt fa fb) := let ⟨ta, h1, h2⟩ := ha; let ⟨tb, h3, h4⟩ := hb; ⟨_, ta, tb, op_gtD hr.units, h1, h3, sp_op2 (vw_ord fun _ _ => rfl) h2 h4⟩
theorem c_ge {k : Nat} (hr : Room k X.A) (ha : PV X a fa) (hb : PV X b fb) : PCm X .GtE a b (fOp2 gGe fa fb) := let ⟨ta, h1, h2⟩ := ha; let ⟨tb, h3, h4⟩ := hb; ⟨_, ta, tb, op_geD hr.units, h1, h3, sp_op2 (vw_ord fun _ _ => rfl) h2 h4⟩
theorem c_is (ha : PV X a fa) (hb : PV X b fb) : PCm X .Is a b (fOp2 (gIsN false) fa fb) := let ⟨ta, h1, h2⟩ := ha; let ⟨tb, h3, h4⟩ := hb; ⟨_, ta, tb, op_isN, h1, h3, sp_op2 vw_isN h2 h4⟩
theorem c_isn (ha : PV X a fa) (hb : PV X b fb) : PCm X .IsNot a b (fOp2 (gIsN true) fa fb) := let ⟨ta, h1, h2⟩ := ha; let ⟨tb, h3, h4⟩ := hb; ⟨_, ta, tb, op_notN, h1, h3, sp_op2 vw_notN h2 h4⟩
theorem d_cmp {op : CmpOp} (h : PCm X op a b fe) (hm : behindInMarks op b = false := by first | exact nomark _ | rfl | (with_unfolding_all rfl)) : PP X (.Compare a [op] [b] pos) fe :=
  let ⟨_, _, _, h1, h2, h3, h4⟩ := h
  ⟨_, pe_cmpR h1 h2 h3 hm, h4⟩
/-- a bool is wanted -/
def fBl (f : Fm → Option D) (ρ : Fm) : Option Bool := match f ρ with
  | some (.bool b) => some b
  | _ => none
theorem fBl_some {f : Fm → Option D} {ρ : Fm} {b : Bool} (h : fBl f ρ = some b) : f ρ = some (.bool b) := by
  unfold fBl at h
  split at h
  · rename_i e
    cases h
    exact e
  · cases h
theorem sb_B {K : PySem.W.Frag} {t : TE} (h : SP K t fe) : SB K (tB t) (fBl fe) := by
  intro F H σ ρ b hf hR Q k
  refine h F H σ ρ _ (fBl_some hf) hR _ fun v F' H' g r => ?_
  exact ⟨b, r.blI, k F' H' g⟩
theorem sb_test {K : PySem.W.Frag} {t : TE} (h : SP K t fe) : SB K (tTest t) (fBl fe) := by
  intro F H σ ρ b hf hR Q k
  refine h F H σ ρ _ (fBl_some hf) hR _ fun v F' H' g r => ?_
  exact ⟨b, r.blI, k F' H' g⟩
theorem t_cmp {op : CmpOp} (h : PCm X op a b fe) (hm : behindInMarks op b = false := by first | exact nomark _ | rfl | (with_unfolding_all rfl)) : PB X (.Compare a [op] [b] pos) (fBl fe) :=
  let ⟨_, _, _, h1, h2, h3, h4⟩ := h
  ⟨_, pt_cmpR h1 h2 h3 hm, sb_test h4⟩
/-- a call, a name .. as a test -/
theorem t_val (h : PP X e fe) (he : ∀ whole, isTrue e X.env whole = (do let v ← whole; standAt e.pos; holding [v] (truthy v)) := by intro _; rfl) : PB X e (fBl fe) :=
  let ⟨_, h1, h2⟩ := h
  ⟨_, pt_val h1 he, sb_B h2⟩
/-! ### and, or, not, if -/
def fNot (f : Fm → Option Bool) (ρ : Fm) : Option Bool := (f ρ).map (!·)
def fAnd (f g : Fm → Option Bool) (ρ : Fm) : Option Bool := (f ρ).bind fun b => if b = true then g ρ else some false
def fOr (f g : Fm → Option Bool) (ρ : Fm) : Option Bool := (f ρ).bind fun b => if b = true then some true else g ρ
def fIf (c : Fm → Option Bool) (f g : Fm → Option D) (ρ : Fm) : Option D := (c ρ).bind fun b => if b = true then f ρ else g ρ
def fBv (f : Fm → Option Bool) (ρ : Fm) : Option D := (f ρ).map .bool
theorem sb_not {K : PySem.W.Frag} {t : TT} (h : SB K t ft) : SB K (tNot t) (fNot ft) := by
  intro F H σ ρ b hf hR Q k
  obtain ⟨b', h1, h2⟩ := Option.map_eq_some_iff.mp hf
  subst h2
  exact h F H σ ρ _ h1 hR _ fun F' H' g => k F' H' g
theorem ResB.gr {F H F' H' : Hp} {b : Bool} {Q : Bool → Hp → Prop} (k : ResB F H b Q) (g : Gr F H F' H') : ResB F' H' b Q := fun F2 H2 g2 => k F2 H2 (g.trans g2)
theorem ResB.at_ {F H : Hp} {b : Bool} {Q : Bool → Hp → Prop} (k : ResB F H b Q) (e : Ex F H) : Q b H := k F H (.refl e)
theorem sb_and {K : PySem.W.Frag} {t u : TT} (h : SB K t ft) (h' : SB K u fu) : SB K (tAnd t u) (fAnd ft fu) := by
  intro F H σ ρ b hf hR Q k
  obtain ⟨b1, h1, h2⟩ := Option.bind_eq_some_iff.mp hf
  refine h F H σ ρ _ h1 hR _ fun F' H' g => ?_
  split at h2
  · rename_i e
    rw [if_pos e]
    exact h' F' H' σ ρ b h2 (hR.gr g) _ (k.gr g)
  · rename_i e
    rw [if_neg e]
    cases h2
    exact (k.gr g).at_ g.in_
theorem sb_or {K : PySem.W.Frag} {t u : TT} (h : SB K t ft) (h' : SB K u fu) : SB K (tOr t u) (fOr ft fu) := by
  intro F H σ ρ b hf hR Q k
  obtain ⟨b1, h1, h2⟩ := Option.bind_eq_some_iff.mp hf
  refine h F H σ ρ _ h1 hR _ fun F' H' g => ?_
  split at h2
  · rename_i e
    rw [if_pos e]
    cases h2
    exact (k.gr g).at_ g.in_
  · rename_i e
    rw [if_neg e]
    exact h' F' H' σ ρ b h2 (hR.gr g) _ (k.gr g)
theorem t_not (h : PB X a ft) : PB X (.UnaryOp .Not a pos) (fNot ft) := let ⟨_, h1, h2⟩ := h; ⟨_, pt_not h1, sb_not h2⟩
def PWb (X : Cx) (e : Expr) (f : Fm → Option Bool) : Prop := ∃ t, PW X e t ∧ SB X.K t f
theorem w_and1 (h : PB X a ft) : PWb X (.BoolOp .And [a] pos) ft := let ⟨_, h1, h2⟩ := h; ⟨_, pw_and1 h1, h2⟩
theorem w_or1 (h : PB X a ft) : PWb X (.BoolOp .Or [a] pos) ft := let ⟨_, h1, h2⟩ := h; ⟨_, pw_or1 h1, h2⟩
theorem w_and {rest : List Expr} (h : PB X a ft) (h' : PWb X (.BoolOp .And (b :: rest) pos) fu) : PWb X (.BoolOp .And (a :: b :: rest) pos) (fAnd ft fu) := let ⟨_, h1, h2⟩ := h; let ⟨_, h3, h4⟩ := h'; ⟨_, pw_and h1 h3, sb_and h2 h4⟩
theorem w_or {rest : List Expr} (h : PB X a ft) (h' : PWb X (.BoolOp .Or (b :: rest) pos) fu) : PWb X (.BoolOp .Or (a :: b :: rest) pos) (fOr ft fu) := let ⟨_, h1, h2⟩ := h; let ⟨_, h3, h4⟩ := h'; ⟨_, pw_or h1 h3, sb_or h2 h4⟩
theorem PWb.pb (h : PWb X a ft) : PB X a ft := let ⟨_, h1, h2⟩ := h; ⟨_, h1.pt, h2⟩
/-! as values -/
def fAndV (f g : Fm → Option D) (ρ : Fm) : Option D := (fBl f ρ).bind fun b => if b = true then g ρ else some (.bool false)
def fOrV (f g : Fm → Option D) (ρ : Fm) : Option D := (fBl f ρ).bind fun b => if b = true then some (.bool true) else g ρ
def fNotV (f : Fm → Option D) (ρ : Fm) : Option D := (fBl f ρ).map fun b => .bool (!b)
theorem sp_andV {K : PySem.W.Frag} {t u : TE} (h : SP K t fa) (h' : SP K u fb) : SP K (tAndV t u) (fAndV fa fb) := by
  intro F H σ ρ d hf hR Q k
  obtain ⟨b1, h1, h2⟩ := Option.bind_eq_some_iff.mp hf
  refine h F H σ ρ _ (fBl_some h1) hR _ fun v F' H' g r => ?_
  refine ⟨b1, r.blI, ?_⟩
  split at h2
  · rename_i e
    rw [if_pos e]
    exact h' F' H' σ ρ d h2 (hR.gr g) _ (k.gr g)
  · rename_i e
    rw [if_neg e]
    cases h2
    exact (k.gr g).sc g.in_ fun _ => .bl _
theorem sp_orV {K : PySem.W.Frag} {t u : TE} (h : SP K t fa) (h' : SP K u fb) : SP K (tOrV t u) (fOrV fa fb) := by
  intro F H σ ρ d hf hR Q k
  obtain ⟨b1, h1, h2⟩ := Option.bind_eq_some_iff.mp hf
  refine h F H σ ρ _ (fBl_some h1) hR _ fun v F' H' g r => ?_
  refine ⟨b1, r.blI, ?_⟩
  split at h2
  · rename_i e
    rw [if_pos e]
    cases h2
    exact (k.gr g).sc g.in_ fun _ => .bl _
  · rename_i e
    rw [if_neg e]
    exact h' F' H' σ ρ d h2 (hR.gr g) _ (k.gr g)
theorem sp_notV {K : PySem.W.Frag} {t : TE} (h : SP K t fa) : SP K (tNotV t) (fNotV fa) := by
  intro F H σ ρ d hf hR Q k
  obtain ⟨b1, h1, h2⟩ := Option.map_eq_some_iff.mp hf
  subst h2
  refine h F H σ ρ _ (fBl_some h1) hR _ fun v F' H' g r => ?_
  exact ⟨b1, r.blI, (k.gr g).sc g.in_ fun _ => .bl _⟩
theorem d_one {op} (h : PP X a fa) : PP X (.BoolOp op [a] pos) fa := let ⟨_, h1, h2⟩ := h; ⟨_, pe_one h1, h2⟩
theorem d_and {rest : List Expr} (h : PP X a fa) (h' : PP X (.BoolOp .And (b :: rest) pos) fb) : PP X (.BoolOp .And (a :: b :: rest) pos) (fAndV fa fb) := let ⟨_, h1, h2⟩ := h; let ⟨_, h3, h4⟩ := h'; ⟨_, pe_and h1 h3, sp_andV h2 h4⟩
theorem d_or {rest : List Expr} (h : PP X a fa) (h' : PP X (.BoolOp .Or (b :: rest) pos) fb) : PP X (.BoolOp .Or (a :: b :: rest) pos) (fOrV fa fb) := let ⟨_, h1, h2⟩ := h; let ⟨_, h3, h4⟩ := h'; ⟨_, pe_or h1 h3, sp_orV h2 h4⟩
theorem d_not (h : PP X a fa) : PP X (.UnaryOp .Not a pos) (fNotV fa) := let ⟨_, h1, h2⟩ := h; ⟨_, pe_not h1, sp_notV h2⟩
theorem sp_if {K : PySem.W.Frag} {t : TT} {ta tb : TE} (h : SB K t ft) (h1 : SP K ta fa) (h2 : SP K tb fb) : SP K (tIf t ta tb) (fIf ft fa fb) := by
  intro F H σ ρ d hf hR Q k
  obtain ⟨b1, e1, e2⟩ := Option.bind_eq_some_iff.mp hf
  refine h F H σ ρ _ e1 hR _ fun F' H' g => ?_
  split at e2
  · rename_i e
    rw [if_pos e]
    exact h1 F' H' σ ρ d e2 (hR.gr g) _ (k.gr g)
  · rename_i e
    rw [if_neg e]
    exact h2 F' H' σ ρ d e2 (hR.gr g) _ (k.gr g)
theorem d_if (hc : PB X c ft) (ha : PP X a fa) (hb : PP X b fb) : PP X (.IfExp c a b pos) (fIf ft fa fb) := let ⟨_, h1, h2⟩ := hc; let ⟨_, h3, h4⟩ := ha; let ⟨_, h5, h6⟩ := hb; ⟨_, pe_ifExp h1 h3 h5, sp_if h2 h4 h6⟩
/-- code that is never come to -/
theorem sp_none {K : PySem.W.Frag} {t : TE} : SP K t fun _ => none := fun F H σ ρ d hf => nomatch hf
/-! ### subscripts -/
theorem d_ix (ha : PV X a fa) (hb : PV X b fb) (hs : PlainIx b := by exact fun _ _ => rfl) : PP X (.Subscript a b pos) (fOp2 gIx fa fb) := let ⟨_, h1, h2⟩ := ha; let ⟨_, h3, h4⟩ := hb; ⟨_, pe_ix ix_seq h1 h3 hs, sp_op2 vw_ix h2 h4⟩
/-! ### lists of arguments, displays -/
def fNil (_ : Fm) : Option (List D) := some []
def fCons (f : Fm → Option D) (g : Fm → Option (List D)) (ρ : Fm) : Option (List D) := (f ρ).bind fun d => (g ρ).map fun ds => d :: ds
variable {fs : Fm → Option (List D)}
theorem as_nil : PAs X [] fNil := ⟨_, pa_nil, fun F H σ ρ ds hf hR Q k => by cases hf; exact k [] F H (.refl hR.ex) .nil, fun ρ ds h => by cases h; rfl⟩
theorem sa_cons {K : PySem.W.Frag} {t : TE} {tr : TA} (h : SP K t fe) (hr : SA K tr fs) : SA K (tCons t tr) (fCons fe fs) := by
  intro F H σ ρ ds hf hR Q k
  obtain ⟨d, e1, e2⟩ := Option.bind_eq_some_iff.mp hf
  obtain ⟨r, e3, e4⟩ := Option.map_eq_some_iff.mp e2
  subst e4
  refine h F H σ ρ _ e1 hR _ fun v F1 H1 g1 r1 => ?_
  refine hr F1 H1 σ ρ _ e3 (hR.gr g1) _ fun vs F2 H2 g2 r2 => ?_
  exact k _ F2 H2 (g1.trans g2) (.cons (r1.mono g2.ex) r2)
theorem as_cons (h : PP X e fe) (hr : PAs X es fs) (hs : starEach (e :: es) X.env = (false, eval e X.env) :: starEach es X.env := by rfl) : PAs X (e :: es) (fCons fe fs) := let ⟨_, h1, h2⟩ := h; let ⟨_, h3, h4, h5⟩ := hr; ⟨_, pa_cons h1 h3 hs, sa_cons h2 h4, fun ρ ds h => by
  obtain ⟨d, e1, e2⟩ := Option.bind_eq_some_iff.mp h
  obtain ⟨r, e3, e4⟩ := Option.map_eq_some_iff.mp e2
  subst e4
  rw [List.length_cons, List.length_cons, h5 ρ r e3]⟩
def fTup (f : Fm → Option (List D)) (ρ : Fm) : Option D := (f ρ).bind fun ds => if ds.length ≤ bigN then some (.tuple ds) else none
def fLst (f : Fm → Option (List D)) (ρ : Fm) : Option D := (f ρ).bind fun ds => if ds.length ≤ bigN then some (.list ds) else none
theorem d_tup {x1} (h : PAs X es fs) : PP X (.Tuple es x1 pos) (fTup fs) := by
  obtain ⟨t, h1, h2, _⟩ := h
  refine ⟨_, pe_tup h1, fun F H σ ρ d hf hR Q k => ?_⟩
  obtain ⟨ds, e1, e2⟩ := Option.bind_eq_some_iff.mp hf
  split at e2
  · rename_i hz
    cases e2
    refine h2 F H σ ρ _ e1 hR _ fun vs F1 H1 g1 r1 => ⟨?_, (k.gr g1).tup g1.in_ r1⟩
    rw [r1.length]
    exact Nat.le_trans hz big_le
  · cases e2
theorem d_lst (h : PAs X es fs) : PP X (.List es pos) (fLst fs) := by
  obtain ⟨t, h1, h2, _⟩ := h
  refine ⟨_, pe_lst h1, fun F H σ ρ d hf hR Q k => ?_⟩
  obtain ⟨ds, e1, e2⟩ := Option.bind_eq_some_iff.mp hf
  split at e2
  · rename_i hz
    cases e2
    refine h2 F H σ ρ _ e1 hR _ fun vs F1 H1 g1 r1 => ⟨?_, (k.gr g1).lst g1.in_ r1⟩
    rw [r1.length]
    exact Nat.le_trans hz big_le
  · cases e2
/-! ### built-ins -/
theorem d_b1 {x : Str} {id : String} {r : List V → Hp → VK → Prop} {g : D → Option D} (hc : CallR X (.builtin id) r) (hv : bootBuiltins x = some (.builtin id)) (hr : ∀ F H x dx dz, Ex F H → Vw X.K F H x dx → g dx = some dz → ∀ Q : VK, Res X.K F H dz Q → r [x] H Q)
    (hg : Gl X x) (hm : X.mg x = none) (ha : PV X e fe) (hn : x ≠ "__name__") (hdb : (x == ("__debug__" : Str)) = false)
    (hs : starEach [e] X.env = (false, eval e X.env) :: starEach [] X.env) : PP X (.Call (.Name x p) [e] [] pos) (fOp1 g fe) :=
  let ⟨_, h1, h2⟩ := ha
  ⟨_, pe_callB hc hg hm hv (pa_cons h1 pa_nil hs) hn hdb hs rfl, sp_call1 hr h2⟩
theorem d_t1 {x : Str} {T : String} {r : List V → Hp → VK → Prop} {g : D → Option D} (hc : CallR X (.type T) r) (hv : bootBuiltins x = some (.type T)) (hr : ∀ F H x dx dz, Ex F H → Vw X.K F H x dx → g dx = some dz → ∀ Q : VK, Res X.K F H dz Q → r [x] H Q)
    (hg : Gl X x) (hm : X.mg x = none) (ha : PV X e fe) (hn : x ≠ "__name__") (hdb : (x == ("__debug__" : Str)) = false)
    (hs : starEach [e] X.env = (false, eval e X.env) :: starEach [] X.env) : PP X (.Call (.Name x p) [e] [] pos) (fOp1 g fe) :=
  let ⟨_, h1, h2⟩ := ha
  ⟨_, pe_callTy hc hg hm hv (pa_cons h1 pa_nil hs) hn hdb hs rfl, sp_call1 hr h2⟩
/-- the built-in names are what they were -/
structure Bt (mg : Str → Option Value) : Prop where
  len : mg "len" = none
  range : mg "range" = none
  int : mg "int" = none
  isinstance : mg "isinstance" = none
  tuple : mg "tuple" = none
  list : mg "list" = none
  sorted : mg "sorted" = none
  set : mg "set" = none
  max : mg "max" = none
  min : mg "min" = none
  enumerate : mg "enumerate" = none
  bool : mg "bool" = none
  str : mg "str" = none
  sum : mg "sum" = none
  zip : mg "zip" = none
  dict : mg "dict" = none
  abs : mg "abs" = none
theorem d_len (B : Bt X.mg) (ha : PV X e fe) (hg : Gl X "len" := by rfl) (hs : starEach [e] X.env = (false, eval e X.env) :: starEach [] X.env := by rfl) : PP X (.Call (.Name "len" p) [e] [] pos) (fOp1 gLen fe) :=
  d_b1 call_len PySem.boot_len vw_len hg B.len ha (by decide) (by decide) hs
theorem d_tuple (B : Bt X.mg) (ha : PV X e fe) (hg : Gl X "tuple" := by rfl) (hs : starEach [e] X.env = (false, eval e X.env) :: starEach [] X.env := by rfl) : PP X (.Call (.Name "tuple" p) [e] [] pos) (fOp1 gTuple fe) :=
  d_t1 call_tuple_of PyProof.Rows.boot_tuple vw_tuple hg B.tuple ha (by decide) (by decide) hs
theorem d_list (B : Bt X.mg) (ha : PV X e fe) (hg : Gl X "list" := by rfl) (hs : starEach [e] X.env = (false, eval e X.env) :: starEach [] X.env := by rfl) : PP X (.Call (.Name "list" p) [e] [] pos) (fOp1 gList fe) :=
  d_t1 call_list_of PyProof.Rows.boot_list vw_list hg B.list ha (by decide) (by decide) hs
theorem d_toInt (B : Bt X.mg) (ha : PV X e fe) (hg : Gl X "int" := by rfl) (hs : starEach [e] X.env = (false, eval e X.env) :: starEach [] X.env := by rfl) : PP X (.Call (.Name "int" p) [e] [] pos) (fOp1 gInt fe) :=
  d_t1 call_int1 PyProof.Rows.boot_int vw_int hg B.int ha (by decide) (by decide) hs
theorem d_toBool (B : Bt X.mg) (ha : PV X e fe) (hg : Gl X "bool" := by rfl) (hs : starEach [e] X.env = (false, eval e X.env) :: starEach [] X.env := by rfl) : PP X (.Call (.Name "bool" p) [e] [] pos) (fOp1 gBool fe) :=
  d_t1 call_bool1 PyProof.Rows.boot_bool vw_bool hg B.bool ha (by decide) (by decide) hs
theorem d_toStr (B : Bt X.mg) (ha : PV X e fe) (hg : Gl X "str" := by rfl) (hs : starEach [e] X.env = (false, eval e X.env) :: starEach [] X.env := by rfl) : PP X (.Call (.Name "str" p) [e] [] pos) (fOp1 gStr fe) :=
  d_t1 call_str_int PyProof.Rows.boot_str vw_str hg B.str ha (by decide) (by decide) hs
theorem d_abs (B : Bt X.mg) (ha : PV X e fe) (hg : Gl X "abs" := by rfl) (hs : starEach [e] X.env = (false, eval e X.env) :: starEach [] X.env := by rfl) : PP X (.Call (.Name "abs" p) [e] [] pos) (fOp1 gAbs fe) :=
  d_b1 call_abs PyProof.Rows.boot_abs vw_abs hg B.abs ha (by decide) (by decide) hs
theorem d_sum (hc : X.calm = true) (B : Bt X.mg) (ha : PV X e fe) (hg : Gl X "sum" := by rfl) (hs : starEach [e] X.env = (false, eval e X.env) :: starEach [] X.env := by rfl) : PP X (.Call (.Name "sum" p) [e] [] pos) (fOp1 gSum fe) :=
  d_b1 (cr_sum hc) PyProof.Rows.boot_sum vw_sum hg B.sum ha (by decide) (by decide) hs
theorem d_max (hc : X.calm = true) {k : Nat} (hr : Room k X.A) (B : Bt X.mg) (ha : PV X e fe) (hg : Gl X "max" := by rfl) (hs : starEach [e] X.env = (false, eval e X.env) :: starEach [] X.env := by rfl) : PP X (.Call (.Name "max" p) [e] [] pos) (fOp1 gMax fe) :=
  d_b1 (cr_maxD hc (Room.u66 hr)) PyProof.Rows.boot_max vw_max hg B.max ha (by decide) (by decide) hs
theorem d_min (hc : X.calm = true) {k : Nat} (hr : Room k X.A) (B : Bt X.mg) (ha : PV X e fe) (hg : Gl X "min" := by rfl) (hs : starEach [e] X.env = (false, eval e X.env) :: starEach [] X.env := by rfl) : PP X (.Call (.Name "min" p) [e] [] pos) (fOp1 gMin fe) :=
  d_b1 (cr_minD hc (Room.u66 hr)) PyProof.Rows.boot_min vw_min hg B.min ha (by decide) (by decide) hs
theorem d_sorted {k : Nat} (hr : Room k X.A) (B : Bt X.mg) (ha : PV X e fe) (hg : Gl X "sorted" := by rfl) (hs : starEach [e] X.env = (false, eval e X.env) :: starEach [] X.env := by rfl) : PP X (.Call (.Name "sorted" p) [e] [] pos) (fOp1 gSorted fe) :=
  d_b1 (cr_sortD (Room.u70 hr)) PyProof.Rows.boot_sorted vw_sorted hg B.sorted ha (by decide) (by decide) hs
end
end DL
end
section
set_option Elab.async false
set_option linter.all false
set_option maxRecDepth 100000
/-! isinstance, calls of defs, effects. -/
namespace DL
open PySem PySem.Spec PyProof.Rows L2
/-! ### isinstance -/
def tyD : D → String
  | .none => "NoneType"
  | .bool _ => "bool"
  | .int _ => "int"
  | .str _ => "str"
  | .list _ => "list"
  | .tuple _ => "tuple"
  | .dict _ => "dict"
def isaB (T : String) (d : D) : Bool := (tyD d == T) || (T == "int" && tyD d == "bool")
def knownT (T : String) : Bool := T == "int" || T == "bool" || T == "str" || T == "list" || T == "tuple"
theorem kitB_isa {T : String} (hT : knownT T = true) (d : D) (hd : nd d = true) : kitB (tyD d) T = some (isaB T d) := by
  unfold knownT at hT
  simp only [Bool.or_eq_true, beq_iff_eq] at hT
  rcases hT with (((h | h) | h) | h) | h <;> subst h <;> cases d <;> first | (simp only [nd, Bool.false_eq_true] at hd; done) | (clear hd; simp only [tyD, isaB]; decide +kernel)
theorem dp_ty {K : PySem.W.Frag} {H : Hp} {v : V} {d : D} (h : Dp K H v d) : TyX K H v (.type (tyD d)) := by
  cases h with
  | non => exact .base .non
  | bl b => exact .base (.bl b)
  | int i => exact .base (.int i)
  | str x => exact .base (.str x)
  | lst hs r =>
    rcases hs with (h | ⟨o, h⟩) | ⟨o, its, n, h1, h2, _⟩
    · exact .base (.lst h)
    · exact .base (.frz h)
    · exact .kList h1 h2
  | tup hs r =>
    rcases hs with (h | ⟨o, h⟩) | ⟨o, its, n, h1, h2, _⟩
    · exact .base (.tup h)
    · exact .fTuple h
    · exact .kTuple h1 h2
/-- an exact dict counts, too -/
inductive TyY (K : PySem.W.Frag) (H : Hp) : V → Value → Prop where
  | x {v : V} {t : Value} (h : TyX K H v t) : TyY K H v t
  | dn {a : Addr} {xs : DEs} (h : Rd H a (DN a xs)) : TyY K H (.ref a) (.type "dict")
  | dk {a : Addr} {kvs : List (Key × V)} (h : Rd H a (.dK kvs)) : TyY K H (.ref a) (.type "dict")
theorem kit_ofY {X : Cx} {pins : List (Addr × Obj)} {σ : L2.St} {H : Hp} {s : Shared} {x : V} {u t : Value} (I : Inv X pins σ H s) (rx : RelV x u) (ty : TyY X.K H x t) : ∃ P : Heap → Prop, PySem.W.KitX X.K u t P ∧ P s.heap ∧ u ≠ .builtin "__main__.__loader__#opaque" := by
  cases ty with
  | x h => exact kit_of I rx h
  | @dn a xs h =>
    cases (show u = Value.ref a from rx)
    obtain ⟨⟨_, _, _, o, es, ep, h1, h2, _⟩, _⟩ := (show ObjOk X.prog X.w H s.heap a (.ext (DPhi a xs)) from h.ok I.hok)
    exact ⟨_, PySem.W.kitx_dict, ⟨o, h1, h2.1⟩, fun z => nomatch z⟩
  | @dk a kvs h =>
    cases (show u = Value.ref a from rx)
    obtain ⟨_, _, vs, _, o, es, ep, h1, h2, _⟩ := (show ObjOk X.prog X.w H s.heap a (.dK kvs) from h.ok I.hok)
    exact ⟨_, PySem.W.kitx_dict, ⟨o, h1, h2.1⟩, fun z => nomatch z⟩
def rIsiY (K : PySem.W.Frag) : List V → Hp → VK → Prop := fun xs H Q => ∃ (x c : V) (t u : Value) (b : Bool), xs = [x, c] ∧ ClsV c u ∧ TyY K H x t ∧ PySem.W.kitOne K t u = some b ∧ Q (.bl b) H
def rIsiU (K : PySem.W.Frag) : List V → Hp → VK → Prop := fun xs H Q => ∃ (x : V) (tp : Addr) (cs : List V) (t : Value) (us : List Value) (b : Bool), xs = [x, .ref tp] ∧ H tp = some (.tup cs) ∧ Paired ClsV cs us ∧ TyY K H x t ∧ PySem.W.kitAny K t us = some b ∧ Q (.bl b) H
theorem call_isiY {X : Cx} : CallR X (.builtin "isinstance") (rIsiY X.K) := by
  intro pins s σ H xs us Q I r h
  obtain ⟨x, c, t, u, b, rfl, k, ty, e, q⟩ := h
  obtain ⟨w1, w2, rfl, r1, r2⟩ := vals2 r
  cases k.eq r2
  obtain ⟨P, Z, p, hx⟩ := kit_ofY I r1 ty
  exact PySem.W.kia_one Z I.kIn p e hx fun tk => ⟨.bl b, H, I.tok tk, rfl, q⟩
theorem call_isiU {X : Cx} : CallR X (.builtin "isinstance") (rIsiU X.K) := by
  intro pins s σ H xs us Q I r h
  obtain ⟨x, tp, cs, t, ws, b, rfl, hT, k, ty, e, q⟩ := h
  obtain ⟨w1, w2, rfl, r1, r2⟩ := vals2 r
  cases (show w2 = Value.ref tp from r2)
  obtain ⟨P, Z, p, hx⟩ := kit_ofY I r1 ty
  obtain ⟨_, its, rv, ob, h1, h2, n, h3⟩ := (show ObjOk X.prog X.w H s.heap tp (.tup cs) from I.hok tp _ hT)
  cases ClsV.all k rv
  obtain ⟨oc, od, dt, sl⟩ := ob
  simp only at h2 h3
  subst h2 h3
  exact PySem.W.kia_tup Z I.kIn p h1 e hx fun tk => ⟨.bl b, H, I.tok tk, rfl, q⟩
def gIsa (Ts : List String) : D → Option D := fun d => if nd d then some (.bool (Ts.any fun T => isaB T d)) else match d with
  | .dict _ => some (.bool (Ts.any fun T => isaB T d))
  | _ => none
theorem kitB_dict {T : String} (hT : knownT T = true) (ds : List (D × D)) : kitB (tyD (.dict ds)) T = some (isaB T (.dict ds)) := by
  unfold knownT at hT
  simp only [Bool.or_eq_true, beq_iff_eq] at hT
  rcases hT with (((h | h) | h) | h) | h <;> subst h <;> (simp only [tyD, isaB]; decide +kernel)
theorem kitAny_dict {K : PySem.W.Frag} {ds : List (D × D)} : ∀ {Ts : List String}, (∀ T ∈ Ts, knownT T = true) → PySem.W.kitAny K (.type (tyD (.dict ds))) (Ts.map Value.type) = some (Ts.any fun T => isaB T (.dict ds))
  | [], _ => kitAny_nil
  | T :: Ts, h => by
    rw [List.map_cons, List.any_cons]
    refine kitAny_cons (b := isaB T (.dict ds)) (kit_ty (kitB_dict (h T List.mem_cons_self) ds)) (fun e => ?_) fun e => by rw [e, Bool.true_or]
    rw [kitAny_dict fun T hT => h T (List.mem_cons_of_mem _ hT), e, Bool.false_or]
theorem dv_ty {K : PySem.W.Frag} {F H : Hp} {a : Addr} {ds : List (D × D)} (h : DV K F H a ds) : TyY K H (.ref a) (.type "dict") := by
  rcases h with ⟨kvs, h, _⟩ | ⟨xs, h, _⟩
  · exact .dk h
  · exact .dn h
theorem kitAny_isa {K : PySem.W.Frag} {d : D} (hd : nd d = true) : ∀ {Ts : List String}, (∀ T ∈ Ts, knownT T = true) → PySem.W.kitAny K (.type (tyD d)) (Ts.map Value.type) = some (Ts.any fun T => isaB T d)
  | [], _ => kitAny_nil
  | T :: Ts, h => by
    rw [List.map_cons, List.any_cons]
    refine kitAny_cons (b := isaB T d) (kit_ty (kitB_isa (h T List.mem_cons_self) d hd)) (fun e => ?_) fun e => by rw [e, Bool.true_or]
    rw [kitAny_isa hd fun T hT => h T (List.mem_cons_of_mem _ hT), e, Bool.false_or]
section
variable {X : Cx} {e a b c : Expr} {es : List Expr} {pos p : Pos} {fe fa fb fc : Fm → Option D} {ft fu : Fm → Option Bool}
/-- isinstance(e, T) -/
theorem d_isa {T : Str} {id : String} {q : Pos} (hT : knownT id = true) (hv : bootBuiltins T = some (.type id)) (B : Bt X.mg) (hmT : X.mg T = none) (ha : PV X e fe) (hgT : Gl X T := by rfl) (hg : Gl X "isinstance" := by rfl) (hn : T ≠ "__name__" := by decide) (hd : (T == ("__debug__" : Str)) = false := by decide)
    (hs : starEach [e, .Name T q] X.env = (false, eval e X.env) :: starEach [.Name T q] X.env := by rfl) (hs2 : starEach [.Name T q] X.env = (false, eval (.Name T q) X.env) :: starEach [] X.env := by rfl)
    (hpl : (backTo pos (starEach [.Name T q] X.env)).any (·.1) = false := by rfl) : PP X (.Call (.Name "isinstance" p) [e, .Name T q] [] pos) (fOp1 (gIsa [id]) fe) := by
  obtain ⟨t, h1, h2⟩ := ha
  refine ⟨_, pe_callB call_isiY hg B.isinstance PyProof.Rows.boot_isinstance (pa_cons h1 (pa_cons (pe_bltn (v := .ty id) hgT hmT hv rfl hn hd) pa_nil hs2) hs) (by decide) (by decide) hs hpl, fun F H σ ρ d hf hR Q k => ?_⟩
  obtain ⟨dx, e1, e2⟩ := Option.bind_eq_some_iff.mp hf
  unfold gIsa at e2
  split at e2
  · rename_i hnd
    cases e2
    refine h2 F H σ ρ _ e1 hR _ fun v F1 H1 g1 r1 => ?_
    refine ⟨v, .ty id, .type (tyD dx), .type id, isaB id dx, rfl, .ty id, (.x (dp_ty ((r1.rp g1.in_ hnd).dp hnd))), kit_ty (kitB_isa hT dx hnd), ?_⟩
    have : (List.any [id] fun T => isaB T dx) = isaB id dx := by rw [List.any_cons, List.any_nil, Bool.or_false]
    rw [this] at k
    exact (k.gr g1).sc g1.in_ fun _ => .bl _
  · split at e2
    · rename_i ds hnd
      cases e2
      refine h2 F H σ ρ _ e1 hR _ fun v F1 H1 g1 r1 => ?_
      obtain ⟨a, rfl, hv⟩ := r1.dict g1.in_
      refine ⟨.ref a, .ty id, .type (tyD (.dict ds)), .type id, isaB id (.dict ds), rfl, .ty id, dv_ty hv, kit_ty (kitB_dict hT ds), ?_⟩
      have : (List.any [id] fun T => isaB T (.dict ds)) = isaB id (.dict ds) := by rw [List.any_cons, List.any_nil, Bool.or_false]
      rw [this] at k
      exact (k.gr g1).sc g1.in_ fun _ => .bl _
    · cases e2
theorem pairedTy : ∀ Ts : List String, Paired ClsV (Ts.map V.ty) (Ts.map Value.type)
  | [] => .nil
  | T :: Ts => .cons (.ty T) (pairedTy Ts)
/-- isinstance(e, (S, T)) -/
theorem d_isa2 {S T : Str} {i j : String} {q r tq : Pos} {kk} (hS : knownT i = true) (hT : knownT j = true) (hvS : bootBuiltins S = some (.type i)) (hv : bootBuiltins T = some (.type j)) (B : Bt X.mg) (hmS : X.mg S = none) (hmT : X.mg T = none) (ha : PV X e fe)
    (hgS : Gl X S := by rfl) (hgT : Gl X T := by rfl) (hg : Gl X "isinstance" := by rfl) (hnS : S ≠ "__name__" := by decide) (hdS : (S == ("__debug__" : Str)) = false := by decide) (hn : T ≠ "__name__" := by decide) (hd : (T == ("__debug__" : Str)) = false := by decide)
    (hs : starEach [e, .Tuple [.Name S q, .Name T r] kk tq] X.env = (false, eval e X.env) :: starEach [.Tuple [.Name S q, .Name T r] kk tq] X.env := by rfl) :
    PP X (.Call (.Name "isinstance" p) [e, .Tuple [.Name S q, .Name T r] kk tq] [] pos) (fOp1 (gIsa [i, j]) fe) := by
  obtain ⟨t, h1, h2⟩ := ha
  refine ⟨_, pe_callB call_isiU hg B.isinstance PyProof.Rows.boot_isinstance (pa_cons h1 (pa_cons (pe_tup (pa_cons (pe_bltn (v := .ty i) hgS hmS hvS rfl hnS hdS) (pa_cons (pe_bltn (v := .ty j) hgT hmT hv rfl hn hd) pa_nil rfl) rfl)) pa_nil rfl) hs) (by decide) (by decide) hs rfl, fun F H σ ρ d hf hR Q k => ?_⟩
  obtain ⟨dx, e1, e2⟩ := Option.bind_eq_some_iff.mp hf
  unfold gIsa at e2
  split at e2
  · rename_i hnd
    cases e2
    refine h2 F H σ ρ _ e1 hR _ fun v F1 H1 g1 r1 => ⟨(by show 2 ≤ sizeLine; decide), fun tp hp => ?_⟩
    have g2 : Gr F1 H1 F1 (upd H1 tp (.tup [.ty i, .ty j])) := .newH g1.in_ hp
    refine ⟨v, tp, [.ty i, .ty j], .type (tyD dx), [.type i, .type j], _, rfl, upd_same, pairedTy [i, j], (.x (dp_ty (((r1.rp g1.in_ hnd).mono g2.keep).dp hnd))), kitAny_isa hnd (Ts := [i, j]) (fun T hT' => ?_), ?_⟩
    · rcases List.mem_cons.mp hT' with rfl | h
      · exact hS
      · rw [List.mem_singleton.mp h]; exact hT
    · exact (k.gr (g1.trans g2)).sc g2.in_ fun _ => .bl _
  · split at e2
    · rename_i ds hnd
      cases e2
      refine h2 F H σ ρ _ e1 hR _ fun v F1 H1 g1 r1 => ⟨(by show 2 ≤ sizeLine; decide), fun tp hp => ?_⟩
      have g2 : Gr F1 H1 F1 (upd H1 tp (.tup [.ty i, .ty j])) := .newH g1.in_ hp
      obtain ⟨a, rfl, hv⟩ := (r1.gr g2).dict g2.in_
      refine ⟨.ref a, tp, [.ty i, .ty j], .type (tyD (.dict ds)), [.type i, .type j], _, rfl, upd_same, pairedTy [i, j], dv_ty hv, kitAny_dict (Ts := [i, j]) (fun T hT' => ?_), ?_⟩
      · rcases List.mem_cons.mp hT' with rfl | h
        · exact hS
        · rw [List.mem_singleton.mp h]; exact hT
      · exact (k.gr (g1.trans g2)).sc g2.in_ fun _ => .bl _
    · cases e2
end
/-! ### defs: what they promise -/
/-- a def of data -/
def spP (K : PySem.W.Frag) (g : List D → Option D) (n : Nat) : Sp := fun vs H Q _ => vs.length = n ∧ ∃ (F : Hp) (ds : List D) (d : D), Ex F H ∧ RpA K F vs ds ∧ g ds = some d ∧ Res K F H d Q
/-- a def whose first argument is a list that it may change -/
def spI (K : PySem.W.Frag) (g : List D → List D → Option (D × List D)) (n : Nat) : Sp := fun vs H Q _ => vs.length = n + 1 ∧ ∃ (F : Hp) (a : Addr) (xs : List V) (ls : List D) (us : List V) (ds : List D) (d : D) (ls' : List D), vs = .ref a :: us ∧ Ex F H ∧ H a = some (.lst xs) ∧ F a = none ∧ RpA K F xs ls ∧ RpA K F us ds ∧ g ls ds = some (d, ls') ∧
  ∀ v F' H' xs', Ex F F' → Ex F' H' → (∀ b o, H b = some o → b ≠ a → H' b = some o) → (∀ b, H b ≠ none → F b = none → F' b = none) → H' a = some (.lst xs') → RpA K F' xs' ls' → Rp K F' v d → Q v H'
section
variable {X : Cx} {e a b c : Expr} {es : List Expr} {pos p : Pos} {fe fa fb fc : Fm → Option D} {ft fu : Fm → Option Bool} {fs : Fm → Option (List D)} {ge ga gb : Fm → Option (D × Fm)} {gt gu : Fm → Option (Bool × Fm)} {gs : Fm → Option (List D × Fm)}
def fCall (g : List D → Option D) (fs : Fm → Option (List D)) (ρ : Fm) : Option D := (fs ρ).bind g
theorem d_call {k n : Nat} {x : Str} {f : Addr} {fd : FuncData} {ps : List Str} {g : List D → Option D} (G : FnOk X.prog X.w X.K X.mg X.base CX0 k f fd ps (spP X.K g n)) (hr : Room k X.A) (hm : X.mg x = some (.ref f)) (hk : PySem.W.keepIn X.K (.ref f) = true) (hb : Binds X.K fd ps [])
    (ha : PAs X (e :: es) fs) (hn : n = (e :: es).length := by rfl) (hg : Gl X x := by rfl) (hdb : (x == ("__debug__" : Str)) = false := by decide) (he : starEach (e :: es) X.env = (false, eval e X.env) :: starEach es X.env := by rfl) (hpl : (backTo pos (starEach es X.env)).any (·.1) = false := by rfl) : PP X (.Call (.Name x p) (e :: es) [] pos) (fCall g fs) := by
  obtain ⟨t, h1, h2, h3⟩ := ha
  refine ⟨_, pe_call G hr hg hm hk hb .nil pass0 h1 hdb he hpl, fun F H σ ρ d hf hR Q q => ?_⟩
  obtain ⟨ds, e1, e2⟩ := Option.bind_eq_some_iff.mp hf
  refine h2 F H σ ρ _ e1 hR _ fun vs F1 H1 g1 r1 => ?_
  rw [List.append_nil]
  exact ⟨by rw [r1.length, hn]; exact h3 _ _ e1, F1, ds, d, g1.in_, r1, e2, q.gr g1⟩
end
end DL
end
section
set_option Elab.async false
set_option linter.all false
set_option maxRecDepth 100000
/-! Effects, statements. -/
namespace DL
open PySem PySem.Spec PyProof.Rows L2
/-! ### what a step of an expression may do -/
structure GoE (K : PySem.W.Frag) (F H : Hp) (σ : L2.St) (ρ : Fm) (F' H' : Hp) (ρ' : Fm) : Prop where
  go : Go K F H σ ρ F' H' σ ρ'
  mono : ∀ (i : Nat) (b : B), ρ'[i]? = some b → b.own = true → ∃ c, ρ[i]? = some c ∧ c.own = true
section
variable {K : PySem.W.Frag} {F H F' H' F2 H2 : Hp} {σ σ' σ2 : L2.St} {ρ ρ' ρ2 : Fm}
theorem GoE.refl (h : Rel K F H σ ρ) : GoE K F H σ ρ F H ρ := ⟨.refl h, fun _ b e o => ⟨b, e, o⟩⟩
theorem GoE.trans (a : GoE K F H σ ρ F' H' ρ') (b : GoE K F' H' σ ρ' F2 H2 ρ2) : GoE K F H σ ρ F2 H2 ρ2 := ⟨a.go.trans b.go, fun i c e o => let ⟨_, e1, o1⟩ := b.mono i c e o; a.mono i _ e1 o1⟩
theorem GoE.gr (h : Rel K F H σ ρ) (g : Gr F H F' H') : GoE K F H σ ρ F' H' ρ := ⟨.gr h g, fun _ b e o => ⟨b, e, o⟩⟩
theorem GoE.rel (a : GoE K F H σ ρ F' H' ρ') : Rel K F' H' σ ρ' := a.go.rel
theorem GoE.own (a : GoE K F H σ ρ F' H' ρ') {x : Addr} (h : ownA σ ρ' x) : ownA σ ρ x := by
  obtain ⟨i, b, e, o, s⟩ := h
  obtain ⟨c, e1, o1⟩ := a.mono i b e o
  exact ⟨i, c, e1, o1, s⟩
theorem own_live (h : Rel K F H σ ρ) {x : Addr} (o : ownA σ ρ x) : ∃ u, H x = some u ∧ F x = none := by
  obtain ⟨i, b, e, ob, s⟩ := o
  have := h.at_ i b e
  cases b with
  | no => cases ob
  | sh d => cases ob
  | ow ds =>
    obtain ⟨a, vs, e1, e2, e3, _⟩ := this
    rw [s] at e1
    cases e1
    exact ⟨_, e2, e3⟩
  | io ds =>
    obtain ⟨a, vs, e1, e2, e3, _⟩ := this
    rw [s] at e1
    cases e1
    exact ⟨_, e2, e3⟩
  | od t ds =>
    obtain ⟨a, e1, e3, d⟩ := this
    rw [s] at e1
    cases e1
    obtain ⟨u, e2, _⟩ := d.live
    exact ⟨u, e2, e3⟩
/-- the own list of slot i is changed -/
def B.put : B → List D → B
  | .io _, ls => .io ls
  | _, ls => .ow ls
theorem put_own (b : B) (ls : List D) : (b.put ls).own = true := by cases b <;> rfl
theorem goE_putB {i : Nat} {b b' : B} {a : Addr} {o' : HO} (h : Rel K F H σ ρ) (hb : ρ[i]? = some b) (ob : b.own = true) (hs : σ[i]? = some (some (.ref a))) (ex : Ex F F') (in_ : Ex F' H')
    (keep : ∀ c o, H c = some o → c ≠ a → H' c = some o) (hide : ∀ c, H c ≠ none → F c = none → F' c = none) (ha : H' a = some o') (ob' : b'.own = true) (r : F' a = none → BRel K F' H' σ[i]? b') (hio : ∀ ds, b' = .io ds → ∃ ds0, b = .io ds0) : GoE K F H σ ρ F' H' (ρ.set i b') := by
  have hl : i < ρ.length := by
    rw [List.getElem?_eq_some_iff] at hb
    exact hb.1
  have hoa : ownA σ ρ a := ⟨i, b, hb, ob, hs⟩
  obtain ⟨vs0, ha0, hf0⟩ := own_live h hoa
  have hfa : F' a = none := hide a (by rw [ha0]; intro z; cases z) hf0
  have get : ∀ j c, (ρ.set i b')[j]? = some c → (j = i ∧ c = b') ∨ (j ≠ i ∧ ρ[j]? = some c) := by
    intro j c e
    by_cases hj : j = i
    · subst hj
      rw [List.getElem?_set_self hl] at e
      exact .inl ⟨rfl, (Option.some.inj e).symm⟩
    · rw [List.getElem?_set_ne (fun z => hj z.symm)] at e
      exact .inr ⟨hj, e⟩
  have mono : ∀ (j : Nat) (c : B), (ρ.set i b')[j]? = some c → c.own = true → ∃ c', ρ[j]? = some c' ∧ c'.own = true := by
    intro j c e o
    rcases get j c e with ⟨rfl, rfl⟩ | ⟨hj, e'⟩
    · exact ⟨b, hb, ob⟩
    · exact ⟨c, e', o⟩
  refine ⟨⟨⟨in_, by rw [List.length_set]; exact h.len, fun j c e => ?_, fun j k c d x e1 o1 e2 o2 s1 s2 => ?_⟩, ex, fun c o e n => ?_, fun c e => ?_, fun c e f n => hide c e f, fun c o => ?_, fun j ds e => ?_⟩, mono⟩
  · rcases get j c e with ⟨rfl, rfl⟩ | ⟨hj, e'⟩
    · exact r hfa
    · have := h.at_ j c e'
      have key : ∀ ds, OwnL K F H σ[j]? ds → c.own = true → OwnL K F' H' σ[j]? ds := by
        intro ds ⟨x, vs, e1, e2, e3, rr⟩ oc
        have hx : x ≠ a := fun z => by
          subst z
          exact hj (h.sep j i c b x e' oc hb ob e1 hs)
        exact ⟨x, vs, e1, keep x _ e2 hx, hide x (by rw [e2]; intro z; cases z) e3, rr.mono ex⟩
      have keyD : ∀ t ds, OwnD K F H σ[j]? t ds → c.own = true → OwnD K F' H' σ[j]? t ds := by
        intro t ds ⟨x, e1, e3, dd⟩ oc
        have hx : x ≠ a := fun z => by
          subst z
          exact hj (h.sep j i c b x e' oc hb ob e1 hs)
        obtain ⟨u, e2, _⟩ := dd.live
        exact ⟨x, e1, hide x (by rw [e2]; intro z; cases z) e3, dd.move ex fun u e => keep x _ e hx⟩
      cases c with
      | no => trivial
      | sh d =>
        obtain ⟨v, e1, rr⟩ := this
        exact ⟨v, e1, rr.mono ex⟩
      | ow ds => exact key ds this rfl
      | io ds => exact key ds this rfl
      | od t ds => exact keyD t ds this rfl
  · obtain ⟨c1, f1, p1⟩ := mono j c e1 o1
    obtain ⟨c2, f2, p2⟩ := mono k d e2 o2
    exact h.sep j k c1 c2 x f1 p1 f2 p2 s1 s2
  · exact keep c o e fun z => n (by rw [z]; exact hoa)
  · by_cases hc : c = a
    · rw [hc, ha]; intro z; cases z
    · cases q : H c with
      | none => exact absurd q e
      | some o => rw [keep c o q hc]; intro z; cases z
  · obtain ⟨j, d, e, ob', s⟩ := o
    obtain ⟨c1, f1, p1⟩ := mono j d e ob'
    exact .inl ⟨j, c1, f1, p1, s⟩
  · rcases get j _ e with ⟨rfl, z⟩ | ⟨hj, e'⟩
    · obtain ⟨ds0, rfl⟩ := hio ds z.symm
      exact ⟨⟨ds0, hb⟩, rfl⟩
    · exact ⟨⟨ds, e'⟩, rfl⟩
theorem goE_put {i : Nat} {b : B} {a : Addr} {xs' : List V} {ls' : List D} (h : Rel K F H σ ρ) (hb : ρ[i]? = some b) (ob : b.own = true) (hs : σ[i]? = some (some (.ref a))) (ex : Ex F F') (in_ : Ex F' H')
    (keep : ∀ c o, H c = some o → c ≠ a → H' c = some o) (hide : ∀ c, H c ≠ none → F c = none → F' c = none) (ha : H' a = some (.lst xs')) (r : RpA K F' xs' ls') : GoE K F H σ ρ F' H' (ρ.set i (b.put ls')) :=
  goE_putB h hb ob hs ex in_ keep hide ha (put_own b ls') (fun hf => by
    rw [hs]
    cases b with
    | no => cases ob
    | sh d => cases ob
    | ow ds => exact ⟨a, xs', rfl, ha, hf, r⟩
    | io ds => exact ⟨a, xs', rfl, ha, hf, r⟩
    | od t ds => exact ⟨a, xs', rfl, ha, hf, r⟩) fun ds z => by
    cases b with
    | io ds0 => exact ⟨ds0, rfl⟩
    | no => cases ob
    | sh d => cases ob
    | ow ds0 => cases z
    | od t ds => cases z
end
def SX (K : PySem.W.Frag) (t : TE) (f : Fm → Option (D × Fm)) : Prop := ∀ F H σ ρ d ρ', f ρ = some (d, ρ') → Rel K F H σ ρ → ∀ Q : VK, (∀ v F' H', GoE K F H σ ρ F' H' ρ' → Rp K F' v d → Q v H') → t σ H Q
def SXB (K : PySem.W.Frag) (t : TT) (f : Fm → Option (Bool × Fm)) : Prop := ∀ F H σ ρ b ρ', f ρ = some (b, ρ') → Rel K F H σ ρ → ∀ Q : Bool → Hp → Prop, (∀ F' H', GoE K F H σ ρ F' H' ρ' → Q b H') → t σ H Q
def SXA (K : PySem.W.Frag) (t : TA) (f : Fm → Option (List D × Fm)) : Prop := ∀ F H σ ρ ds ρ', f ρ = some (ds, ρ') → Rel K F H σ ρ → ∀ Q : List V → Hp → Prop, (∀ vs F' H', GoE K F H σ ρ F' H' ρ' → RpA K F' vs ds → Q vs H') → t σ H Q
def XE (X : Cx) (e : Expr) (f : Fm → Option (D × Fm)) : Prop := ∃ t, PE X e t ∧ SX X.K t f
def XB (X : Cx) (e : Expr) (f : Fm → Option (Bool × Fm)) : Prop := ∃ t, PT X e t ∧ SXB X.K t f
def XA (X : Cx) (es : List Expr) (f : Fm → Option (List D × Fm)) : Prop := ∃ t, PA X es t ∧ SXA X.K t f ∧ ∀ ρ ds ρ', f ρ = some (ds, ρ') → ds.length = es.length
/-! ### from plain to effect -/
def up {α : Type} (f : Fm → Option α) (ρ : Fm) : Option (α × Fm) := (f ρ).map fun d => (d, ρ)
section
variable {X : Cx} {e a b c : Expr} {es : List Expr} {pos p : Pos} {fe fa fb fc : Fm → Option D} {ft fu : Fm → Option Bool} {fs : Fm → Option (List D)} {ge ga gb : Fm → Option (D × Fm)} {gt gu : Fm → Option (Bool × Fm)} {gs : Fm → Option (List D × Fm)}
theorem up_some {α : Type} {f : Fm → Option α} {ρ ρ' : Fm} {d : α} (h : up f ρ = some (d, ρ')) : f ρ = some d ∧ ρ = ρ' := by
  obtain ⟨x, e1, e2⟩ := Option.map_eq_some_iff.mp h
  cases e2
  exact ⟨e1, rfl⟩
theorem PP.xe (h : PP X e fe) : XE X e (up fe) := let ⟨t, h1, h2⟩ := h; ⟨t, h1, fun F H σ ρ d ρ' hf hR Q k => by
  obtain ⟨e1, rfl⟩ := up_some hf
  exact h2 F H σ ρ d e1 hR _ fun v F' H' g r => k v F' H' (.gr hR g) r⟩
theorem PB.xb (h : PB X e ft) : XB X e (up ft) := let ⟨t, h1, h2⟩ := h; ⟨t, h1, fun F H σ ρ d ρ' hf hR Q k => by
  obtain ⟨e1, rfl⟩ := up_some hf
  exact h2 F H σ ρ d e1 hR _ fun F' H' g => k F' H' (.gr hR g)⟩
theorem PAs.xa (h : PAs X es fs) : XA X es (up fs) := let ⟨t, h1, h2, h3⟩ := h; ⟨t, h1, fun F H σ ρ d ρ' hf hR Q k => by
  obtain ⟨e1, rfl⟩ := up_some hf
  exact h2 F H σ ρ d e1 hR _ fun v F' H' g r => k v F' H' (.gr hR g) r, fun ρ ds ρ' h => h3 ρ ds (up_some h).1⟩
/-! ### operators with effects -/
def xOp2 (g : D → D → Option D) (fa fb : Fm → Option (D × Fm)) (ρ : Fm) : Option (D × Fm) := (fa ρ).bind fun x => (fb x.2).bind fun y => (g x.1 y.1).map fun z => (z, y.2)
def xOp1 (g : D → Option D) (fa : Fm → Option (D × Fm)) (ρ : Fm) : Option (D × Fm) := (fa ρ).bind fun x => (g x.1).map fun z => (z, x.2)
theorem sx_op2 {K : PySem.W.Frag} {ta tb : TE} {r : R2} {g : D → D → Option D} (hr : ∀ F H x y dx dy dz, Ex F H → Vw K F H x dx → Vw K F H y dy → g dx dy = some dz → ∀ Q : VK, Res K F H dz Q → r x y H Q)
    (ha : SX K ta ga) (hb : SX K tb gb) : SX K (tOp r ta tb) (xOp2 g ga gb) := by
  intro F H σ ρ d ρ' hf hR Q k
  obtain ⟨⟨dx, ρ1⟩, h1, hf⟩ := Option.bind_eq_some_iff.mp hf
  obtain ⟨⟨dy, ρ2⟩, h2, hf⟩ := Option.bind_eq_some_iff.mp hf
  obtain ⟨dz, h3, hf⟩ := Option.map_eq_some_iff.mp hf
  cases hf
  refine ha F H σ ρ dx ρ1 h1 hR _ fun x F1 H1 g1 r1 => ?_
  refine hb F1 H1 σ ρ1 dy ρ2 h2 g1.rel _ fun y F2 H2 g2 r2 => ?_
  exact hr F2 H2 x y dx dy d g2.rel.ex (.inl (r1.mono g2.go.ex)) (.inl r2) h3 Q fun v F3 H3 g3 r3 => k v F3 H3 ((g1.trans g2).trans (.gr g2.rel g3)) r3
theorem x_op2 {op : Operator} {r : R2} {g : D → D → Option D} (ho : OpR X (binaryOp op) r) (hr : ∀ F H x y dx dy dz, Ex F H → Vw X.K F H x dx → Vw X.K F H y dy → g dx dy = some dz → ∀ Q : VK, Res X.K F H dz Q → r x y H Q)
    (ha : XE X a ga) (hb : XE X b gb) : XE X (.BinOp a op b pos) (xOp2 g ga gb) := let ⟨_, h1, h2⟩ := ha; let ⟨_, h3, h4⟩ := hb; ⟨_, pe_op ho h1 h3, sx_op2 hr h2 h4⟩
theorem x_add (ha : XE X a ga) (hb : XE X b gb) : XE X (.BinOp a .Add b pos) (xOp2 gAdd ga gb) := x_op2 op_addAny vw_add ha hb
theorem x_sub (ha : XE X a ga) (hb : XE X b gb) : XE X (.BinOp a .Sub b pos) (xOp2 gSub ga gb) := x_op2 op_sub vw_I20 ha hb
def XCm (X : Cx) (op : CmpOp) (a b : Expr) (f : Fm → Option (D × Fm)) : Prop := ∃ (r : R2) (ta tb : TE), OpR X (compareOp op) r ∧ PE X a ta ∧ PE X b tb ∧ SX X.K (tOp r ta tb) f
theorem xc_of {op : CmpOp} {r : R2} {g : D → D → Option D} (ho : OpR X (compareOp op) r) (hr : ∀ F H x y dx dy dz, Ex F H → Vw X.K F H x dx → Vw X.K F H y dy → g dx dy = some dz → ∀ Q : VK, Res X.K F H dz Q → r x y H Q)
    (ha : XE X a ga) (hb : XE X b gb) : XCm X op a b (xOp2 g ga gb) := let ⟨ta, h1, h2⟩ := ha; let ⟨tb, h3, h4⟩ := hb; ⟨r, ta, tb, ho, h1, h3, sx_op2 hr h2 h4⟩
theorem xc_eq {k : Nat} (hr : Room k X.A) (ha : XE X a ga) (hb : XE X b gb) : XCm X .Eq a b (xOp2 gEq ga gb) := xc_of (op_eqD hr.units) vw_eq ha hb
theorem xc_ne {k : Nat} (hr : Room k X.A) (ha : XE X a ga) (hb : XE X b gb) : XCm X .NotEq a b (xOp2 gNe ga gb) := xc_of (op_neD hr.units) vw_ne ha hb
theorem xc_lt {k : Nat} (hr : Room k X.A) (ha : XE X a ga) (hb : XE X b gb) : XCm X .Lt a b (xOp2 gLt ga gb) := xc_of (op_ltD hr.units) (vw_ord fun _ _ => rfl) ha hb
theorem xc_gt {k : Nat} (hr : Room k X.A) (ha : XE X a ga) (hb : XE X b gb) : XCm X .Gt a b (xOp2 gGt ga gb) := xc_of (op_gtD hr.units) (vw_ord fun _ _ => rfl) ha hb
def xBl (f : Fm → Option (D × Fm)) (ρ : Fm) : Option (Bool × Fm) := match f ρ with
  | some (.bool b, ρ') => some (b, ρ')
  | _ => none
theorem xBl_some {f : Fm → Option (D × Fm)} {ρ ρ' : Fm} {b : Bool} (h : xBl f ρ = some (b, ρ')) : f ρ = some (.bool b, ρ') := by
  unfold xBl at h
  split at h
  · rename_i e
    cases h
    exact e
  · cases h
theorem xt_cmp {op : CmpOp} (h : XCm X op a b ge) (hm : behindInMarks op b = false := by first | exact nomark _ | rfl | (with_unfolding_all rfl)) : XB X (.Compare a [op] [b] pos) (xBl ge) :=
  let ⟨_, _, _, h1, h2, h3, h4⟩ := h
  ⟨_, pt_cmpR h1 h2 h3 hm, fun F H σ ρ b ρ' hf hR Q k => h4 F H σ ρ _ ρ' (xBl_some hf) hR _ fun v F' H' g r => ⟨b, r.blI, k F' H' g⟩⟩
theorem xd_cmp {op : CmpOp} (h : XCm X op a b ge) (hm : behindInMarks op b = false := by first | exact nomark _ | rfl | (with_unfolding_all rfl)) : XE X (.Compare a [op] [b] pos) ge :=
  let ⟨_, _, _, h1, h2, h3, h4⟩ := h
  ⟨_, pe_cmpR h1 h2 h3 hm, h4⟩
theorem xt_val (h : XE X e ge) (he : ∀ whole, isTrue e X.env whole = (do let v ← whole; standAt e.pos; holding [v] (truthy v)) := by intro _; rfl) : XB X e (xBl ge) :=
  let ⟨_, h1, h2⟩ := h
  ⟨_, pt_val h1 he, fun F H σ ρ b ρ' hf hR Q k => h2 F H σ ρ _ ρ' (xBl_some hf) hR _ fun v F' H' g r => ⟨b, r.blI, k F' H' g⟩⟩
def xNot (f : Fm → Option (Bool × Fm)) (ρ : Fm) : Option (Bool × Fm) := (f ρ).map fun x => (!x.1, x.2)
def xAnd (f g : Fm → Option (Bool × Fm)) (ρ : Fm) : Option (Bool × Fm) := (f ρ).bind fun x => if x.1 = true then g x.2 else some (false, x.2)
def xOr (f g : Fm → Option (Bool × Fm)) (ρ : Fm) : Option (Bool × Fm) := (f ρ).bind fun x => if x.1 = true then some (true, x.2) else g x.2
theorem sx_and {K : PySem.W.Frag} {t u : TT} (h : SXB K t gt) (h' : SXB K u gu) : SXB K (tAnd t u) (xAnd gt gu) := by
  intro F H σ ρ b ρ' hf hR Q k
  obtain ⟨⟨b1, ρ1⟩, h1, h2⟩ := Option.bind_eq_some_iff.mp hf
  refine h F H σ ρ _ ρ1 h1 hR _ fun F' H' g => ?_
  split at h2
  · rename_i e
    rw [if_pos e]
    exact h' F' H' σ ρ1 b ρ' h2 g.rel _ fun F2 H2 g2 => k F2 H2 (g.trans g2)
  · rename_i e
    rw [if_neg e]
    cases h2
    exact k F' H' g
theorem sx_or {K : PySem.W.Frag} {t u : TT} (h : SXB K t gt) (h' : SXB K u gu) : SXB K (tOr t u) (xOr gt gu) := by
  intro F H σ ρ b ρ' hf hR Q k
  obtain ⟨⟨b1, ρ1⟩, h1, h2⟩ := Option.bind_eq_some_iff.mp hf
  refine h F H σ ρ _ ρ1 h1 hR _ fun F' H' g => ?_
  split at h2
  · rename_i e
    rw [if_pos e]
    cases h2
    exact k F' H' g
  · rename_i e
    rw [if_neg e]
    exact h' F' H' σ ρ1 b ρ' h2 g.rel _ fun F2 H2 g2 => k F2 H2 (g.trans g2)
theorem xt_not (h : XB X a gt) : XB X (.UnaryOp .Not a pos) (xNot gt) := let ⟨_, h1, h2⟩ := h; ⟨_, pt_not h1, fun F H σ ρ b ρ' hf hR Q k => by
  obtain ⟨⟨b1, ρ1⟩, e1, e2⟩ := Option.map_eq_some_iff.mp hf
  cases e2
  exact h2 F H σ ρ _ ρ1 e1 hR _ fun F' H' g => k F' H' g⟩
def XWb (X : Cx) (e : Expr) (f : Fm → Option (Bool × Fm)) : Prop := ∃ t, PW X e t ∧ SXB X.K t f
theorem xw_and1 (h : XB X a gt) : XWb X (.BoolOp .And [a] pos) gt := let ⟨_, h1, h2⟩ := h; ⟨_, pw_and1 h1, h2⟩
theorem xw_or1 (h : XB X a gt) : XWb X (.BoolOp .Or [a] pos) gt := let ⟨_, h1, h2⟩ := h; ⟨_, pw_or1 h1, h2⟩
theorem xw_and {rest : List Expr} (h : XB X a gt) (h' : XWb X (.BoolOp .And (b :: rest) pos) gu) : XWb X (.BoolOp .And (a :: b :: rest) pos) (xAnd gt gu) := let ⟨_, h1, h2⟩ := h; let ⟨_, h3, h4⟩ := h'; ⟨_, pw_and h1 h3, sx_and h2 h4⟩
theorem xw_or {rest : List Expr} (h : XB X a gt) (h' : XWb X (.BoolOp .Or (b :: rest) pos) gu) : XWb X (.BoolOp .Or (a :: b :: rest) pos) (xOr gt gu) := let ⟨_, h1, h2⟩ := h; let ⟨_, h3, h4⟩ := h'; ⟨_, pw_or h1 h3, sx_or h2 h4⟩
theorem XWb.xb (h : XWb X a gt) : XB X a gt := let ⟨_, h1, h2⟩ := h; ⟨_, h1.pt, h2⟩
def xIf (c : Fm → Option (Bool × Fm)) (f g : Fm → Option (D × Fm)) (ρ : Fm) : Option (D × Fm) := (c ρ).bind fun x => if x.1 = true then f x.2 else g x.2
theorem x_if (hc : XB X c gt) (ha : XE X a ga) (hb : XE X b gb) : XE X (.IfExp c a b pos) (xIf gt ga gb) := by
  obtain ⟨_, h1, h2⟩ := hc
  obtain ⟨_, h3, h4⟩ := ha
  obtain ⟨_, h5, h6⟩ := hb
  refine ⟨_, pe_ifExp h1 h3 h5, fun F H σ ρ d ρ' hf hR Q k => ?_⟩
  obtain ⟨⟨b1, ρ1⟩, e1, e2⟩ := Option.bind_eq_some_iff.mp hf
  refine h2 F H σ ρ _ ρ1 e1 hR _ fun F' H' g => ?_
  split at e2
  · rename_i e
    rw [if_pos e]
    exact h4 F' H' σ ρ1 d ρ' e2 g.rel _ fun v F2 H2 g2 r => k v F2 H2 (g.trans g2) r
  · rename_i e
    rw [if_neg e]
    exact h6 F' H' σ ρ1 d ρ' e2 g.rel _ fun v F2 H2 g2 r => k v F2 H2 (g.trans g2) r
def xCons (f : Fm → Option (D × Fm)) (g : Fm → Option (List D × Fm)) (ρ : Fm) : Option (List D × Fm) := (f ρ).bind fun x => (g x.2).map fun y => (x.1 :: y.1, y.2)
theorem xa_nil : XA X [] (up fNil) := PAs.xa as_nil
theorem xa_cons (h : XE X e ge) (hr : XA X es gs) (hs : starEach (e :: es) X.env = (false, eval e X.env) :: starEach es X.env := by rfl) : XA X (e :: es) (xCons ge gs) := by
  obtain ⟨_, h1, h2⟩ := h
  obtain ⟨_, h3, h4, h5⟩ := hr
  refine ⟨_, pa_cons h1 h3 hs, fun F H σ ρ ds ρ' hf hR Q k => ?_, fun ρ ds ρ' h => ?_⟩
  · obtain ⟨⟨d, ρ1⟩, e1, e2⟩ := Option.bind_eq_some_iff.mp hf
    obtain ⟨⟨r, ρ2⟩, e3, e4⟩ := Option.map_eq_some_iff.mp e2
    cases e4
    refine h2 F H σ ρ _ ρ1 e1 hR _ fun v F1 H1 g1 r1 => ?_
    refine h4 F1 H1 σ ρ1 _ ρ2 e3 g1.rel _ fun vs F2 H2 g2 r2 => ?_
    exact k _ F2 H2 (g1.trans g2) (.cons (r1.mono g2.go.ex) r2)
  · obtain ⟨⟨d, ρ1⟩, e1, e2⟩ := Option.bind_eq_some_iff.mp h
    obtain ⟨⟨r, ρ2⟩, e3, e4⟩ := Option.map_eq_some_iff.mp e2
    cases e4
    rw [List.length_cons, List.length_cons, h5 _ _ _ e3]
def xTup (f : Fm → Option (List D × Fm)) (ρ : Fm) : Option (D × Fm) := (f ρ).bind fun x => if x.1.length ≤ bigN then some (.tuple x.1, x.2) else none
def xLst (f : Fm → Option (List D × Fm)) (ρ : Fm) : Option (D × Fm) := (f ρ).bind fun x => if x.1.length ≤ bigN then some (.list x.1, x.2) else none
theorem x_tup {x1} (h : XA X es gs) : XE X (.Tuple es x1 pos) (xTup gs) := by
  obtain ⟨t, h1, h2, _⟩ := h
  refine ⟨_, pe_tup h1, fun F H σ ρ d ρ' hf hR Q k => ?_⟩
  obtain ⟨⟨ds, ρ1⟩, e1, e2⟩ := Option.bind_eq_some_iff.mp hf
  split at e2
  · rename_i hz
    cases e2
    refine h2 F H σ ρ _ ρ1 e1 hR _ fun vs F1 H1 g1 r1 => ⟨?_, fun p hp => ?_⟩
    · rw [r1.length]
      exact Nat.le_trans hz big_le
    · have g2 := Gr.new (o := .tup vs) g1.rel.ex hp
      exact k _ _ _ (g1.trans (.gr g1.rel g2)) (.tup (.inl (.inl upd_same)) (r1.mono g2.ex))
  · cases e2
theorem x_lst (h : XA X es gs) : XE X (.List es pos) (xLst gs) := by
  obtain ⟨t, h1, h2, _⟩ := h
  refine ⟨_, pe_lst h1, fun F H σ ρ d ρ' hf hR Q k => ?_⟩
  obtain ⟨⟨ds, ρ1⟩, e1, e2⟩ := Option.bind_eq_some_iff.mp hf
  split at e2
  · rename_i hz
    cases e2
    refine h2 F H σ ρ _ ρ1 e1 hR _ fun vs F1 H1 g1 r1 => ⟨?_, fun p hp => ?_⟩
    · rw [r1.length]
      exact Nat.le_trans hz big_le
    · have g2 := Gr.new (o := .lst vs) g1.rel.ex hp
      exact k _ _ _ (g1.trans (.gr g1.rel g2)) (.lst (.inl (.inl upd_same)) (r1.mono g2.ex))
  · cases e2
theorem x_ix (ha : XE X a ga) (hb : XE X b gb) (hs : PlainIx b := by exact fun _ _ => rfl) : XE X (.Subscript a b pos) (xOp2 gIx ga gb) := let ⟨_, h1, h2⟩ := ha; let ⟨_, h3, h4⟩ := hb; ⟨_, pe_ix ix_seq h1 h3 hs, sx_op2 vw_ix h2 h4⟩
theorem x_t1 {x : Str} {T : String} {r : List V → Hp → VK → Prop} {g : D → Option D} (hc : CallR X (.type T) r) (hv : bootBuiltins x = some (.type T)) (hr : ∀ F H x dx dz, Ex F H → Vw X.K F H x dx → g dx = some dz → ∀ Q : VK, Res X.K F H dz Q → r [x] H Q)
    (hg : Gl X x) (hm : X.mg x = none) (ha : XE X e ge) (hn : x ≠ "__name__") (hdb : (x == ("__debug__" : Str)) = false)
    (hs : starEach [e] X.env = (false, eval e X.env) :: starEach [] X.env) : XE X (.Call (.Name x p) [e] [] pos) (xOp1 g ge) := by
  obtain ⟨_, h1, h2⟩ := ha
  refine ⟨_, pe_callTy hc hg hm hv (pa_cons h1 pa_nil hs) hn hdb hs rfl, fun F H σ ρ d ρ' hf hR Q k => ?_⟩
  obtain ⟨⟨dx, ρ1⟩, e1, e2⟩ := Option.bind_eq_some_iff.mp hf
  obtain ⟨dz, e3, e4⟩ := Option.map_eq_some_iff.mp e2
  cases e4
  exact h2 F H σ ρ _ ρ1 e1 hR _ fun v F1 H1 g1 r1 => hr F1 H1 v dx d g1.rel.ex (.inl r1) e3 Q fun w F2 H2 g2 r2 => k w F2 H2 (g1.trans (.gr g1.rel g2)) r2
theorem x_tuple (B : Bt X.mg) (ha : XE X e ge) (hg : Gl X "tuple" := by rfl) (hs : starEach [e] X.env = (false, eval e X.env) :: starEach [] X.env := by rfl) : XE X (.Call (.Name "tuple" p) [e] [] pos) (xOp1 gTuple ge) :=
  x_t1 call_tuple_of PyProof.Rows.boot_tuple vw_tuple hg B.tuple ha (by decide) (by decide) hs
/-! ### calls with effects -/
def xCall (g : List D → Option D) (fs : Fm → Option (List D × Fm)) (ρ : Fm) : Option (D × Fm) := (fs ρ).bind fun x => (g x.1).map fun d => (d, x.2)
theorem x_call {k n : Nat} {x : Str} {f : Addr} {fd : FuncData} {ps : List Str} {g : List D → Option D} (G : FnOk X.prog X.w X.K X.mg X.base CX0 k f fd ps (spP X.K g n)) (hr : Room k X.A) (hm : X.mg x = some (.ref f)) (hk : PySem.W.keepIn X.K (.ref f) = true) (hb : Binds X.K fd ps [])
    (ha : XA X (e :: es) gs) (hn : n = (e :: es).length := by rfl) (hg : Gl X x := by rfl) (hdb : (x == ("__debug__" : Str)) = false := by decide) (he : starEach (e :: es) X.env = (false, eval e X.env) :: starEach es X.env := by rfl) (hpl : (backTo pos (starEach es X.env)).any (·.1) = false := by rfl) :
    XE X (.Call (.Name x p) (e :: es) [] pos) (xCall g gs) := by
  obtain ⟨t, h1, h2, h3⟩ := ha
  refine ⟨_, pe_call G hr hg hm hk hb .nil pass0 h1 hdb he hpl, fun F H σ ρ d ρ' hf hR Q q => ?_⟩
  obtain ⟨⟨ds, ρ1⟩, e1, e2⟩ := Option.bind_eq_some_iff.mp hf
  obtain ⟨dz, e3, e4⟩ := Option.map_eq_some_iff.mp e2
  cases e4
  refine h2 F H σ ρ _ ρ1 e1 hR _ fun vs F1 H1 g1 r1 => ?_
  rw [List.append_nil]
  exact ⟨by rw [r1.length, hn]; exact h3 _ _ _ e1, F1, ds, d, g1.rel.ex, r1, e3, fun v F2 H2 g2 r2 => q v F2 H2 (g1.trans (.gr g1.rel g2)) r2⟩
def ownOf : B → Option (List D)
  | .ow ls => some ls
  | .io ls => some ls
  | _ => none
/-- f(row, ..): the row in slot i is handed down -/
def xCallI (i : Nat) (g : List D → List D → Option (D × List D)) (fs : Fm → Option (List D × Fm)) (ρ : Fm) : Option (D × Fm) := (ρ[i]?).bind fun b0 => (ownOf b0).bind fun _ => (fs ρ).bind fun x => (x.2[i]?).bind fun b => (ownOf b).bind fun ls => (g ls x.1).map fun y => (y.1, x.2.set i (b.put y.2))
theorem own_ofB {b : B} {ls : List D} (h : ownOf b = some ls) : b.own = true := by cases b <;> first | rfl | cases h
theorem at_own {K : PySem.W.Frag} {F H : Hp} {σ : L2.St} {ρ : Fm} (hR : Rel K F H σ ρ) {i : Nat} {b : B} {ls : List D} (e : ρ[i]? = some b) (h : ownOf b = some ls) : OwnL K F H σ[i]? ls := by
  have := hR.at_ i b e
  cases b <;> cases h <;> exact this
theorem x_callI {k n i : Nat} {x y : Str} {q : Pos} {f : Addr} {fd : FuncData} {ps : List Str} {g : List D → List D → Option (D × List D)} (G : FnOk X.prog X.w X.K X.mg X.base CX0 k f fd ps (spI X.K g n)) (hr : Room k X.A) (hm : X.mg x = some (.ref f)) (hk : PySem.W.keepIn X.K (.ref f) = true) (hb : Binds X.K fd ps [])
    (hv : PE X (.Name y q) (tVar i)) (ha : XA X es gs) (hn : n = es.length := by rfl) (hg : Gl X x := by rfl) (hdb : (x == ("__debug__" : Str)) = false := by decide) (he : starEach (.Name y q :: es) X.env = (false, eval (.Name y q) X.env) :: starEach es X.env := by rfl) (hpl : (backTo pos (starEach es X.env)).any (·.1) = false := by rfl) :
    XE X (.Call (.Name x p) (.Name y q :: es) [] pos) (xCallI i g gs) := by
  obtain ⟨t, h1, h2, h3⟩ := ha
  refine ⟨_, pe_call G hr hg hm hk hb .nil pass0 (pa_cons hv h1 he) hdb he hpl, fun F H σ ρ d ρ' hf hR Q q => ?_⟩
  obtain ⟨b0, e01, hf⟩ := Option.bind_eq_some_iff.mp hf
  obtain ⟨ls0, e02, hf⟩ := Option.bind_eq_some_iff.mp hf
  obtain ⟨⟨ds, ρ1⟩, e1, e2⟩ := Option.bind_eq_some_iff.mp hf
  obtain ⟨b, e3, e4⟩ := Option.bind_eq_some_iff.mp e2
  obtain ⟨ls, e5, e6⟩ := Option.bind_eq_some_iff.mp e4
  obtain ⟨⟨dz, ls'⟩, e7, e8⟩ := Option.map_eq_some_iff.mp e6
  cases e8
  obtain ⟨a0, vs0, s0, _, _, _⟩ := at_own hR e01 e02
  refine ⟨.ref a0, s0, ?_⟩
  refine h2 F H σ ρ _ ρ1 e1 hR _ fun us F1 H1 g1 r1 => ?_
  show spI X.K g n (V.ref a0 :: us ++ []) H1 Q E0
  rw [List.append_nil]
  obtain ⟨a, vs, s1, ha1, hf1, rl⟩ := at_own g1.rel e3 e5
  rw [s0] at s1
  cases s1
  refine ⟨by rw [List.length_cons, r1.length, hn, h3 _ _ _ e1], F1, a0, vs, ls, us, ds, dz, ls', rfl, g1.rel.ex, ha1, hf1, rl, r1, e7, fun v F2 H2 xs' ex in_ kp hd ha2 rl2 rv => ?_⟩
  exact q v F2 H2 (g1.trans (goE_put g1.rel e3 (own_ofB e5) s0 ex in_ kp hd ha2 rl2)) rv
end
end DL
end
section
set_option Elab.async false
set_option linter.all false
set_option maxRecDepth 100000
namespace PySem
open Sem (wp)
open AutoSeq1 (wpAny_loadPart')
set_option maxHeartbeats 1000000 in
theorem meets_enumerate_newB1 {v : Value} {o : Obj} {H : Heap → Prop} (B : Begins v o H) :
    Meets (Builtin.«enumerate.__new__» ⟨[.type "enumerate", v], []⟩) (fun _ R s => H s.heap ∧
      R (.ok (.ret (.ref (s.heap.push o).objs.size))) { s with heap := (s.heap.push o).push { cls := .type "enumerate", data := .fields #[.none, .bool false, .ref s.heap.objs.size, rawInt 0, .none, .none] } }) :=
  .of_wp fun prog w A R s h => by
    obtain ⟨hp, g, d, tk, os⟩ := s; obtain ⟨h1, h⟩ := h
    have hsub := sub_enumerate
    have q1 : ∀ {A' : Around} {E : Value → Shared → Prop} {Q : Value → Shared → Prop}, Q (.ref hp.objs.size) ⟨hp.push o, g, d, tk, os⟩ → wpAny (model prog w) A' (pyIter v) Q E ⟨hp, g, d, tk, os⟩ :=
      fun q => B.iter prog w _ _ ⟨hp, g, d, tk, os⟩ _ h1 q
    wp_walk using q1
    refine wpAny_stack_any fun st => wpAny_pure ?_
    split
    · rename_i c _ _ _ _ _
      cases (c == Value.type "enumerate")
      · wp_walk using q1
        exact ⟨_, rfl, h⟩
      · wp_walk using q1
        exact ⟨_, rfl, h⟩
    · wp_walk using q1
      exact ⟨_, rfl, h⟩
section
variable {prog : Program} {w : World} {A : Around} {E : Value → Shared → Prop} {s : Shared}
theorem enum_begins1 {v : Value} {o : Obj} {H : Heap → Prop} {Q : Value → Shared → Prop} (B : Begins v o H) (h1 : H s.heap)
    (h : ∀ h', IsEnum h' (s.heap.objs.size + 1) s.heap.objs.size 0 .none → h'.get? s.heap.objs.size = some o → h'.objs.size = s.heap.objs.size + 2 →
      (∀ b o, s.heap.get? b = some o → h'.get? b = some o) → Q (.ref (s.heap.objs.size + 1)) { s with heap := h' }) :
    wpAny (model prog w) A (call (.type "enumerate") [v]) Q E s := by
  refine callType_new F.called_enumerate (by decide) (F.typeCall_enumerate_1 _) (F.newCall_enumerate_1 _) (fun obj => F.args_object_init_2 obj _) F.entry_enumerate_new
    (meets_enumerate_newB1 B) ⟨h1, ?_⟩
  have hz : (s.heap.push o).objs.size = s.heap.objs.size + 1 := Heap.size_push ..
  show _ ∧ _
  rw [hz]
  have he : IsEnum ((s.heap.push o).push { cls := .type "enumerate", data := .fields #[.none, .bool false, .ref s.heap.objs.size, rawInt 0, .none, .none] }) (s.heap.objs.size + 1) s.heap.objs.size 0 .none := by
    have := Heap.get?_push_size (s.heap.push o) (o := { cls := .type "enumerate", data := .fields #[.none, .bool false, .ref s.heap.objs.size, rawInt 0, .none, .none] }) rfl
    rw [hz] at this; exact this
  refine ⟨⟨_, he, rfl⟩, h _ he (Heap.get?_push_of_some _ (Heap.get?_push_size _ B.free)) (by rw [Heap.size_push, hz]) fun b o x => Heap.get?_push_of_some _ (Heap.get?_push_of_some _ x)⟩
theorem enumT_end {e it l : Addr} {i : Nat} {items : Array Value} {old : Value} {Q : Option Value → Shared → Prop} (hh : A.handled = none)
    (he : IsEnum s.heap e it i old) (hit : s.heap.IsTupleIter it l i) (hl : s.heap.IsTuple l items) (hx : items[i]? = none)
    (hQ : ∀ h', Heap.ExtBut it s.heap h' → Q none { s with heap := h' }) : wpAny (model prog w) A (pyNext (.ref e)) Q E s := by
  have hT : s.TypeIs (.ref e) "enumerate" := ⟨_, he, rfl⟩
  unfold pyNext
  refine wpAny_bind (wpAny_attempt (wpAny_callSpecial?_slot (name := Str.ofString "__next__") hT F.slot_enumerate_next
    (wpAny_call_entry F.slot_enumerate_next hT F.entry_enumerate_next ?_ (F.args_enumerate_next_1 _))))
  show wpAny _ _ (field (.ref e) 2 >>= _) _ _ _
  refine wpAny_bind (wpAny_field he rfl (x := .ref it) rfl ?_)
  refine wpAny_bind (wpAny_nextOf_tuple_end hh hit hl hx fun h' x he' hx' => ?_)
  obtain ⟨o, ho, hc⟩ := hx'
  refine wpAny_bind (wpAny_isInstance (T := "StopIteration") (b := true) ⟨o, ho, hc⟩ isSubtype_stop ?_)
  exact wpAny_pure (hQ _ he')
end
end PySem
namespace DL
open PySem PySem.Spec PyProof.Rows L2
/-- the tuple at a, each item in a new pair -/
def Itet (K : PySem.W.Frag) (a : Addr) : It :=
  ⟨fun i H => ∃ (xs : List V) (x : V), SqT K H a xs ∧ xs[i]? = some x, fun i H v H' => ∃ T x, v = .ref T ∧ H T = none ∧ H' = upd H T (.tup [.int (i : Nat), x]) ∧ ∀ xs, SqT K H a xs → xs[i]? = some x, fun i H => ∃ xs : List V, SqT K H a xs ∧ xs.length ≤ i⟩
theorem isTup_tuple {h : Heap} {a : Addr} {its : Array Value} (x : IsTup h a its) : h.IsTuple a its := x
theorem turn_enumT {P : Program} {w : World} {K : PySem.W.Frag} {elts : List Expr} {kk : Nat} {tpos : Pos} (a e it : Addr) :
    Turn P w K (.Tuple elts kk tpos) (Itet K a) [e, it] e (fun i h => (∃ old, IsEnum h e it ((i : Nat) : Int) old) ∧ h.IsTupleIter it a i ∧ e ≠ it ∧ a ≠ it ∧ a ≠ e) where
  mem := by simp
  obj := fun i h st b hb => by
    obtain ⟨⟨old, he⟩, ⟨o, ho, hc, hd⟩, _⟩ := st
    have e' : b = e ∨ b = it := by simpa using hb
    rcases e' with z | z
    · rw [z]; exact ⟨_, he, fun v q => nomatch q⟩
    · rw [z]; exact ⟨o, ho, fun v q => by rw [hd] at q; cases q⟩
  keep := fun i h h' st k => let ⟨⟨old, he⟩, hi, hne⟩ := st; ⟨⟨old, k e (by simp) _ he⟩, hi.at fun o q => k it (by simp) o q, hne⟩
  item := by
    intro X hP hw hK hc i pins s σ H E I hf st hg
    subst hP hw hK
    obtain ⟨⟨old, he⟩, hit, hne, hai, hae⟩ := st
    obtain ⟨xs, x, hq, hx⟩ := hg
    obtain ⟨its, rv, p, hz⟩ := I.tuple hq
    obtain ⟨u, hu, ru⟩ := rv.get hx
    have hel : e < s.heap.objs.size := Heap.lt_size he
    have hil : it < s.heap.objs.size := by obtain ⟨_, q, _⟩ := hit; exact Heap.lt_size q
    have hh : X.A.in1.handled = none := I.ok.hd hc
    have hlt : i < its.toArray.size := by
      have := (List.getElem?_eq_some_iff.mp hu).1
      simpa using this
    refine wpAny_pyNext_enum_itemD (Draws.tuple hh it a hai its.toArray) he ⟨hit, isTup_tuple p⟩ hlt hne ?_ fun x' h' tk hP ho hit' hT hsz hk => ?_
    · intro z
      have e' : e = it ∨ e = a := by simpa using z
      rcases e' with z | z
      · exact hne z
      · exact hae z.symm
    have hxu : x' = u := by
      have e1 : its.toArray[i]? = some u := by simpa using hu
      have e2 : its.toArray[i]? = some x' := hP
      rw [e1] at e2
      exact (Option.some.inj e2).symm
    subst hxu
    refine ⟨_, rfl, wpAny_letOwnedTupleGo_enum (s := { s with heap := h', toks := tk + 1 }) ho fun h'' he' sb => ?_⟩
    have hT2 : h''.get? s.heap.objs.size = some { cls := .type "tuple", data := .seq #[.int i tk, x'] } := (sb.2 _ (Nat.ne_of_gt hel)).trans hT
    have new : ObjOk X.prog X.w (upd H s.heap.objs.size (.tup [.int (i : Nat), x])) h'' s.heap.objs.size (.tup [.int (i : Nat), x]) :=
      ⟨by show 2 ≤ sizeLine; decide, [.int i tk, x'], .cons ⟨_, rfl⟩ (.cons ru .nil), ⟨_, hT2, rfl, _, rfl⟩⟩
    have I1 : Inv X pins σ (upd H s.heap.objs.size (.tup [.int (i : Nat), x])) { s with heap := h'', toks := tk + 1 } :=
      I.turnedNew (ch := [e, it]) (fun b ob hb q => (sb.2 b (fun z => hb (by simp [z]))).trans (hk b ob (fun z => hb (by simp [z])) (fun z => hb (by simp [z])) q)) hf (Nat.le_refl _) new
    refine ⟨.ref s.heap.objs.size, _, I1, rfl, ⟨_, x, rfl, I.hok.fresh (Nat.le_refl _), rfl, fun ys hy => by rw [I.tuple_inj hy hq]; exact hx⟩, ⟨⟨x', ?_⟩, hit'.1.at fun o q => (sb.2 it (Ne.symm hne)).trans q, hne, hai, hae⟩, fun b hb => ?_⟩
    · have e1 : ((i + 1 : Nat) : Int) = (i : Int) + 1 := by omega
      rw [e1]; exact he'
    · have hb' : b < s.heap.objs.size := by
        have e' : b = e ∨ b = it := by simpa using hb
        rcases e' with z | z
        · rw [z]; exact hel
        · rw [z]; exact hil
      rw [upd_ne (Nat.ne_of_lt hb')]
      exact (hf b hb).1
  done := by
    intro X hP hw hK hc i pins s σ H E I hf st hg
    subst hP hw hK
    obtain ⟨⟨old, he⟩, hit, hne, hai, hae⟩ := st
    obtain ⟨xs, hq, hx⟩ := hg
    obtain ⟨its, rv, p, hz⟩ := I.tuple hq
    obtain ⟨f0, f1, f2, f3, f4, f5⟩ := hf it (by simp)
    have hl := rv.length
    exact enumT_end (I.ok.hd hc) he hit (isTup_tuple p) (by simp; omega) fun h' eb => ⟨rfl, I.turned (t' := s.toks) (fun b o hb q => eb b o hb q) f0 f1 f3 f4 f5⟩
  self := fun A i s Q E st h => let ⟨⟨_, he⟩, _⟩ := st; wpAny_pyIter_enum he h
def iEnumT (K : PySem.W.Frag) (ta : TA) : TI := fun σ H R => ta σ H fun vs H1 => ∃ a xs, vs = [.ref a] ∧ SqT K H1 a xs ∧ R (Itet K a) H1
theorem pi_enumT {X : Cx} {e : Expr} {ta : TA} {p pos tpos : Pos} {elts : List Expr} {kk : Nat} (hg : Gl X "enumerate") (hm : X.mg "enumerate" = none) (ha : PA X [e] ta) (hs : starEach [e] X.env = [(false, eval e X.env)] := by rfl) :
    PI X (.Tuple elts kk tpos) (.Call (.Name "enumerate" p) [e] [] pos) (fun σ H R => iEnum X.K ta σ H R ∨ iEnumT X.K ta σ H R) := by
  refine ⟨fun pins s σ H R I h => ?_⟩
  rcases h with h | h
  · exact (pi_enum hg hm ha hs).run pins s σ H R I h
  refine Call_ (ld_blt I hg hm boot_enumerate (PyProof.Rows.callWith_type1 (thn (ha.run pos pins s σ H _ I h) fun us s1 ⟨vs, H1, I1, r1, q1⟩ => ?_) hs rfl))
  obtain ⟨a, xs, ex, hq, q⟩ := q1
  subst ex
  cases r1 with
  | cons r rr =>
    cases rr
    cases r
    obtain ⟨its, rv, p', hz⟩ := I1.tuple hq
    have hla : a < s1.heap.objs.size := by
      obtain ⟨o, ho, _⟩ := isTup_tuple p'
      exact Heap.lt_size ho
    refine enum_begins1 (begins_tuple a its.toArray) (isTup_tuple p') fun h' he hit hsz hk => wpAny_pyIter_enum he ?_
    have I2 : Inv X pins σ H1 { s1 with heap := h' } := I1.kept (t' := s1.toks) hk
    refine ⟨s1.heap.objs.size + 1, [s1.heap.objs.size + 1, s1.heap.objs.size], _, _, H1, rfl, I2, turn_enumT a (s1.heap.objs.size + 1) s1.heap.objs.size, ⟨⟨.none, he⟩, ⟨_, hit, rfl, rfl⟩, Nat.succ_ne_self _, Nat.ne_of_lt hla, Nat.ne_of_lt (Nat.lt_succ_of_lt hla)⟩, fun b hb => ?_, q⟩
    have e' : b = s1.heap.objs.size + 1 ∨ b = s1.heap.objs.size := by simpa using hb
    have hle : s1.heap.objs.size ≤ b := by
      rcases e' with z | z
      · rw [z]; exact Nat.le_add_right _ _
      · rw [z]; exact Nat.le_refl _
    exact I1.fpOk hle (I1.hok.fresh hle)
end DL
end
section
set_option Elab.async false
set_option linter.all false
set_option maxRecDepth 100000
/-! Statements, loops, comprehensions, defs. -/
namespace DL
open PySem PySem.Spec PyProof.Rows L2
/-! ### stores -/
section
variable {K : PySem.W.Frag} {F H F' H' : Hp} {σ σ' : L2.St} {ρ ρ' : Fm}
/-- slot i gets a value that is seen -/
theorem go_set {i : Nat} {v : V} {d : D} (h : Rel K F H σ ρ) (r : Rp K F v d) : Go K F H σ ρ F H (σ.set i (some v)) (ρ.set i (.sh d)) := by
  have get : ∀ j c, (ρ.set i (.sh d))[j]? = some c → (j = i ∧ c = .sh d ∧ i < ρ.length) ∨ (j ≠ i ∧ ρ[j]? = some c) := by
    intro j c e
    by_cases hj : j = i
    · subst hj
      have hl : j < ρ.length := by
        have := (List.getElem?_eq_some_iff.mp e).1
        rwa [List.length_set] at this
      rw [List.getElem?_set_self hl] at e
      exact .inl ⟨rfl, (Option.some.inj e).symm, hl⟩
    · rw [List.getElem?_set_ne (fun z => hj z.symm)] at e
      exact .inr ⟨hj, e⟩
  have gs : ∀ j, j ≠ i → (σ.set i (some v))[j]? = σ[j]? := fun j hj => List.getElem?_set_ne (fun z => hj z.symm)
  refine ⟨⟨h.ex, by rw [List.length_set, List.length_set]; exact h.len, fun j c e => ?_, fun j k b c x e1 o1 e2 o2 s1 s2 => ?_⟩, .refl _, fun c o e _ => e, fun c e => e, fun c e f _ => f, fun x o => ?_, fun j ds e => ?_⟩
  · rcases get j c e with ⟨rfl, rfl, hl⟩ | ⟨hj, e'⟩
    · exact ⟨v, by rw [List.getElem?_set_self (by rw [h.len]; exact hl)], r⟩
    · rw [gs j hj]
      exact h.at_ j c e'
  · rcases get j b e1 with ⟨rfl, rfl, _⟩ | ⟨hj, e1'⟩
    · cases o1
    · rcases get k c e2 with ⟨rfl, rfl, _⟩ | ⟨hk, e2'⟩
      · cases o2
      · rw [gs j hj] at s1
        rw [gs k hk] at s2
        exact h.sep j k b c x e1' o1 e2' o2 s1 s2
  · obtain ⟨j, b, e, ob, s⟩ := o
    rcases get j b e with ⟨rfl, rfl, _⟩ | ⟨hj, e'⟩
    · cases ob
    · rw [gs j hj] at s
      exact .inl ⟨j, b, e', ob, s⟩
  · rcases get j _ e with ⟨rfl, z, _⟩ | ⟨hj, e'⟩
    · cases z
    · exact ⟨⟨ds, e'⟩, gs j hj⟩
/-- slot i gets an object of its own, at p -/
theorem go_setB {i : Nat} {p : Addr} {b' : B} (h : Rel K F H σ ρ) (hp0 : ¬ ownA σ ρ p) (r : BRel K F H (some (some (.ref p))) b') :
    Rel K F H (σ.set i (some (.ref p))) (ρ.set i b') ∧ ∀ x, ownA (σ.set i (some (.ref p))) (ρ.set i b') x → ownA σ ρ x ∨ x = p := by
  have get : ∀ j c, (ρ.set i b')[j]? = some c → (j = i ∧ c = b' ∧ i < ρ.length) ∨ (j ≠ i ∧ ρ[j]? = some c) := by
    intro j c e
    by_cases hj : j = i
    · subst hj
      have hl : j < ρ.length := by
        have := (List.getElem?_eq_some_iff.mp e).1
        rwa [List.length_set] at this
      rw [List.getElem?_set_self hl] at e
      exact .inl ⟨rfl, (Option.some.inj e).symm, hl⟩
    · rw [List.getElem?_set_ne (fun z => hj z.symm)] at e
      exact .inr ⟨hj, e⟩
  have gs : ∀ j, j ≠ i → (σ.set i (some (.ref p)))[j]? = σ[j]? := fun j hj => List.getElem?_set_ne (fun z => hj z.symm)
  have gi : i < ρ.length → (σ.set i (some (V.ref p)))[i]? = some (some (.ref p)) := fun hl => List.getElem?_set_self (by rw [h.len]; exact hl)
  refine ⟨⟨h.ex, by rw [List.length_set, List.length_set]; exact h.len, fun j c e => ?_, fun j k b c x e1 o1 e2 o2 s1 s2 => ?_⟩, fun x o => ?_⟩
  · rcases get j c e with ⟨rfl, rfl, hl⟩ | ⟨hj, e'⟩
    · rw [gi hl]; exact r
    · rw [gs j hj]
      exact h.at_ j c e'
  · rcases get j b e1 with ⟨rfl, rfl, hl⟩ | ⟨hj, e1'⟩
    · rcases get k c e2 with ⟨rfl, _, _⟩ | ⟨hk, e2'⟩
      · rfl
      · rw [gi hl] at s1
        cases s1
        rw [gs k hk] at s2
        exact absurd ⟨k, c, e2', o2, s2⟩ hp0
    · rcases get k c e2 with ⟨rfl, rfl, hl⟩ | ⟨hk, e2'⟩
      · rw [gi hl] at s2
        cases s2
        rw [gs j hj] at s1
        exact absurd ⟨j, b, e1', o1, s1⟩ hp0
      · rw [gs j hj] at s1
        rw [gs k hk] at s2
        exact h.sep j k b c x e1' o1 e2' o2 s1 s2
  · obtain ⟨j, b, e, ob, s⟩ := o
    rcases get j b e with ⟨rfl, rfl, hl⟩ | ⟨hj, e'⟩
    · rw [gi hl] at s
      cases s
      exact .inr rfl
    · rw [gs j hj] at s
      exact .inl ⟨j, b, e', ob, s⟩
theorem go_setO {i : Nat} {p : Addr} {xs : List V} {ds : List D} {H0 : Hp} (h : Rel K F H σ ρ) (hp0 : ¬ ownA σ ρ p) (hp : H p = some (.lst xs)) (hf : F p = none) (r : RpA K F xs ds) :
    Rel K F H (σ.set i (some (.ref p))) (ρ.set i (.ow ds)) ∧ ∀ x, ownA (σ.set i (some (.ref p))) (ρ.set i (.ow ds)) x → ownA σ ρ x ∨ x = p :=
  go_setB h hp0 ⟨p, xs, rfl, hp, hf, r⟩
/-- a new binding: what it stands for -/
def BNew (K : PySem.W.Frag) (H F' H' : Hp) (v : V) : B → Prop
  | .sh d => Rp K F' v d
  | .ow ds => ∃ (p : Addr) (xs : List V), v = .ref p ∧ H p = none ∧ H' p = some (.lst xs) ∧ F' p = none ∧ RpA K F' xs ds
  | .od t ds => ∃ p : Addr, v = .ref p ∧ H p = none ∧ F' p = none ∧ Dct K F' H' p t ds
  | _ => False
theorem BNew.old {H0 H F' H' : Hp} {v : V} {b : B} (h : BNew K H F' H' v b) (l : ∀ a, H0 a ≠ none → H a ≠ none) : BNew K H0 F' H' v b := by
  cases b with
  | no => exact h
  | io _ => exact h
  | sh d => exact h
  | ow ds =>
    obtain ⟨p, xs, e1, e2, e3⟩ := h
    exact ⟨p, xs, e1, Classical.byContradiction fun z => l p z e2, e3⟩
  | od t ds =>
    obtain ⟨p, e1, e2, e3⟩ := h
    exact ⟨p, e1, Classical.byContradiction fun z => l p z e2, e3⟩
/-- it stays behind a further step -/
theorem BNew.step {F H F1 H1 F2 H2 : Hp} {ρ1 ρ2 : Fm} {v : V} {b : B} (h : BNew K H F1 H1 v b) (hR : Rel K F H σ ρ) (g0 : GoE K F H σ ρ F1 H1 ρ1) (g : GoE K F1 H1 σ ρ1 F2 H2 ρ2) : BNew K H F2 H2 v b := by
  cases b with
  | no => exact h
  | io _ => exact h
  | sh d => exact Rp.mono g.go.ex h
  | ow ds =>
    obtain ⟨p, xs, e1, e2, e3, e4, r⟩ := h
    have hno : ¬ ownA σ ρ1 p := fun o => by
      obtain ⟨vs, z, _⟩ := own_live hR (g0.own o)
      rw [e2] at z
      cases z
    exact ⟨p, xs, e1, e2, g.go.keep p _ e3 hno, g.go.hide p (by rw [e3]; intro z; cases z) e4 hno, r.mono g.go.ex⟩
  | od t ds =>
    obtain ⟨p, e1, e2, e4, dd⟩ := h
    have hno : ¬ ownA σ ρ1 p := fun o => by
      obtain ⟨vs, z, _⟩ := own_live hR (g0.own o)
      rw [e2] at z
      cases z
    obtain ⟨u, e3, _⟩ := dd.live
    exact ⟨p, e1, e2, g.go.hide p (by rw [e3]; intro z; cases z) e4 hno, dd.move g.go.ex fun u e => g.go.keep p _ e hno⟩
/-- behind the expression: the store -/
theorem go_store {i : Nat} {v : V} {b : B} {F1 H1 : Hp} {ρ1 : Fm} (hR : Rel K F H σ ρ) (g : GoE K F H σ ρ F1 H1 ρ1) (h : BNew K H F1 H1 v b) : Go K F H σ ρ F1 H1 (σ.set i (some v)) (ρ1.set i b) := by
  cases b with
  | no => exact h.elim
  | io _ => exact h.elim
  | sh d => exact g.go.trans (go_set g.rel h)
  | ow ds =>
    obtain ⟨p, xs, rfl, e2, e3, e4, r⟩ := h
    have hno : ¬ ownA σ ρ1 p := fun o => by
      obtain ⟨vs, z, _⟩ := own_live hR (g.own o)
      rw [e2] at z
      cases z
    obtain ⟨r1, r2⟩ := go_setO (i := i) (H0 := H) g.rel hno e3 e4 r
    refine ⟨r1, g.go.ex, g.go.keep, g.go.live, g.go.hide, fun x o => ?_, fun j es e => ?_⟩
    · rcases r2 x o with o | rfl
      · exact g.go.sub x o
      · exact .inr e2
    · by_cases hj : j = i
      · subst hj
        have hl : j < ρ1.length := by
          have := (List.getElem?_eq_some_iff.mp e).1
          rwa [List.length_set] at this
        rw [List.getElem?_set_self hl] at e
        cases e
      · rw [List.getElem?_set_ne (fun z => hj z.symm)] at e
        refine ⟨(g.go.io j es e).1, ?_⟩
        rw [List.getElem?_set_ne (fun z => hj z.symm)]
  | od t ds =>
    obtain ⟨p, rfl, e2, e4, dd⟩ := h
    have hno : ¬ ownA σ ρ1 p := fun o => by
      obtain ⟨vs, z, _⟩ := own_live hR (g.own o)
      rw [e2] at z
      cases z
    obtain ⟨r1, r2⟩ := go_setB (i := i) (b' := .od t ds) g.rel hno ⟨p, rfl, e4, dd⟩
    refine ⟨r1, g.go.ex, g.go.keep, g.go.live, g.go.hide, fun x o => ?_, fun j es e => ?_⟩
    · rcases r2 x o with o | rfl
      · exact g.go.sub x o
      · exact .inr e2
    · by_cases hj : j = i
      · subst hj
        have hl : j < ρ1.length := by
          have := (List.getElem?_eq_some_iff.mp e).1
          rwa [List.length_set] at this
        rw [List.getElem?_set_self hl] at e
        cases e
      · rw [List.getElem?_set_ne (fun z => hj z.symm)] at e
        refine ⟨(g.go.io j es e).1, ?_⟩
        rw [List.getElem?_set_ne (fun z => hj z.symm)]
end
/-! ### what is stored: seen, or the frame's own -/
def SM (K : PySem.W.Frag) (t : TE) (f : Fm → Option (B × Fm)) : Prop := ∀ F H σ ρ b ρ', f ρ = some (b, ρ') → Rel K F H σ ρ → ∀ Q : VK, (∀ v F' H', GoE K F H σ ρ F' H' ρ' → BNew K H F' H' v b → Q v H') → t σ H Q
def XM (X : Cx) (e : Expr) (f : Fm → Option (B × Fm)) : Prop := ∃ t, PE X e t ∧ SM X.K t f
/-- a list of them -/
def BNews (K : PySem.W.Frag) (H F' H' : Hp) (vs : List V) (bs : List B) : Prop := Paired (BNew K H F' H') vs bs
def ApartB (vs : List V) (bs : List B) : Prop := ∀ (i j : Nat) (a : Addr) (b c : B), bs[i]? = some b → b.own = true → bs[j]? = some c → c.own = true → vs[i]? = some (.ref a) → vs[j]? = some (.ref a) → i = j
def SMA (K : PySem.W.Frag) (t : TA) (f : Fm → Option (List B × Fm)) : Prop := ∀ F H σ ρ bs ρ', f ρ = some (bs, ρ') → Rel K F H σ ρ → ∀ Q : List V → Hp → Prop, (∀ vs F' H', GoE K F H σ ρ F' H' ρ' → BNews K H F' H' vs bs → ApartB vs bs → Q vs H') → t σ H Q
def XMA (X : Cx) (es : List Expr) (f : Fm → Option (List B × Fm)) : Prop := ∃ t, PA X es t ∧ SMA X.K t f
section
variable {X : Cx} {e a b c : Expr} {es : List Expr} {pos p : Pos} {fe fa fb fc : Fm → Option D} {ft fu : Fm → Option Bool} {fs : Fm → Option (List D)} {ge ga gb : Fm → Option (D × Fm)} {gt gu : Fm → Option (Bool × Fm)} {gs : Fm → Option (List D × Fm)} {me : Fm → Option (B × Fm)} {ms : Fm → Option (List B × Fm)}
def mSh (f : Fm → Option (D × Fm)) (ρ : Fm) : Option (B × Fm) := (f ρ).map fun x => (.sh x.1, x.2)
theorem XE.xm (h : XE X e ge) : XM X e (mSh ge) := let ⟨_, h1, h2⟩ := h; ⟨_, h1, fun F H σ ρ b ρ' hf hR Q k => by
  obtain ⟨⟨d, ρ1⟩, e1, e2⟩ := Option.map_eq_some_iff.mp hf
  cases e2
  exact h2 F H σ ρ d _ e1 hR _ fun v F' H' g r => k v F' H' g r⟩
/-- [..] of the frame's own -/
def mOw (f : Fm → Option (List D × Fm)) (ρ : Fm) : Option (B × Fm) := (f ρ).bind fun x => if x.1.length ≤ bigN then some (.ow x.1, x.2) else none
theorem m_own (h : XA X es gs) : XM X (.List es pos) (mOw gs) := by
  obtain ⟨t, h1, h2, _⟩ := h
  refine ⟨_, pe_lst h1, fun F H σ ρ b ρ' hf hR Q k => ?_⟩
  obtain ⟨⟨ds, ρ1⟩, e1, e2⟩ := Option.bind_eq_some_iff.mp hf
  split at e2
  · rename_i hz
    cases e2
    refine h2 F H σ ρ _ _ e1 hR _ fun vs F1 H1 g1 r1 => ⟨by rw [r1.length]; exact Nat.le_trans hz big_le, fun p hp => ?_⟩
    have g2 := Gr.newH (o := .lst vs) g1.rel.ex hp
    have hp0 : H p = none := Classical.byContradiction fun z => g1.go.live p z hp
    exact k _ _ _ (g1.trans (.gr g1.rel g2)) ⟨p, vs, rfl, hp0, upd_same, g1.rel.ex.free hp, r1⟩
  · cases e2
def mNil (ρ : Fm) : Option (List B × Fm) := some ([], ρ)
def mCons (f : Fm → Option (B × Fm)) (g : Fm → Option (List B × Fm)) (ρ : Fm) : Option (List B × Fm) := (f ρ).bind fun x => (g x.2).map fun y => (x.1 :: y.1, y.2)
theorem ma_nil : XMA X [] mNil := ⟨_, pa_nil, fun F H σ ρ bs ρ' hf hR Q k => by
  cases hf
  exact k [] F H (.refl hR) .nil fun i j a b c e => by simp at e⟩
theorem paired_at {α β : Type} {R : α → β → Prop} : ∀ {xs : List α} {ys : List β}, Paired R xs ys → ∀ (i : Nat) (x : α) (y : β), xs[i]? = some x → ys[i]? = some y → R x y
  | _, _, .nil, _, _, _, h, _ => by simp at h
  | _, _, .cons r t, 0, x, y, h, h' => by
    simp only [List.getElem?_cons_zero, Option.some.injEq] at h h'
    subst h h'
    exact r
  | _, _, .cons r t, i + 1, x, y, h, h' => paired_at t i x y (by simpa using h) (by simpa using h')
theorem ma_cons (h : XM X e me) (hr : XMA X es ms) (hs : starEach (e :: es) X.env = (false, eval e X.env) :: starEach es X.env := by rfl) : XMA X (e :: es) (mCons me ms) := by
  obtain ⟨_, h1, h2⟩ := h
  obtain ⟨_, h3, h4⟩ := hr
  refine ⟨_, pa_cons h1 h3 hs, fun F H σ ρ bs ρ' hf hR Q k => ?_⟩
  obtain ⟨⟨b, ρ1⟩, e1, e2⟩ := Option.bind_eq_some_iff.mp hf
  obtain ⟨⟨r, ρ2⟩, e3, e4⟩ := Option.map_eq_some_iff.mp e2
  cases e4
  refine h2 F H σ ρ _ ρ1 e1 hR _ fun v F1 H1 g1 r1 => ?_
  refine h4 F1 H1 σ ρ1 _ _ e3 g1.rel _ fun vs F2 H2 g2 r2 ap => ?_
  refine k _ F2 H2 (g1.trans g2) (.cons (r1.step hR g1 g2) (Paired.mapP r2 fun x y z => z.old g1.go.live)) fun i j a c d ec oc ed od si sj => ?_
  have later : ∀ (j : Nat) (d : B), r[j]? = some d → d.own = true → vs[j]? = some (.ref a) → H1 a = none := by
    intro j d e o s
    have := paired_at r2 j _ d s e
    cases d with
    | no => cases o
    | sh _ => cases o
    | io _ => exact this.elim
    | ow ds =>
      obtain ⟨p, xs, z, e2, _⟩ := this
      cases z
      exact e2
    | od t ds =>
      obtain ⟨p, z, e2, _⟩ := this
      cases z
      exact e2
  have first : b.own = true → v = .ref a → H1 a ≠ none := by
    intro o e
    cases b with
    | no => cases o
    | sh _ => cases o
    | io _ => exact r1.elim
    | ow ds =>
      obtain ⟨p, xs, z, e2, e3, _⟩ := r1
      rw [e] at z
      cases z
      rw [e3]
      intro z
      cases z
    | od t ds =>
      obtain ⟨p, z, e2, _, dd⟩ := r1
      obtain ⟨u, e3, _⟩ := dd.live
      rw [e] at z
      cases z
      rw [e3]
      intro z
      cases z
  cases i with
  | zero =>
    cases j with
    | zero => rfl
    | succ j =>
      simp only [List.getElem?_cons_zero, Option.some.injEq, List.getElem?_cons_succ] at ec ed si sj
      subst ec
      exact absurd (later j d ed od sj) (first oc si)
  | succ i =>
    cases j with
    | zero =>
      simp only [List.getElem?_cons_zero, Option.some.injEq, List.getElem?_cons_succ] at ec ed si sj
      subst ed
      exact absurd (later i c ec oc si) (first od sj)
    | succ j =>
      simp only [List.getElem?_cons_succ] at ec ed si sj
      exact congrArg (· + 1) (ap i j a c d ec oc ed od si sj)
/-! ### statements -/
def sAsg (i : Nat) (f : Fm → Option (B × Fm)) (ρ : Fm) : Option (Fl × Fm) := (f ρ).map fun x => (.nx, x.2.set i x.1)
theorem s_set (i : Nat) {x : Str} {py : Pos} (he : XM X e me) (hN : X.N.Nodup) (hi : X.N[i]? = some x := by rfl) (hx : Loc X.env.scope x := by first | exact .inl rfl | exact .inr rfl) (hs : swapsWith e (some (.Name x py)) pos.line X.env = pure false := by rfl)
    (hf : X.fn x = true ∨ X.env.scope.names.lookup x = some .local := by first | exact .inl rfl | exact .inr rfl | assumption) : PSt X (.Assign [.Name x py] e pos) (sAsg i me) := by
  obtain ⟨t, h1, h2⟩ := he
  refine ⟨_, ps_set hN hi hx h1 hs hf, fun F H σ ρ fl ρ' hf' hR E k1 k2 k3 => ?_⟩
  obtain ⟨⟨b, ρ1⟩, e1, e2⟩ := Option.map_eq_some_iff.mp hf'
  cases e2
  exact h2 F H σ ρ b ρ1 e1 hR _ fun v F1 H1 g1 r1 => k1 rfl _ F1 H1 (go_store hR g1 r1)
end
/-! several at once -/
def putB : Fm → List Nat → List B → Option Fm
  | ρ, [], [] => some ρ
  | ρ, i :: is, b :: bs => putB (ρ.set i b) is bs
  | _, _, _ => none
def putV : L2.St → List Nat → List V → L2.St
  | σ, i :: is, v :: vs => putV (σ.set i (some v)) is vs
  | σ, _, _ => σ
section
variable {K : PySem.W.Frag} {F H F1 H1 : Hp} {σ0 σ : L2.St} {ρ0 ρ : Fm}
theorem go_store' {i : Nat} {v : V} {b : B} (g : Go K F H σ0 ρ0 F1 H1 σ ρ) (h : BNew K H F1 H1 v b) (hno : ∀ p, b.own = true → v = .ref p → ¬ ownA σ ρ p) :
    Go K F H σ0 ρ0 F1 H1 (σ.set i (some v)) (ρ.set i b) ∧ ∀ x, ownA (σ.set i (some v)) (ρ.set i b) x → ownA σ ρ x ∨ (b.own = true ∧ v = .ref x) := by
  cases b with
  | no => exact h.elim
  | io _ => exact h.elim
  | sh d =>
    refine ⟨g.trans (go_set g.rel h), fun x o => ?_⟩
    obtain ⟨j, c, e, oc, s⟩ := o
    by_cases hj : j = i
    · subst hj
      have hl : j < ρ.length := by
        have := (List.getElem?_eq_some_iff.mp e).1
        rwa [List.length_set] at this
      rw [List.getElem?_set_self hl] at e
      cases e
      cases oc
    · rw [List.getElem?_set_ne (fun z => hj z.symm)] at e s
      exact .inl ⟨j, c, e, oc, s⟩
  | ow ds =>
    obtain ⟨p, xs, rfl, e2, e3, e4, r⟩ := h
    obtain ⟨r1, r2⟩ := go_setO (i := i) (H0 := H) g.rel (hno p rfl rfl) e3 e4 r
    refine ⟨⟨r1, g.ex, g.keep, g.live, g.hide, fun x o => ?_, fun j es e => ?_⟩, fun x o => ?_⟩
    · rcases r2 x o with o | rfl
      · exact g.sub x o
      · exact .inr e2
    · by_cases hj : j = i
      · subst hj
        have hl : j < ρ.length := by
          have := (List.getElem?_eq_some_iff.mp e).1
          rwa [List.length_set] at this
        rw [List.getElem?_set_self hl] at e
        cases e
      · rw [List.getElem?_set_ne (fun z => hj z.symm)] at e
        refine ⟨(g.io j es e).1, ?_⟩
        rw [List.getElem?_set_ne (fun z => hj z.symm)]
        exact (g.io j es e).2
    · rcases r2 x o with o | rfl
      · exact .inl o
      · exact .inr ⟨rfl, rfl⟩
  | od t ds =>
    obtain ⟨p, rfl, e2, e4, dd⟩ := h
    obtain ⟨r1, r2⟩ := go_setB (i := i) (b' := .od t ds) g.rel (hno p rfl rfl) ⟨p, rfl, e4, dd⟩
    refine ⟨⟨r1, g.ex, g.keep, g.live, g.hide, fun x o => ?_, fun j es e => ?_⟩, fun x o => ?_⟩
    · rcases r2 x o with o | rfl
      · exact g.sub x o
      · exact .inr e2
    · by_cases hj : j = i
      · subst hj
        have hl : j < ρ.length := by
          have := (List.getElem?_eq_some_iff.mp e).1
          rwa [List.length_set] at this
        rw [List.getElem?_set_self hl] at e
        cases e
      · rw [List.getElem?_set_ne (fun z => hj z.symm)] at e
        refine ⟨(g.io j es e).1, ?_⟩
        rw [List.getElem?_set_ne (fun z => hj z.symm)]
        exact (g.io j es e).2
    · rcases r2 x o with o | rfl
      · exact .inl o
      · exact .inr ⟨rfl, rfl⟩
theorem go_all : ∀ {is : List Nat} {vs : List V} {bs : List B} {σ : L2.St} {ρ ρ' : Fm}, Go K F H σ0 ρ0 F1 H1 σ ρ → Paired (BNew K H F1 H1) vs bs → ApartB vs bs → (∀ (k : Nat) (p : Addr) (b : B), bs[k]? = some b → b.own = true → vs[k]? = some (.ref p) → ¬ ownA σ ρ p) →
    putB ρ is bs = some ρ' → Go K F H σ0 ρ0 F1 H1 (putV σ is vs) ρ'
  | [], _, [], σ, ρ, ρ', g, .nil, _, _, e => by
    cases e
    exact g
  | i :: is, v :: vs, b :: bs, σ, ρ, ρ', g, .cons r t, ap, hno, e => by
    obtain ⟨g1, o1⟩ := go_store' (i := i) g r fun p ob ev => hno 0 p b rfl ob (by rw [ev]; rfl)
    refine go_all (is := is) (vs := vs) (bs := bs) (σ := σ.set i (some v)) (ρ := ρ.set i b) g1 t (fun j k a c d ec oc ed od sj sk => ?_) (fun k p c ec oc sk o => ?_) e
    · have := ap (j + 1) (k + 1) a c d (by simpa using ec) oc (by simpa using ed) od (by simpa using sj) (by simpa using sk)
      omega
    · rcases o1 p o with o | ⟨ob, ev⟩
      · exact hno (k + 1) p c (by simpa using ec) oc (by simpa using sk) o
      · have := ap 0 (k + 1) p b c rfl ob (by simpa using ec) oc (by rw [ev]; rfl) (by simpa using sk)
        omega
  | [], _, _ :: _, _, _, _, _, _, _, _, e => by cases e
  | _ :: _, _, [], _, _, _, _, _, _, _, e => by cases e
theorem newS_apart {ds : List D} {vs : List V} : ApartB vs (ds.map .sh) := fun i j a b c e o => by
  rw [List.getElem?_map] at e
  cases q : ds[i]? with
  | none => rw [q] at e; cases e
  | some d =>
    rw [q] at e
    cases e
    cases o
theorem newS {ds : List D} {vs : List V} (r : RpA K F1 vs ds) : Paired (BNew K H F1 H1) vs (ds.map .sh) := by
  induction vs generalizing ds with
  | nil => cases r; exact .nil
  | cons v vs ih =>
    cases r with
    | cons a t => exact .cons a (ih t)
theorem newS_no {ds : List D} {vs : List V} : ∀ (k : Nat) (p : Addr) (b : B), (ds.map B.sh)[k]? = some b → b.own = true → vs[k]? = some (.ref p) → ¬ ownA σ ρ p := fun i p b e o => by
  rw [List.getElem?_map] at e
  cases q : ds[i]? with
  | none => rw [q] at e; cases e
  | some d =>
    rw [q] at e
    cases e
    cases o
theorem new_no {F' H' : Hp} {ρ1 : Fm} {vs : List V} {bs : List B} (hR : Rel K F H σ ρ) (g : GoE K F H σ ρ F' H' ρ1) (r : Paired (BNew K H F' H') vs bs) : ∀ (k : Nat) (p : Addr) (b : B), bs[k]? = some b → b.own = true → vs[k]? = some (.ref p) → ¬ ownA σ ρ1 p := fun k p b e o s => by
  have := paired_at r k _ b s e
  cases b with
  | no => cases o
  | sh _ => cases o
  | io _ => exact this.elim
  | ow ds =>
    obtain ⟨q, xs, z, e2, _⟩ := this
    cases z
    intro o'
    obtain ⟨vs, z, _⟩ := own_live hR (g.own o')
    rw [e2] at z
    cases z
  | od t ds =>
    obtain ⟨q, z, e2, _⟩ := this
    cases z
    intro o'
    obtain ⟨vs, z, _⟩ := own_live hR (g.own o')
    rw [e2] at z
    cases z
end
section
variable {X : Cx} {e a b c : Expr} {es ts : List Expr} {pos p tp vp : Pos} {fe fa fb fc : Fm → Option D} {ft fu : Fm → Option Bool} {fs : Fm → Option (List D)} {ge ga gb : Fm → Option (D × Fm)} {gt gu : Fm → Option (Bool × Fm)} {gs : Fm → Option (List D × Fm)} {me : Fm → Option (B × Fm)} {ms : Fm → Option (List B × Fm)}
def sAll (is : List Nat) (f : Fm → Option (List B × Fm)) (ρ : Fm) : Option (Fl × Fm) := (f ρ).bind fun x => (putB x.2 is x.1).map fun ρ' => (.nx, ρ')
theorem ss_all {K : PySem.W.Frag} {t : TA} {ts : TS} {is : List Nat} (h : SMA K t ms) (ht : ∀ (D : Ends) σ H, (t σ H fun vs H1 => vs.length = is.length → D.nx (putV σ is vs) H1) → ts D σ H) : SS K ts (sAll is ms) := by
  intro F H σ ρ fl ρ' hf hR E k1 k2 k3
  obtain ⟨⟨bs, ρ1⟩, e1, e2⟩ := Option.bind_eq_some_iff.mp hf
  obtain ⟨ρ2, e3, e4⟩ := Option.map_eq_some_iff.mp e2
  cases e4
  exact ht E σ H (h F H σ ρ bs ρ1 e1 hR _ fun vs F1 H1 g1 r1 ap => fun _ => k1 rfl _ F1 H1 (go_all g1.go r1 ap (new_no hR g1 r1) e3))
theorem putB_len : ∀ {is : List Nat} {bs : List B} {ρ ρ' : Fm}, putB ρ is bs = some ρ' → bs.length = is.length
  | [], [], _, _, _ => rfl
  | i :: is, b :: bs, ρ, ρ', e => by rw [List.length_cons, List.length_cons, putB_len (is := is) e]
  | [], _ :: _, _, _, e => by cases e
  | _ :: _, [], _, _, e => by cases e
theorem ss_all' {K : PySem.W.Frag} {t : TA} {ts : TS} {is : List Nat} (h : SMA K t ms) (ht : ∀ (D : Ends) σ H, (t σ H fun vs H1 => vs.length = is.length ∧ D.nx (putV σ is vs) H1) → ts D σ H) : SS K ts (sAll is ms) := by
  intro F H σ ρ fl ρ' hf hR E k1 k2 k3
  obtain ⟨⟨bs, ρ1⟩, e1, e2⟩ := Option.bind_eq_some_iff.mp hf
  obtain ⟨ρ2, e3, e4⟩ := Option.map_eq_some_iff.mp e2
  cases e4
  exact ht E σ H (h F H σ ρ bs ρ1 e1 hR _ fun vs F1 H1 g1 r1 ap => ⟨by rw [← putB_len e3]; exact Paired.length r1, k1 rfl _ F1 H1 (go_all g1.go r1 ap (new_no hR g1 r1) e3)⟩)
theorem len2 {α : Type} {l : List α} (h : l.length = 2) : ∃ x y, l = [x, y] := by
  match l, h with
  | [x, y], _ => exact ⟨x, y, rfl⟩
theorem len3 {α : Type} {l : List α} (h : l.length = 3) : ∃ x y z, l = [x, y, z] := by
  match l, h with
  | [x, y, z], _ => exact ⟨x, y, z, rfl⟩
/-- readings of arguments are monotone: what sAll wants lies within -/
theorem s_par (i j : Nat) {x y : Str} {px py pt : Pos} {kt k2 pt2} (hc : X.calm = true) (hN : X.N.Nodup) (ha : XMA X [a, b] ms) (hi : X.N[i]? = some x := by rfl) (hj : X.N[j]? = some y := by rfl) (hij : i ≠ j := by decide)
    (hx : X.env.scope.names.lookup x = some .local := by rfl) (hy : X.env.scope.names.lookup y = some .local := by rfl)
    (hw : swappedStores [.Tuple [.Name x px, .Name y py] kt pt] (.Tuple [a, b] k2 pt2) X.env = pure (some [x, y]) := by rfl)
    (hs : swapsWithSole [.Tuple [.Name x px, .Name y py] kt pt] (.Tuple [a, b] k2 pt2) pos.line X.env = pure false := by rfl) :
    PSt X (.Assign [.Tuple [.Name x px, .Name y py] kt pt] (.Tuple [a, b] k2 pt2) pos) (sAll [i, j] ms) := by
  obtain ⟨t, h1, h2⟩ := ha
  refine ⟨_, ps_par hc hN hi hj hij hx hy h1 hw hs, fun F H σ ρ fl ρ' hf hR E k1 k2 k3 => ?_⟩
  obtain ⟨⟨bs, ρ1⟩, e1, e2⟩ := Option.bind_eq_some_iff.mp hf
  obtain ⟨ρ2, e3, e4⟩ := Option.map_eq_some_iff.mp e2
  cases e4
  refine h2 F H σ ρ bs ρ1 e1 hR _ fun vs F1 H1 g1 r1 ap => ?_
  obtain ⟨v, w, rfl⟩ := len2 (show vs.length = 2 by rw [Paired.length r1, putB_len e3]; rfl)
  exact ⟨v, w, rfl, k1 rfl _ F1 H1 (go_all g1.go r1 ap (new_no hR g1 r1) e3)⟩
theorem s_par3 (i j l : Nat) {x y z : Str} {px py pz pt : Pos} {kt k2 pt2} (hc : X.calm = true) (hN : X.N.Nodup) (ha : XMA X [a, b, c] ms) (hi : X.N[i]? = some x := by rfl) (hj : X.N[j]? = some y := by rfl) (hl : X.N[l]? = some z := by rfl) (hij : i ≠ j := by decide) (hil : i ≠ l := by decide) (hjl : j ≠ l := by decide)
    (hx : X.env.scope.names.lookup x = some .local := by rfl) (hy : X.env.scope.names.lookup y = some .local := by rfl) (hz : X.env.scope.names.lookup z = some .local := by rfl)
    (hw : swappedStores [.Tuple [.Name x px, .Name y py, .Name z pz] kt pt] (.Tuple [a, b, c] k2 pt2) X.env = pure (some [x, y, z]) := by rfl)
    (hs : swapsWithSole [.Tuple [.Name x px, .Name y py, .Name z pz] kt pt] (.Tuple [a, b, c] k2 pt2) pos.line X.env = pure false := by rfl) :
    PSt X (.Assign [.Tuple [.Name x px, .Name y py, .Name z pz] kt pt] (.Tuple [a, b, c] k2 pt2) pos) (sAll [i, j, l] ms) := by
  obtain ⟨t, h1, h2⟩ := ha
  refine ⟨_, ps_par3 hc hN hi hj hl hij hil hjl hx hy hz h1 hw hs, fun F H σ ρ fl ρ' hf hR E k1 k2 k3 => ?_⟩
  obtain ⟨⟨bs, ρ1⟩, e1, e2⟩ := Option.bind_eq_some_iff.mp hf
  obtain ⟨ρ2, e3, e4⟩ := Option.map_eq_some_iff.mp e2
  cases e4
  refine h2 F H σ ρ bs ρ1 e1 hR _ fun vs F1 H1 g1 r1 ap => ?_
  obtain ⟨u, v, w, rfl⟩ := len3 (show vs.length = 3 by rw [Paired.length r1, putB_len e3]; rfl)
  exact ⟨u, v, w, rfl, k1 rfl _ F1 H1 (go_all g1.go r1 ap (new_no hR g1 r1) e3)⟩
/-! targets that are names -/
def gNm : List Nat → TGs
  | [] => gNil
  | i :: is => gCons (gName i) (gNm is)
theorem gNm_of : ∀ {is : List Nat} {vs : List V} {σ : L2.St} {H : Hp} {Q : L2.St → Hp → Prop}, vs.length = is.length → Q (putV σ is vs) H → gNm is vs σ H Q
  | [], [], _, _, _, _, q => ⟨rfl, q⟩
  | i :: is, v :: vs, σ, H, Q, e, q => ⟨v, vs, rfl, gNm_of (is := is) (vs := vs) (σ := σ.set i (some v)) (by simpa using e) q⟩
  | [], _ :: _, _, _, _, e, _ => by simp at e
  | _ :: _, [], _, _, _, e, _ => by simp at e
def PNm (X : Cx) (ts : List Expr) (is : List Nat) : Prop := PGs X ts (gNm is)
theorem n_nil : PNm X [] [] := pgs_nil
theorem n_cons (i : Nat) {x : Str} {is : List Nat} (hN : X.N.Nodup) (h : PNm X ts is) (hi : X.N[i]? = some x := by rfl) (hx : Loc X.env.scope x := by first | exact .inl rfl | exact .inr rfl)
    (hf : X.fn x = true ∨ X.env.scope.names.lookup x = some .local := by first | exact .inl rfl | exact .inr rfl | assumption) (hs : (assignEach (.Name x p :: ts) X.env).map (·.2) = assign (.Name x p) X.env :: (assignEach ts X.env).map (·.2) := by rfl) : PNm X (.Name x p :: ts) (i :: is) :=
  pgs_cons (pg_name hN hi hx hf) h hs
/-- a, b, .. = x, y, .. (a tuple is made) -/
theorem s_tup {is : List Nat} {kt k2} (hc : X.calm = true) (hn : PNm X ts is) (ha : XMA X es ms) (hl : (assignEach ts X.env).length = is.length := by rfl) (hst : (assignEach ts X.env).findIdx? (·.1) = none := by rfl)
    (hs : swapsWithSole [.Tuple ts kt tp] (.Tuple es k2 vp) pos.line X.env = pure false := by rfl) (hw : swappedStores [.Tuple ts kt tp] (.Tuple es k2 vp) X.env = pure none := by rfl) (hz : is.length ≤ bigN := by decide) :
    PSt X (.Assign [.Tuple ts kt tp] (.Tuple es k2 vp) pos) (sAll is ms) := by
  obtain ⟨t, h1, h2⟩ := ha
  refine ⟨_, ps_asg (pe_tup h1) (pg_tup hc hn hl hst) hs hw rfl, fun F H σ ρ fl ρ' hf hR E k1 k2 k3 => ?_⟩
  obtain ⟨⟨bs, ρ1⟩, e1, e2⟩ := Option.bind_eq_some_iff.mp hf
  obtain ⟨ρ2, e3, e4⟩ := Option.map_eq_some_iff.mp e2
  cases e4
  refine h2 F H σ ρ bs ρ1 e1 hR _ fun vs F1 H1 g1 r1 ap => ?_
  have hlen : vs.length = is.length := by rw [Paired.length r1, putB_len e3]
  refine ⟨by rw [hlen]; exact Nat.le_trans hz big_le, fun q hq => ?_⟩
  have g2 := Gr.newH (o := .tup vs) g1.rel.ex hq
  have g3 : GoE X.K F H σ ρ F1 (upd H1 q (.tup vs)) ρ1 := g1.trans (.gr g1.rel g2)
  have r3 : Paired (BNew X.K H F1 (upd H1 q (.tup vs))) vs bs := Paired.mapP r1 fun x y z => z.step hR g1 (.gr g1.rel g2)
  exact ⟨q, vs, rfl, .inl (.inl upd_same), hlen, gNm_of hlen (k1 rfl _ F1 _ (go_all g3.go r3 ap (new_no hR g3 r3) e3))⟩
/-- a, b, .. = e, a tuple -/
def sUnp (is : List Nat) (f : Fm → Option (D × Fm)) (ρ : Fm) : Option (Fl × Fm) := (f ρ).bind fun x => match x.1 with
  | .tuple ds => (putB x.2 is (ds.map .sh)).map fun ρ' => (.nx, ρ')
  | _ => none
theorem s_unp {is : List Nat} {kt} (hc : X.calm = true) (hn : PNm X ts is) (ha : XE X e ge) (hl : (assignEach ts X.env).length = is.length := by rfl) (hst : (assignEach ts X.env).findIdx? (·.1) = none := by rfl)
    (hs : swapsWithSole [.Tuple ts kt tp] e pos.line X.env = pure false := by rfl) (hw : swappedStores [.Tuple ts kt tp] e X.env = pure none := by rfl) :
    PSt X (.Assign [.Tuple ts kt tp] e pos) (sUnp is ge) := by
  obtain ⟨t, h1, h2⟩ := ha
  refine ⟨_, ps_asg h1 (pg_tup hc hn hl hst) hs hw rfl, fun F H σ ρ fl ρ' hf hR E k1 k2 k3 => ?_⟩
  obtain ⟨⟨d, ρ1⟩, e1, e2⟩ := Option.bind_eq_some_iff.mp hf
  split at e2
  · rename_i ds ed
    obtain ⟨ρ2, e3, e4⟩ := Option.map_eq_some_iff.mp e2
    cases e4
    cases ed
    refine h2 F H σ ρ _ ρ1 e1 hR _ fun v F1 H1 g1 r1 => ?_
    cases r1 with
    | tup hs r =>
      have hlen := putB_len e3
      rw [List.length_map, ← r.length] at hlen
      exact ⟨_, _, rfl, g1.rel.ex.sqt hs, hlen, gNm_of hlen (k1 rfl _ F1 _ (go_all g1.go (newS r) newS_apart newS_no e3))⟩
  · cases e2
/-! blocks -/
def sNext (ρ : Fm) : Option (Fl × Fm) := some (.nx, ρ)
def sSeq (f g : Fm → Option (Fl × Fm)) (ρ : Fm) : Option (Fl × Fm) := (f ρ).bind fun x => match x.1 with
  | .nx => g x.2
  | r => some (r, x.2)
variable {st : Stmt} {sts ss1 ss2 : List Stmt} {sf sg : Fm → Option (Fl × Fm)}
theorem b_nil : PBl X [] sNext := ⟨_, pss_nil, fun F H σ ρ fl ρ' hf hR E k1 k2 k3 => by
  cases hf
  exact k1 rfl σ F H (.refl hR)⟩
theorem ss_seq {K : PySem.W.Frag} {t u : TS} (h : SS K t sf) (h' : SS K u sg) : SS K (tSeq t u) (sSeq sf sg) := by
  intro F H σ ρ fl ρ' hf hR E k1 k2 k3
  obtain ⟨⟨f1, ρ1⟩, e1, e2⟩ := Option.bind_eq_some_iff.mp hf
  cases f1 with
  | nx =>
    refine h F H σ ρ _ ρ1 e1 hR _ (fun _ σ1 F1 H1 g1 => ?_) (fun z => by cases z) fun d z => by cases z
    exact h' F1 H1 σ1 ρ1 fl ρ' e2 g1.rel E (fun z σ2 F2 H2 g2 => k1 z σ2 F2 H2 (g1.trans g2)) (fun z σ2 F2 H2 g2 => k2 z σ2 F2 H2 (g1.trans g2)) fun d z v σ2 F2 H2 g2 r => k3 d z v σ2 F2 H2 (g1.trans g2) r
  | bk =>
    cases e2
    exact h F H σ ρ _ _ e1 hR _ (fun z => by cases z) (fun z σ1 F1 H1 g1 => k2 rfl σ1 F1 H1 g1) fun d z => by cases z
  | rt d =>
    cases e2
    exact h F H σ ρ _ _ e1 hR _ (fun z => by cases z) (fun z => by cases z) fun d' z v σ1 F1 H1 g1 r => k3 d' z v σ1 F1 H1 g1 r
theorem b_cons (h : PSt X st sf) (h' : PBl X sts sg) : PBl X (st :: sts) (sSeq sf sg) := let ⟨_, h1, h2⟩ := h; let ⟨_, h3, h4⟩ := h'; ⟨_, pss_cons h1 h3, ss_seq h2 h4⟩
theorem b_one (h : PSt X st sf) : PBl X [st] sf := let ⟨_, h1, h2⟩ := h; ⟨_, pss_one h1, h2⟩
def sNever (_ : Fm) : Option (Fl × Fm) := none
theorem s_never : PSt X st sNever := ⟨_, ps_never, fun F H σ ρ fl ρ' hf => nomatch hf⟩
theorem b_never : PBl X sts sNever := ⟨_, pss_never, fun F H σ ρ fl ρ' hf => nomatch hf⟩
theorem s_pass : PSt X (.Pass pos) sNext := ⟨_, ps_pass, fun F H σ ρ fl ρ' hf hR E k1 k2 k3 => by
  cases hf
  exact k1 rfl σ F H (.refl hR)⟩
def sBreak (ρ : Fm) : Option (Fl × Fm) := some (.bk, ρ)
theorem s_break : PSt X (.Break pos) sBreak := ⟨_, ps_break, fun F H σ ρ fl ρ' hf hR E k1 k2 k3 => by
  cases hf
  exact k2 rfl σ F H (.refl hR)⟩
def sRet (f : Fm → Option (D × Fm)) (ρ : Fm) : Option (Fl × Fm) := (f ρ).map fun x => (.rt x.1, x.2)
theorem s_ret (h : XE X e ge) : PSt X (.Return (some e) pos) (sRet ge) := let ⟨_, h1, h2⟩ := h; ⟨_, ps_ret h1, fun F H σ ρ fl ρ' hf hR E k1 k2 k3 => by
  obtain ⟨⟨d, ρ1⟩, e1, e2⟩ := Option.map_eq_some_iff.mp hf
  cases e2
  exact h2 F H σ ρ d _ e1 hR _ fun v F1 H1 g1 r1 => k3 d rfl v σ F1 H1 g1.go r1⟩
def sDrop (f : Fm → Option (D × Fm)) (ρ : Fm) : Option (Fl × Fm) := (f ρ).map fun x => (.nx, x.2)
theorem s_expr (h : XE X e ge) (hs : swapsWith e none pos.line X.env = pure false := by rfl) : PSt X (.Expr e pos) (sDrop ge) := let ⟨_, h1, h2⟩ := h; ⟨_, ps_expr h1 hs, fun F H σ ρ fl ρ' hf hR E k1 k2 k3 => by
  obtain ⟨⟨d, ρ1⟩, e1, e2⟩ := Option.map_eq_some_iff.mp hf
  cases e2
  exact h2 F H σ ρ d _ e1 hR _ fun v F1 H1 g1 r1 => k1 rfl σ F1 H1 g1.go⟩
def sIf (c : Fm → Option (Bool × Fm)) (f g : Fm → Option (Fl × Fm)) (ρ : Fm) : Option (Fl × Fm) := (c ρ).bind fun x => if x.1 = true then f x.2 else g x.2
theorem s_if (hc : XB X c gt) (ha : PBl X ss1 sf) (hb : PBl X ss2 sg) : PSt X (.If c ss1 ss2 pos) (sIf gt sf sg) := by
  obtain ⟨_, h1, h2⟩ := hc
  obtain ⟨_, h3, h4⟩ := ha
  obtain ⟨_, h5, h6⟩ := hb
  refine ⟨_, ps_if h1 h3 h5, fun F H σ ρ fl ρ' hf hR E k1 k2 k3 => ?_⟩
  obtain ⟨⟨b1, ρ1⟩, e1, e2⟩ := Option.bind_eq_some_iff.mp hf
  refine h2 F H σ ρ _ ρ1 e1 hR _ fun F1 H1 g => ?_
  split at e2
  · rename_i e
    rw [if_pos e]
    exact h4 F1 H1 σ ρ1 fl ρ' e2 g.rel E (fun z σ2 F2 H2 g2 => k1 z σ2 F2 H2 (g.go.trans g2)) (fun z σ2 F2 H2 g2 => k2 z σ2 F2 H2 (g.go.trans g2)) fun d z v σ2 F2 H2 g2 r => k3 d z v σ2 F2 H2 (g.go.trans g2) r
  · rename_i e
    rw [if_neg e]
    exact h6 F1 H1 σ ρ1 fl ρ' e2 g.rel E (fun z σ2 F2 H2 g2 => k1 z σ2 F2 H2 (g.go.trans g2)) (fun z σ2 F2 H2 g2 => k2 z σ2 F2 H2 (g.go.trans g2)) fun d z v σ2 F2 H2 g2 r => k3 d z v σ2 F2 H2 (g.go.trans g2) r
end
end DL
end
section
set_option Elab.async false
set_option linter.all false
set_option maxRecDepth 100000
/-! Own lists changed; loops; comprehensions; defs. -/
namespace DL
open PySem PySem.Spec PyProof.Rows L2
section
variable {X : Cx} {e a b c : Expr} {es ts : List Expr} {pos p q tp vp apos cpos : Pos} {fe fa fb fc : Fm → Option D} {ft fu : Fm → Option Bool} {fs : Fm → Option (List D)} {ge ga gb : Fm → Option (D × Fm)} {gt gu : Fm → Option (Bool × Fm)} {gs : Fm → Option (List D × Fm)} {me : Fm → Option (B × Fm)} {ms : Fm → Option (List B × Fm)}
/-! ### own lists -/
theorem own_wr {K : PySem.W.Frag} {F H : Hp} {σ : L2.St} {ρ : Fm} {i : Nat} {b0 : B} {a : Addr} {vs vs' : List V} {ls' : List D} (hR : Rel K F H σ ρ) (e : ρ[i]? = some b0) (ob : b0.own = true) (s : σ[i]? = some (some (.ref a))) (ha : H a = some (.lst vs)) (hf : F a = none) (r : RpA K F vs' ls') :
    GoE K F H σ ρ F (upd H a (.lst vs')) (ρ.set i (b0.put ls')) :=
  goE_put hR e ob s (.refl _) (fun b o h => by
    have : b ≠ a := fun z => by rw [z, hf] at h; cases h
    rw [upd_ne this]
    exact hR.ex b o h) (fun c o h n => by rw [upd_ne n]; exact h) (fun c _ h => h) upd_same r
/-- x.append(e) -/
def sApp (i : Nat) (f : Fm → Option (D × Fm)) (ρ : Fm) : Option (Fl × Fm) := (ρ[i]?).bind fun b0 => (ownOf b0).bind fun _ => (f ρ).bind fun x => (x.2[i]?).bind fun b => (ownOf b).bind fun ls => if ls.length < bigN then some (.nx, x.2.set i (b.put (ls ++ [x.1]))) else none
theorem s_app (i : Nat) {y : Str} (h : XE X e ge) (hv : PE X (.Name y q) (tVar i) := by exact pv _)
    (hbase : attributeBase (.Name y q) "append" X.env (eval (.Name y q) X.env) = eval (.Name y q) X.env := by rfl)
    (hfew : ((backTo cpos (starEach [e] X.env)).all (fun x => !x.1) && (backToKw cpos (keywordEach [] X.env)).all (fun x => x.1.isSome)
      && decide ([e].length + ([] : List Keyword).length + (if ([] : List Keyword).isEmpty then 0 else 1) < 30)) = true := by rfl)
    (hline : (apos.endLine == cpos.line) = true := by rfl) (hs : starEach [e] X.env = (false, eval e X.env) :: starEach [] X.env := by rfl) (hsw : swapsWith (.Call (.Attribute (.Name y q) "append" apos) [e] [] cpos) none pos.line X.env = pure false := by rfl) :
    PSt X (.Expr (.Call (.Attribute (.Name y q) "append" apos) [e] [] cpos) pos) (sApp i ge) := by
  obtain ⟨t, h1, h2⟩ := h
  refine ⟨_, ps_expr (pe_bm PySem.F.plainAttrs_list PySem.F.slot_list_append PySem.F.type_list_append mt_append hv (pa_cons h1 pa_nil hs) hbase hfew hline hs rfl) hsw, fun F H σ ρ fl ρ' hf hR E k1 k2 k3 => ?_⟩
  obtain ⟨b0, e01, hf⟩ := Option.bind_eq_some_iff.mp hf
  obtain ⟨ls0, e02, hf⟩ := Option.bind_eq_some_iff.mp hf
  obtain ⟨⟨d, ρ1⟩, e1, e2⟩ := Option.bind_eq_some_iff.mp hf
  obtain ⟨b, e3, e4⟩ := Option.bind_eq_some_iff.mp e2
  obtain ⟨ls, e5, e6⟩ := Option.bind_eq_some_iff.mp e4
  split at e6
  · rename_i hz
    cases e6
    obtain ⟨a0, vs0, s0, h0, _, _⟩ := at_own hR e01 e02
    refine ⟨.ref a0, s0, .inl ⟨rfl, vs0, .inl (.inl h0)⟩, ?_⟩
    refine h2 F H σ ρ _ ρ1 e1 hR _ fun v F1 H1 g1 r1 => ?_
    obtain ⟨a1, vs, s1, ha1, hf1, rl⟩ := at_own g1.rel e3 e5
    rw [s0] at s1
    cases s1
    refine ⟨a0, vs, v, rfl, rfl, ha1, by rw [rl.length]; exact Nat.lt_of_lt_of_le hz big_le, ?_⟩
    exact k1 rfl σ F1 _ (g1.go.trans (own_wr g1.rel e3 (own_ofB e5) s0 ha1 hf1 (rl.append (.one r1))).go)
  · cases e6
/-- x[k] = e -/
def sPut (i : Nat) (fk : Fm → Option D) (f : Fm → Option (D × Fm)) (ρ : Fm) : Option (Fl × Fm) := (f ρ).bind fun x => (x.2[i]?).bind fun b => (ownOf b).bind fun ls => (fk x.2).bind fun kd => match kd with
  | .int k => (ixN ls.length k).map fun j => (.nx, x.2.set i (b.put (ls.set j x.1)))
  | _ => none
theorem s_put (i : Nat) {y : Str} (hk : PP X b fb) (h : XE X e ge) (hv : PE X (.Name y q) (tVar i) := by exact pv _)
    (ha : ∀ v, assign (.Subscript (.Name y q) b tp) X.env v = (do
      let ov ← holding [v] (eval (.Name y q) X.env)
      let iv ← holding [v, ov] (eval b X.env)
      standAt tp
      holding [v, ov, iv] (setItem ov iv v)
      release [v, ov, iv] []) := by intro _; rfl)
    (hs : swapsWithSole [.Subscript (.Name y q) b tp] e pos.line X.env = pure false := by rfl) (hw : swappedStores [.Subscript (.Name y q) b tp] e X.env = pure none := by rfl) : PSt X (.Assign [.Subscript (.Name y q) b tp] e pos) (sPut i fb ge) := by
  obtain ⟨t, h1, h2⟩ := h
  obtain ⟨u, h3, h4⟩ := hk
  refine ⟨_, ps_asg h1 (pg_sub hv h3 set_list ha) hs hw rfl, fun F H σ ρ fl ρ' hf hR E k1 k2 k3 => ?_⟩
  obtain ⟨⟨d, ρ1⟩, e1, e2⟩ := Option.bind_eq_some_iff.mp hf
  obtain ⟨b, e3, e4⟩ := Option.bind_eq_some_iff.mp e2
  obtain ⟨ls, e5, e6⟩ := Option.bind_eq_some_iff.mp e4
  obtain ⟨kd, e7, e8⟩ := Option.bind_eq_some_iff.mp e6
  split at e8
  · rename_i k
    obtain ⟨j, e9, e10⟩ := Option.map_eq_some_iff.mp e8
    cases e10
    refine h2 F H σ ρ _ ρ1 e1 hR _ fun v F1 H1 g1 r1 => ?_
    obtain ⟨a1, vs, s1, ha1, hf1, rl⟩ := at_own g1.rel e3 e5
    refine ⟨.ref a1, s1, ?_⟩
    refine h4 F1 H1 σ ρ1 _ e7 g1.rel _ fun iv F2 H2 g2 r2 => ?_
    have g12 := g1.trans (.gr g1.rel g2)
    obtain ⟨a2, vs2, s2, ha2, hf2, rl2⟩ := at_own g12.rel e3 e5
    rw [s1] at s2
    cases s2
    refine ⟨a1, vs2, k, j, rfl, r2.intI, ha2, by rw [rl2.length]; exact e9, ?_⟩
    exact k1 rfl σ F2 _ (g12.go.trans (own_wr g12.rel e3 (own_ofB e5) s1 ha2 hf2 (rl2.set (r1.mono g2.ex) j)).go)
  · cases e8
/-- x.pop() -/
def xPop (i : Nat) (ρ : Fm) : Option (D × Fm) := (ρ[i]?).bind fun b => (ownOf b).bind fun ls => (ls[ls.length - 1]?).map fun d => (d, ρ.set i (b.put ls.dropLast))
theorem RpA.dropLast {K : PySem.W.Frag} {H : Hp} {xs : List V} {ds : List D} (r : RpA K H xs ds) : RpA K H xs.dropLast ds.dropLast := by
  rw [List.dropLast_eq_take, List.dropLast_eq_take, r.length]
  exact r.take _
theorem x_pop (i : Nat) {y : Str} (hv : PE X (.Name y q) (tVar i) := by exact pv _) (hbase : attributeBase (.Name y q) "pop" X.env (eval (.Name y q) X.env) = eval (.Name y q) X.env := by rfl) (hline : (apos.endLine == cpos.line) = true := by rfl) :
    XE X (.Call (.Attribute (.Name y q) "pop" apos) [] [] cpos) (xPop i) := by
  refine ⟨_, pe_bm0 PySem.F.plainAttrs_list PySem.F.slot_list_pop PySem.F.type_list_pop mt_pop hv hbase hline, fun F H σ ρ d ρ' hf hR Q k => ?_⟩
  obtain ⟨b, e3, e4⟩ := Option.bind_eq_some_iff.mp hf
  obtain ⟨ls, e5, e6⟩ := Option.bind_eq_some_iff.mp e4
  obtain ⟨d', e7, e8⟩ := Option.map_eq_some_iff.mp e6
  cases e8
  obtain ⟨a1, vs, s1, ha1, hf1, rl⟩ := at_own hR e3 e5
  obtain ⟨v, hv1, hv2⟩ := rl.get e7
  refine ⟨.ref a1, s1, .inl ⟨rfl, vs, .inl (.inl ha1)⟩, a1, vs, v, rfl, rfl, ha1, by rw [rl.length]; exact hv1, ?_⟩
  exact k v F _ (own_wr hR e3 (own_ofB e5) s1 ha1 hf1 rl.dropLast) hv2
/-- from here on the own list may be held elsewhere -/
def frz1 (i : Nat) (ρ : Fm) : Fm := match ρ[i]? with
  | some (.ow ds) => ρ.set i (.sh (.list ds))
  | _ => ρ
theorem go_frz {K : PySem.W.Frag} {F H : Hp} {σ : L2.St} {ρ : Fm} (i : Nat) (hR : Rel K F H σ ρ) : ∃ F', Go K F H σ ρ F' H σ (frz1 i ρ) := by
  unfold frz1
  split
  · rename_i ds e
    obtain ⟨a, vs, s1, ha, hf, r⟩ := hR.at_ i _ e
    have hl : i < ρ.length := (List.getElem?_eq_some_iff.mp e).1
    have exF : Ex F (upd F a (.lst vs)) := .new hf
    have get : ∀ j c, (ρ.set i (.sh (.list ds)))[j]? = some c → (j = i ∧ c = .sh (.list ds)) ∨ (j ≠ i ∧ ρ[j]? = some c) := by
      intro j c e
      by_cases hj : j = i
      · subst hj
        rw [List.getElem?_set_self hl] at e
        exact .inl ⟨rfl, (Option.some.inj e).symm⟩
      · rw [List.getElem?_set_ne (fun z => hj z.symm)] at e
        exact .inr ⟨hj, e⟩
    have oi : ownA σ ρ a := ⟨i, _, e, rfl, s1⟩
    refine ⟨upd F a (.lst vs), ⟨fun x o h => ?_, by rw [List.length_set]; exact hR.len, fun j c e' => ?_, fun j k b c x e1 o1 e2 o2 s1' s2' => ?_⟩, exF, fun x o h _ => h, fun x h => h, fun x h hf' n => ?_, fun x o => ?_, fun j es e' => ?_⟩
    · by_cases hx : x = a
      · subst hx
        rw [upd_same] at h
        rw [← h]
        exact ha
      · rw [upd_ne hx] at h
        exact hR.ex x o h
    · rcases get j c e' with ⟨rfl, rfl⟩ | ⟨hj, e''⟩
      · exact ⟨.ref a, s1, .lst (.inl (.inl upd_same)) (r.mono exF)⟩
      · have := hR.at_ j c e''
        have key : ∀ es, OwnL K F H σ[j]? es → c.own = true → OwnL K (upd F a (.lst vs)) H σ[j]? es := by
          intro es ⟨x, xs, f1, f2, f3, f4⟩ oc
          have hx : x ≠ a := fun z => by
            subst z
            exact hj (hR.sep i j _ c x e rfl e'' oc s1 f1).symm
          exact ⟨x, xs, f1, f2, by rw [upd_ne hx]; exact f3, f4.mono exF⟩
        have keyD : ∀ t es, OwnD K F H σ[j]? t es → c.own = true → OwnD K (upd F a (.lst vs)) H σ[j]? t es := by
          intro t es ⟨x, f1, f3, dd⟩ oc
          have hx : x ≠ a := fun z => by
            subst z
            exact hj (hR.sep i j _ c x e rfl e'' oc s1 f1).symm
          exact ⟨x, f1, by rw [upd_ne hx]; exact f3, dd.move exF fun _ z => z⟩
        cases c with
        | no => trivial
        | sh d =>
          obtain ⟨v, f1, f2⟩ := this
          exact ⟨v, f1, f2.mono exF⟩
        | ow es => exact key es this rfl
        | io es => exact key es this rfl
        | od t es => exact keyD t es this rfl
    · rcases get j b e1 with ⟨rfl, rfl⟩ | ⟨hj, e1'⟩
      · cases o1
      · rcases get k c e2 with ⟨rfl, rfl⟩ | ⟨hk, e2'⟩
        · cases o2
        · exact hR.sep j k b c x e1' o1 e2' o2 s1' s2'
    · have hx : x ≠ a := fun z => n (by rw [z]; exact oi)
      rw [upd_ne hx]
      exact hf'
    · obtain ⟨j, b, e', ob, s⟩ := o
      rcases get j b e' with ⟨rfl, rfl⟩ | ⟨hj, e''⟩
      · cases ob
      · exact .inl ⟨j, b, e'', ob, s⟩
    · rcases get j _ e' with ⟨rfl, z⟩ | ⟨hj, e''⟩
      · cases z
      · exact ⟨⟨es, e''⟩, rfl⟩
  · exact ⟨F, .refl hR⟩
def sFrz (i : Nat) (f : Fm → Option (Fl × Fm)) (ρ : Fm) : Option (Fl × Fm) := f (frz1 i ρ)
theorem s_frz (i : Nat) {st : Stmt} {sf : Fm → Option (Fl × Fm)} (h : PSt X st sf) : PSt X st (sFrz i sf) := let ⟨t, h1, h2⟩ := h; ⟨t, h1, fun F H σ ρ fl ρ' hf hR E k1 k2 k3 => by
  obtain ⟨F', g⟩ := go_frz i hR
  exact h2 F' H σ _ fl ρ' hf g.rel E (fun z σ2 F2 H2 g2 => k1 z σ2 F2 H2 (g.trans g2)) (fun z σ2 F2 H2 g2 => k2 z σ2 F2 H2 (g.trans g2)) fun d z v σ2 F2 H2 g2 r => k3 d z v σ2 F2 H2 (g.trans g2) r⟩
/-- x += e, ints -/
def sAug (i : Nat) (g : D → D → Option D) (f : Fm → Option D) (ρ : Fm) : Option (Fl × Fm) := (fVar i ρ).bind fun x => (f ρ).bind fun y => (g x y).map fun z => (.nx, ρ.set i (.sh z))
theorem s_aug (i : Nat) {x : Str} {op : Operator} {g : D → D → Option D} {r : R2} (ho : OpR X (inplaceOp op) r) (hr : ∀ F H x y dx dy dz, Ex F H → Vw X.K F H x dx → Vw X.K F H y dy → g dx dy = some dz → ∀ Q : VK, Res X.K F H dz Q → r x y H Q) (h : PP X e fe)
    (hN : X.N.Nodup) (hi : X.N[i]? = some x := by rfl) (hx : Loc X.env.scope x := by first | exact .inl rfl | exact .inr rfl) (hf : X.fn x = true ∨ X.env.scope.names.lookup x = some .local := by first | exact .inl rfl | exact .inr rfl | assumption) :
    PSt X (.AugAssign (.Name x tp) op e pos) (sAug i g fe) := by
  obtain ⟨t, h1, h2⟩ := h
  refine ⟨_, ps_aug hN hi hx h1 ho hf, fun F H σ ρ fl ρ' hf hR E k1 k2 k3 => ?_⟩
  obtain ⟨dx, e1, hf⟩ := Option.bind_eq_some_iff.mp hf
  obtain ⟨dy, e2, hf⟩ := Option.bind_eq_some_iff.mp hf
  obtain ⟨dz, e3, hf⟩ := Option.map_eq_some_iff.mp hf
  cases hf
  obtain ⟨v, s1, r1⟩ : ∃ v, σ[i]? = some (some v) ∧ Rp X.K F v dx := by
    unfold fVar at e1
    cases q : ρ[i]? with
    | none => rw [q] at e1; cases e1
    | some b =>
      rw [q] at e1
      cases b <;> cases e1
      exact hR.at_ i _ q
  refine ⟨v, s1, h2 F H σ ρ _ e2 hR _ fun w F1 H1 g1 r2 => ?_⟩
  exact hr F1 H1 v w dx dy dz g1.in_ (.inl (r1.mono g1.ex)) (.inl r2) e3 _ fun z F2 H2 g2 r3 => k1 rfl _ F2 H2 ((Go.gr hR (g1.trans g2)).trans (go_set (hR.gr (g1.trans g2)) r3))
/-! ### what is walked -/
def ItOk (K : PySem.W.Frag) (J : It) (F : Hp) (ds : List D) : Prop := ∀ F2 H2, Ex F F2 → Ex F2 H2 → (∀ (i : Nat) (d : D), ds[i]? = some d → J.go i H2 ∧ ∀ x H3, J.yld i H2 x H3 → ∃ F3, Gr F2 H2 F3 H3 ∧ Rp K F3 x d) ∧ J.stop ds.length H2
theorem ItOk.mono {K : PySem.W.Frag} {J : It} {F F' : Hp} {ds : List D} (h : ItOk K J F ds) (e : Ex F F') : ItOk K J F' ds := fun F2 H2 e1 e2 => h F2 H2 (e.trans e1) e2
def SI (K : PySem.W.Frag) (wi : TI) (f : Fm → Option (List D)) : Prop := ∀ F H σ ρ ds, f ρ = some ds → Rel K F H σ ρ → ∀ R : It → Hp → Prop, (∀ J F' H', Gr F H F' H' → ItOk K J F' ds → R J H') → wi σ H R
def PIt (X : Cx) (tg e : Expr) (f : Fm → Option (List D)) : Prop := ∃ wi, PI X tg e wi ∧ SI X.K wi f
def strD (x : Str) : List D := x.cps.toList.map fun c => .str ⟨#[c]⟩
def seqD : D → Option (List D)
  | .list xs => some xs
  | .tuple xs => some xs
  | .str x => some (strD x)
  | _ => none
def iSeq (f : Fm → Option D) (ρ : Fm) : Option (List D) := (f ρ).bind seqD
theorem ok_list {K : PySem.W.Frag} {F : Hp} {a : Addr} {xs : List V} {ds : List D} (s : SqL K F a xs) (r : RpA K F xs ds) : ItOk K (Itl K a) F ds := fun F2 H2 e1 e2 => by
  have s2 : SqL K H2 a xs := e2.sql (e1.sql s)
  refine ⟨fun i d h => ?_, xs, s2, Nat.le_of_eq r.length⟩
  obtain ⟨v, h1, h2⟩ := r.get h
  refine ⟨⟨xs, v, s2, h1⟩, fun x H3 hy => ?_⟩
  obtain ⟨rfl, hx⟩ := hy
  have := (hx xs s2).symm.trans h1
  cases this
  exact ⟨F2, .refl e2, h2.mono e1⟩
theorem ok_tup {K : PySem.W.Frag} {F : Hp} {a : Addr} {xs : List V} {ds : List D} (s : SqT K F a xs) (r : RpA K F xs ds) : ItOk K (Itt K a) F ds := fun F2 H2 e1 e2 => by
  have s2 : SqT K H2 a xs := e2.sqt (e1.sqt s)
  refine ⟨fun i d h => ?_, xs, s2, Nat.le_of_eq r.length⟩
  obtain ⟨v, h1, h2⟩ := r.get h
  refine ⟨⟨xs, v, s2, h1⟩, fun x H3 hy => ?_⟩
  obtain ⟨rfl, hx⟩ := hy
  have := (hx xs s2).symm.trans h1
  cases this
  exact ⟨F2, .refl e2, h2.mono e1⟩
theorem ok_str {K : PySem.W.Frag} {F : Hp} {z : Str} : ItOk K (Its z) F (strD z) := fun F2 H2 e1 e2 => by
  have hl : (strD z).length = z.cps.size := by unfold strD; rw [List.length_map, Array.length_toList]
  refine ⟨fun i d h => ?_, Nat.le_of_eq hl.symm⟩
  have hi : i < z.cps.size := by rw [← hl]; exact (List.getElem?_eq_some_iff.mp h).1
  refine ⟨hi, fun x H3 hy => ?_⟩
  obtain ⟨rfl, c, hc, rfl⟩ := hy
  unfold strD at h
  rw [List.getElem?_map, Array.getElem?_toList, hc] at h
  cases h
  exact ⟨F2, .refl e2, .str _⟩
theorem pi_or {tg : Expr} {w1 w2 : TI} (h1 : PI X tg e w1) (h2 : PI X tg e w2) : PI X tg e (fun σ H R => w1 σ H R ∨ w2 σ H R) := ⟨fun pins s σ H R I h => h.elim (fun h => h1.run pins s σ H R I h) fun h => h2.run pins s σ H R I h⟩
theorem i_seq {tg : Expr} (h : PP X e fe) : PIt X tg e (iSeq fe) := by
  obtain ⟨t, h1, h2⟩ := h
  refine ⟨_, pi_or (pi_list h1) (pi_or (pi_tup h1) (pi_str h1)), fun F H σ ρ ds hf hR R k => ?_⟩
  obtain ⟨d, e1, e2⟩ := Option.bind_eq_some_iff.mp hf
  unfold seqD at e2
  split at e2
  · cases e2
    refine .inl (h2 F H σ ρ _ e1 hR _ fun v F1 H1 g1 r1 => ?_)
    cases r1 with
    | lst s r => exact ⟨_, rfl, ⟨_, g1.in_.sql s⟩, k _ F1 H1 g1 (ok_list s r)⟩
  · cases e2
    refine .inr (.inl (h2 F H σ ρ _ e1 hR _ fun v F1 H1 g1 r1 => ?_))
    cases r1 with
    | tup s r => exact ⟨_, rfl, ⟨_, g1.in_.sqt s⟩, k _ F1 H1 g1 (ok_tup s r)⟩
  · cases e2
    refine .inr (.inr (h2 F H σ ρ _ e1 hR _ fun v F1 H1 g1 r1 => ?_))
    exact ⟨_, r1.strI, k _ F1 H1 g1 ok_str⟩
  · cases e2
def rngD (lo : Int) (n : Nat) : List D := (List.range n).map fun (i : Nat) => .int (lo + (i : Int))
def smR (i : Int) : Bool := decide (-(2 ^ 62) ≤ i) && decide (i < 2 ^ 62)
def iRg1 (f : Fm → Option D) (ρ : Fm) : Option (List D) := match f ρ with
  | some (.int j) => if smR j then some (rngD 0 j.toNat) else none
  | _ => none
def iRg2 (f g : Fm → Option D) (ρ : Fm) : Option (List D) := match f ρ, g ρ with
  | some (.int i), some (.int j) => if smR i && smR j then some (rngD i (j - i).toNat) else none
  | _, _ => none
theorem ok_rng {K : PySem.W.Frag} {F : Hp} {lo : Int} {n : Nat} : ItOk K (Itr lo n) F (rngD lo n) := fun F2 H2 e1 e2 => by
  have hl : (rngD lo n).length = n := by unfold rngD; rw [List.length_map, List.length_range]
  refine ⟨fun i d h => ?_, Nat.le_of_eq hl.symm⟩
  have hi : i < n := by rw [← hl]; exact (List.getElem?_eq_some_iff.mp h).1
  refine ⟨hi, fun x H3 hy => ?_⟩
  obtain ⟨rfl, rfl⟩ := hy
  unfold rngD at h
  rw [List.getElem?_map, List.getElem?_range hi] at h
  cases h
  exact ⟨F2, .refl e2, .int _⟩
theorem i_rg1 {tg : Expr} (B : Bt X.mg) (h : PP X e fe) (hg : Gl X "range" := by rfl) (hs : starEach [e] X.env = (false, eval e X.env) :: starEach [] X.env := by rfl) : PIt X tg (.Call (.Name "range" p) [e] [] pos) (iRg1 fe) := by
  obtain ⟨t, h1, h2⟩ := h
  refine ⟨_, pi_range1 hg B.range (pa_cons h1 pa_nil hs) hs, fun F H σ ρ ds hf hR R k => ?_⟩
  unfold iRg1 at hf
  split at hf
  · rename_i j e1
    split at hf
    · rename_i hz
      cases hf
      unfold smR at hz
      simp only [Bool.and_eq_true, decide_eq_true_eq] at hz
      refine h2 F H σ ρ _ e1 hR _ fun v F1 H1 g1 r1 => ?_
      exact ⟨j, by rw [r1.intI], hz.1, hz.2, k _ F1 H1 g1 ok_rng⟩
    · cases hf
  · cases hf
theorem i_rg2 {tg : Expr} (B : Bt X.mg) (h : PP X a fa) (h' : PP X b fb) (hg : Gl X "range" := by rfl) (hs : starEach [a, b] X.env = [(false, eval a X.env), (false, eval b X.env)] := by rfl) (hs2 : starEach [b] X.env = [(false, eval b X.env)] := by rfl) : PIt X tg (.Call (.Name "range" p) [a, b] [] pos) (iRg2 fa fb) := by
  obtain ⟨t, h1, h2⟩ := h
  obtain ⟨u, h3, h4⟩ := h'
  refine ⟨_, pi_range2 hg B.range (pa_cons h1 (pa_cons h3 pa_nil hs2) (by rw [hs]; exact congrArg _ hs2.symm)) hs hs2, fun F H σ ρ ds hf hR R k => ?_⟩
  unfold iRg2 at hf
  split at hf
  · rename_i i j e1 e2
    split at hf
    · rename_i hz
      cases hf
      unfold smR at hz
      simp only [Bool.and_eq_true, decide_eq_true_eq] at hz
      refine h2 F H σ ρ _ e1 hR _ fun v F1 H1 g1 r1 => ?_
      refine h4 F1 H1 σ ρ _ e2 (hR.gr g1) _ fun w F2 H2 g2 r2 => ?_
      exact ⟨i, j, by rw [r1.intI, r2.intI], ⟨hz.1.1, hz.1.2, hz.2.1, hz.2.2⟩, k _ F2 H2 (g1.trans g2) ok_rng⟩
    · cases hf
  · cases hf
/-- enumerate(e) -/
def enumD : Nat → List D → List D
  | _, [] => []
  | n, d :: ds => .tuple [.int n, d] :: enumD (n + 1) ds
def iEn (f : Fm → Option D) (ρ : Fm) : Option (List D) := (f ρ).bind fun d => (itemsD d).map (enumD 0)
theorem enumD_len : ∀ (n : Nat) (ds : List D), (enumD n ds).length = ds.length
  | _, [] => rfl
  | n, d :: ds => by rw [enumD, List.length_cons, List.length_cons, enumD_len (n + 1) ds]
theorem enumD_get : ∀ (n : Nat) (ds : List D) (i : Nat) (d : D), (enumD n ds)[i]? = some d → ∃ d', ds[i]? = some d' ∧ d = .tuple [.int ((n + i : Nat) : Int), d']
  | _, [], i, d, h => by simp [enumD] at h
  | n, x :: ds, 0, d, h => by
    simp only [enumD, List.getElem?_cons_zero, Option.some.injEq] at h
    exact ⟨x, rfl, h.symm⟩
  | n, x :: ds, i + 1, d, h => by
    simp only [enumD, List.getElem?_cons_succ] at h
    obtain ⟨d', h1, h2⟩ := enumD_get (n + 1) ds i d h
    refine ⟨d', by simpa using h1, ?_⟩
    rw [h2]
    have : n + 1 + i = n + (i + 1) := by omega
    rw [this]
theorem en_new {K : PySem.W.Frag} {F2 H2 : Hp} {T : Addr} {v : V} {d : D} {i : Nat} (e2 : Ex F2 H2) (hT : H2 T = none) (r : Rp K F2 v d) : ∃ F3, Gr F2 H2 F3 (upd H2 T (.tup [.int (i : Nat), v])) ∧ Rp K F3 (.ref T) (.tuple [.int (i : Nat), d]) := by
  have g := Gr.new (o := .tup [.int (i : Nat), v]) e2 hT
  exact ⟨_, g, .tup (.inl (.inl upd_same)) (.cons (.int _) (.cons (r.mono g.ex) .nil))⟩
theorem i_enum {elts : List Expr} {kk : Nat} {tpos : Pos} (B : Bt X.mg) (h : PP X e fe) (hg : Gl X "enumerate" := by rfl) (hs : starEach [e] X.env = (false, eval e X.env) :: starEach [] X.env := by rfl) : PIt X (.Tuple elts kk tpos) (.Call (.Name "enumerate" p) [e] [] pos) (iEn fe) := by
  obtain ⟨t, h1, h2⟩ := h
  refine ⟨_, pi_enumT hg B.enumerate (pa_cons h1 pa_nil hs) hs, fun F H σ ρ ds hf hR R k => ?_⟩
  obtain ⟨d, e1, e2⟩ := Option.bind_eq_some_iff.mp hf
  obtain ⟨xs, e3, e4⟩ := Option.map_eq_some_iff.mp e2
  subst e4
  cases d <;> cases e3
  · refine .inl (h2 F H σ ρ _ e1 hR _ fun v F1 H1 g1 r1 => ?_)
    cases r1 with
    | lst s r =>
      refine ⟨_, _, rfl, g1.in_.sql s, k _ F1 H1 g1 fun F2 H2 f1 f2 => ?_⟩
      have s2 := f2.sql (f1.sql s)
      refine ⟨fun i d hd => ?_, _, s2, by rw [enumD_len, r.length]; exact Nat.le_refl _⟩
      obtain ⟨d', hd', rfl⟩ := enumD_get 0 _ i d hd
      obtain ⟨w, w1, w2⟩ := r.get hd'
      refine ⟨⟨_, w, s2, w1⟩, fun x H3 hy => ?_⟩
      obtain ⟨T, x', rfl, hT, rfl, hx⟩ := hy
      have := (hx _ s2).symm.trans w1
      cases this
      rw [Nat.zero_add]
      exact en_new f2 hT (w2.mono f1)
  · refine .inr (h2 F H σ ρ _ e1 hR _ fun v F1 H1 g1 r1 => ?_)
    cases r1 with
    | tup s r =>
      refine ⟨_, _, rfl, g1.in_.sqt s, k _ F1 H1 g1 fun F2 H2 f1 f2 => ?_⟩
      have s2 := f2.sqt (f1.sqt s)
      refine ⟨fun i d hd => ?_, _, s2, by rw [enumD_len, r.length]; exact Nat.le_refl _⟩
      obtain ⟨d', hd', rfl⟩ := enumD_get 0 _ i d hd
      obtain ⟨w, w1, w2⟩ := r.get hd'
      refine ⟨⟨_, w, s2, w1⟩, fun x H3 hy => ?_⟩
      obtain ⟨T, x', rfl, hT, rfl, hx⟩ := hy
      have := (hx _ s2).symm.trans w1
      cases this
      rw [Nat.zero_add]
      exact en_new f2 hT (w2.mono f1)
end
end DL
end
section
set_option Elab.async false
set_option linter.all false
set_option maxRecDepth 100000
/-! Loops, comprehensions, defs. -/
namespace DL
open PySem PySem.Spec PyProof.Rows L2
/-! ### targets of loops -/
/-- a name, or a tuple of targets -/
inductive Tg where
  | one (i : Nat)
  | tup (ts : List Tg)
mutual
def setT : Tg → D → Fm → Option Fm
  | .one i, d, ρ => some (ρ.set i (.sh d))
  | .tup ts, d, ρ => match d with
    | .tuple ds => setTs ts ds ρ
    | _ => none
def setTs : List Tg → List D → Fm → Option Fm
  | [], [], ρ => some ρ
  | t :: ts, d :: ds, ρ => (setT t d ρ).bind fun ρ' => setTs ts ds ρ'
  | _, _, _ => none
end
mutual
def slotsT : Tg → List Nat
  | .one i => [i]
  | .tup ts => slotsTs ts
def slotsTs : List Tg → List Nat
  | [] => []
  | t :: ts => slotsT t ++ slotsTs ts
end
/-- slots that may be stored -/
def SameOut (vs : List Nat) (σ σ' : L2.St) : Prop := σ'.length = σ.length ∧ ∀ i, i ∉ vs → σ'[i]? = σ[i]?
def ST (K : PySem.W.Frag) (g : TG) (t : Tg) : Prop := ∀ F H σ ρ d ρ' v, setT t d ρ = some ρ' → Rel K F H σ ρ → Rp K F v d → ∀ Q : L2.St → Hp → Prop, (∀ σ', Go K F H σ ρ F H σ' ρ' → SameOut (slotsT t) σ σ' → Q σ' H) → g v σ H Q
def STs (K : PySem.W.Frag) (g : TGs) (t : List Tg) : Prop := ∀ F H σ ρ ds ρ' vs, setTs t ds ρ = some ρ' → Rel K F H σ ρ → RpA K F vs ds → ∀ Q : L2.St → Hp → Prop, (∀ σ', Go K F H σ ρ F H σ' ρ' → SameOut (slotsTs t) σ σ' → Q σ' H) → g vs σ H Q
def PTg (X : Cx) (e : Expr) (t : Tg) : Prop := ∃ g, PG X e g ∧ ST X.K g t
def PTgs (X : Cx) (es : List Expr) (t : List Tg) : Prop := ∃ g, PGs X es g ∧ STs X.K g t ∧ (assignEach es X.env).length = t.length ∧ (assignEach es X.env).findIdx? (·.1) = none
section
variable {X : Cx} {e a b c : Expr} {es ts : List Expr} {pos p q tp vp apos cpos : Pos}
theorem g_one (i : Nat) {x : Str} (hN : X.N.Nodup) (hi : X.N[i]? = some x := by rfl) (hx : Loc X.env.scope x := by first | exact .inl rfl | exact .inr rfl) (hf : X.fn x = true ∨ X.env.scope.names.lookup x = some .local := by first | exact .inl rfl | exact .inr rfl | assumption) : PTg X (.Name x p) (.one i) :=
  ⟨_, pg_name hN hi hx hf, fun F H σ ρ d ρ' v h hR r Q k => by
    cases h
    exact k _ (go_set hR r) ⟨List.length_set, fun j hj => List.getElem?_set_ne fun z => hj (by rw [z]; exact List.mem_singleton.mpr rfl)⟩⟩
theorem gs_nil : PTgs X [] [] := by
  refine ⟨_, pgs_nil, fun F H σ ρ ds ρ' vs h hR r Q k => ?_, rfl, rfl⟩
  cases ds with
  | nil =>
    cases h
    cases r
    exact ⟨rfl, k σ (.refl hR) ⟨rfl, fun _ _ => rfl⟩⟩
  | cons _ _ => cases h
theorem gs_cons {t : Tg} {tt : List Tg} (h1 : PTg X e t) (h2 : PTgs X es tt) (hs : (assignEach (e :: es) X.env).map (·.2) = assign e X.env :: (assignEach es X.env).map (·.2) := by rfl) (hl : (assignEach (e :: es) X.env).length = (assignEach es X.env).length + 1 := by rfl) (hst : (assignEach (e :: es) X.env).findIdx? (·.1) = none := by rfl) : PTgs X (e :: es) (t :: tt) := by
  obtain ⟨g, a1, a2⟩ := h1
  obtain ⟨gs, b1, b2, b3, b4⟩ := h2
  refine ⟨_, pgs_cons a1 b1 hs, fun F H σ ρ ds ρ' vs h hR r Q k => ?_, by rw [hl, b3]; rfl, hst⟩
  cases r with
  | nil => cases h
  | cons r1 r2 =>
    obtain ⟨ρ1, e1, e2⟩ := Option.bind_eq_some_iff.mp h
    refine ⟨_, _, rfl, a2 F H σ ρ _ ρ1 _ e1 hR r1 _ fun σ1 g1 s1 => ?_⟩
    refine b2 F H σ1 ρ1 _ ρ' _ e2 g1.rel r2 _ fun σ2 g2 s2 => k σ2 (g1.trans g2) ⟨s2.1.trans s1.1, fun i hi => ?_⟩
    have h1 : i ∉ slotsT t := fun z => hi (List.mem_append_left _ z)
    have h2 : i ∉ slotsTs tt := fun z => hi (List.mem_append_right _ z)
    rw [s2.2 i h2, s1.2 i h1]
theorem g_tup {tt : List Tg} {kk : Nat} (hc : X.calm = true) (h : PTgs X es tt) : PTg X (.Tuple es kk p) (.tup tt) := by
  obtain ⟨gs, b1, b2, b3, b4⟩ := h
  refine ⟨_, pg_tup hc b1 b3 b4, fun F H σ ρ d ρ' v h hR r Q k => ?_⟩
  cases r with
  | tup s r =>
    have hlen : ∀ {tt : List Tg} {ds : List D} {ρ ρ' : Fm}, setTs tt ds ρ = some ρ' → ds.length = tt.length := by
      intro tt
      induction tt with
      | nil =>
        intro ds ρ ρ' h
        cases ds with
        | nil => rfl
        | cons _ _ => cases h
      | cons t tt ih =>
        intro ds ρ ρ' h
        cases ds with
        | nil => cases h
        | cons d ds =>
          obtain ⟨ρ1, e1, e2⟩ := Option.bind_eq_some_iff.mp h
          rw [List.length_cons, List.length_cons, ih e2]
    have h' : setTs tt _ ρ = some ρ' := h
    exact ⟨_, _, rfl, hR.ex.sqt s, by rw [r.length]; exact hlen h', b2 F H σ ρ _ ρ' _ h' hR r Q k⟩
  | _ => cases h
/-! ### for -/
def forL (t : Tg) (f : Fm → Option (Fl × Fm)) : List D → Fm → Option (Fl × Fm)
  | [], ρ => some (.nx, ρ)
  | d :: ds, ρ => (setT t d ρ).bind fun ρ1 => (f ρ1).bind fun x => match x.1 with
    | .nx => forL t f ds x.2
    | .bk => some (.nx, x.2)
    | .rt r => some (.rt r, x.2)
def sFor (t : Tg) (fi : Fm → Option (List D)) (f : Fm → Option (Fl × Fm)) (ρ : Fm) : Option (Fl × Fm) := (fi ρ).bind fun ds => forL t f ds ρ
variable {fi : Fm → Option (List D)} {sf sg : Fm → Option (Fl × Fm)} {body : List Stmt} {iter : Expr} {gt : Fm → Option (Bool × Fm)}
theorem s_for {t : Tg} (hp : PassesOwn (model X.prog X.w) X.A X.env X.xe) (hc : X.calm = true) (hi : PIt X e iter fi) (hg : PTg X e t) (hb : PBl X body sf) (hs : ∀ x, foldedSetIterable iter X.env x = pure x := by intro _; rfl) : PSt X (.For e iter body [] pos) (sFor t fi sf) := by
  obtain ⟨wi, a1, a2⟩ := hi
  obtain ⟨g, b1, b2⟩ := hg
  obtain ⟨tb, c1, c2⟩ := hb
  refine ⟨_, ps_for hp hc a1 b1 c1 hs, fun F H σ ρ fl ρ' hf hR E k1 k2 k3 => ?_⟩
  obtain ⟨ds, e1, e2⟩ := Option.bind_eq_some_iff.mp hf
  refine a2 F H σ ρ ds e1 hR _ fun J F0 H0 g0 ok => ?_
  refine ⟨fun i m σ' H' => m = ds.length - i ∧ i ≤ ds.length ∧ ∃ F' ρ1, Go X.K F H σ ρ F' H' σ' ρ1 ∧ Ex F0 F' ∧ forL t sf (ds.drop i) ρ1 = some (fl, ρ'), ⟨_, rfl, Nat.zero_le _, F0, ρ, .gr hR g0, .refl _, e2⟩, fun i m σ' H' hW => ?_⟩
  obtain ⟨rfl, hi, F', ρ1, g1, x1, e3⟩ := hW
  by_cases h : i < ds.length
  · right
    have hd : ds[i]? = some ds[i] := List.getElem?_eq_getElem h
    obtain ⟨ha, hb⟩ := (ok F' H' x1 g1.rel.ex).1 i _ hd
    rw [List.drop_eq_getElem_cons h] at e3
    obtain ⟨ρ2, e4, e5⟩ := Option.bind_eq_some_iff.mp e3
    obtain ⟨⟨f1, ρ3⟩, e6, e7⟩ := Option.bind_eq_some_iff.mp e5
    refine ⟨ha, fun σ2 H2 => f1 = .nx ∧ ∃ F2, Go X.K F H σ ρ F2 H2 σ2 ρ3 ∧ Ex F0 F2, fun σ2 H2 hN => ?_, fun x H2 hy => ?_⟩
    · obtain ⟨rfl, F2, g2, x2⟩ := hN
      exact ⟨ds.length - (i + 1), by omega, rfl, h, F2, ρ3, g2, x2, e7⟩
    · obtain ⟨F2, gr, rx⟩ := hb x H2 hy
      have g2 := g1.trans (.gr g1.rel gr)
      refine b2 F2 H2 σ' ρ1 _ ρ2 x e4 g2.rel rx _ fun σ3 g3 _ => ?_
      have g4 := g2.trans g3
      refine c2 F2 H2 σ3 ρ2 f1 ρ3 e6 g4.rel _ (fun z σ4 F4 H4 g5 => ?_) (fun z σ4 F4 H4 g5 => ?_) fun d z v σ4 F4 H4 g5 r => ?_
      · exact ⟨z, F4, g4.trans g5, (x1.trans gr.ex).trans g5.ex⟩
      · subst z
        cases e7
        exact k1 rfl σ4 F4 H4 (g4.trans g5)
      · subst z
        cases e7
        exact k3 d rfl v σ4 F4 H4 (g4.trans g5) r
  · left
    have hl : i = ds.length := by omega
    subst hl
    rw [List.drop_length] at e3
    cases e3
    exact ⟨(ok F' H' x1 g1.rel.ex).2, k1 rfl σ' F' H' g1⟩
/-! ### while -/
def whL (c : Fm → Option (Bool × Fm)) (f : Fm → Option (Fl × Fm)) : Nat → Fm → Option (Fl × Fm)
  | 0, _ => none
  | n + 1, ρ => (c ρ).bind fun x => if x.1 = true then (f x.2).bind fun y => (match y.1 with
    | .nx => whL c f n y.2
    | .bk => some (.nx, y.2)
    | .rt r => some (.rt r, y.2)) else some (.nx, x.2)
def sWhile (n : Nat) (c : Fm → Option (Bool × Fm)) (f : Fm → Option (Fl × Fm)) : Fm → Option (Fl × Fm) := whL c f n
theorem s_while (n : Nat) {c : Expr} (hp : PassesOwn (model X.prog X.w) X.A X.env X.xe) (hc : XB X c gt) (hb : PBl X body sf) : PSt X (.While c body [] pos) (sWhile n gt sf) := by
  obtain ⟨tc, a1, a2⟩ := hc
  obtain ⟨tb, c1, c2⟩ := hb
  refine ⟨_, ps_while hp a1 c1, fun F H σ ρ fl ρ' hf hR E k1 k2 k3 => ?_⟩
  refine ⟨fun m σ' H' => ∃ F' ρ1, Go X.K F H σ ρ F' H' σ' ρ1 ∧ whL gt sf m ρ1 = some (fl, ρ'), ⟨n, F, ρ, .refl hR, hf⟩, fun m σ' H' hW => ?_⟩
  obtain ⟨F', ρ1, g1, e3⟩ := hW
  cases m with
  | zero => cases e3
  | succ m =>
    obtain ⟨⟨b, ρ2⟩, e4, e5⟩ := Option.bind_eq_some_iff.mp e3
    refine a2 F' H' σ' ρ1 b ρ2 e4 g1.rel _ fun F2 H2 g2 => ?_
    have g3 := g1.trans g2.go
    split at e5
    · rename_i hb
      rw [if_pos hb]
      obtain ⟨⟨f1, ρ3⟩, e6, e7⟩ := Option.bind_eq_some_iff.mp e5
      refine ⟨fun σ2 H2 => f1 = .nx ∧ ∃ F2, Go X.K F H σ ρ F2 H2 σ2 ρ3, fun σ2 H2 hN => ?_, ?_⟩
      · obtain ⟨rfl, F3, g4⟩ := hN
        exact ⟨m, Nat.lt_succ_self _, F3, ρ3, g4, e7⟩
      · refine c2 F2 H2 σ' ρ2 f1 ρ3 e6 g3.rel _ (fun z σ4 F4 H4 g5 => ⟨z, F4, g3.trans g5⟩) (fun z σ4 F4 H4 g5 => ?_) fun d z v σ4 F4 H4 g5 r => ?_
        · subst z
          cases e7
          exact k1 rfl σ4 F4 H4 (g3.trans g5)
        · subst z
          cases e7
          exact k3 d rfl v σ4 F4 H4 (g3.trans g5) r
    · rename_i hb
      rw [if_neg hb]
      cases e5
      exact k1 rfl σ' F2 H2 g3
end
/-! ### comprehensions -/
def wipeB (ρ : Fm) : List Nat → Fm
  | [] => ρ
  | v :: vs => (wipeB ρ vs).set v .no
theorem wipeB_len (ρ : Fm) : ∀ vs : List Nat, (wipeB ρ vs).length = ρ.length
  | [] => rfl
  | v :: vs => by rw [wipeB, List.length_set, wipeB_len ρ vs]
theorem wipeB_get {ρ : Fm} {i : Nat} {b : B} : ∀ {vs : List Nat}, (wipeB ρ vs)[i]? = some b → (i ∈ vs ∧ b = .no) ∨ (i ∉ vs ∧ ρ[i]? = some b)
  | [], h => .inr ⟨List.not_mem_nil, h⟩
  | v :: vs, h => by
    by_cases hv : i = v
    · subst hv
      left
      refine ⟨List.mem_cons_self, ?_⟩
      have hl : i < (wipeB ρ vs).length := by
        have := (List.getElem?_eq_some_iff.mp h).1
        rwa [wipeB, List.length_set] at this
      rw [wipeB, List.getElem?_set_self hl] at h
      exact (Option.some.inj h).symm
    · rw [wipeB, List.getElem?_set_ne (fun z => hv z.symm)] at h
      rcases wipeB_get h with ⟨h1, h2⟩ | ⟨h1, h2⟩
      · exact .inl ⟨List.mem_cons_of_mem _ h1, h2⟩
      · exact .inr ⟨fun z => (List.mem_cons.mp z).elim hv h1, h2⟩
theorem wipe_out {σ : L2.St} {i : Nat} : ∀ {vs : List Nat}, i ∉ vs → (wipe σ vs)[i]? = σ[i]?
  | [], _ => rfl
  | v :: vs, h => by
    rw [wipe, List.getElem?_set_ne (fun z => h (by rw [z]; exact List.mem_cons_self)), wipe_out fun z => h (List.mem_cons_of_mem _ z)]
theorem wipe_in {σ : L2.St} {i : Nat} : ∀ {vs : List Nat}, i ∈ vs → i < σ.length → (wipe σ vs)[i]? = some none
  | v :: vs, h, hl => by
    by_cases hv : i = v
    · subst hv
      rw [wipe, List.getElem?_set_self (by rw [wipe_length]; exact hl)]
    · rw [wipe, List.getElem?_set_ne (fun z => hv z.symm)]
      exact wipe_in ((List.mem_cons.mp h).resolve_left hv) hl
theorem wipe_same {σ σ' : L2.St} {vs us : List Nat} (h : SameOut us (wipe σ vs) σ') (hs : ∀ i ∈ us, i ∈ vs) : wipe σ' vs = wipe σ vs := by
  apply List.ext_getElem?
  intro i
  by_cases hi : i ∈ vs
  · by_cases hl : i < σ.length
    · rw [wipe_in hi hl, wipe_in hi (by rw [h.1, wipe_length]; exact hl)]
    · rw [List.getElem?_eq_none (by rw [wipe_length, h.1, wipe_length]; omega), List.getElem?_eq_none (by rw [wipe_length]; omega)]
  · rw [wipe_out hi, h.2 i fun z => hi (hs i z)]
section
variable {K : PySem.W.Frag} {F H F' H' : Hp} {σ : L2.St} {ρ : Fm}
theorem Rel.wipe (h : Rel K F H σ ρ) (vs : List Nat) : Rel K F H (L2.wipe σ vs) (wipeB ρ vs) := by
  refine ⟨h.ex, by rw [wipe_length, wipeB_len]; exact h.len, fun i b e => ?_, fun i j b c a e1 o1 e2 o2 s1 s2 => ?_⟩
  · rcases wipeB_get e with ⟨_, rfl⟩ | ⟨h1, h2⟩
    · trivial
    · rw [wipe_out h1]
      exact h.at_ i b h2
  · rcases wipeB_get e1 with ⟨_, rfl⟩ | ⟨h1, h2⟩
    · cases o1
    · rcases wipeB_get e2 with ⟨_, rfl⟩ | ⟨h3, h4⟩
      · cases o2
      · rw [wipe_out h1] at s1
        rw [wipe_out h3] at s2
        exact h.sep i j b c a h2 o1 h4 o2 s1 s2
end
/-- plain: the item and the test read only -/
def lcP (t : Tg) (fc : Fm → Option Bool) (fe : Fm → Option D) (ρ : Fm) : List D → Option (List D)
  | [] => some []
  | d :: ds => (setT t d ρ).bind fun ρ1 => (fc ρ1).bind fun b => if b = true then (fe ρ1).bind fun x => (lcP t fc fe ρ ds).map (x :: ·) else lcP t fc fe ρ ds
def fLc (vs : List Nat) (t : Tg) (fi : Fm → Option (List D)) (fc : Fm → Option Bool) (fe : Fm → Option D) (ρ : Fm) : Option D := (fi ρ).bind fun ds => if ds.length ≤ bigN then (lcP t fc fe (wipeB ρ vs) ds).map .list else none
theorem sp_lc {K : PySem.W.Frag} {wi : TI} {g : TG} {tt : TT} {te : TE} {vs : List Nat} {t : Tg} {fi : Fm → Option (List D)} {fc : Fm → Option Bool} {fe : Fm → Option D} (hi : SI K wi fi) (hg : ST K g t) (ht : SB K tt fc) (he : SP K te fe) (hv : ∀ i ∈ slotsT t, i ∈ vs) : SP K (tLc wi g tt te vs) (fLc vs t fi fc fe) := by
  intro F H σ ρ d hf hR Q k
  obtain ⟨ds, e1, e2⟩ := Option.bind_eq_some_iff.mp hf
  split at e2
  · rename_i hz
    obtain ⟨rs, e3, e4⟩ := Option.map_eq_some_iff.mp e2
    subst e4
    refine hi F H σ ρ ds e1 hR _ fun J F0 H0 g0 ok => ?_
    intro Dl hD
    refine ⟨fun i m H' => m = ds.length - i ∧ i ≤ ds.length ∧ ∃ (F' : Hp) (acc : List V) (dacc rest : List D), Ex F0 F' ∧ Ex F' H' ∧ Ex H0 H' ∧ (∀ a, H0 a ≠ none → F0 a = none → F' a = none) ∧ F' Dl = none ∧ H' Dl = some (.lst acc) ∧ RpA K F' acc dacc ∧ dacc.length ≤ i ∧ lcP t fc fe (wipeB ρ vs) (ds.drop i) = some rest ∧ dacc ++ rest = rs,
      ⟨_, rfl, Nat.zero_le _, F0, [], [], rs, .refl _, g0.in_.trans (.new hD), .new hD, fun _ _ h => h, g0.in_.free hD, upd_same, .nil, Nat.le_refl _, e3, rfl⟩, fun i m H' hW => ?_⟩
    obtain ⟨rfl, hil, F', acc, dacc, rest, x1, x2, x3, hh, hFD, hHD, ra, hlen, e5, e6⟩ := hW
    by_cases h : i < ds.length
    · right
      have hd : ds[i]? = some ds[i] := List.getElem?_eq_getElem h
      obtain ⟨ha, hb⟩ := (ok F' H' x1 x2).1 i _ hd
      rw [List.drop_eq_getElem_cons h] at e5
      obtain ⟨ρ1, e7, e8⟩ := Option.bind_eq_some_iff.mp e5
      obtain ⟨b, e9, e10⟩ := Option.bind_eq_some_iff.mp e8
      refine ⟨ha, fun H2 => ∃ (F2 : Hp) (acc2 : List V) (dacc2 rest2 : List D), Ex F0 F2 ∧ Ex F2 H2 ∧ Ex H0 H2 ∧ (∀ a, H0 a ≠ none → F0 a = none → F2 a = none) ∧ F2 Dl = none ∧ H2 Dl = some (.lst acc2) ∧ RpA K F2 acc2 dacc2 ∧ dacc2.length ≤ i + 1 ∧ lcP t fc fe (wipeB ρ vs) (ds.drop (i + 1)) = some rest2 ∧ dacc2 ++ rest2 = rs, fun H2 hN => ?_, fun x H2 hy => ?_⟩
      · exact ⟨ds.length - (i + 1), by omega, rfl, h, hN⟩
      · obtain ⟨F2, gr, rx⟩ := hb x H2 hy
        have relw : Rel K F' H' (L2.wipe σ vs) (wipeB ρ vs) := by
          refine Rel.gr (Rel.wipe (hR.gr g0) vs) ?_ |> fun z => z
          exact ⟨x1, x2, x3, hh⟩
        have relw2 := relw.gr gr
        refine hg F2 H2 _ _ _ ρ1 x e7 relw2 rx _ fun σ2 g2 so => ⟨wipe_same so hv, ?_⟩
        refine ht F2 H2 σ2 ρ1 b e9 g2.rel _ fun F3 H3 g3 => ?_
        have g23 := gr.trans g3
        by_cases hbt : b = true
        · rw [if_pos hbt] at e10 ⊢
          obtain ⟨y, e11, e12⟩ := Option.bind_eq_some_iff.mp e10
          obtain ⟨rest2, e13, e14⟩ := Option.map_eq_some_iff.mp e12
          refine he F3 H3 σ2 ρ1 y e11 (g2.rel.gr g3) _ fun w F4 H4 g4 r4 => ?_
          have g24 := g23.trans g4
          have hD4 : H4 Dl = some (.lst acc) := g24.keep _ _ hHD
          have hF4 : F4 Dl = none := g24.hide Dl (by rw [hHD]; intro z; cases z) hFD
          refine ⟨acc, hD4, ?_, F4, acc ++ [w], dacc ++ [y], rest2, x1.trans g24.ex, fun q o hq => ?_, fun q o hq => ?_, fun q hq hf => g24.hide q (fun z => hq (x3.free z)) (hh q hq hf), hF4, upd_same, (ra.mono g24.ex).append (.one r4), ?_, e13, ?_⟩
          · rw [ra.length]
            exact Nat.lt_of_lt_of_le (by omega) big_le
          · have : q ≠ Dl := fun z => by rw [z, hF4] at hq; cases hq
            rw [upd_ne this]
            exact g24.in_ q o hq
          · have : q ≠ Dl := fun z => by rw [z, hD] at hq; cases hq
            rw [upd_ne this]
            exact g24.keep q o (x3 q o hq)
          · rw [List.length_append]
            show dacc.length + 1 ≤ i + 1
            omega
          · rw [List.append_assoc]
            show dacc ++ (y :: rest2) = rs
            rw [e14]
            exact e6
        · rw [if_neg hbt] at e10 ⊢
          exact ⟨F3, acc, dacc, rest, x1.trans g23.ex, g23.in_, x3.trans g23.keep, fun q hq hf => g23.hide q (fun z => hq (x3.free z)) (hh q hq hf), g23.hide Dl (by rw [hHD]; intro z; cases z) hFD, g23.keep _ _ hHD, ra.mono g23.ex, by omega, e10, e6⟩
    · left
      have hl : i = ds.length := by omega
      subst hl
      rw [List.drop_length] at e5
      cases e5
      rw [List.append_nil] at e6
      subst e6
      refine ⟨(ok F' H' x1 x2).2, ?_⟩
      refine k (.ref Dl) (upd F' Dl (.lst acc)) H' (g0.trans ⟨x1.trans (.new hFD), fun q o hq => ?_, x3, fun q hq hf => ?_⟩) (.lst (.inl (.inl upd_same)) (ra.mono (.new hFD)))
      · by_cases hqd : q = Dl
        · subst hqd
          rw [upd_same] at hq
          rw [← hq]
          exact hHD
        · rw [upd_ne hqd] at hq
          exact x2 q o hq
      · have : q ≠ Dl := fun z => hq (by rw [z]; exact hD)
        rw [upd_ne this]
        exact hh q hq hf
  · cases e2
section
variable {α : Type} {Y : α → Cx} {K : PySem.W.Frag} {e : Expr} {es : List Expr}
/-- one reading for a family of contexts -/
theorem all_PP {f : Fm → Option D} (hK : ∀ a, (Y a).K = K) (h : ∀ a, PP (Y a) e f) : ∃ t, (∀ a, PE (Y a) e t) ∧ SP K t f := by
  have h' : ∀ a, ∃ t, PE (Y a) e t ∧ SP K t f := fun a => let ⟨t, h1, h2⟩ := h a; ⟨t, h1, hK a ▸ h2⟩
  exact ⟨fun σ H Q => ∀ a, (h' a).choose σ H Q, fun a => ⟨fun pins s σ H Q I q => (h' a).choose_spec.1.run pins s σ H Q I (q a)⟩, fun F H σ ρ d hf hR Q k a => (h' a).choose_spec.2 F H σ ρ d hf hR Q k⟩
theorem all_XE {f : Fm → Option (D × Fm)} (hK : ∀ a, (Y a).K = K) (h : ∀ a, XE (Y a) e f) : ∃ t, (∀ a, PE (Y a) e t) ∧ SX K t f := by
  have h' : ∀ a, ∃ t, PE (Y a) e t ∧ SX K t f := fun a => let ⟨t, h1, h2⟩ := h a; ⟨t, h1, hK a ▸ h2⟩
  exact ⟨fun σ H Q => ∀ a, (h' a).choose σ H Q, fun a => ⟨fun pins s σ H Q I q => (h' a).choose_spec.1.run pins s σ H Q I (q a)⟩, fun F H σ ρ d ρ' hf hR Q k a => (h' a).choose_spec.2 F H σ ρ d ρ' hf hR Q k⟩
theorem all_PB {f : Fm → Option Bool} (hK : ∀ a, (Y a).K = K) (h : ∀ a, PB (Y a) e f) : ∃ t, (∀ a, PT (Y a) e t) ∧ SB K t f := by
  have h' : ∀ a, ∃ t, PT (Y a) e t ∧ SB K t f := fun a => let ⟨t, h1, h2⟩ := h a; ⟨t, h1, hK a ▸ h2⟩
  exact ⟨fun σ H Q => ∀ a, (h' a).choose σ H Q, fun a => ⟨fun pins s σ H Q I q => (h' a).choose_spec.1.run pins s σ H Q I (q a)⟩, fun F H σ ρ d hf hR Q k a => (h' a).choose_spec.2 F H σ ρ d hf hR Q k⟩
theorem all_XB {f : Fm → Option (Bool × Fm)} (hK : ∀ a, (Y a).K = K) (h : ∀ a, XB (Y a) e f) : ∃ t, (∀ a, PT (Y a) e t) ∧ SXB K t f := by
  have h' : ∀ a, ∃ t, PT (Y a) e t ∧ SXB K t f := fun a => let ⟨t, h1, h2⟩ := h a; ⟨t, h1, hK a ▸ h2⟩
  exact ⟨fun σ H Q => ∀ a, (h' a).choose σ H Q, fun a => ⟨fun pins s σ H Q I q => (h' a).choose_spec.1.run pins s σ H Q I (q a)⟩, fun F H σ ρ d ρ' hf hR Q k a => (h' a).choose_spec.2 F H σ ρ d ρ' hf hR Q k⟩
theorem all_PTg {t : Tg} (hK : ∀ a, (Y a).K = K) (h : ∀ a, PTg (Y a) e t) : ∃ g, (∀ a, PG (Y a) e g) ∧ ST K g t := by
  have h' : ∀ a, ∃ g, PG (Y a) e g ∧ ST K g t := fun a => let ⟨g, h1, h2⟩ := h a; ⟨g, h1, hK a ▸ h2⟩
  exact ⟨fun v σ H Q => ∀ a, (h' a).choose v σ H Q, fun a => ⟨fun pins s σ H v u Q I r q => (h' a).choose_spec.1.run pins s σ H v u Q I r (q a)⟩, fun F H σ ρ d ρ' v hf hR r Q k a => (h' a).choose_spec.2 F H σ ρ d ρ' v hf hR r Q k⟩
end
/-- what a comprehension's block is run in -/
structure BlkA where
  s : Shared
  H : Hp
  C : Addr
  cl : List (Str × Addr)
  fp : List Addr
abbrev blkOf (X : Cx) (scope : Scope) (a : BlkA) : Cx := X.blk a.s a.H scope (compEnvC scope a.cl a.C X.env) a.fp
section
variable {X : Cx} {elt tg iter c : Expr} {scope : Scope} {own : List (Str × Nat)} {pos spos py : Pos} {t : Tg} {fi : Fm → Option (List D)} {fc : Fm → Option Bool} {fe : Fm → Option D} {gc : Fm → Option (Bool × Fm)} {ge : Fm → Option (D × Fm)}
def fYes (_ : Fm) : Option Bool := some true
theorem sb_yes {K : PySem.W.Frag} : SB K tYes fYes := fun F H σ ρ b hf hR Q k => by
  cases hf
  exact k F H (.refl hR.ex)
theorem d_lc0 (hc : X.calm = true) (hN : X.N.Nodup) (hi : PIt X tg iter fi) (ok : BlkOk X.N X.env.scope scope own) (hg : ∀ a, PTg (blkOf X scope a) tg t) (he : ∀ a, PP (blkOf X scope a) elt fe) (hv : ∀ i ∈ slotsT t, i ∈ own.map (·.2)) (hs : ∀ x, foldedSetIterable iter X.env x = pure x := by intro _; rfl) :
    PP X (.ListComp elt [⟨tg, iter, [], 0⟩] scope pos) (fLc (own.map (·.2)) t fi fYes fe) := by
  obtain ⟨wi, a1, a2⟩ := hi
  obtain ⟨g, b1, b2⟩ := all_PTg (Y := fun a => blkOf X scope a) (K := X.K) (fun a => rfl) hg
  obtain ⟨te, c1, c2⟩ := all_PP (Y := fun a => blkOf X scope a) (K := X.K) (fun a => rfl) he
  exact ⟨_, pe_lc hc hN a1 ok (fun s H C cl fp => b1 ⟨s, H, C, cl, fp⟩) (fun _ _ _ _ _ => pts_nil) (fun s H C cl fp => c1 ⟨s, H, C, cl, fp⟩) hs, sp_lc a2 b2 sb_yes c2 hv⟩
theorem d_lc1 (hc : X.calm = true) (hN : X.N.Nodup) (hi : PIt X tg iter fi) (ok : BlkOk X.N X.env.scope scope own) (hg : ∀ a, PTg (blkOf X scope a) tg t) (ht : ∀ a, PB (blkOf X scope a) c fc) (he : ∀ a, PP (blkOf X scope a) elt fe) (hv : ∀ i ∈ slotsT t, i ∈ own.map (·.2)) (hs : ∀ x, foldedSetIterable iter X.env x = pure x := by intro _; rfl) :
    PP X (.ListComp elt [⟨tg, iter, [c], 0⟩] scope pos) (fLc (own.map (·.2)) t fi fc fe) := by
  obtain ⟨wi, a1, a2⟩ := hi
  obtain ⟨g, b1, b2⟩ := all_PTg (Y := fun a => blkOf X scope a) (K := X.K) (fun a => rfl) hg
  obtain ⟨te, c1, c2⟩ := all_PP (Y := fun a => blkOf X scope a) (K := X.K) (fun a => rfl) he
  obtain ⟨tt, d1, d2⟩ := all_PB (Y := fun a => blkOf X scope a) (K := X.K) (fun a => rfl) ht
  exact ⟨_, pe_lc hc hN a1 ok (fun s H C cl fp => b1 ⟨s, H, C, cl, fp⟩) (fun s H C cl fp => pts_one (d1 ⟨s, H, C, cl, fp⟩)) (fun s H C cl fp => c1 ⟨s, H, C, cl, fp⟩) hs, sp_lc a2 b2 d2 c2 hv⟩
/-- y = [..] on one line -/
theorem s_lc0 (i : Nat) {y : Str} (hc : X.calm = true) (hN : X.N.Nodup) (hi : PIt X tg iter fi) (ok : BlkOk X.N X.env.scope scope own) (hg : ∀ a, PTg (blkOf X scope a) tg t) (he : ∀ a, PP (blkOf X scope a) elt fe) (hv : ∀ i ∈ slotsT t, i ∈ own.map (·.2))
    (hsw : swapsWith (.ListComp elt [⟨tg, iter, [], 0⟩] scope pos) (some (.Name y py)) spos.line X.env = pure true) (hy : X.N[i]? = some y := by rfl) (hyl : X.env.scope.names.lookup y = some .local := by rfl) (hs : ∀ x, foldedSetIterable iter X.env x = pure x := by intro _; rfl) :
    PSt X (.Assign [.Name y py] (.ListComp elt [⟨tg, iter, [], 0⟩] scope pos) spos) (sAsg i (mSh (up (fLc (own.map (·.2)) t fi fYes fe)))) := by
  obtain ⟨wi, a1, a2⟩ := hi
  obtain ⟨g, b1, b2⟩ := all_PTg (Y := fun a => blkOf X scope a) (K := X.K) (fun a => rfl) hg
  obtain ⟨te, c1, c2⟩ := all_PP (Y := fun a => blkOf X scope a) (K := X.K) (fun a => rfl) he
  refine ⟨_, ps_setLc hc hN hy hyl hsw a1 ok (fun s H C cl fp => b1 ⟨s, H, C, cl, fp⟩) (fun _ _ _ _ _ => pts_nil) (fun s H C cl fp => c1 ⟨s, H, C, cl, fp⟩) hs, fun F H σ ρ fl ρ' hf hR E k1 k2 k3 => ?_⟩
  obtain ⟨⟨b, ρ1⟩, e1, e2⟩ := Option.map_eq_some_iff.mp hf
  cases e2
  obtain ⟨⟨d, ρ2⟩, e3, e4⟩ := Option.map_eq_some_iff.mp e1
  cases e4
  obtain ⟨e5, rfl⟩ := up_some e3
  exact sp_lc a2 b2 sb_yes c2 hv F H σ ρ d e5 hR _ fun v F1 H1 g1 r1 => k1 rfl _ F1 H1 ((Go.gr hR g1).trans (go_set (hR.gr g1) r1))
theorem s_lc1 (i : Nat) {y : Str} (hc : X.calm = true) (hN : X.N.Nodup) (hi : PIt X tg iter fi) (ok : BlkOk X.N X.env.scope scope own) (hg : ∀ a, PTg (blkOf X scope a) tg t) (ht : ∀ a, PB (blkOf X scope a) c fc) (he : ∀ a, PP (blkOf X scope a) elt fe) (hv : ∀ i ∈ slotsT t, i ∈ own.map (·.2))
    (hsw : swapsWith (.ListComp elt [⟨tg, iter, [c], 0⟩] scope pos) (some (.Name y py)) spos.line X.env = pure true) (hy : X.N[i]? = some y := by rfl) (hyl : X.env.scope.names.lookup y = some .local := by rfl) (hs : ∀ x, foldedSetIterable iter X.env x = pure x := by intro _; rfl) :
    PSt X (.Assign [.Name y py] (.ListComp elt [⟨tg, iter, [c], 0⟩] scope pos) spos) (sAsg i (mSh (up (fLc (own.map (·.2)) t fi fc fe)))) := by
  obtain ⟨wi, a1, a2⟩ := hi
  obtain ⟨g, b1, b2⟩ := all_PTg (Y := fun a => blkOf X scope a) (K := X.K) (fun a => rfl) hg
  obtain ⟨te, c1, c2⟩ := all_PP (Y := fun a => blkOf X scope a) (K := X.K) (fun a => rfl) he
  obtain ⟨tt, d1, d2⟩ := all_PB (Y := fun a => blkOf X scope a) (K := X.K) (fun a => rfl) ht
  refine ⟨_, ps_setLc hc hN hy hyl hsw a1 ok (fun s H C cl fp => b1 ⟨s, H, C, cl, fp⟩) (fun s H C cl fp => pts_one (d1 ⟨s, H, C, cl, fp⟩)) (fun s H C cl fp => c1 ⟨s, H, C, cl, fp⟩) hs, fun F H σ ρ fl ρ' hf hR E k1 k2 k3 => ?_⟩
  obtain ⟨⟨b, ρ1⟩, e1, e2⟩ := Option.map_eq_some_iff.mp hf
  cases e2
  obtain ⟨⟨d, ρ2⟩, e3, e4⟩ := Option.map_eq_some_iff.mp e1
  cases e4
  obtain ⟨e5, rfl⟩ := up_some e3
  exact sp_lc a2 b2 d2 c2 hv F H σ ρ d e5 hR _ fun v F1 H1 g1 r1 => k1 rfl _ F1 H1 ((Go.gr hR g1).trans (go_set (hR.gr g1) r1))
end
/-! ### defs -/
def startB (n : Nat) (ds : List D) : Fm := ds.map .sh ++ List.replicate (n - ds.length) .no
/-- what a def of data answers -/
def runP (n : Nat) (f : Fm → Option (Fl × Fm)) (ds : List D) : Option D := (f (startB n ds)).bind fun x => match x.1 with
  | .rt d => some d
  | .nx => some .none
  | .bk => none
def startI (n : Nat) (ls : List D) (ds : List D) : Fm := .io ls :: (ds.map .sh ++ List.replicate (n - 1 - ds.length) .no)
def ioOf : Option B → Option (List D)
  | some (.io ls) => some ls
  | _ => none
def runI (n : Nat) (f : Fm → Option (Fl × Fm)) (ls ds : List D) : Option (D × List D) := (f (startI n ls ds)).bind fun x => match x.1 with
  | .rt d => (ioOf x.2[0]?).map fun ls' => (d, ls')
  | .nx => (ioOf x.2[0]?).map fun ls' => (.none, ls')
  | .bk => none
theorem ioOf_some {o : Option B} {ls : List D} (h : ioOf o = some ls) : o = some (.io ls) := by
  unfold ioOf at h
  split at h
  · cases h
    rfl
  · cases h
section
variable {K : PySem.W.Frag}
theorem rel_start {F H : Hp} {vs : List V} {ds : List D} (N : List Str) (e : Ex F H) (r : RpA K F vs ds) : Rel K F H (L2.start N vs) (startB N.length ds) := by
  have get : ∀ (i : Nat) (b : B), (startB N.length ds)[i]? = some b → b = .no ∨ ∃ d, ds[i]? = some d ∧ b = .sh d := by
    intro i b h
    unfold startB at h
    rw [List.getElem?_append] at h
    split at h
    · rw [List.getElem?_map] at h
      obtain ⟨d, h1, h2⟩ := Option.map_eq_some_iff.mp h
      exact .inr ⟨d, h1, h2.symm⟩
    · left
      rw [List.getElem?_replicate] at h
      split at h
      · exact (Option.some.inj h).symm
      · cases h
  refine ⟨e, ?_, fun i b h => ?_, fun i j b c a h1 o1 h2 o2 => ?_⟩
  · unfold L2.start startB
    rw [List.length_append, List.length_append, List.length_map, List.length_map, List.length_replicate, List.length_replicate, r.length]
  · rcases get i b h with rfl | ⟨d, h1, rfl⟩
    · trivial
    · obtain ⟨v, h2, h3⟩ := r.get h1
      refine ⟨v, ?_, h3⟩
      unfold L2.start
      rw [List.getElem?_append_left (by rw [List.length_map]; exact (List.getElem?_eq_some_iff.mp h2).1), List.getElem?_map, h2]
      rfl
  · rcases get i b h1 with rfl | ⟨d, _, rfl⟩ <;> cases o1
theorem no_own {σ : L2.St} {n : Nat} {ds : List D} {a : Addr} : ¬ ownA σ (startB n ds) a := fun ⟨i, b, h, o, _⟩ => by
  unfold startB at h
  rw [List.getElem?_append] at h
  split at h
  · rw [List.getElem?_map] at h
    obtain ⟨d, h1, h2⟩ := Option.map_eq_some_iff.mp h
    subst h2
    cases o
  · rw [List.getElem?_replicate] at h
    split at h
    · cases h
      cases o
    · cases h
end
section
variable {P : Program} {w : World} {K : PySem.W.Frag} {mg : Str → Option Value} {base : Heap}
/-- THE RULE for a def of data: its body, for every context that it may be run in -/
theorem def_P {x qual : Str} {st : Stmt} {f : Addr} {fd : FuncData} {N ps : List Str} {k n : Nat} {sf : Fm → Option (Fl × Fm)} (Fn : Fun K x qual st f fd) (S : FnScope N ps (defScope st)) (hn : ps.length = n)
    (hbody : ∀ (cdv : Value) (A : Around) (outer : List Env) (s : Shared) (H : Hp) (E : XK), Room k (A.deeper (envOfC qual (defScope st) s.heap.objs.size f cdv)) → PBl (cxOf CX0 P w K mg base N qual (defScope st) f cdv A outer s H E).nox (defBody st) sf) :
    FnOk P w K mg base CX0 (k + 1) f fd ps (spP K (runP N.length sf) n) := by
  refine Fn.ok S (fun vs H Q E h => h.1.trans hn.symm) fun cdv A outer s H vs Q E hr h => ?_
  obtain ⟨hl, F, ds, d, ex, r, hg, q⟩ := h
  obtain ⟨t, h1, h2⟩ := hbody cdv A outer s H E hr
  refine ⟨t, h1, ?_⟩
  obtain ⟨⟨fl, ρ'⟩, e1, e2⟩ := Option.bind_eq_some_iff.mp hg
  have done : ∀ v σ' F' H', Go K F H (L2.start N vs) (startB N.length ds) F' H' σ' ρ' → Rp K F' v d → Q v H' := fun v σ' F' H' g r' =>
    q v F' H' ⟨g.ex, g.rel.ex, fun a o e => g.keep a o e no_own, fun a e f => g.hide a e f no_own⟩ r'
  refine h2 F H (L2.start N vs) (startB N.length ds) fl ρ' e1 (rel_start N ex r) _ (fun z σ' F' H' g => ?_) (fun z σ' F' H' g => ?_) fun d' z v σ' F' H' g r' => ?_
  · subst z
    cases e2
    exact done _ σ' F' H' g .non
  · subst z
    cases e2
  · subst z
    cases e2
    exact done _ σ' F' H' g r'
theorem def_I {x qual : Str} {st : Stmt} {f : Addr} {fd : FuncData} {N ps : List Str} {k n : Nat} {sf : Fm → Option (Fl × Fm)} (Fn : Fun K x qual st f fd) (S : FnScope N ps (defScope st)) (hn : ps.length = n + 1) (hNl : n + 1 ≤ N.length)
    (hbody : ∀ (cdv : Value) (A : Around) (outer : List Env) (s : Shared) (H : Hp) (E : XK), Room k (A.deeper (envOfC qual (defScope st) s.heap.objs.size f cdv)) → PBl (cxOf CX0 P w K mg base N qual (defScope st) f cdv A outer s H E).nox (defBody st) sf) :
    FnOk P w K mg base CX0 (k + 1) f fd ps (spI K (runI N.length sf) n) := by
  refine Fn.ok S (fun vs H Q E h => h.1.trans hn.symm) fun cdv A outer s H vs Q E hr h => ?_
  obtain ⟨hl, F, a, xs, ls, us, ds, d, ls', rfl, ex, ha, hfa, rl, r, hg, q⟩ := h
  obtain ⟨t, h1, h2⟩ := hbody cdv A outer s H E hr
  refine ⟨t, h1, ?_⟩
  obtain ⟨⟨fl, ρ'⟩, e1, e2⟩ := Option.bind_eq_some_iff.mp hg
  have get : ∀ (i : Nat) (b : B), (startI N.length ls ds)[i]? = some b → (i = 0 ∧ b = .io ls) ∨ b = .no ∨ ∃ d, ds[i - 1]? = some d ∧ b = .sh d ∧ 0 < i := by
    intro i b h
    cases i with
    | zero =>
      left
      exact ⟨rfl, (Option.some.inj h).symm⟩
    | succ i =>
      right
      unfold startI at h
      rw [List.getElem?_cons_succ, List.getElem?_append] at h
      split at h
      · rw [List.getElem?_map] at h
        obtain ⟨d, h1, h2⟩ := Option.map_eq_some_iff.mp h
        exact .inr ⟨d, h1, h2.symm, Nat.succ_pos _⟩
      · left
        rw [List.getElem?_replicate] at h
        split at h
        · exact (Option.some.inj h).symm
        · cases h
  have hs : ∀ i, (L2.start N (V.ref a :: us))[i + 1]? = (L2.start N.tail us)[i]? := by
    intro i
    unfold L2.start
    rw [List.map_cons, List.cons_append, List.getElem?_cons_succ]
    have : N.length - (V.ref a :: us).length = N.tail.length - us.length := by
      rw [List.length_cons, List.length_tail]
      omega
    rw [this]
  have hul : us.length = n := by
    rw [List.length_cons] at hl
    omega
  have hlen : (L2.start N (V.ref a :: us)).length = (startI N.length ls ds).length := by
    unfold L2.start startI
    have := r.length
    simp only [List.length_append, List.length_cons, List.length_map, List.length_replicate]
    omega
  have rel : Rel K F H (L2.start N (V.ref a :: us)) (startI N.length ls ds) := by
    refine ⟨ex, hlen, fun i b h => ?_, fun i j b c x h1 o1 h2 o2 _ _ => ?_⟩
    · rcases get i b h with ⟨rfl, rfl⟩ | rfl | ⟨d, h1, rfl, hi⟩
      · exact ⟨a, xs, rfl, ha, hfa, rl⟩
      · trivial
      · obtain ⟨i, rfl⟩ : ∃ j, i = j + 1 := ⟨i - 1, by omega⟩
        obtain ⟨v, h2, h3⟩ := r.get h1
        refine ⟨v, ?_, h3⟩
        rw [hs]
        unfold L2.start
        rw [List.getElem?_append_left (by rw [List.length_map]; exact (List.getElem?_eq_some_iff.mp h2).1), List.getElem?_map]
        rw [show i + 1 - 1 = i from rfl] at h2
        rw [h2]
        rfl
    · rcases get i b h1 with ⟨rfl, rfl⟩ | rfl | ⟨d, _, rfl, _⟩
      · rcases get j c h2 with ⟨rfl, rfl⟩ | rfl | ⟨d, _, rfl, _⟩
        · rfl
        · cases o2
        · cases o2
      · cases o1
      · cases o1
  have own : ∀ x, ownA (L2.start N (V.ref a :: us)) (startI N.length ls ds) x → x = a := fun x ⟨i, b, h, o, s⟩ => by
    rcases get i b h with ⟨rfl, rfl⟩ | rfl | ⟨d, _, rfl, _⟩
    · exact (V.ref.inj (Option.some.inj (Option.some.inj s))).symm
    · cases o
    · cases o
  have done : ∀ v σ' F' H', ρ'[0]? = some (.io ls') → Go K F H (L2.start N (V.ref a :: us)) (startI N.length ls ds) F' H' σ' ρ' → Rp K F' v d → Q v H' := fun v σ' F' H' e0 g r' => by
    obtain ⟨_, s0⟩ := g.io 0 ls' e0
    obtain ⟨a', xs', f1, f2, f3, f4⟩ := g.rel.at_ 0 _ e0
    rw [s0] at f1
    have : a' = a := (V.ref.inj (Option.some.inj (Option.some.inj f1))).symm
    subst this
    refine q v F' H' xs' g.ex g.rel.ex (fun b o e nb => g.keep b o e fun z => nb (own b z)) (fun b e f => ?_) f2 f4 r'
    by_cases hb : b = a'
    · rw [hb]; exact f3
    · exact g.hide b e f fun z => hb (own b z)
  refine h2 F H _ _ fl ρ' e1 rel _ (fun z σ' F' H' g => ?_) (fun z σ' F' H' g => ?_) fun d' z v σ' F' H' g r' => ?_
  · subst z
    obtain ⟨l2, e3, e4⟩ := Option.map_eq_some_iff.mp e2
    cases e4
    exact done _ σ' F' H' (ioOf_some e3) g .non
  · subst z
    cases e2
  · subst z
    obtain ⟨l2, e3, e4⟩ := Option.map_eq_some_iff.mp e2
    cases e4
    exact done _ σ' F' H' (ioOf_some e3) g r'
end
end DL
end
section
set_option Elab.async false
set_option linter.all false
set_option maxRecDepth 100000
/-! sorted(set(..)) of pairs; comprehensions with effects. -/
namespace DL
open PySem PySem.Spec PyProof.Rows L2
/-! ### strictly ascending lists -/
theorem asc_ext {α : Type} {lt : α → α → Prop} (irr : ∀ x, ¬ lt x x) (asy : ∀ x y, lt x y → ¬ lt y x) : ∀ {l m : List α}, l.Pairwise lt → m.Pairwise lt → (∀ x, x ∈ l ↔ x ∈ m) → l = m
  | [], [], _, _, _ => rfl
  | [], y :: m, _, _, h => absurd ((h y).mpr List.mem_cons_self) List.not_mem_nil
  | x :: l, [], _, _, h => absurd ((h x).mp List.mem_cons_self) List.not_mem_nil
  | x :: l, y :: m, hl, hm, h => by
    have a := List.pairwise_cons.mp hl
    have b := List.pairwise_cons.mp hm
    have e : x = y := by
      rcases List.mem_cons.mp ((h x).mp List.mem_cons_self) with e | h1
      · exact e
      · rcases List.mem_cons.mp ((h y).mpr List.mem_cons_self) with e | h2
        · exact e.symm
        · exact absurd (a.1 y h2) (asy _ _ (b.1 x h1))
    subst e
    have : l = m := asc_ext irr asy a.2 b.2 fun z => by
      constructor
      · intro hz
        rcases List.mem_cons.mp ((h z).mp (List.mem_cons_of_mem _ hz)) with e | h1
        · subst e
          exact absurd (a.1 _ hz) (irr _)
        · exact h1
      · intro hz
        rcases List.mem_cons.mp ((h z).mpr (List.mem_cons_of_mem _ hz)) with e | h1
        · subst e
          exact absurd (b.1 _ hz) (irr _)
        · exact h1
    rw [this]
def ltPr (p q : Int × Int) : Prop := p.1 < q.1 ∨ (p.1 = q.1 ∧ p.2 < q.2)
instance (p q : Int × Int) : Decidable (ltPr p q) := inferInstanceAs (Decidable (_ ∨ _))
def insP (p : Int × Int) : List (Int × Int) → List (Int × Int)
  | [] => [p]
  | q :: r => if ltPr p q then p :: q :: r else if ltPr q p then q :: insP p r else q :: r
def ssP (ps : List (Int × Int)) : List (Int × Int) := ps.foldr insP []
theorem ltPr_or {p q : Int × Int} (h1 : ¬ ltPr p q) (h2 : ¬ ltPr q p) : p = q := by
  unfold ltPr at h1 h2
  obtain ⟨a, b⟩ := p
  obtain ⟨c, d⟩ := q
  simp only at h1 h2
  have : a = c := by omega
  have : b = d := by omega
  simp_all
theorem mem_insP {p x : Int × Int} : ∀ {l : List (Int × Int)}, x ∈ insP p l ↔ x = p ∨ x ∈ l
  | [] => by simp [insP]
  | q :: r => by
    unfold insP
    split
    · simp
    · split
      · rw [List.mem_cons, mem_insP, List.mem_cons]
        constructor
        · rintro (h | h | h)
          · exact .inr (.inl h)
          · exact .inl h
          · exact .inr (.inr h)
        · rintro (h | h | h)
          · exact .inr (.inl h)
          · exact .inl h
          · exact .inr (.inr h)
      · rename_i h1 h2
        have := ltPr_or h1 h2
        subst this
        simp
theorem insP_asc {p : Int × Int} : ∀ {l : List (Int × Int)}, l.Pairwise ltPr → (insP p l).Pairwise ltPr
  | [], _ => by simp [insP]
  | q :: r, h => by
    have a := List.pairwise_cons.mp h
    unfold insP
    split
    · rename_i hpq
      refine List.pairwise_cons.mpr ⟨fun x hx => ?_, h⟩
      rcases List.mem_cons.mp hx with e | hx
      · rw [e]; exact hpq
      · have := a.1 x hx
        unfold ltPr at *
        omega
    · split
      · rename_i hqp
        refine List.pairwise_cons.mpr ⟨fun x hx => ?_, insP_asc a.2⟩
        rcases mem_insP.mp hx with e | hx
        · rw [e]; exact hqp
        · exact a.1 x hx
      · exact h
theorem mem_ssP {x : Int × Int} : ∀ {ps : List (Int × Int)}, x ∈ ssP ps ↔ x ∈ ps
  | [] => by simp [ssP]
  | p :: ps => by
    show x ∈ insP p (ssP ps) ↔ _
    rw [mem_insP, mem_ssP, List.mem_cons]
theorem ssP_asc : ∀ (ps : List (Int × Int)), (ssP ps).Pairwise ltPr
  | [] => .nil
  | p :: ps => insP_asc (ssP_asc ps)
def pairD (p : Int × Int) : D := .tuple [.int p.1, .int p.2]
def pairsD : List D → Option (List (Int × Int))
  | [] => some []
  | .tuple [.int a, .int b] :: r => (pairsD r).map ((a, b) :: ·)
  | _ :: _ => none
def gSS : D → Option D
  | .list ds => (pairsD ds).bind fun ps => if ps.length < 64 ∧ ∀ p ∈ ps, (0 ≤ p.1 ∧ p.1 < 64) ∧ 0 ≤ p.2 ∧ p.2 < 64 then some (.list ((ssP ps).map pairD)) else none
  | _ => none
section
variable {K : PySem.W.Frag} {F H : Hp}
theorem pairs_of : ∀ {xs : List V} {ds : List D} {ps : List (Int × Int)}, RpA K F xs ds → pairsD ds = some ps → ∃ ks : List (Addr × (Int × Int)), xs = ks.map (fun k => V.ref k.1) ∧ ps = ks.map (·.2) ∧ ∀ k ∈ ks, SqT K F k.1 [V.int k.2.1, V.int k.2.2]
  | _, _, _, .nil, h => by
    cases h
    exact ⟨[], rfl, rfl, fun k hk => nomatch hk⟩
  | _, _, _, .cons (d := d) (ds := ds) r t, h => by
    unfold pairsD at h
    split at h
    · rename_i e
      cases e
    · rename_i a b r' e
      cases e
      obtain ⟨ps, h1, h2⟩ := Option.map_eq_some_iff.mp h
      obtain ⟨ks, k1, k2, k3⟩ := pairs_of t h1
      cases r with
      | tup s r =>
        cases r with
        | cons r1 r =>
          cases r with
          | cons r2 r =>
            cases r
            cases r1
            cases r2
            rename_i q
            refine ⟨(q, (a, b)) :: ks, by rw [k1]; rfl, by rw [← h2, k2]; rfl, fun k hk => ?_⟩
            rcases List.mem_cons.mp hk with e | hk
            · subst e; exact s
            · exact k3 k hk
    · cases h
theorem rp_pairs {ks : List (Addr × (Int × Int))} (h : ∀ k ∈ ks, SqT K F k.1 [V.int k.2.1, V.int k.2.2]) : RpA K F (ks.map fun k => V.ref k.1) (ks.map fun k => pairD k.2) := by
  induction ks with
  | nil => exact .nil
  | cons k ks ih => exact .cons (.tup (h k List.mem_cons_self) (.cons (.int _) (.cons (.int _) .nil))) (ih fun k hk => h k (List.mem_cons_of_mem _ hk))
end
section
variable {X : Cx} {e : Expr} {pos p p2 pos2 : Pos} {fe : Fm → Option D}
/-- sorted(set(e)), e a list of pairs -/
theorem d_ss {k : Nat} (hc : X.calm = true) (hr : Room k X.A) (B : Bt X.mg) (ha : PV X e fe) (hg : Gl X "sorted" := by rfl) (hg2 : Gl X "set" := by rfl) (hs : starEach [e] X.env = (false, eval e X.env) :: starEach [] X.env := by rfl) :
    PP X (.Call (.Name "sorted" p) [.Call (.Name "set" p2) [e] [] pos2] [] pos) (fOp1 gSS fe) := by
  obtain ⟨t, h1, h2⟩ := ha
  refine ⟨_, pe_callB (cr_sortedT hc) hg B.sorted PyProof.Rows.boot_sorted (pa_cons (pe_callTy (cr_setOfT hc hr.units) hg2 B.set PyProof.Rows.boot_set (pa_cons h1 pa_nil hs) (by decide) (by decide) hs rfl) pa_nil rfl) (by decide) (by decide) rfl rfl, fun F H σ ρ d hf hR Q q => ?_⟩
  obtain ⟨dx, e1, e2⟩ := Option.bind_eq_some_iff.mp hf
  unfold gSS at e2
  split at e2
  · rename_i ds
    obtain ⟨ps, e3, e4⟩ := Option.bind_eq_some_iff.mp e2
    split at e4
    · rename_i hz
      cases e4
      refine h2 F H σ ρ _ e1 hR _ fun v F1 H1 g1 r1 => ?_
      obtain ⟨a, xs, rfl, s1, rl⟩ := r1.list g1.in_
      obtain ⟨ks, k1, k2, k3⟩ := pairs_of rl e3
      have hk3 : ∀ k ∈ ks, SqT X.K H1 k.1 [V.int k.2.1, V.int k.2.2] := fun k hk => g1.in_.sqt (k3 k hk)
      refine ⟨a, ks.map fun k => (k.1, [k.2.1, k.2.2]), rfl, ?_, ?_, ?_, fun b L hb hL1 hL2 => ?_⟩
      · rw [List.map_map]
        rw [k1] at s1
        exact s1
      · intro q hq
        obtain ⟨k, hk, rfl⟩ := List.mem_map.mp hq
        exact hk3 k hk
      · have := hz.1
        rw [k2, List.length_map] at this
        rw [List.length_map]
        exact this
      · -- the set is there
        have g2 : Gr F1 H1 F1 (upd H1 b (SetTO X.prog X.w b L)) := .newH g1.in_ hb
        have inL : ∀ q ∈ L, ∃ k ∈ ks, q = (k.1, [k.2.1, k.2.2]) := fun q hq => by
          obtain ⟨k, hk, e⟩ := List.mem_map.mp (hL1 q hq)
          exact ⟨k, hk, e.symm⟩
        have bd : ∀ k ∈ ks, (0 ≤ k.2.1 ∧ k.2.1 < 64) ∧ 0 ≤ k.2.2 ∧ k.2.2 < 64 := fun k hk => hz.2 k.2 (by rw [k2]; exact List.mem_map.mpr ⟨k, hk, rfl⟩)
        refine ⟨b, L, 2, 64, rfl, upd_same, fun q hq => ?_, by decide, fun q hq => ?_, fun L' pL hp hnd hln hpw hpn => ?_⟩
        · obtain ⟨k, hk, rfl⟩ := inL q hq
          exact g2.keep.sqt (hk3 k hk)
        · obtain ⟨k, hk, rfl⟩ := inL q hq
          refine ⟨rfl, ?_⟩
          have := bd k hk
          intro n hn
          rcases List.mem_cons.mp hn with e | hn
          · rw [e]; exact this.1
          · rw [List.mem_singleton.mp hn]; exact this.2
        · -- L' as pairs
          have inL' : ∀ q ∈ L', ∃ k ∈ ks, q = (k.1, [k.2.1, k.2.2]) := fun q hq => inL q (hp.mem_iff.mp hq)
          obtain ⟨ms, m1, m2⟩ : ∃ ms : List (Addr × (Int × Int)), L' = ms.map (fun k => (k.1, [k.2.1, k.2.2])) ∧ ∀ k ∈ ms, k ∈ ks := by
            clear hp hnd hln hpw hL2
            induction L' with
            | nil => exact ⟨[], rfl, fun k hk => nomatch hk⟩
            | cons q L' ih =>
              obtain ⟨ms, m1, m2⟩ := ih fun q hq => inL' q (List.mem_cons_of_mem _ hq)
              obtain ⟨k, hk, e⟩ := inL' q List.mem_cons_self
              refine ⟨k :: ms, by rw [m1, e]; rfl, fun x hx => ?_⟩
              rcases List.mem_cons.mp hx with e | hx
              · rw [e]; exact hk
              · exact m2 x hx
          have hasc : (ms.map (·.2)).Pairwise ltPr := by
            rw [List.pairwise_map]
            rw [m1, List.pairwise_map] at hpw
            rw [m1, List.map_map] at hnd
            have hnd' := List.pairwise_map.mp hnd
            refine (hpw.and hnd').imp_of_mem fun {x y} hx hy ⟨h1, h2⟩ => ?_
            have bx := bd x (m2 x hx)
            have by' := bd y (m2 y hy)
            exact pair_lt h1 h2 bx.1 bx.2 by'.1 by'.2
          have hmem : ∀ z, z ∈ ms.map (·.2) ↔ z ∈ ssP ps := fun z => by
            rw [mem_ssP, k2]
            constructor
            · intro hz
              obtain ⟨k, hk, rfl⟩ := List.mem_map.mp hz
              exact List.mem_map.mpr ⟨k, m2 k hk, rfl⟩
            · intro hz
              obtain ⟨k, hk, rfl⟩ := List.mem_map.mp hz
              have h1 := hL2 (k.1, [k.2.1, k.2.2]) (List.mem_map.mpr ⟨k, hk, rfl⟩)
              obtain ⟨q, hq, e⟩ := List.mem_map.mp h1
              have hq' := hp.mem_iff.mpr hq
              rw [m1] at hq'
              obtain ⟨k', hk', rfl⟩ := List.mem_map.mp hq'
              refine List.mem_map.mpr ⟨k', hk', ?_⟩
              have e' : [k'.2.1, k'.2.2] = [k.2.1, k.2.2] := e
              injection e' with e1 e2
              injection e2 with e2 _
              exact Prod.ext e1 e2
          have hlist : ms.map (·.2) = ssP ps := asc_ext (fun x h => by unfold ltPr at h; omega) (fun x y h h' => by unfold ltPr at h h'; omega) hasc (ssP_asc ps) hmem
          have hfin : RpA X.K F1 (L'.map fun q => V.ref q.1) ((ssP ps).map pairD) := by
            rw [m1, ← hlist, List.map_map, List.map_map]
            exact rp_pairs fun k hk => k3 k (m2 k hk)
          exact ((q.gr g1).gr g2).lst g2.in_ hfin pL hpn
    · cases e4
  · cases e2
end
end DL
end
section
set_option Elab.async false
set_option linter.all false
set_option maxRecDepth 100000
/-! Walks and comprehensions with effects. -/
namespace DL
open PySem PySem.Spec PyProof.Rows L2
def SXI (K : PySem.W.Frag) (wi : TI) (f : Fm → Option (List D × Fm)) : Prop := ∀ F H σ ρ ds ρ', f ρ = some (ds, ρ') → Rel K F H σ ρ → ∀ R : It → Hp → Prop, (∀ J F' H', GoE K F H σ ρ F' H' ρ' → ItOk K J F' ds → R J H') → wi σ H R
def XIt (X : Cx) (tg e : Expr) (f : Fm → Option (List D × Fm)) : Prop := ∃ wi, PI X tg e wi ∧ SXI X.K wi f
section
variable {X : Cx} {e a b c : Expr} {es ts : List Expr} {pos p q tp vp apos cpos : Pos} {fi : Fm → Option (List D)} {xi : Fm → Option (List D × Fm)} {sf sg : Fm → Option (Fl × Fm)} {body : List Stmt} {iter : Expr} {ge ga gb : Fm → Option (D × Fm)}
theorem PIt.toX {tg : Expr} (h : PIt X tg e fi) : XIt X tg e (up fi) := let ⟨w, h1, h2⟩ := h; ⟨w, h1, fun F H σ ρ ds ρ' hf hR R k => by
  obtain ⟨e1, rfl⟩ := up_some hf
  exact h2 F H σ ρ ds e1 hR R fun J F' H' g ok => k J F' H' (.gr hR g) ok⟩
def xRg1 (f : Fm → Option (D × Fm)) (ρ : Fm) : Option (List D × Fm) := match f ρ with
  | some (.int j, ρ') => if smR j then some (rngD 0 j.toNat, ρ') else none
  | _ => none
theorem xi_rg1 {tg : Expr} (B : Bt X.mg) (h : XE X e ge) (hg : Gl X "range" := by rfl) (hs : starEach [e] X.env = (false, eval e X.env) :: starEach [] X.env := by rfl) : XIt X tg (.Call (.Name "range" p) [e] [] pos) (xRg1 ge) := by
  obtain ⟨t, h1, h2⟩ := h
  refine ⟨_, pi_range1 hg B.range (pa_cons h1 pa_nil hs) hs, fun F H σ ρ ds ρ' hf hR R k => ?_⟩
  unfold xRg1 at hf
  split at hf
  · rename_i j ρ1 e1
    split at hf
    · rename_i hz
      cases hf
      unfold smR at hz
      simp only [Bool.and_eq_true, decide_eq_true_eq] at hz
      refine h2 F H σ ρ _ _ e1 hR _ fun v F1 H1 g1 r1 => ?_
      exact ⟨j, by rw [r1.intI], hz.1, hz.2, k _ F1 H1 g1 ok_rng⟩
    · cases hf
  · cases hf
def xSeq (f : Fm → Option (D × Fm)) (ρ : Fm) : Option (List D × Fm) := (f ρ).bind fun x => (seqD x.1).map fun ds => (ds, x.2)
theorem xi_seq {tg : Expr} (h : XE X e ge) : XIt X tg e (xSeq ge) := by
  obtain ⟨t, h1, h2⟩ := h
  refine ⟨_, pi_or (pi_list h1) (pi_or (pi_tup h1) (pi_str h1)), fun F H σ ρ ds ρ' hf hR R k => ?_⟩
  obtain ⟨⟨d, ρ1⟩, e1, e2⟩ := Option.bind_eq_some_iff.mp hf
  obtain ⟨es, e2, e3⟩ := Option.map_eq_some_iff.mp e2
  cases e3
  unfold seqD at e2
  split at e2
  · rename_i xs ed
    cases e2
    have ed' : d = .list _ := ed
    subst ed'
    refine .inl (h2 F H σ ρ _ _ e1 hR _ fun v F1 H1 g1 r1 => ?_)
    cases r1 with
    | lst s r => exact ⟨_, rfl, ⟨_, g1.rel.ex.sql s⟩, k _ F1 H1 g1 (ok_list s r)⟩
  · rename_i xs ed
    cases e2
    have ed' : d = .tuple _ := ed
    subst ed'
    refine .inr (.inl (h2 F H σ ρ _ _ e1 hR _ fun v F1 H1 g1 r1 => ?_))
    cases r1 with
    | tup s r => exact ⟨_, rfl, ⟨_, g1.rel.ex.sqt s⟩, k _ F1 H1 g1 (ok_tup s r)⟩
  · rename_i x ed
    cases e2
    have ed' : d = .str x := ed
    subst ed'
    refine .inr (.inr (h2 F H σ ρ _ _ e1 hR _ fun v F1 H1 g1 r1 => ?_))
    exact ⟨_, r1.strI, k _ F1 H1 g1 ok_str⟩
  · cases e2
/-! ### for -/
def sForX (t : Tg) (fi : Fm → Option (List D × Fm)) (f : Fm → Option (Fl × Fm)) (ρ : Fm) : Option (Fl × Fm) := (fi ρ).bind fun x => forL t f x.1 x.2
theorem s_forX {t : Tg} (hp : PassesOwn (model X.prog X.w) X.A X.env X.xe) (hc : X.calm = true) (hi : XIt X e iter xi) (hg : PTg X e t) (hb : PBl X body sf) (hs : ∀ x, foldedSetIterable iter X.env x = pure x := by intro _; rfl) : PSt X (.For e iter body [] pos) (sForX t xi sf) := by
  obtain ⟨wi, a1, a2⟩ := hi
  obtain ⟨g, b1, b2⟩ := hg
  obtain ⟨tb, c1, c2⟩ := hb
  refine ⟨_, ps_for hp hc a1 b1 c1 hs, fun F H σ ρ fl ρ' hf hR E k1 k2 k3 => ?_⟩
  obtain ⟨⟨ds, ρ0⟩, e1, e2⟩ := Option.bind_eq_some_iff.mp hf
  refine a2 F H σ ρ ds ρ0 e1 hR _ fun J F0 H0 g0 ok => ?_
  refine ⟨fun i m σ' H' => m = ds.length - i ∧ i ≤ ds.length ∧ ∃ F' ρ1, Go X.K F H σ ρ F' H' σ' ρ1 ∧ Ex F0 F' ∧ forL t sf (ds.drop i) ρ1 = some (fl, ρ'), ⟨_, rfl, Nat.zero_le _, F0, ρ0, g0.go, .refl _, e2⟩, fun i m σ' H' hW => ?_⟩
  obtain ⟨rfl, hi, F', ρ1, g1, x1, e3⟩ := hW
  by_cases h : i < ds.length
  · right
    have hd : ds[i]? = some ds[i] := List.getElem?_eq_getElem h
    obtain ⟨ha, hb⟩ := (ok F' H' x1 g1.rel.ex).1 i _ hd
    rw [List.drop_eq_getElem_cons h] at e3
    obtain ⟨ρ2, e4, e5⟩ := Option.bind_eq_some_iff.mp e3
    obtain ⟨⟨f1, ρ3⟩, e6, e7⟩ := Option.bind_eq_some_iff.mp e5
    refine ⟨ha, fun σ2 H2 => f1 = .nx ∧ ∃ F2, Go X.K F H σ ρ F2 H2 σ2 ρ3 ∧ Ex F0 F2, fun σ2 H2 hN => ?_, fun x H2 hy => ?_⟩
    · obtain ⟨rfl, F2, g2, x2⟩ := hN
      exact ⟨ds.length - (i + 1), by omega, rfl, h, F2, ρ3, g2, x2, e7⟩
    · obtain ⟨F2, gr, rx⟩ := hb x H2 hy
      have g2 := g1.trans (.gr g1.rel gr)
      refine b2 F2 H2 σ' ρ1 _ ρ2 x e4 g2.rel rx _ fun σ3 g3 _ => ?_
      have g4 := g2.trans g3
      refine c2 F2 H2 σ3 ρ2 f1 ρ3 e6 g4.rel _ (fun z σ4 F4 H4 g5 => ?_) (fun z σ4 F4 H4 g5 => ?_) fun d z v σ4 F4 H4 g5 r => ?_
      · exact ⟨z, F4, g4.trans g5, (x1.trans gr.ex).trans g5.ex⟩
      · subst z
        cases e7
        exact k1 rfl σ4 F4 H4 (g4.trans g5)
      · subst z
        cases e7
        exact k3 d rfl v σ4 F4 H4 (g4.trans g5) r
  · left
    have hl : i = ds.length := by omega
    subst hl
    rw [List.drop_length] at e3
    cases e3
    exact ⟨(ok F' H' x1 g1.rel.ex).2, k1 rfl σ' F' H' g1⟩
end
/-! ### comprehensions -/
def xlcL (vs : List Nat) (t : Tg) (fc : Fm → Option (Bool × Fm)) (fe : Fm → Option (D × Fm)) : List D → Fm → Option (List D × Fm)
  | [], ρ => some ([], ρ)
  | d :: ds, ρ => (setT t d ρ).bind fun ρ1 => (fc ρ1).bind fun x => if x.1 = true then (fe x.2).bind fun y => (xlcL vs t fc fe ds (wipeB y.2 vs)).map fun r => (y.1 :: r.1, r.2) else xlcL vs t fc fe ds (wipeB x.2 vs)
/-- the names of the comprehension stand as before -/
def backB (ρ ρ' : Fm) (vs : List Nat) : Fm := (List.range ρ'.length).map fun i => if i ∈ vs then (match ρ[i]? with
  | some (.sh d) => .sh d
  | _ => .no) else (ρ'[i]?).getD .no
def xLc (vs : List Nat) (t : Tg) (fi : Fm → Option (List D × Fm)) (fc : Fm → Option (Bool × Fm)) (fe : Fm → Option (D × Fm)) (ρ : Fm) : Option (D × Fm) := (fi ρ).bind fun x => if x.1.length ≤ bigN then (xlcL vs t fc fe x.1 (wipeB x.2 vs)).map fun r => (.list r.1, backB x.2 r.2 vs) else none
section
variable {K : PySem.W.Frag} {F H F' H' : Hp} {σ σ' : L2.St} {ρ ρ' : Fm}
theorem backB_get {vs : List Nat} {i : Nat} {b : B} (h : (backB ρ ρ' vs)[i]? = some b) : (i ∈ vs ∧ (b = .no ∨ ∃ d, b = .sh d ∧ ρ[i]? = some (.sh d))) ∨ (i ∉ vs ∧ ρ'[i]? = some b) := by
  unfold backB at h
  rw [List.getElem?_map] at h
  obtain ⟨j, h1, h2⟩ := Option.map_eq_some_iff.mp h
  obtain ⟨hi, h3⟩ := List.getElem?_eq_some_iff.mp h1
  rw [List.getElem_range] at h3
  subst h3
  rw [List.length_range] at hi
  split at h2
  · rename_i hv
    left
    refine ⟨hv, ?_⟩
    split at h2
    · rename_i d e
      exact .inr ⟨d, h2.symm, e⟩
    · exact .inl h2.symm
  · rename_i hv
    right
    refine ⟨hv, ?_⟩
    rw [List.getElem?_eq_getElem hi] at h2
    rw [List.getElem?_eq_getElem hi]
    exact congrArg some h2
theorem backB_len {vs : List Nat} : (backB ρ ρ' vs).length = ρ'.length := by
  unfold backB
  rw [List.length_map, List.length_range]
theorem go_wipe (h : Rel K F H σ ρ) (vs : List Nat) : Go K F H σ ρ F H (L2.wipe σ vs) (wipeB ρ vs) := by
  refine ⟨h.wipe vs, .refl _, fun _ _ e _ => e, fun _ e => e, fun _ _ e _ => e, fun a o => ?_, fun i ds e => ?_⟩
  · obtain ⟨i, b, e, ob, s⟩ := o
    rcases wipeB_get e with ⟨_, rfl⟩ | ⟨h1, h2⟩
    · cases ob
    · rw [wipe_out h1] at s
      exact .inl ⟨i, b, h2, ob, s⟩
  · rcases wipeB_get e with ⟨_, z⟩ | ⟨h1, h2⟩
    · cases z
    · exact ⟨⟨ds, h2⟩, wipe_out h1⟩
theorem go_updD {Dl : Addr} {o : HO} (g : Go K F H σ ρ F' H' σ' ρ') (hD : H Dl = none) (hF : F' Dl = none) (no : ¬ ownA σ' ρ' Dl) : Go K F H σ ρ F' (upd H' Dl o) σ' ρ' := by
  have ne : ∀ a x, H a = some x → a ≠ Dl := fun a x e z => by rw [z, hD] at e; cases e
  refine ⟨⟨fun a x e => ?_, g.rel.len, fun i b e => ?_, g.rel.sep⟩, g.ex, fun a x e n => ?_, fun a e => ?_, g.hide, g.sub, g.io⟩
  · have : a ≠ Dl := fun z => by rw [z, hF] at e; cases e
    rw [upd_ne this]
    exact g.rel.ex a x e
  · have := g.rel.at_ i b e
    have key : ∀ ds, OwnL K F' H' σ'[i]? ds → b.own = true → OwnL K F' (upd H' Dl o) σ'[i]? ds := by
      intro ds ⟨a, vs, e1, e2, e3, e4⟩ ob
      have : a ≠ Dl := fun z => by
        subst z
        exact no ⟨i, b, e, ob, e1⟩
      exact ⟨a, vs, e1, by rw [upd_ne this]; exact e2, e3, e4⟩
    have keyD : ∀ t ds, OwnD K F' H' σ'[i]? t ds → b.own = true → OwnD K F' (upd H' Dl o) σ'[i]? t ds := by
      intro t ds ⟨a, e1, e3, dd⟩ ob
      have : a ≠ Dl := fun z => by
        subst z
        exact no ⟨i, b, e, ob, e1⟩
      exact ⟨a, e1, e3, dd.move (.refl _) fun u z => by rw [upd_ne this]; exact z⟩
    cases b with
    | no => trivial
    | sh d => exact this
    | ow ds => exact key ds this rfl
    | io ds => exact key ds this rfl
    | od t ds => exact keyD t ds this rfl
  · rw [upd_ne (ne a x e)]
    exact g.keep a x e n
  · by_cases ha : a = Dl
    · rw [ha, upd_same]; intro z; cases z
    · rw [upd_ne ha]
      exact g.live a e
mutual
theorem setT_mono : ∀ {t : Tg} {d : D} {ρ ρ' : Fm}, setT t d ρ = some ρ' → ∀ (i : Nat) (b : B), ρ'[i]? = some b → b.own = true → ∃ c, ρ[i]? = some c ∧ c.own = true
  | .one j, d, ρ, ρ', h, i, b, e, o => by
    cases h
    by_cases hj : i = j
    · subst hj
      have hl : i < ρ.length := by
        have := (List.getElem?_eq_some_iff.mp e).1
        rwa [List.length_set] at this
      rw [List.getElem?_set_self hl] at e
      cases e
      cases o
    · rw [List.getElem?_set_ne (fun z => hj z.symm)] at e
      exact ⟨b, e, o⟩
  | .tup ts, .tuple ds, ρ, ρ', h, i, b, e, o => setTs_mono (show setTs ts ds ρ = some ρ' from h) i b e o
  | .tup ts, .none, _, _, h, _, _, _, _ => by cases h
  | .tup ts, .bool _, _, _, h, _, _, _, _ => by cases h
  | .tup ts, .int _, _, _, h, _, _, _, _ => by cases h
  | .tup ts, .str _, _, _, h, _, _, _, _ => by cases h
  | .tup ts, .list _, _, _, h, _, _, _, _ => by cases h
  | .tup ts, .dict _, _, _, h, _, _, _, _ => by cases h
theorem setTs_mono : ∀ {ts : List Tg} {ds : List D} {ρ ρ' : Fm}, setTs ts ds ρ = some ρ' → ∀ (i : Nat) (b : B), ρ'[i]? = some b → b.own = true → ∃ c, ρ[i]? = some c ∧ c.own = true
  | [], [], ρ, ρ', h, i, b, e, o => by
    cases h
    exact ⟨b, e, o⟩
  | t :: ts, d :: ds, ρ, ρ', h, i, b, e, o => by
    obtain ⟨ρ1, e1, e2⟩ := Option.bind_eq_some_iff.mp (show (setT t d ρ).bind (fun ρ' => setTs ts ds ρ') = some ρ' from h)
    obtain ⟨c, h1, h2⟩ := setTs_mono e2 i b e o
    exact setT_mono e1 i c h1 h2
  | [], _ :: _, _, _, h, _, _, _, _ => by cases h
  | _ :: _, [], _, _, h, _, _, _, _ => by cases h
end
theorem sx_lc {wi : TI} {g : TG} {tt : TT} {te : TE} {vs : List Nat} {t : Tg} {xi : Fm → Option (List D × Fm)} {fc : Fm → Option (Bool × Fm)} {fe : Fm → Option (D × Fm)} (hi : SXI K wi xi) (hg : ST K g t) (ht : SXB K tt fc) (he : SX K te fe) (hv : ∀ i ∈ slotsT t, i ∈ vs) : SX K (tLc wi g tt te vs) (xLc vs t xi fc fe) := by
  intro F H σ ρ d ρ' hf hR Q k
  obtain ⟨⟨ds, ρ0⟩, e1, e2⟩ := Option.bind_eq_some_iff.mp hf
  split at e2
  · rename_i hz
    have hz : ds.length ≤ bigN := hz
    obtain ⟨⟨rs, ρe⟩, e3, e4⟩ := Option.map_eq_some_iff.mp e2
    cases e4
    refine hi F H σ ρ ds ρ0 e1 hR _ fun J F0 H0 g0 ok => ?_
    intro Dl hD
    have relW := g0.rel.wipe vs
    have noD : ∀ x, ownA (L2.wipe σ vs) (wipeB ρ0 vs) x → x ≠ Dl := fun x o z => by
      obtain ⟨ws, h1, _⟩ := own_live relW o
      rw [z, hD] at h1
      cases h1
    refine ⟨fun i m H' => m = ds.length - i ∧ i ≤ ds.length ∧ ∃ (F' : Hp) (ρi : Fm) (acc : List V) (dacc rest : List D), GoE K F0 H0 (L2.wipe σ vs) (wipeB ρ0 vs) F' H' ρi ∧ F' Dl = none ∧ H' Dl = some (.lst acc) ∧ RpA K F' acc dacc ∧ dacc.length ≤ i ∧ xlcL vs t fc fe (ds.drop i) ρi = some (rest, ρe) ∧ dacc ++ rest = rs,
      ⟨_, rfl, Nat.zero_le _, F0, wipeB ρ0 vs, [], [], rs, .gr relW (.newH relW.ex hD), relW.ex.free hD, upd_same, .nil, Nat.le_refl _, e3, rfl⟩, fun i m H' hW => ?_⟩
    obtain ⟨rfl, hil, F', ρi, acc, dacc, rest, g1, hFD, hHD, ra, hlen, e5, e6⟩ := hW
    by_cases h : i < ds.length
    · right
      have hd : ds[i]? = some ds[i] := List.getElem?_eq_getElem h
      obtain ⟨ha, hb⟩ := (ok F' H' g1.go.ex g1.rel.ex).1 i _ hd
      rw [List.drop_eq_getElem_cons h] at e5
      obtain ⟨ρ1, e7, e8⟩ := Option.bind_eq_some_iff.mp e5
      obtain ⟨⟨b, ρ2⟩, e9, e10⟩ := Option.bind_eq_some_iff.mp e8
      refine ⟨ha, fun H2 => ∃ (F2 : Hp) (ρj : Fm) (acc2 : List V) (dacc2 rest2 : List D), GoE K F0 H0 (L2.wipe σ vs) (wipeB ρ0 vs) F2 H2 ρj ∧ F2 Dl = none ∧ H2 Dl = some (.lst acc2) ∧ RpA K F2 acc2 dacc2 ∧ dacc2.length ≤ i + 1 ∧ xlcL vs t fc fe (ds.drop (i + 1)) ρj = some (rest2, ρe) ∧ dacc2 ++ rest2 = rs, fun H2 hN => ?_, fun x H2 hy => ?_⟩
      · exact ⟨ds.length - (i + 1), by omega, rfl, h, hN⟩
      · obtain ⟨F2, gr, rx⟩ := hb x H2 hy
        have g2 := g1.trans (.gr g1.rel gr)
        refine hg F2 H2 _ _ _ ρ1 x e7 g2.rel rx _ fun σ2 gt so => ⟨wipe_same so hv, ?_⟩
        have hw2 := wipe_same so hv
        refine ht F2 H2 σ2 ρ1 b ρ2 e9 gt.rel _ fun F3 H3 g3 => ?_
        -- Dl stands through a step
        have stand : ∀ {F4 H4 : Hp} {ρ4 : Fm}, Go K F' H' (L2.wipe σ vs) ρi F4 H4 σ2 ρ4 → H4 Dl = some (.lst acc) ∧ F4 Dl = none := fun {F4 H4 ρ4} gg => by
          have no : ¬ ownA (L2.wipe σ vs) ρi Dl := fun o => noD Dl (g1.own o) rfl
          exact ⟨gg.keep Dl _ hHD no, gg.hide Dl (by rw [hHD]; intro z; cases z) hFD no⟩
        -- what is behind a turn
        have fin : ∀ {F4 H4 : Hp} {ρ4 : Fm}, Go K F' H' (L2.wipe σ vs) ρi F4 H4 σ2 ρ4 → (∀ (j : Nat) (c : B), ρ4[j]? = some c → c.own = true → ∃ c', ρi[j]? = some c' ∧ c'.own = true) → GoE K F0 H0 (L2.wipe σ vs) (wipeB ρ0 vs) F4 H4 (wipeB ρ4 vs) := fun {F4 H4 ρ4} gg mo => by
          have gw := gg.trans (go_wipe gg.rel vs)
          rw [hw2] at gw
          refine ⟨?_, fun j c ec oc => ?_⟩
          · exact g1.go.trans gw
          · rcases wipeB_get ec with ⟨_, rfl⟩ | ⟨_, ec'⟩
            · cases oc
            · obtain ⟨c', h1, h2⟩ := mo j c ec' oc
              exact g1.mono j c' h1 h2
        have goT : Go K F' H' (L2.wipe σ vs) ρi F3 H3 σ2 ρ2 := ((Go.gr g1.rel gr).trans gt).trans g3.go
        have moT : ∀ (j : Nat) (c : B), ρ2[j]? = some c → c.own = true → ∃ c', ρi[j]? = some c' ∧ c'.own = true := fun j c ec oc => by
          obtain ⟨c', h1, h2⟩ := g3.mono j c ec oc
          exact setT_mono e7 j c' h1 h2
        by_cases hbt : b = true
        · rw [if_pos hbt] at e10 ⊢
          obtain ⟨⟨y, ρ3⟩, e11, e12⟩ := Option.bind_eq_some_iff.mp e10
          obtain ⟨⟨rest2, ρf⟩, e13, e14⟩ := Option.map_eq_some_iff.mp e12
          cases e14
          refine he F3 H3 σ2 ρ2 y ρ3 e11 g3.rel _ fun w F4 H4 g4 r4 => ?_
          have goU := goT.trans g4.go
          have moU : ∀ (j : Nat) (c : B), ρ3[j]? = some c → c.own = true → ∃ c', ρi[j]? = some c' ∧ c'.own = true := fun j c ec oc => by
            obtain ⟨c', h1, h2⟩ := g4.mono j c ec oc
            exact moT j c' h1 h2
          obtain ⟨hD4, hF4⟩ := stand goU
          have gf := fin goU moU
          have nof : ¬ ownA (L2.wipe σ vs) (wipeB ρ3 vs) Dl := fun o => noD Dl (gf.own o) rfl
          refine ⟨acc, hD4, ?_, F4, wipeB ρ3 vs, acc ++ [w], dacc ++ [y], rest2, ⟨go_updD gf.go hD hF4 nof, gf.mono⟩, hF4, upd_same, (ra.mono goU.ex).append (.one r4), ?_, e13, ?_⟩
          · rw [ra.length]
            exact Nat.lt_of_lt_of_le (by omega) big_le
          · rw [List.length_append]
            show dacc.length + 1 ≤ i + 1
            omega
          · rw [List.append_assoc]
            exact e6
        · rw [if_neg hbt] at e10 ⊢
          obtain ⟨hD4, hF4⟩ := stand goT
          exact ⟨F3, wipeB ρ2 vs, acc, dacc, rest, fin goT moT, hF4, hD4, ra.mono goT.ex, by omega, e10, e6⟩
    · left
      have hl : i = ds.length := by omega
      subst hl
      rw [List.drop_length] at e5
      cases e5
      rw [List.append_nil] at e6
      subst e6
      refine ⟨(ok F' H' g1.go.ex g1.rel.ex).2, ?_⟩
      have exD : Ex F' (upd F' Dl (.lst acc)) := .new hFD
      refine k (.ref Dl) (upd F' Dl (.lst acc)) H' (g0.trans ⟨⟨⟨fun a x e => ?_, ?_, fun i b e => ?_, fun i j b c x e1 o1 e2 o2 s1 s2 => ?_⟩, g1.go.ex.trans exD, fun a x e n => ?_, g1.go.live, fun a e f n => ?_, fun a o => ?_, fun i ds' e => ?_⟩, fun i b e o => ?_⟩) (.lst (.inl (.inl upd_same)) (ra.mono exD))
      · by_cases hx : a = Dl
        · subst hx
          rw [upd_same] at e
          rw [← e]
          exact hHD
        · rw [upd_ne hx] at e
          exact g1.rel.ex a x e
      · rw [backB_len, ← g1.rel.len, wipe_length]
      · rcases backB_get e with ⟨hm, rfl | ⟨d', rfl, e'⟩⟩ | ⟨hm, e'⟩
        · trivial
        · obtain ⟨v, s1, r1⟩ := g0.rel.at_ i _ e'
          exact ⟨v, s1, r1.mono (g1.go.ex.trans exD)⟩
        · have := g1.rel.at_ i b e'
          rw [wipe_out hm] at this
          have key : ∀ ls, OwnL K F' H' σ[i]? ls → b.own = true → OwnL K (upd F' Dl (.lst acc)) H' σ[i]? ls := by
            intro ls ⟨a, ws, f1, f2, f3, f4⟩ ob
            have : a ≠ Dl := noD a (g1.own ⟨i, b, e', ob, by rw [wipe_out hm]; exact f1⟩)
            exact ⟨a, ws, f1, f2, by rw [upd_ne this]; exact f3, f4.mono exD⟩
          have keyD : ∀ t ls, OwnD K F' H' σ[i]? t ls → b.own = true → OwnD K (upd F' Dl (.lst acc)) H' σ[i]? t ls := by
            intro t ls ⟨a, f1, f3, dd⟩ ob
            have : a ≠ Dl := noD a (g1.own ⟨i, b, e', ob, by rw [wipe_out hm]; exact f1⟩)
            exact ⟨a, f1, by rw [upd_ne this]; exact f3, dd.move exD fun _ z => z⟩
          cases b with
          | no => trivial
          | sh d' =>
            obtain ⟨v, s1, r1⟩ := this
            exact ⟨v, s1, r1.mono exD⟩
          | ow ls => exact key ls this rfl
          | io ls => exact key ls this rfl
          | od t ls => exact keyD t ls this rfl
      · rcases backB_get e1 with ⟨hm, rfl | ⟨d', rfl, e'⟩⟩ | ⟨hm, e1'⟩
        · cases o1
        · cases o1
        · rcases backB_get e2 with ⟨hm2, rfl | ⟨d', rfl, e'⟩⟩ | ⟨hm2, e2'⟩
          · cases o2
          · cases o2
          · exact g1.rel.sep i j b c x e1' o1 e2' o2 (by rw [wipe_out hm]; exact s1) (by rw [wipe_out hm2]; exact s2)
      · refine g1.go.keep a x e fun o => n ?_
        obtain ⟨j, b, ej, ob, s⟩ := o
        rcases wipeB_get ej with ⟨_, rfl⟩ | ⟨h1, h2⟩
        · cases ob
        · exact ⟨j, b, h2, ob, by rw [wipe_out h1] at s; exact s⟩
      · have hx : a ≠ Dl := fun z => e (by rw [z]; exact hD)
        rw [upd_ne hx]
        refine g1.go.hide a e f fun o => n ?_
        obtain ⟨j, b, ej, ob, s⟩ := o
        rcases wipeB_get ej with ⟨_, rfl⟩ | ⟨h1, h2⟩
        · cases ob
        · exact ⟨j, b, h2, ob, by rw [wipe_out h1] at s; exact s⟩
      · obtain ⟨j, b, ej, ob, s⟩ := o
        rcases backB_get ej with ⟨hm, rfl | ⟨d', rfl, e'⟩⟩ | ⟨hm, ej'⟩
        · cases ob
        · cases ob
        · obtain ⟨c, h1, h2⟩ := g1.mono j b ej' ob
          rcases wipeB_get h1 with ⟨_, rfl⟩ | ⟨h3, h4⟩
          · cases h2
          · exact .inl ⟨j, c, h4, h2, s⟩
      · rcases backB_get e with ⟨hm, z | ⟨d', z, e'⟩⟩ | ⟨hm, e'⟩
        · cases z
        · cases z
        · obtain ⟨⟨ds0, h1⟩, _⟩ := g1.go.io i ds' e'
          rcases wipeB_get h1 with ⟨_, z⟩ | ⟨h3, h4⟩
          · cases z
          · exact ⟨⟨ds0, h4⟩, rfl⟩
      · rcases backB_get e with ⟨hm, rfl | ⟨d', rfl, e'⟩⟩ | ⟨hm, e'⟩
        · cases o
        · cases o
        · obtain ⟨c, h1, h2⟩ := g1.mono i b e' o
          rcases wipeB_get h1 with ⟨_, rfl⟩ | ⟨h3, h4⟩
          · cases h2
          · exact ⟨c, h4, h2⟩
  · cases e2
end
section
variable {X : Cx} {elt tg iter c : Expr} {scope : Scope} {own : List (Str × Nat)} {pos spos py : Pos} {t : Tg} {xi : Fm → Option (List D × Fm)} {gc : Fm → Option (Bool × Fm)} {ge : Fm → Option (D × Fm)}
theorem x_lc0 (hc : X.calm = true) (hN : X.N.Nodup) (hi : XIt X tg iter xi) (ok : BlkOk X.N X.env.scope scope own) (hg : ∀ a, PTg (blkOf X scope a) tg t) (he : ∀ a, XE (blkOf X scope a) elt ge) (hv : ∀ i ∈ slotsT t, i ∈ own.map (·.2)) (hs : ∀ x, foldedSetIterable iter X.env x = pure x := by intro _; rfl) :
    XE X (.ListComp elt [⟨tg, iter, [], 0⟩] scope pos) (xLc (own.map (·.2)) t xi (up fYes) ge) := by
  obtain ⟨wi, a1, a2⟩ := hi
  obtain ⟨g, b1, b2⟩ := all_PTg (Y := fun a => blkOf X scope a) (K := X.K) (fun a => rfl) hg
  obtain ⟨te, c1, c2⟩ := all_XE (Y := fun a => blkOf X scope a) (K := X.K) (fun a => rfl) he
  exact ⟨_, pe_lc hc hN a1 ok (fun s H C cl fp => b1 ⟨s, H, C, cl, fp⟩) (fun _ _ _ _ _ => pts_nil) (fun s H C cl fp => c1 ⟨s, H, C, cl, fp⟩) hs, sx_lc a2 b2 (fun F H σ ρ b ρ' hf hR Q k => by
    obtain ⟨e1, rfl⟩ := up_some hf
    cases e1
    exact k F H (.refl hR)) c2 hv⟩
theorem x_lc1 (hc : X.calm = true) (hN : X.N.Nodup) (hi : XIt X tg iter xi) (ok : BlkOk X.N X.env.scope scope own) (hg : ∀ a, PTg (blkOf X scope a) tg t) (ht : ∀ a, XB (blkOf X scope a) c gc) (he : ∀ a, XE (blkOf X scope a) elt ge) (hv : ∀ i ∈ slotsT t, i ∈ own.map (·.2)) (hs : ∀ x, foldedSetIterable iter X.env x = pure x := by intro _; rfl) :
    XE X (.ListComp elt [⟨tg, iter, [c], 0⟩] scope pos) (xLc (own.map (·.2)) t xi gc ge) := by
  obtain ⟨wi, a1, a2⟩ := hi
  obtain ⟨g, b1, b2⟩ := all_PTg (Y := fun a => blkOf X scope a) (K := X.K) (fun a => rfl) hg
  obtain ⟨te, c1, c2⟩ := all_XE (Y := fun a => blkOf X scope a) (K := X.K) (fun a => rfl) he
  obtain ⟨tt, d1, d2⟩ := all_XB (Y := fun a => blkOf X scope a) (K := X.K) (fun a => rfl) ht
  exact ⟨_, pe_lc hc hN a1 ok (fun s H C cl fp => b1 ⟨s, H, C, cl, fp⟩) (fun s H C cl fp => pts_one (d1 ⟨s, H, C, cl, fp⟩)) (fun s H C cl fp => c1 ⟨s, H, C, cl, fp⟩) hs, sx_lc a2 b2 d2 c2 hv⟩
/-- y = [..] on one line -/
theorem sx_lc0 (i : Nat) {y : Str} (hc : X.calm = true) (hN : X.N.Nodup) (hi : XIt X tg iter xi) (ok : BlkOk X.N X.env.scope scope own) (hg : ∀ a, PTg (blkOf X scope a) tg t) (he : ∀ a, XE (blkOf X scope a) elt ge) (hv : ∀ i ∈ slotsT t, i ∈ own.map (·.2))
    (hsw : swapsWith (.ListComp elt [⟨tg, iter, [], 0⟩] scope pos) (some (.Name y py)) spos.line X.env = pure true) (hy : X.N[i]? = some y := by rfl) (hyl : X.env.scope.names.lookup y = some .local := by rfl) (hs : ∀ x, foldedSetIterable iter X.env x = pure x := by intro _; rfl) :
    PSt X (.Assign [.Name y py] (.ListComp elt [⟨tg, iter, [], 0⟩] scope pos) spos) (sAsg i (mSh (xLc (own.map (·.2)) t xi (up fYes) ge))) := by
  obtain ⟨wi, a1, a2⟩ := hi
  obtain ⟨g, b1, b2⟩ := all_PTg (Y := fun a => blkOf X scope a) (K := X.K) (fun a => rfl) hg
  obtain ⟨te, c1, c2⟩ := all_XE (Y := fun a => blkOf X scope a) (K := X.K) (fun a => rfl) he
  refine ⟨_, ps_setLc hc hN hy hyl hsw a1 ok (fun s H C cl fp => b1 ⟨s, H, C, cl, fp⟩) (fun _ _ _ _ _ => pts_nil) (fun s H C cl fp => c1 ⟨s, H, C, cl, fp⟩) hs, fun F H σ ρ fl ρ' hf hR E k1 k2 k3 => ?_⟩
  obtain ⟨⟨b, ρ1⟩, e1, e2⟩ := Option.map_eq_some_iff.mp hf
  cases e2
  obtain ⟨⟨d, ρ2⟩, e3, e4⟩ := Option.map_eq_some_iff.mp e1
  cases e4
  exact sx_lc a2 b2 (fun F H σ ρ b ρ' hf hR Q k => by
    obtain ⟨e1, rfl⟩ := up_some hf
    cases e1
    exact k F H (.refl hR)) c2 hv F H σ ρ d _ e3 hR _ fun v F1 H1 g1 r1 => k1 rfl _ F1 H1 (g1.go.trans (go_set g1.rel r1))
theorem sx_lc1 (i : Nat) {y : Str} (hc : X.calm = true) (hN : X.N.Nodup) (hi : XIt X tg iter xi) (ok : BlkOk X.N X.env.scope scope own) (hg : ∀ a, PTg (blkOf X scope a) tg t) (ht : ∀ a, XB (blkOf X scope a) c gc) (he : ∀ a, XE (blkOf X scope a) elt ge) (hv : ∀ i ∈ slotsT t, i ∈ own.map (·.2))
    (hsw : swapsWith (.ListComp elt [⟨tg, iter, [c], 0⟩] scope pos) (some (.Name y py)) spos.line X.env = pure true) (hy : X.N[i]? = some y := by rfl) (hyl : X.env.scope.names.lookup y = some .local := by rfl) (hs : ∀ x, foldedSetIterable iter X.env x = pure x := by intro _; rfl) :
    PSt X (.Assign [.Name y py] (.ListComp elt [⟨tg, iter, [c], 0⟩] scope pos) spos) (sAsg i (mSh (xLc (own.map (·.2)) t xi gc ge))) := by
  obtain ⟨wi, a1, a2⟩ := hi
  obtain ⟨g, b1, b2⟩ := all_PTg (Y := fun a => blkOf X scope a) (K := X.K) (fun a => rfl) hg
  obtain ⟨te, c1, c2⟩ := all_XE (Y := fun a => blkOf X scope a) (K := X.K) (fun a => rfl) he
  obtain ⟨tt, d1, d2⟩ := all_XB (Y := fun a => blkOf X scope a) (K := X.K) (fun a => rfl) ht
  refine ⟨_, ps_setLc hc hN hy hyl hsw a1 ok (fun s H C cl fp => b1 ⟨s, H, C, cl, fp⟩) (fun s H C cl fp => pts_one (d1 ⟨s, H, C, cl, fp⟩)) (fun s H C cl fp => c1 ⟨s, H, C, cl, fp⟩) hs, fun F H σ ρ fl ρ' hf hR E k1 k2 k3 => ?_⟩
  obtain ⟨⟨b, ρ1⟩, e1, e2⟩ := Option.map_eq_some_iff.mp hf
  cases e2
  obtain ⟨⟨d, ρ2⟩, e3, e4⟩ := Option.map_eq_some_iff.mp e1
  cases e4
  exact sx_lc a2 b2 d2 c2 hv F H σ ρ d _ e3 hR _ fun v F1 H1 g1 r1 => k1 rfl _ F1 H1 (g1.go.trans (go_set g1.rel r1))
end
end DL
end
section
set_option Elab.async false
set_option linter.all false
set_option maxRecDepth 100000
/-! Chains of comparisons; where a def stands. -/
namespace DL
open PySem PySem.Spec PyProof.Rows L2
section
variable {X : Cx} {e a b c : Expr} {es : List Expr} {pos p : Pos} {fe fa fb fc : Fm → Option D}
/-- an operator of data -/
structure OpD (X : Cx) (f : Value → Value → Sem Value) (g : D → D → Option D) (r : R2) : Prop where
  op : OpR X f r
  ok : ∀ F H x y dx dy dz, Ex F H → Vw X.K F H x dx → Vw X.K F H y dy → g dx dy = some dz → ∀ Q : VK, Res X.K F H dz Q → r x y H Q
theorem o_le {k : Nat} (hr : Room k X.A) : OpD X (compareOp .LtE) gLe (rOrd X.K fun d e => !PySem.W.dataLt e d) := ⟨op_leD hr.units, vw_ord fun _ _ => rfl⟩
theorem o_lt {k : Nat} (hr : Room k X.A) : OpD X (compareOp .Lt) gLt (rOrd X.K fun d e => PySem.W.dataLt d e) := ⟨op_ltD hr.units, vw_ord fun _ _ => rfl⟩
theorem o_ge {k : Nat} (hr : Room k X.A) : OpD X (compareOp .GtE) gGe (rOrd X.K fun d e => !PySem.W.dataLt d e) := ⟨op_geD hr.units, vw_ord fun _ _ => rfl⟩
theorem o_gt {k : Nat} (hr : Room k X.A) : OpD X (compareOp .Gt) gGt (rOrd X.K fun d e => PySem.W.dataLt e d) := ⟨op_gtD hr.units, vw_ord fun _ _ => rfl⟩
theorem o_eq {k : Nat} (hr : Room k X.A) : OpD X (compareOp .Eq) gEq (rEqD X.K) := ⟨op_eqD hr.units, vw_eq⟩
theorem o_ne {k : Nat} (hr : Room k X.A) : OpD X (compareOp .NotEq) gNe (rNeD X.K) := ⟨op_neD hr.units, vw_ne⟩
/-- a op1 b op2 c -/
def fChain (g g' : D → D → Option D) (fa fb fc : Fm → Option D) (ρ : Fm) : Option D := (fa ρ).bind fun x => (fb ρ).bind fun y => (g x y).bind fun z => match z with
  | .bool true => (fc ρ).bind fun w => g' y w
  | .bool false => some (.bool false)
  | _ => none
theorem sp_chain {g g' : D → D → Option D} {r r' : R2} {K : PySem.W.Frag} {ta tb tc : TE} (h1 : ∀ F H x y dx dy dz, Ex F H → Vw K F H x dx → Vw K F H y dy → g dx dy = some dz → ∀ Q : VK, Res K F H dz Q → r x y H Q)
    (h2 : ∀ F H x y dx dy dz, Ex F H → Vw K F H x dx → Vw K F H y dy → g' dx dy = some dz → ∀ Q : VK, Res K F H dz Q → r' x y H Q) (ha : SV K ta fa) (hb : SV K tb fb) (hc : SV K tc fc) : SP K (tChain r r' ta tb tc) (fChain g g' fa fb fc) := by
  intro F H σ ρ d hf hR Q k
  obtain ⟨dx, e1, hf⟩ := Option.bind_eq_some_iff.mp hf
  obtain ⟨dy, e2, hf⟩ := Option.bind_eq_some_iff.mp hf
  obtain ⟨dz, e3, hf⟩ := Option.bind_eq_some_iff.mp hf
  refine ha F H σ ρ dx e1 hR _ fun x F1 H1 g1 r1 => ?_
  refine hb F1 H1 σ ρ dy e2 (hR.gr g1) _ fun y F2 H2 g2 r2 => ?_
  refine h1 F2 H2 x y dx dy dz g2.in_ (r1.gr g2) r2 e3 _ fun z F3 H3 g3 r3 => ?_
  split at hf
  · refine ⟨true, r3.blI, ?_⟩
    rw [if_pos rfl]
    obtain ⟨dw, e4, e5⟩ := Option.bind_eq_some_iff.mp hf
    refine hc F3 H3 σ ρ dw e4 (hR.gr ((g1.trans g2).trans g3)) _ fun w F4 H4 g4 r4 => ?_
    exact h2 F4 H4 y w dy dw d g4.in_ ((r2.gr g3).gr g4) r4 e5 Q fun v F5 H5 g5 r5 => k v F5 H5 ((((g1.trans g2).trans g3).trans g4).trans g5) r5
  · refine ⟨false, r3.blI, ?_⟩
    rw [if_neg (by decide)]
    cases hf
    exact k _ F3 H3 ((g1.trans g2).trans g3) (.bl _)
  · cases hf
theorem d_chain {op op' : CmpOp} {g g' : D → D → Option D} {r r' : R2} (o1 : OpD X (compareOp op) g r) (o2 : OpD X (compareOp op') g' r') (ha : PV X a fa) (hb : PV X b fb) (hc : PV X c fc) (hm : lastMarks [op, op'] [b, c] = false := by with_unfolding_all rfl) :
    PP X (.Compare a [op, op'] [b, c] pos) (fChain g g' fa fb fc) := let ⟨_, h1, h2⟩ := ha; let ⟨_, h3, h4⟩ := hb; let ⟨_, h5, h6⟩ := hc; ⟨_, pe_chain o1.op o2.op h1 h3 h5 hm, sp_chain o1.ok o2.ok h2 h4 h6⟩
theorem t_chain {op op' : CmpOp} {g g' : D → D → Option D} {r r' : R2} (o1 : OpD X (compareOp op) g r) (o2 : OpD X (compareOp op') g' r') (ha : PV X a fa) (hb : PV X b fb) (hc : PV X c fc) (hm : lastMarks [op, op'] [b, c] = false := by with_unfolding_all rfl) :
    PB X (.Compare a [op, op'] [b, c] pos) (fBl (fChain g g' fa fb fc)) := let ⟨_, h1, h2⟩ := ha; let ⟨_, h3, h4⟩ := hb; let ⟨_, h5, h6⟩ := hc; ⟨_, pt_chain o1.op o2.op h1 h3 h5 hm, sb_test (sp_chain o1.ok o2.ok h2 h4 h6)⟩
end
/-! ### where a def stands -/
structure DefAt (K : PySem.W.Frag) (mg : Str → Option Value) (y x : Str) (st : Stmt) (ps : List Str) where
  a : Addr
  fd : FuncData
  F : Fun K x x st a fd
  m : mg y = some (.ref a)
  b : Binds K fd ps []
  bb : ∀ us : List Value, us.length = ps.length → bindArgs fd ⟨us, []⟩ = pure (ps.zip us)
def def_mk {K : PySem.W.Frag} {h : Heap} {mg : Str → Option Value} (X : K.In h) (G : h.Ns mainGlobals mg) {y x : Str} {st : Stmt} {ps : List Str} {f : Addr} {oc : Value} {od an : Option Addr} {osl : Array (Option Value)} {kV doc pm cdv ct : Value}
    (hb : ∀ (kV doc pm : Value) (an : Option Addr) (cdv ct : Value) (us : List Value), us.length = ps.length → bindArgs (PySem.W.fnOf x x (defArgs st) (defBody st) (defScope st) .none kV doc pm an cdv ct) ⟨us, []⟩ = pure (ps.zip us))
    (a1 : PySem.W.nsIn K mainGlobals y = some (some (.ref f))) (l1 : K.lookup f = some ⟨oc, od, .func (PySem.W.fnOf x x (defArgs st) (defBody st) (defScope st) .none kV doc pm an cdv ct), osl⟩) (c1 : PySem.W.codeIn K cdv x = true) (k1 : PySem.W.keepIn K (.ref f) = true) : DefAt K mg y x st ps :=
  ⟨f, _, fun_mk l1 c1 k1, PySem.W.mg_of X G a1, (fun_mk l1 c1 k1).binds hb, fun us hl => hb kV doc pm an cdv ct us hl⟩
/-- a def that is never asked -/
theorem fn_none {P : Program} {w : World} {K : PySem.W.Frag} {mg : Str → Option Value} {base : Heap} {k : Nat} {f : Addr} {fd : FuncData} {ps : List Str} {n : Nat} : FnOk P w K mg base CX0 k f fd ps (spP K (fun _ => none) n) := by
  refine ⟨fun vs H Q E h => ?_, fun A outer s H args us vs Q E _ _ _ _ h => ?_⟩
  · obtain ⟨_, _, _, _, _, _, z, _⟩ := h
    cases z
  · obtain ⟨_, _, _, _, _, _, z, _⟩ := h
    cases z
/-- the law's own promise -/
theorem sp_law {K : PySem.W.Frag} {g : List D → Option D} {m : Nat} (hg : ∀ ns : List Int, ns.length ≤ m → g [.list (ns.map .int)] = some (.bool true)) (H : Hp) (a : Addr) (ns : List Int) (hl : ns.length ≤ m) (hS : SqL K H a (ns.map V.int)) : spP K g 1 [.ref a] H (fun v _ => v = .bl true) fun _ _ _ => False := by
  refine ⟨rfl, H, [.list (ns.map .int)], .bool true, .refl _, .cons (.lst hS ?_) .nil, hg ns hl, fun v F' H' _ r => r.blI⟩
  clear hl hS
  induction ns with
  | nil => exact .nil
  | cons n ns ih => exact .cons (.int n) ih
end DL
end
section
set_option Elab.async false
set_option linter.all false
set_option maxRecDepth 100000
/-! Dicts as data: what stands at a key. -/
namespace DL
open PySem PySem.Spec PyProof.Rows L2
def tupD : D → Bool
  | .tuple _ => true
  | _ => false
def kEq (t : Bool) (k : NestedKey) (p : D × D) : Bool := decide (kOf t p.1 = some k)
def getE (t : Bool) (ds : List (D × D)) (k : NestedKey) : Option D := (ds.find? (kEq t k)).map (·.2)
def putE (t : Bool) (ds : List (D × D)) (k : NestedKey) (kd d : D) : List (D × D) := if (getE t ds k).isSome = true then ds.map (fun p => if kEq t k p = true then (p.1, d) else p) else ds ++ [(kd, d)]
/-- the dict's keys are of the sort of kd -/
def sameT (ds : List (D × D)) (kd : D) : Bool := match ds with
  | [] => true
  | p :: _ => tupD p.1 == tupD kd
def dGet (ds : List (D × D)) (kd : D) : Option (Option D) := if sameT ds kd = true then (kOf (tupD kd) kd).map (getE (tupD kd) ds) else none
/-! ### keys -/
mutual
theorem hash_w : ∀ {d : D} {k : NestedKey}, nkD d = some k → ∀ w w' : World, k.hash w = k.hash w'
  | .none, _, h => by cases h; intro w w'; rfl
  | .bool b, _, h => by cases h; intro w w'; rfl
  | .int i, _, h => by cases h; intro w w'; rfl
  | .str x, _, h => by simp only [nkD] at h; cases h
  | .list xs, _, h => by simp only [nkD] at h; cases h
  | .dict xs, _, h => by simp only [nkD] at h; cases h
  | .tuple ds, _, h => by
    obtain ⟨ks, e, rfl⟩ := Option.map_eq_some_iff.mp (show (nkDs ds).map NestedKey.tup = some _ from h)
    intro w w'
    show PySem.reduceHash (Builtin.Tuple.tupleHashOf (NestedKey.hashes w ks)) = PySem.reduceHash (Builtin.Tuple.tupleHashOf (NestedKey.hashes w' ks))
    rw [hashes_w e w w']
theorem hashes_w : ∀ {ds : List D} {ks : List NestedKey}, nkDs ds = some ks → ∀ w w' : World, NestedKey.hashes w ks = NestedKey.hashes w' ks
  | [], _, h => by cases h; intro w w'; rfl
  | d :: ds, _, h => by
    obtain ⟨k, e1, h2⟩ := Option.bind_eq_some_iff.mp (show (nkD d).bind _ = some _ from h)
    obtain ⟨ks, e2, rfl⟩ := Option.map_eq_some_iff.mp h2
    intro w w'
    show NestedKey.hash w k :: NestedKey.hashes w ks = NestedKey.hash w' k :: NestedKey.hashes w' ks
    rw [hash_w e1 w w', hashes_w e2 w w']
end
theorem kOf_tup {kd : D} {k : NestedKey} (h : kOf true kd = some k) : ∃ ds ks, kd = .tuple ds ∧ nkDs ds = some ks ∧ k = .tup ks ∧ (NestedKey.tup ks).depth ≤ 8 := by
  cases kd with
  | tuple ds =>
    obtain ⟨ks, e1, e2⟩ := Option.bind_eq_some_iff.mp (show (nkDs ds).bind _ = some k from h)
    split at e2
    · rename_i hd
      cases e2
      exact ⟨ds, ks, rfl, e1, rfl, hd⟩
    · cases e2
  | _ => cases h
theorem kOf_nk {kd : D} {k : NestedKey} (h : kOf true kd = some k) : nkD kd = some k := by
  obtain ⟨ds, ks, rfl, e, rfl, _⟩ := kOf_tup h
  show (nkDs ds).map NestedKey.tup = _
  rw [e]; rfl
theorem kOf_hash {kd : D} {k : NestedKey} (h : kOf true kd = some k) (w w' : World) : k.hash w = k.hash w' := hash_w (kOf_nk h) w w'
def nkK : Key → NestedKey
  | .inl i => .num i
  | .inr x => .text x
theorem nkK_inj {a b : Key} (h : nkK a = nkK b) : a = b := by
  cases a <;> cases b <;> cases h <;> rfl
theorem kOf_keyD (k : Key) : kOf false (keyD k) = some (nkK k) := by cases k <;> rfl
theorem tupD_keyD (k : Key) : tupD (keyD k) = false := by cases k <;> rfl
theorem kOf_plain {kd : D} {k : NestedKey} (h : kOf false kd = some k) : ∃ ky : Key, kd = keyD ky ∧ k = nkK ky := by
  cases kd with
  | int i => cases h; exact ⟨.inl i, rfl, rfl⟩
  | str x => cases h; exact ⟨.inr x, rfl, rfl⟩
  | _ => cases h
section
variable {X : Cx} {pins : List (Addr × Obj)} {σ : L2.St} {F H : Hp} {s : Shared}
mutual
theorem nest_is (I : Inv X pins σ H s) (e : Ex F H) : ∀ {v : V} {d : D} {k : NestedKey} {u : Value}, Rp X.K F v d → nkD d = some k → RelV v u → NestedIs s.heap k u
  | _, _, _, _, .non, hk, hr => by
    cases hk
    cases (show _ = Value.none from hr)
    exact .none
  | _, _, _, _, .bl b, hk, hr => by
    cases hk
    cases (show _ = Value.bool b from hr)
    exact .bool rfl
  | _, _, _, _, .int i, hk, hr => by
    cases hk
    obtain ⟨t, rfl⟩ := hr
    exact .int i t
  | _, _, _, _, .str x, hk, hr => by simp only [nkD] at hk; cases hk
  | _, _, _, _, .lst _ _, hk, hr => by simp only [nkD] at hk; cases hk
  | _, _, _, _, .dk _ _ _, hk, hr => by simp only [nkD] at hk; cases hk
  | _, _, _, _, .dn _ _, hk, hr => by simp only [nkD] at hk; cases hk
  | _, _, _, _, .tup (ds := ds) h r, hk, hr => by
    obtain ⟨ks, ek, rfl⟩ := Option.map_eq_some_iff.mp (show (nkDs ds).map NestedKey.tup = some _ from hk)
    cases (show _ = Value.ref _ from hr)
    obtain ⟨its, rv, ⟨o, h1, h2, n, h3⟩, _⟩ := I.tuple (e.sqt h)
    exact .tup h1 h2 h3 (by simpa using nest_all I e r ek rv)
theorem nest_all (I : Inv X pins σ H s) (e : Ex F H) : ∀ {vs : List V} {ds : List D} {ks : List NestedKey} {us : List Value}, RpA X.K F vs ds → nkDs ds = some ks → Vals vs us → NestedAll s.heap ks us
  | _, _, _, _, .nil, hk, hr => by
    cases hk
    cases hr
    exact .nil
  | _, _, _, _, .cons (d := d) (ds := ds) r t, hk, hr => by
    obtain ⟨k, e1, h2⟩ := Option.bind_eq_some_iff.mp (show (nkD d).bind _ = some _ from hk)
    obtain ⟨ks, e2, rfl⟩ := Option.map_eq_some_iff.mp h2
    cases hr with
    | cons q qs => exact .cons (nest_is I e r e1 q) (nest_all I e t e2 qs)
end
theorem key_at (I : Inv X pins σ H s) (e : Ex F H) {q : Addr} {kd : D} {k : NestedKey} (r : Rp X.K F (.ref q) kd) (hk : kOf true kd = some k) : (nestedKind X.prog X.w).is s.heap k q := by
  refine ⟨nest_is I e r (kOf_nk hk) (show Value.ref q = Value.ref q from rfl), ?_⟩
  obtain ⟨_, _, _, _, rfl, h⟩ := kOf_tup hk
  exact h
theorem keys_at (I : Inv X pins σ H s) (e : Ex F H) : ∀ {xs : DEs} {ds : List (D × D)}, RpN X.K F xs ds → ∀ x ∈ xs, (nestedKind X.prog X.w).is s.heap x.1 x.2.1
  | _, _, .nil => fun x hx => nomatch hx
  | _, _, .cons h1 h2 _ _ r => fun x hx => by
    rcases List.mem_cons.mp hx with rfl | hx
    · exact key_at I e h1 h2
    · exact keys_at I e r x hx
theorem dn_facts (I : Inv X pins σ H s) (e : Ex F H) {a : Addr} {xs : DEs} {ds : List (D × D)} (h : Rd H a (DN a xs)) (r : RpN X.K F xs ds) : (a == sysModules) = false ∧ xs.length ≤ sizeLine ∧ s.heap.DictOfH (nestedKind X.prog X.w) a xs := by
  obtain ⟨⟨y, z, nd, o, es, ep, h1, h2, h3, h4⟩, _⟩ := (show ObjOk X.prog X.w H s.heap a (.ext (DPhi a xs)) from h.ok I.hok)
  exact ⟨y, z, o, es, ep, h1, h2, h3, h4 X.w, keys_at I e r, nd⟩
/-- the empty dict is of both sorts -/
theorem dn_nil (I : Inv X pins σ H s) {a : Addr} (h : Rd H a (DN a [])) : (a == sysModules) = false ∧ s.heap.DictOf (mixKind X.prog X.w) a [] := by
  obtain ⟨⟨y, z, nd, o, es, ep, h1, h2, h3, h4⟩, _⟩ := (show ObjOk X.prog X.w H s.heap a (.ext (DPhi a [])) from h.ok I.hok)
  have e0 : es = #[] := by
    have := h4 X.w
    simpa using this
  subst e0
  exact ⟨y, o, #[], ep, h1, h2, h3, fun x hx => by simp at hx, .nil, List.nodup_nil⟩
theorem dk_nil (I : Inv X pins σ H s) {a : Addr} (h : Rd H a (.dK [])) : (a == sysModules) = false ∧ s.heap.DictOfH (nestedKind X.prog X.w) a [] := by
  obtain ⟨z, y, vs, rel, o, es, ep, h1, h2, h3, _, hp, _⟩ := dk_rd I.hok h
  cases rel
  have e0 : es.toList = [] := by
    have := Pairs.length hp
    exact List.eq_nil_of_length_eq_zero this
  exact ⟨y, o, es, ep, h1, h2, h3, by rw [e0]; rfl, fun x hx => (nomatch hx), List.nodup_nil⟩
end
/-- what a look-up found -/
def LookR (K : PySem.W.Frag) (F : Hp) (l : Option Value) (o : Option D) : Prop := (l = none ∧ o = none) ∨ ∃ u v d, l = some u ∧ o = some d ∧ RelV v u ∧ Rp K F v d
theorem LookR.isSome {K : PySem.W.Frag} {F : Hp} {l : Option Value} {o : Option D} (h : LookR K F l o) : l.isSome = o.isSome := by
  rcases h with ⟨rfl, rfl⟩ | ⟨u, v, d, rfl, rfl, _⟩ <;> rfl
section
variable {K : PySem.W.Frag} {F : Hp}
theorem RpN.look (k : NestedKey) : ∀ {xs : DEs} {ds : List (D × D)}, RpN K F xs ds → LookR K F ((atKey xs k).map (·.2)) (getE true ds k)
  | _, _, .nil => .inl ⟨rfl, rfl⟩
  | _, _, .cons (k := k0) (q := q) (u := u) (v := v) (kd := kd) (d := d) (r := r) (ds := ds) h1 h2 h3 h4 t => by
    have ih := RpN.look k t
    unfold atKey getE at ih ⊢
    by_cases hk : k0 = k
    · subst hk
      rw [List.find?_cons_of_pos (by simp), List.find?_cons_of_pos (by unfold kEq; rw [h2]; simp)]
      exact .inr ⟨u, v, d, rfl, rfl, h3, h4⟩
    · rw [List.find?_cons_of_neg (by simp [hk]), List.find?_cons_of_neg (by unfold kEq; rw [h2]; simp [hk])]
      exact ih
theorem RpK.look (ky : Key) : ∀ {kvs : List (Key × V)} {ds : List (D × D)}, RpK K F kvs ds → (valV kvs ky = none ∧ getE false ds (nkK ky) = none) ∨ ∃ v d, valV kvs ky = some v ∧ getE false ds (nkK ky) = some d ∧ Rp K F v d
  | _, _, .nil => .inl ⟨rfl, rfl⟩
  | _, _, .cons (k := k0) (v := v) (d := d) h1 t => by
    have ih := RpK.look ky t
    unfold getE at ih ⊢
    by_cases hk : k0 = ky
    · subst hk
      rw [valV_pos rfl, List.find?_cons_of_pos (by unfold kEq; rw [kOf_keyD]; simp)]
      exact .inr ⟨v, d, rfl, rfl, h1⟩
    · have : ¬ nkK k0 = nkK ky := fun z => hk (nkK_inj z)
      rw [valV_neg hk, List.find?_cons_of_neg (by unfold kEq; rw [kOf_keyD]; simp [this])]
      exact ih
theorem RpN.tupD_head {xs : DEs} {p : D × D} {ds : List (D × D)} (h : RpN K F xs (p :: ds)) : tupD p.1 = true := by
  cases h with
  | cons h1 h2 _ _ _ =>
    obtain ⟨_, _, rfl, _⟩ := kOf_tup h2
    rfl
theorem RpK.tupD_head {xs : List (Key × V)} {p : D × D} {ds : List (D × D)} (h : RpK K F xs (p :: ds)) : tupD p.1 = false := by
  cases h with
  | cons h1 _ => exact tupD_keyD _
theorem rp_keyV {x : V} {ky : Key} (h : Rp K F x (keyD ky)) : x = kV ky := by
  cases ky with
  | inl i => exact h.intI
  | inr z => exact h.strI
theorem KV.lookV {kvs : List (Key × V)} {vs : List (Key × Value)} {ds : List (D × D)} (r : KV kvs vs) (t : RpK K F kvs ds) (ky : Key) : LookR K F (valueAt vs ky) (getE false ds (nkK ky)) := by
  have rv := r.val ky
  rcases RpK.look ky t with ⟨e1, e2⟩ | ⟨v, d, e1, e2, r2⟩
  · rw [e1] at rv
    exact .inl ⟨RelO.none_of rv, e2⟩
  · rw [e1] at rv
    obtain ⟨u, e3, r3⟩ := RelO.some_of rv
    exact .inr ⟨u, v, d, e3, e2, r3, r2⟩
end
section
variable {X : Cx} {pins : List (Addr × Obj)} {σ : L2.St} {F H : Hp} {s : Shared} {x : V} {kd : D} {a : Addr} {ds : List (D × D)} {o : Option D}
theorem dv_cases (I : Inv X pins σ H s) (e : Ex F H) (h : DV X.K F H a ds) (rk : Rp X.K F x kd) (g : dGet ds kd = some o) :
    (∃ (ky : Key) (vs : List (Key × Value)), x = kV ky ∧ (a == sysModules) = false ∧ s.heap.DictOf (mixKind X.prog X.w) a vs ∧ LookR X.K F (valueAt vs ky) o) ∨
    ∃ (q : Addr) (k : NestedKey) (xs : DEs), x = .ref q ∧ (nestedKind X.prog X.w).is s.heap k q ∧ (a == sysModules) = false ∧ s.heap.DictOfH (nestedKind X.prog X.w) a xs ∧ LookR X.K F ((atKey xs k).map (·.2)) o := by
  unfold dGet at g
  split at g
  · rename_i hs
    obtain ⟨k, e1, e2⟩ := Option.map_eq_some_iff.mp g
    cases ht : tupD kd with
    | false =>
      rw [ht] at e1 e2
      obtain ⟨ky, rfl, rfl⟩ := kOf_plain e1
      left
      have ex := rp_keyV rk
      rcases h with ⟨kvs, rd, r⟩ | ⟨xs, rd, r⟩
      · obtain ⟨z, hd, vs, rel, dd⟩ := dk_rd I.hok rd
        refine ⟨ky, vs, ex, hd, dd, ?_⟩
        rw [← e2]
        exact KV.lookV rel r ky
      · cases ds with
        | nil =>
          cases r
          obtain ⟨hd, dd⟩ := dn_nil I rd
          subst e2
          exact ⟨ky, [], ex, hd, dd, .inl ⟨rfl, rfl⟩⟩
        | cons p ds =>
          have h1 := r.tupD_head
          simp only [sameT, h1, ht] at hs
          cases hs
    | true =>
      rw [ht] at e1 e2
      right
      obtain ⟨_, _, e3, _⟩ := kOf_tup e1
      obtain ⟨q, rfl⟩ : ∃ q, x = .ref q := by
        subst e3
        cases rk with
        | tup _ _ => exact ⟨_, rfl⟩
      have hk := key_at I e rk e1
      rcases h with ⟨kvs, rd, r⟩ | ⟨xs, rd, r⟩
      · cases ds with
        | nil =>
          cases r
          obtain ⟨hd, dd⟩ := dk_nil I rd
          subst e2
          exact ⟨q, k, [], rfl, hk, hd, dd, .inl ⟨rfl, rfl⟩⟩
        | cons p ds =>
          have h1 := r.tupD_head
          simp only [sameT, h1, ht] at hs
          cases hs
      · obtain ⟨hd, hz, dd⟩ := dn_facts I e rd r
        refine ⟨q, k, xs, rfl, hk, hd, dd, ?_⟩
        rw [← e2]
        exact RpN.look k r
  · cases g
theorem nest_room {A : Around} (hu : A.units + 9 < cLine) : (nestedKind X.prog X.w).room A.in1 := by
  show A.units + 1 + 8 < cLine
  omega
/-- d[k] -/
theorem dv_item {A : Around} {E : Value → Shared → Prop} {Q : Value → Shared → Prop} {u : Value} {d : D} (hu : A.units + 9 < cLine) (I : Inv X pins σ H s) (e : Ex F H) (h : DV X.K F H a ds) (rk : Rp X.K F x kd) (ry : RelV x u) (g : dGet ds kd = some (some d))
    (q : ∀ u' v' s', Inv X pins σ H s' → RelV v' u' → Rp X.K F v' d → Q u' s') : wpAny (model X.prog X.w) A (getItem (.ref a) u) Q E s := by
  rcases dv_cases I e h rk g with ⟨ky, vs, rfl, hd, dd, l⟩ | ⟨p, k, xs, rfl, hk, hd, dd, l⟩
  · rcases l with ⟨_, z⟩ | ⟨u', v', d', e1, e2, r1, r2⟩
    · cases z
    · cases e2
      exact wpAny_getItem_of (kV_is ry) dd.mapOf e1 (q u' v' _ (I.tok _) r1 r2)
  · cases (show u = Value.ref p from ry)
    rcases l with ⟨_, z⟩ | ⟨u', v', d', e1, e2, r1, r2⟩
    · cases z
    · cases e2
      obtain ⟨w, hw, rfl⟩ := Option.map_eq_some_iff.mp e1
      exact wpAny_getItem_heap (nest_room hu) hk dd hw (q _ v' _ (I.tok _) r1 r2)
theorem dv_in {A : Around} {E : Value → Shared → Prop} {Q : Value → Shared → Prop} {u : Value} (hu : A.units + 9 < cLine) (I : Inv X pins σ H s) (e : Ex F H) (h : DV X.K F H a ds) (rk : Rp X.K F x kd) (ry : RelV x u) (g : dGet ds kd = some o)
    (q : ∀ s', Inv X pins σ H s' → Q (.bool o.isSome) s') : wpAny (model X.prog X.w) A (compareOp .In u (.ref a)) Q E s := by
  rcases dv_cases I e h rk g with ⟨ky, vs, rfl, hd, dd, l⟩ | ⟨p, k, xs, rfl, hk, hd, dd, l⟩
  · refine wpAny_in_of (kV_is ry) hd dd.mapOf ?_
    have := l.isSome
    rw [this]
    exact q _ (I.tok _)
  · cases (show u = Value.ref p from ry)
    refine wpAny_in_heap (nest_room hu) hk hd dd ?_
    have := l.isSome
    rw [Option.isSome_map] at this
    rw [this]
    exact q _ (I.tok _)
theorem dv_ni {A : Around} {E : Value → Shared → Prop} {Q : Value → Shared → Prop} {u : Value} (hu : A.units + 9 < cLine) (I : Inv X pins σ H s) (e : Ex F H) (h : DV X.K F H a ds) (rk : Rp X.K F x kd) (ry : RelV x u) (g : dGet ds kd = some o)
    (q : ∀ s', Inv X pins σ H s' → Q (.bool (!o.isSome)) s') : wpAny (model X.prog X.w) A (compareOp .NotIn u (.ref a)) Q E s := by
  rcases dv_cases I e h rk g with ⟨ky, vs, rfl, hd, dd, l⟩ | ⟨p, k, xs, rfl, hk, hd, dd, l⟩
  · refine wpAny_notIn_of (kV_is ry) hd dd.mapOf ?_
    have := l.isSome
    rw [this]
    exact q _ (I.tok _)
  · cases (show u = Value.ref p from ry)
    refine wpAny_notIn_heap (nest_room hu) hk hd dd ?_
    have := l.isSome
    rw [Option.isSome_map] at this
    rw [this]
    exact q _ (I.tok _)
/-- d.get(k, z) -/
theorem dv_get2 {A : Around} {E : Value → Shared → Prop} {Q : Value → Shared → Prop} {u r : Value} {z : V} {dz : D} (hu : A.units + 9 < cLine) (I : Inv X pins σ H s) (e : Ex F H) (h : DV X.K F H a ds) (rk : Rp X.K F x kd) (ry : RelV x u) (rz : RelV z r) (rd : Rp X.K F z dz) (g : dGet ds kd = some o)
    (q : ∀ u' v' s', Inv X pins σ H s' → RelV v' u' → Rp X.K F v' (o.getD dz) → Q u' s') : wpAny (model X.prog X.w) A (call (.builtin "dict.get") [.ref a, u, r]) Q E s := by
  have fin : ∀ (l : Option Value) (s' : Shared), LookR X.K F l o → Inv X pins σ H s' → Q (l.getD r) s' := by
    intro l s' hl I'
    rcases hl with ⟨rfl, rfl⟩ | ⟨u', v', d', rfl, rfl, r1, r2⟩
    · exact q r z s' I' rz rd
    · exact q u' v' s' I' r1 r2
  rcases dv_cases I e h rk g with ⟨ky, vs, rfl, hd, dd, l⟩ | ⟨p, k, xs, rfl, hk, hd, dd, l⟩
  · exact call_meetsIn PySem.F.slot_dict_get dd.typeIs PySem.F.entry_dict_get (PySem.F.args_dict_get_3 _ _ _) (meets_dict_get_default (mixKind X.prog X.w) a (kV_is ry) hd r) ⟨_, dd.mapOf, fin _ _ l (I.tok _)⟩
  · cases (show u = Value.ref p from ry)
    exact call_meetsIn PySem.F.slot_dict_get dd.typeIs PySem.F.entry_dict_get (PySem.F.args_dict_get_3 _ _ _) (meetsH_dict_get_default (nestedKind X.prog X.w) a p hd r) ⟨nest_room hu, k, xs, hk, dd, fin _ _ l (I.tok _)⟩
theorem dv_get1 {A : Around} {E : Value → Shared → Prop} {Q : Value → Shared → Prop} {u : Value} (hu : A.units + 9 < cLine) (I : Inv X pins σ H s) (e : Ex F H) (h : DV X.K F H a ds) (rk : Rp X.K F x kd) (ry : RelV x u) (g : dGet ds kd = some o)
    (q : ∀ u' v' s', Inv X pins σ H s' → RelV v' u' → Rp X.K F v' (o.getD .none) → Q u' s') : wpAny (model X.prog X.w) A (call (.builtin "dict.get") [.ref a, u]) Q E s := by
  have fin : ∀ (l : Option Value) (s' : Shared), LookR X.K F l o → Inv X pins σ H s' → Q (l.getD .none) s' := by
    intro l s' hl I'
    rcases hl with ⟨rfl, rfl⟩ | ⟨u', v', d', rfl, rfl, r1, r2⟩
    · exact q .none .non s' I' rfl .non
    · exact q u' v' s' I' r1 r2
  rcases dv_cases I e h rk g with ⟨ky, vs, rfl, hd, dd, l⟩ | ⟨p, k, xs, rfl, hk, hd, dd, l⟩
  · exact call_meetsIn PySem.F.slot_dict_get dd.typeIs PySem.F.entry_dict_get (PySem.F.args_dict_get_2 _ _) (meets_dict_get (mixKind X.prog X.w) a (kV_is ry) hd) ⟨_, dd.mapOf, fin _ _ l (I.tok _)⟩
  · cases (show u = Value.ref p from ry)
    exact call_meetsIn PySem.F.slot_dict_get dd.typeIs PySem.F.entry_dict_get (PySem.F.args_dict_get_2 _ _) (meetsH_dict_get (nestedKind X.prog X.w) a p hd) ⟨nest_room hu, k, xs, hk, dd, fin _ _ l (I.tok _)⟩
theorem dv_type (I : Inv X pins σ H s) (h : DV X.K F H a ds) (e : Ex F H) : s.TypeIs (.ref a) "dict" ∧ ∀ b, Value.ref a = .ref b → ∃ ob, s.heap.get? b = some ob ∧ ob.dict = none := by
  rcases h with ⟨kvs, rd, r⟩ | ⟨xs, rd, r⟩
  · obtain ⟨z, hd, vs, rel, dd⟩ := dk_rd I.hok rd
    refine ⟨dd.typeIs, fun b z => ?_⟩
    cases z
    obtain ⟨ob, _, _, h1, h2, _⟩ := dd
    exact ⟨ob, h1, h2.2.1⟩
  · obtain ⟨hd, hz, dd⟩ := dn_facts I e rd r
    refine ⟨dd.typeIs, fun b z => ?_⟩
    cases z
    obtain ⟨ob, _, _, h1, h2, _⟩ := dd
    exact ⟨ob, h1, h2.2.1⟩
end
end DL
end
section
set_option Elab.async false
set_option linter.all false
set_option maxRecDepth 100000
/-! Dicts of one's own: made, written; a dict that is seen. -/
namespace DL
open PySem PySem.Spec PyProof.Rows L2
def dPut (t : Bool) (ds : List (D × D)) (kd d : D) : Option (List (D × D)) := (kOf t kd).map fun k => putE t ds k kd d
theorem putE_len (t : Bool) (ds : List (D × D)) (k : NestedKey) (kd d : D) : (putE t ds k kd d).length ≤ ds.length + 1 := by
  unfold putE
  split
  · rw [List.length_map]; exact Nat.le_succ _
  · rw [List.length_append]; exact Nat.le_refl _
section
variable {K : PySem.W.Frag} {F : Hp}
theorem RpN.hash : ∀ {xs : DEs} {ds : List (D × D)}, RpN K F xs ds → ∀ x ∈ xs, ∀ w w' : World, x.1.hash w = x.1.hash w'
  | _, _, .nil => fun x hx => nomatch hx
  | _, _, .cons h1 h2 _ _ r => fun x hx => by
    rcases List.mem_cons.mp hx with rfl | hx
    · exact kOf_hash h2
    · exact RpN.hash r x hx
theorem RpN.len : ∀ {xs : DEs} {ds : List (D × D)}, RpN K F xs ds → xs.length = ds.length
  | _, _, .nil => rfl
  | _, _, .cons _ _ _ _ r => congrArg (· + 1) (RpN.len r)
theorem RpK.len : ∀ {xs : List (Key × V)} {ds : List (D × D)}, RpK K F xs ds → xs.length = ds.length
  | _, _, .nil => rfl
  | _, _, .cons _ r => congrArg (· + 1) (RpK.len r)
theorem RpN.repl {k : NestedKey} {z : V} {r : Value} {d : D} (rz : RelV z r) (rd : Rp K F z d) : ∀ {xs : DEs} {ds : List (D × D)}, RpN K F xs ds → RpN K F (xs.map (putAt k r)) (ds.map fun p => if kEq true k p = true then (p.1, d) else p)
  | _, _, .nil => .nil
  | _, _, .cons (k := k0) (q := q) (u := u) (v := v) (kd := kd) (d := d0) h1 h2 h3 h4 t => by
    rw [List.map_cons, List.map_cons]
    unfold putAt
    by_cases e : k0 = k
    · subst e
      rw [if_pos rfl, if_pos (by unfold kEq; rw [h2]; simp)]
      exact .cons h1 h2 rz rd (RpN.repl rz rd t)
    · rw [if_neg e, if_neg (by unfold kEq; rw [h2]; simp [e])]
      exact .cons h1 h2 h3 h4 (RpN.repl rz rd t)
theorem RpN.snoc {k : NestedKey} {q : Addr} {z : V} {r : Value} {kd d : D} (h1 : Rp K F (.ref q) kd) (h2 : kOf true kd = some k) (rz : RelV z r) (rd : Rp K F z d) : ∀ {xs : DEs} {ds : List (D × D)}, RpN K F xs ds → RpN K F (xs ++ [(k, q, r)]) (ds ++ [(kd, d)])
  | _, _, .nil => .cons h1 h2 rz rd .nil
  | _, _, .cons a b c e t => .cons a b c e (RpN.snoc h1 h2 rz rd t)
theorem RpN.put {xs : DEs} {ds : List (D × D)} {k : NestedKey} {q : Addr} {z : V} {r : Value} {kd d : D} (h : RpN K F xs ds) (h1 : Rp K F (.ref q) kd) (h2 : kOf true kd = some k) (rz : RelV z r) (rd : Rp K F z d) :
    RpN K F (storedH xs k q r) (putE true ds k kd d) := by
  have e := (RpN.look k h).isSome
  rw [Option.isSome_map] at e
  unfold storedH putE
  rw [e]
  split
  · exact h.repl rz rd
  · exact h.snoc h1 h2 rz rd
theorem RpK.repl {ky : Key} {z : V} {d : D} (rd : Rp K F z d) : ∀ {xs : List (Key × V)} {ds : List (D × D)}, RpK K F xs ds → RpK K F (xs.map fun kv => if kv.1 = ky then (kv.1, z) else kv) (ds.map fun p => if kEq false (nkK ky) p = true then (p.1, d) else p)
  | _, _, .nil => .nil
  | _, _, .cons (k := k0) (v := v) (d := d0) h1 t => by
    rw [List.map_cons, List.map_cons]
    by_cases e : k0 = ky
    · subst e
      rw [if_pos rfl, if_pos (by unfold kEq; rw [kOf_keyD]; simp)]
      exact .cons rd (RpK.repl rd t)
    · have : ¬ nkK k0 = nkK ky := fun z => e (nkK_inj z)
      rw [if_neg e, if_neg (by unfold kEq; rw [kOf_keyD]; simp [this])]
      exact .cons h1 (RpK.repl rd t)
theorem RpK.snoc {ky : Key} {z : V} {d : D} (rd : Rp K F z d) : ∀ {xs : List (Key × V)} {ds : List (D × D)}, RpK K F xs ds → RpK K F (xs ++ [(ky, z)]) (ds ++ [(keyD ky, d)])
  | _, _, .nil => .cons rd .nil
  | _, _, .cons a t => .cons a (RpK.snoc rd t)
theorem RpK.put {xs : List (Key × V)} {ds : List (D × D)} {ky : Key} {z : V} {d : D} (h : RpK K F xs ds) (rd : Rp K F z d) : RpK K F (putK xs ky z) (putE false ds (nkK ky) (keyD ky) d) := by
  have e : (xs.any fun kv => decide (kv.1 = ky)) = (getE false ds (nkK ky)).isSome := by
    rw [valV_any]
    rcases RpK.look ky h with ⟨e1, e2⟩ | ⟨v, d', e1, e2, _⟩ <;> rw [e1, e2] <;> rfl
  unfold putK putE
  rw [e]
  split
  · exact h.repl rd
  · exact h.snoc rd
end
theorem dphi_stay {a : Addr} {xs : DEs} {h1 h2 : Heap} (h : DPhi a xs h1) (k : ∀ o, h1.get? a = some o → h2.get? a = some o) : DPhi a xs h2 := by
  obtain ⟨y, z, nd, o, es, ep, e1, e2⟩ := h
  exact ⟨y, z, nd, o, es, ep, k o e1, e2⟩
theorem dn_ok {P : Program} {w : World} {H : Hp} {h : Heap} {a : Addr} {xs : DEs} (p : DPhi a xs h) : ObjOk P w H h a (DN a xs) := by
  refine ⟨p, ?_, fun h1 h2 q k => dphi_stay q k⟩
  obtain ⟨_, _, _, o, es, ep, e1, _⟩ := p
  exact ⟨o, e1⟩
section
variable {X : Cx} {pins : List (Addr × Obj)} {σ : L2.St} {F H : Hp} {s : Shared} {x : V} {kd : D} {a : Addr} {ds : List (D × D)} {o : Option D}
theorem dn_phi {h' : Heap} {xs : DEs} {w : World} {P : Program} (hd : (a == sysModules) = false) (hz : xs.length ≤ sizeLine) (dd : h'.DictOfH (nestedKind P w) a xs) (hh : ∀ x ∈ xs, ∀ w w' : World, x.1.hash w = x.1.hash w') : DPhi a xs h' := by
  obtain ⟨o, es, ep, h1, h2, h3, h4, _, nd⟩ := dd
  refine ⟨hd, hz, nd, o, es, ep, h1, h2, h3, fun w' => ?_⟩
  rw [h4]
  refine List.map_congr_left fun x hx => ?_
  show (⟨x.1.hash w, .ref x.2.1, x.2.2⟩ : DictEntry) = _
  rw [hh x hx w w']
/-- d[k] = v, a dict of one's own -/
theorem dct_set {A : Around} {E : Value → Shared → Prop} {Q : Unit → Shared → Prop} {t : Bool} {u r : Value} {z : V} {d : D} {ds' : List (D × D)} (hu : A.units + 9 < cLine) (I : Inv X pins σ H s) (e : Ex F H) (hf : F a = none) (h : Dct X.K F H a t ds) (rk : Rp X.K F x kd) (ry : RelV x u) (rz : RelV z r) (rd : Rp X.K F z d) (g : dPut t ds kd d = some ds') (hz : ds.length < bigN)
    (q : ∀ o' s', Inv X pins σ (upd H a o') s' → Dct X.K F (upd H a o') a t ds' → Q () s') : wpAny (model X.prog X.w) A (setItem (.ref a) u r) Q E s := by
  have hb := big_le
  obtain ⟨k, e1, e2⟩ := Option.map_eq_some_iff.mp g
  cases t with
  | false =>
    obtain ⟨kvs, hH, rr⟩ := h
    obtain ⟨ky, rfl, rfl⟩ := kOf_plain e1
    cases rp_keyV rk
    refine d_setItem (by omega) I (DPut.k hH (by rw [rr.len]; omega)) ry rz fun s' I' => q _ s' I' ⟨_, upd_same, ?_⟩
    rw [← e2]
    exact rr.put rd
  | true =>
    obtain ⟨xs, hH, rr⟩ := h
    obtain ⟨_, _, e3, _⟩ := kOf_tup e1
    obtain ⟨p, rfl⟩ : ∃ p, x = .ref p := by
      subst e3
      cases rk with
      | tup _ _ => exact ⟨_, rfl⟩
    cases (show u = Value.ref p from ry)
    obtain ⟨hd, hz', dd⟩ := dn_facts I e (.inl hH) rr
    have hk := key_at I e rk e1
    have r2 : RpN X.K F (storedH xs k p r) ds' := by
      rw [← e2]
      exact rr.put rk e1 rz rd
    refine wpAny_setItem_heap (hsz := hz') (nest_room hu) hk dd fun h' dd' hs => ?_
    have hl : (storedH xs k p r).length ≤ sizeLine := by
      rw [r2.len, ← e2]
      have := putE_len true ds k kd d
      omega
    have ho : ∃ q, h'.get? a = some q := let ⟨q, _, _, hq, _⟩ := dd'; ⟨q, hq⟩
    exact q _ _ (d_write I (by rw [hH]; exact True.intro) hs ho (dn_ok (dn_phi hd hl dd' r2.hash))) ⟨_, upd_same, r2⟩
/-- {} -/
def tNewN : TE := fun _ H Q => ∀ p, H p = none → Q (.ref p) (upd H p (DN p []))
theorem dphi_new (h : Heap) (hb : sysModules < h.objs.size) : DPhi h.objs.size [] (h.push { cls := .type "dict", data := .dict #[] }) :=
  ⟨beq_eq_false_iff_ne.mpr (Ne.symm (Nat.ne_of_lt hb)), Nat.zero_le _, List.nodup_nil, _, #[], 0, Heap.get?_push_size _ rfl, ⟨rfl, rfl, rfl⟩, rfl, fun _ => rfl⟩
theorem pe_newN {pos : Pos} : PE X (.Dict [] [] pos) tNewN := ⟨fun pins s σ H Q I h =>
  wpAny_Dict_empty ⟨.ref s.heap.objs.size, _, I.laid (a := s.heap.objs.size) (o := DN s.heap.objs.size []) (t' := s.toks) (fun _ _ q => Heap.get?_push_of_some _ q) (Nat.le_refl _) (dn_ok (dphi_new s.heap I.big)), rfl, h _ (I.hok.fresh (Nat.le_refl _))⟩⟩
/-- {k: v}, k a tuple: the dict stands empty while both are made -/
def tNew1 (K : PySem.W.Frag) (tk tv : TE) : TE := fun σ H Q => ∀ p, H p = none → tk σ (upd H p (DN p [])) fun x H1 => tv σ H1 fun y H2 =>
  ∃ (F : Hp) (kd d : D) (k : NestedKey), Ex F H2 ∧ H2 p = some (DN p []) ∧ Rp K F x kd ∧ kOf true kd = some k ∧ Rp K F y d ∧ ∀ xs, RpN K F xs [(kd, d)] → Q (.ref p) (upd H2 p (DN p xs))
theorem pe_new1 {k v : Expr} {pos : Pos} {tk tv : TE} (hu : X.A.units + 9 < cLine) (hk : PE X k tk) (hv : PE X v tv) : PE X (.Dict [some k] [v] pos) (tNew1 X.K tk tv) := by
  refine ⟨fun pins s σ H Q I q => ?_⟩
  have hn := I.hok.fresh (Nat.le_refl s.heap.objs.size)
  have I1 := I.laid (a := s.heap.objs.size) (o := DN s.heap.objs.size []) (h' := s.heap.push { cls := .type "dict", data := .dict #[] }) (t' := s.toks) (fun _ _ q => Heap.get?_push_of_some _ q) (Nat.le_refl _) (dn_ok (dphi_new s.heap I.big))
  have sh : (evalEachOpt [some k] X.env).zip ((evalEach [v] X.env).map fun v => do let x ← v; standAt pos; pure x) = (pairTrees [some k] [v] X.env pos).map fun p => (some p.1, p.2) := zip_pairTrees [some k] [v] X.env pos rfl rfl
  rw [arm_eval_Dict, sh, dictDisplay_pairs (pairTrees [some k] [v] X.env pos) (by intro z; cases z) (by rw [pairTrees_length [some k] [v] X.env pos rfl rfl]; show 1 < 17; decide)]
  refine wpAny_bind (wpAny_standAt (wpAny_bind (wpAny_subDictH (knd := nestedKind X.prog X.w) (show X.A.units + 8 < cLine by omega) (by rw [pairTrees_length [some k] [v] X.env pos rfl rfl]; show 1 ≤ 15; decide) ?_)))
  refine pairTrees_cons_walk (thn (hk.run pins _ σ _ _ I1 (q _ hn)) fun u s1 ⟨x, H1, I2, rx, q1⟩ => thn (hv.run pins s1 σ H1 _ I2 q1) fun r s2 ⟨y, H2, I3, ry, F, kd, d, k0, e, hp, r1, r2, r3, q2⟩ => pairTrees_nil_walk ?_)
  obtain ⟨_, _, e3, _⟩ := kOf_tup r2
  obtain ⟨p, rfl⟩ : ∃ p, x = .ref p := by
    subst e3
    cases r1 with
    | tup _ _ => exact ⟨_, rfl⟩
  cases (show u = Value.ref p from rx)
  obtain ⟨hd, hz, dd⟩ := dn_facts (F := F) I3 e (.inl hp) .nil
  refine ⟨[(k0, p, r)], ⟨rfl, rfl, key_at I3 e r1 r2, trivial⟩, dd, fun h' tk dd' hs => wpAny_pure ?_⟩
  have rn : RpN X.K F [(k0, p, r)] [(kd, d)] := .cons r1 r2 ry r3 .nil
  have ho : ∃ q, h'.get? s.heap.objs.size = some q := let ⟨q, _, _, hq, _⟩ := dd'; ⟨q, hq⟩
  exact ⟨.ref s.heap.objs.size, _, d_write I3 (by rw [hp]; exact True.intro) hs ho (dn_ok (dn_phi hd (by show 1 ≤ sizeLine; decide) dd' rn.hash)), rfl, q2 _ rn⟩
/-- from here on the thing at d is known: it is read, never written -/
def tSee (t : TS) : TS := fun D σ H => ∃ d u, H d = some u ∧ Mut (some u) ∧ ∀ od, t D σ (upd H d (.frz od u))
theorem ps_see {st : Stmt} {t : TS} (h : PS X st t) : PS X st (tSee t) := by
  refine ⟨fun pins s σ H D I hw => ?_⟩
  obtain ⟨d, u, hd, mu, hw⟩ := hw
  obtain ⟨od, I1⟩ := I.lock hd mu
  exact h.run pins s σ _ _ I1 (hw od)
theorem ps_orD {st : Stmt} {t u : TS} (h : PS X st t) (h' : PS X st u) : PS X st (fun D σ H => t D σ H ∨ u D σ H) := ⟨fun pins s σ H D I q => q.elim (fun q => h.run pins s σ H D I q) fun q => h'.run pins s σ H D I q⟩
theorem pe_orD {st : Expr} {t u : TE} (h : PE X st t) (h' : PE X st u) : PE X st (fun σ H Q => t σ H Q ∨ u σ H Q) := ⟨fun pins s σ H D I q => q.elim (fun q => h.run pins s σ H D I q) fun q => h'.run pins s σ H D I q⟩
/-- an empty dict of numbers and texts, seen as one of tuples -/
theorem nil_dn (I : Inv X pins σ H s) (h : H a = some (.dK [])) : ∃ od, Inv X pins σ (upd H a (.frz od (DN a []))) s := by
  obtain ⟨z, y, vs, rel, o, es, ep, h1, h2, h3, _, hp, _⟩ := dk_rd I.hok (.inl h)
  cases rel
  have e0 : es.toList = [] := by
    have := Pairs.length hp
    exact List.eq_nil_of_length_eq_zero this
  have p : DPhi a [] s.heap := ⟨y, Nat.zero_le _, List.nodup_nil, o, es, ep, h1, h2, h3, fun w => by rw [e0]; rfl⟩
  have I1 : Inv X pins σ (upd H a (DN a [])) s := I.write (x := a) (e := a) (t' := s.toks) (h' := s.heap) (by rw [h]; exact True.intro) (.inl rfl) (fun b v _ q => q) ⟨o, h1⟩ (dn_ok p)
  obtain ⟨od, I2⟩ := I1.lock (u := DN a []) upd_same True.intro
  rw [upd_upd] at I2
  exact ⟨od, I2⟩
def tSee0 (t : TS) : TS := fun D σ H => ∃ d, H d = some (.dK []) ∧ ∀ od, t D σ (upd H d (.frz od (DN d [])))
theorem ps_see0 {st : Stmt} {t : TS} (h : PS X st t) : PS X st (tSee0 t) := by
  refine ⟨fun pins s σ H D I hw => ?_⟩
  obtain ⟨d, hd, hw⟩ := hw
  obtain ⟨od, I1⟩ := nil_dn I hd
  exact h.run pins s σ _ _ I1 (hw od)
end
end DL
end
section
set_option Elab.async false
set_option linter.all false
set_option maxRecDepth 100000
/-! Dicts in expressions and statements. -/
namespace DL
open PySem PySem.Spec PyProof.Rows L2
/-! ### reading -/
def gIxD : D → D → Option D
  | .dict ds, kd => (dGet ds kd).bind id
  | _, _ => none
def gInD (neg : Bool) : D → D → Option D
  | kd, .dict ds => (dGet ds kd).map fun o => .bool (if neg then !o.isSome else o.isSome)
  | _, _ => none
def gGet1 : D → D → Option D
  | .dict ds, kd => (dGet ds kd).map fun o => o.getD .none
  | _, _ => none
def gGet2 : D → D → D → Option D
  | .dict ds, kd, z => (dGet ds kd).map fun o => o.getD z
  | _, _, _ => none
def gLenD : D → Option D
  | .dict ds => some (.int ds.length)
  | _ => none
def gKeys : D → Option (List D)
  | .dict ds => some (ds.map (·.1))
  | _ => none
def gVals : D → Option (List D)
  | .dict ds => some (ds.map (·.2))
  | _ => none
def gItems : D → Option (List D)
  | .dict ds => some (ds.map fun p => .tuple [p.1, p.2])
  | _ => none
theorem dGet_key {ds : List (D × D)} {kd : D} {o : Option D} (h : dGet ds kd = some o) : (∃ ks, kd = .tuple ks) ∨ scD kd = true := by
  unfold dGet at h
  split at h
  · obtain ⟨k, e1, _⟩ := Option.map_eq_some_iff.mp h
    cases kd with
    | tuple ks => exact .inl ⟨ks, rfl⟩
    | int i => exact .inr rfl
    | str i => exact .inr rfl
    | _ => cases e1
  · cases h
section
variable {X : Cx} {a b e f : Expr} {pos apos cpos : Pos} {fa fb fe ff : Fm → Option D}
theorem vw_key {K : PySem.W.Frag} {F H : Hp} {x : V} {kd : D} {ds : List (D × D)} {o : Option D} (h : Vw K F H x kd) (g : dGet ds kd = some o) : Rp K F x kd := by
  rcases dGet_key g with ⟨ks, rfl⟩ | hs
  · rcases h with h | ⟨_, _, _, _, q, _⟩ | ⟨_, _, _, q, _⟩
    · exact h
    · cases q
    · cases q
  · exact h.sc hs F
def tDix (K : PySem.W.Frag) (ta tb : TE) : TE := fun σ H Q => ta σ H fun x H1 => tb σ H1 fun y H2 => ∃ (F : Hp) (p : Addr) (ds : List (D × D)) (kd d : D), x = .ref p ∧ Ex F H2 ∧ DV K F H2 p ds ∧ Rp K F y kd ∧ dGet ds kd = some (some d) ∧ ∀ v, Rp K F v d → Q v H2
theorem pe_dix {ta tb : TE} (hu : X.A.units + 9 < cLine) (ha : PE X a ta) (hb : PE X b tb) (hs : NoSl b) : PE X (.Subscript a b pos) (tDix X.K ta tb) := by
  refine ⟨fun pins s σ H Q I h => ?_⟩
  refine subD_of PySem.F.slot_dict_getitem.lookup hs (thn (ha.run pins s σ H _ I h) fun u s1 ⟨x, H1, I1, rx, q1⟩ => thn (hb.run pins s1 σ H1 _ I1 q1) fun r s2 ⟨y, H2, I2, ry, F, p, ds, kd, d, ex, e, dv, rk, g, q2⟩ => ?_)
  subst ex
  cases (show u = Value.ref p from rx)
  exact ⟨(dv_type I2 dv e).1, dv_item hu I2 e dv rk ry g fun u' v' s3 I3 r1 r2 => ⟨v', H2, I3, r1, q2 v' r2⟩⟩
theorem d_ixD {k : Nat} (hr : Room k X.A) (ha : PV X a fa) (hb : PV X b fb) (hs : NoSl b := by exact fun _ _ => rfl) : PP X (.Subscript a b pos) (fOp2 gIxD fa fb) := by
  obtain ⟨ta, h1, h2⟩ := ha
  obtain ⟨tb, h3, h4⟩ := hb
  refine ⟨_, pe_dix (by have := Room.u66 hr; omega) h1 h3 hs, fun F H σ ρ d hf hR Q q => ?_⟩
  obtain ⟨dx, e1, hf⟩ := Option.bind_eq_some_iff.mp hf
  obtain ⟨dy, e2, hf⟩ := Option.bind_eq_some_iff.mp hf
  refine h2 F H σ ρ _ e1 hR _ fun x F1 H1 g1 r1 => h4 F1 H1 σ ρ _ e2 (hR.gr g1) _ fun y F2 H2 g2 r2 => ?_
  cases dx with
  | dict ds =>
    obtain ⟨o, e3, e4⟩ := Option.bind_eq_some_iff.mp (show (dGet ds dy).bind id = some d from hf)
    cases (show o = some d from e4)
    obtain ⟨p, rfl, dv⟩ := r1.dict g1.in_
    exact ⟨F2, p, ds, dy, d, rfl, g2.in_, dv.gr g2, vw_key r2 e3, e3, fun v rv => q v F2 H2 (g1.trans g2) rv⟩
  | _ => cases hf
def rDIn (K : PySem.W.Frag) (neg : Bool) : R2 := fun x y H Q => ∃ (F : Hp) (p : Addr) (ds : List (D × D)) (kd : D) (o : Option D), y = .ref p ∧ Ex F H ∧ DV K F H p ds ∧ Rp K F x kd ∧ dGet ds kd = some o ∧ Q (.bl (if neg then !o.isSome else o.isSome)) H
theorem op_dIn (hu : X.A.units + 9 < cLine) : OpR X (compareOp .In) (rDIn X.K false) := by
  intro pins s σ H x y v u Q I rx ry ⟨F, p, ds, kd, o, ey, e, dv, rk, g, q⟩
  subst ey
  cases (show u = Value.ref p from ry)
  exact dv_in hu I e dv rk rx g fun s1 I1 => ⟨.bl o.isSome, H, I1, rfl, q⟩
theorem op_dNi (hu : X.A.units + 9 < cLine) : OpR X (compareOp .NotIn) (rDIn X.K true) := by
  intro pins s σ H x y v u Q I rx ry ⟨F, p, ds, kd, o, ey, e, dv, rk, g, q⟩
  subst ey
  cases (show u = Value.ref p from ry)
  exact dv_ni hu I e dv rk rx g fun s1 I1 => ⟨.bl (!o.isSome), H, I1, rfl, q⟩
theorem vw_dIn {K : PySem.W.Frag} {neg : Bool} : ∀ F H x y dx dy dz, Ex F H → Vw K F H x dx → Vw K F H y dy → gInD neg dx dy = some dz → ∀ Q : VK, Res K F H dz Q → rDIn K neg x y H Q := by
  intro F H x y dx dy dz e hx hy hg Q k
  cases dy with
  | dict ds =>
    obtain ⟨o, e1, e2⟩ := Option.map_eq_some_iff.mp (show (dGet ds dx).map _ = some dz from hg)
    cases e2
    obtain ⟨p, rfl, dv⟩ := hy.dict e
    exact ⟨F, p, ds, dx, o, rfl, e, dv, vw_key hx e1, e1, k.sc e fun _ => .bl _⟩
  | _ => cases hg
theorem c_inD {k : Nat} (hr : Room k X.A) (ha : PV X a fa) (hb : PV X b fb) : PCm X .In a b (fOp2 (gInD false) fa fb) := let ⟨ta, h1, h2⟩ := ha; let ⟨tb, h3, h4⟩ := hb; ⟨_, ta, tb, op_dIn (by have := Room.u66 hr; omega), h1, h3, sp_op2 vw_dIn h2 h4⟩
theorem c_niD {k : Nat} (hr : Room k X.A) (ha : PV X a fa) (hb : PV X b fb) : PCm X .NotIn a b (fOp2 (gInD true) fa fb) := let ⟨ta, h1, h2⟩ := ha; let ⟨tb, h3, h4⟩ := hb; ⟨_, ta, tb, op_dNi (by have := Room.u66 hr; omega), h1, h3, sp_op2 vw_dIn h2 h4⟩
/-! d.get(k), d.get(k, z) -/
def tDg1 (K : PySem.W.Frag) (ta tb : TE) : TE := fun σ H Q => ta σ H fun x H1 => ∃ (F : Hp) (p : Addr) (ds : List (D × D)), x = .ref p ∧ Ex F H1 ∧ DV K F H1 p ds ∧ tb σ H1 fun y H2 => ∃ (F : Hp) (kd : D) (o : Option D), Ex F H2 ∧ DV K F H2 p ds ∧ Rp K F y kd ∧ dGet ds kd = some o ∧ ∀ v, Rp K F v (o.getD .none) → Q v H2
def tDg2 (K : PySem.W.Frag) (ta tb tc : TE) : TE := fun σ H Q => ta σ H fun x H1 => ∃ (F : Hp) (p : Addr) (ds : List (D × D)), x = .ref p ∧ Ex F H1 ∧ DV K F H1 p ds ∧ tb σ H1 fun y H2 => tc σ H2 fun z H3 =>
  ∃ (F : Hp) (kd dz : D) (o : Option D), Ex F H3 ∧ DV K F H3 p ds ∧ Rp K F y kd ∧ Rp K F z dz ∧ dGet ds kd = some o ∧ ∀ v, Rp K F v (o.getD dz) → Q v H3
theorem pe_dg1 {o : Expr} {ta tb : TE} (hu : X.A.units + 9 < cLine) (ho : PE X o ta) (he : PE X e tb) (m : M1 X o "get" apos e cpos) : PE X (.Call (.Attribute o "get" apos) [e] [] cpos) (tDg1 X.K ta tb) := by
  refine ⟨fun pins s σ H Q I h => ?_⟩
  refine wpAny_Call_method m.base m.few m.line PySem.F.plainAttrs_dict PySem.F.slot_dict_get PySem.F.type_dict_get (thn (ho.run pins s σ H _ I h) fun u s1 ⟨x, H1, I1, rx, F, p, ds, ex, ef, dv, q1⟩ => ?_)
  subst ex
  cases (show u = Value.ref p from rx)
  obtain ⟨t1, t2⟩ := dv_type I1 dv ef
  refine ⟨t1, t2, ?_⟩
  rw [m.trees]
  refine Calls.callWith_builtin rfl (Calls.evalArgs_plain (Calls.spliced_cons (thn (he.run pins s1 σ H1 _ I1 q1) fun r s2 ⟨y, H2, I2, ry, F2, kd, w, ef2, dv2, rk, g, q2⟩ => Calls.spliced_nil ?_)))
  exact dv_get1 hu I2 ef2 dv2 rk ry g fun u' v' s3 I3 r1 r2 => ⟨v', H2, I3, r1, q2 v' r2⟩
theorem pe_dg2 {o : Expr} {ta tb tc : TE} (hu : X.A.units + 9 < cLine) (ho : PE X o ta) (he : PE X e tb) (hf : PE X f tc) (m : M2 X o "get" apos e f cpos) : PE X (.Call (.Attribute o "get" apos) [e, f] [] cpos) (tDg2 X.K ta tb tc) := by
  refine ⟨fun pins s σ H Q I h => ?_⟩
  refine wpAny_Call_method m.base m.few m.line PySem.F.plainAttrs_dict PySem.F.slot_dict_get PySem.F.type_dict_get (thn (ho.run pins s σ H _ I h) fun u s1 ⟨x, H1, I1, rx, F, p, ds, ex, ef, dv, q1⟩ => ?_)
  subst ex
  cases (show u = Value.ref p from rx)
  obtain ⟨t1, t2⟩ := dv_type I1 dv ef
  refine ⟨t1, t2, ?_⟩
  rw [m.trees]
  refine Calls.callWith_builtin rfl (Calls.evalArgs_plain (Calls.spliced_cons (thn (he.run pins s1 σ H1 _ I1 q1) fun r s2 ⟨y, H2, I2, ry, q2⟩ => Calls.spliced_cons (thn (hf.run pins s2 σ H2 _ I2 q2) fun r3 s3 ⟨z, H3, I3, rz, F3, kd, dz, w, ef2, dv2, rk, rd, g, q3⟩ => Calls.spliced_nil ?_))))
  exact dv_get2 hu I3 ef2 dv2 rk ry rz rd g fun u' v' s4 I4 r1 r2 => ⟨v', H3, I4, r1, q3 v' r2⟩
theorem d_get1 {o : Expr} {k : Nat} (hr : Room k X.A) (ha : PV X o fa) (hb : PP X e fb) (m : M1 X o "get" apos e cpos := by exact ⟨rfl, rfl, rfl, rfl⟩) : PP X (.Call (.Attribute o "get" apos) [e] [] cpos) (fOp2 gGet1 fa fb) := by
  obtain ⟨ta, h1, h2⟩ := ha
  obtain ⟨tb, h3, h4⟩ := hb
  refine ⟨_, pe_dg1 (by have := Room.u66 hr; omega) h1 h3 m, fun F H σ ρ d hf hR Q q => ?_⟩
  obtain ⟨dx, e1, hf⟩ := Option.bind_eq_some_iff.mp hf
  obtain ⟨dy, e2, hf⟩ := Option.bind_eq_some_iff.mp hf
  cases dx with
  | dict ds =>
    obtain ⟨w, e3, e4⟩ := Option.map_eq_some_iff.mp (show (dGet ds dy).map _ = some d from hf)
    cases e4
    refine h2 F H σ ρ _ e1 hR _ fun x F1 H1 g1 r1 => ?_
    obtain ⟨p, rfl, dv⟩ := r1.dict g1.in_
    refine ⟨F1, p, ds, rfl, g1.in_, dv, h4 F1 H1 σ ρ _ e2 (hR.gr g1) _ fun y F2 H2 g2 r2 => ?_⟩
    exact ⟨F2, dy, w, g2.in_, dv.gr g2, r2, e3, fun v rv => q v F2 H2 (g1.trans g2) rv⟩
  | _ => cases hf
def fOp3 (g : D → D → D → Option D) (fa fb fc : Fm → Option D) (ρ : Fm) : Option D := (fa ρ).bind fun x => (fb ρ).bind fun y => (fc ρ).bind fun z => g x y z
theorem d_get2 {o : Expr} {k : Nat} (hr : Room k X.A) (ha : PV X o fa) (hb : PP X e fb) (hc : PP X f ff) (m : M2 X o "get" apos e f cpos := by exact ⟨rfl, rfl, rfl, rfl⟩) : PP X (.Call (.Attribute o "get" apos) [e, f] [] cpos) (fOp3 gGet2 fa fb ff) := by
  obtain ⟨ta, h1, h2⟩ := ha
  obtain ⟨tb, h3, h4⟩ := hb
  obtain ⟨tc, h5, h6⟩ := hc
  refine ⟨_, pe_dg2 (by have := Room.u66 hr; omega) h1 h3 h5 m, fun F H σ ρ d hf hR Q q => ?_⟩
  obtain ⟨dx, e1, hf⟩ := Option.bind_eq_some_iff.mp hf
  obtain ⟨dy, e2, hf⟩ := Option.bind_eq_some_iff.mp hf
  obtain ⟨dz, e5, hf⟩ := Option.bind_eq_some_iff.mp hf
  cases dx with
  | dict ds =>
    obtain ⟨w, e3, e4⟩ := Option.map_eq_some_iff.mp (show (dGet ds dy).map _ = some d from hf)
    cases e4
    refine h2 F H σ ρ _ e1 hR _ fun x F1 H1 g1 r1 => ?_
    obtain ⟨p, rfl, dv⟩ := r1.dict g1.in_
    refine ⟨F1, p, ds, rfl, g1.in_, dv, h4 F1 H1 σ ρ _ e2 (hR.gr g1) _ fun y F2 H2 g2 r2 => h6 F2 H2 σ ρ _ e5 (hR.gr (g1.trans g2)) _ fun z F3 H3 g3 r3 => ?_⟩
    exact ⟨F3, dy, dz, w, g3.in_, (dv.gr g2).gr g3, r2.mono g3.ex, r3, e3, fun v rv => q v F3 H3 ((g1.trans g2).trans g3) rv⟩
  | _ => cases hf
end
/-! ### one's own dicts: made, written, seen -/
def mNewD (t : Bool) (ρ : Fm) : Option (B × Fm) := some (.od t [], ρ)
def mNew1 (fk fv : Fm → Option D) (ρ : Fm) : Option (B × Fm) := (fk ρ).bind fun kd => (fv ρ).bind fun d => (kOf true kd).map fun _ => (.od true [(kd, d)], ρ)
/-- x[k] = e, x a dict of one's own -/
def sDset (i : Nat) (fk : Fm → Option D) (f : Fm → Option (D × Fm)) (ρ : Fm) : Option (Fl × Fm) := (f ρ).bind fun x => match x.2[i]? with
  | some (.od t ds) => (fk x.2).bind fun kd => if ds.length < bigN then (dPut t ds kd x.1).map fun ds' => (.nx, x.2.set i (.od t ds')) else none
  | _ => none
/-- x[k] op= e -/
def sDaug (i : Nat) (g : D → D → Option D) (fk f : Fm → Option D) (ρ : Fm) : Option (Fl × Fm) := match ρ[i]? with
  | some (.od t ds) => (fk ρ).bind fun kd => (dGet ds kd).bind fun o => o.bind fun v0 => (f ρ).bind fun v => (g v0 v).bind fun z => if ds.length < bigN then (dPut t ds kd z).map fun ds' => (.nx, ρ.set i (.od t ds')) else none
  | _ => none
def frzD (i : Nat) (ρ : Fm) : Fm := match ρ[i]? with
  | some (.od _ ds) => ρ.set i (.sh (.dict ds))
  | _ => ρ
def sFrzD (i : Nat) (f : Fm → Option (Fl × Fm)) (ρ : Fm) : Option (Fl × Fm) := f (frzD i ρ)
section
variable {X : Cx} {a b e f k v value : Expr} {pos tp q : Pos} {fa fb fe fk fv : Fm → Option D} {ge : Fm → Option (D × Fm)}
theorem m_newT : XM X (.Dict [] [] pos) (mNewD true) := ⟨_, pe_newN, fun F H σ ρ b ρ' hf hR Q kk => by
  cases hf
  refine fun p hp => kk _ F _ (.gr hR (Gr.newH hR.ex hp)) ⟨p, rfl, hp, hR.ex.free hp, [], upd_same, .nil⟩⟩
theorem m_newK : XM X (.Dict [] [] pos) (mNewD false) := ⟨_, pe_dnewK, fun F H σ ρ b ρ' hf hR Q kk => by
  cases hf
  refine fun p hp => kk _ F _ (.gr hR (Gr.newH hR.ex hp)) ⟨p, rfl, hp, hR.ex.free hp, [], upd_same, .nil⟩⟩
theorem m_new1 {n : Nat} (hr : Room n X.A) (hk : PP X k fk) (hv : PP X v fv) : XM X (.Dict [some k] [v] pos) (mNew1 fk fv) := by
  obtain ⟨tk, h1, h2⟩ := hk
  obtain ⟨tv, h3, h4⟩ := hv
  refine ⟨_, pe_new1 (by have := Room.u66 hr; omega) h1 h3, fun F H σ ρ b ρ' hf hR Q kk p hp => ?_⟩
  obtain ⟨kd, e1, hf⟩ := Option.bind_eq_some_iff.mp hf
  obtain ⟨d, e2, hf⟩ := Option.bind_eq_some_iff.mp hf
  obtain ⟨k0, e3, hf⟩ := Option.map_eq_some_iff.mp hf
  cases hf
  have g0 := Gr.newH (o := DN p []) hR.ex hp
  refine h2 F _ σ ρ _ e1 (hR.gr g0) _ fun x F1 H1 g1 r1 => h4 F1 H1 σ ρ _ e2 ((hR.gr g0).gr g1) _ fun y F2 H2 g2 r2 => ?_
  have g12 := g1.trans g2
  have hF0 : F p = none := hR.ex.free hp
  have hF2 : F2 p = none := g12.hide p (by rw [upd_same]; intro z; cases z) hF0
  refine ⟨F2, kd, d, k0, g2.in_, g12.keep _ _ upd_same, r1.mono g2.ex, e3, r2, fun xs rx => ?_⟩
  refine kk _ F2 _ (.gr hR ⟨g12.ex, fun c o z => ?_, fun c o z => ?_, fun c hc hf0 => ?_⟩) ⟨p, rfl, hp, hF2, xs, upd_same, rx⟩
  · have : c ≠ p := fun w => by rw [w, hF2] at z; cases z
    rw [upd_ne this]
    exact g2.in_ c o z
  · have : c ≠ p := fun w => by rw [w, hp] at z; cases z
    rw [upd_ne this]
    exact g12.keep c o (by rw [upd_ne this]; exact z)
  · have : c ≠ p := fun w => hc (by rw [w]; exact hp)
    exact g12.hide c (by rw [upd_ne this]; exact hc) hf0
theorem own_wrD {K : PySem.W.Frag} {F H : Hp} {σ : L2.St} {ρ : Fm} {i : Nat} {t : Bool} {ds ds' : List (D × D)} {p : Addr} {o' : HO} (hR : Rel K F H σ ρ) (e : ρ[i]? = some (.od t ds)) (s : σ[i]? = some (some (.ref p))) (hf : F p = none) (r : Dct K F (upd H p o') p t ds') :
    GoE K F H σ ρ F (upd H p o') (ρ.set i (.od t ds')) :=
  goE_putB hR e rfl s (.refl _) (fun b o h => by
    have : b ≠ p := fun z => by rw [z, hf] at h; cases h
    rw [upd_ne this]
    exact hR.ex b o h) (fun c o h n => by rw [upd_ne n]; exact h) (fun c _ h => h) upd_same rfl (fun _ => ⟨p, s, hf, r⟩) fun ds0 z => by cases z
def tDset (K : PySem.W.Frag) (td ty tv : TE) : TS := fun E σ H => tv σ H fun v H1 => td σ H1 fun x H2 => ty σ H2 fun y H3 => ∃ (F : Hp) (p : Addr) (t : Bool) (ds ds' : List (D × D)) (kd d : D), x = .ref p ∧ Ex F H3 ∧ F p = none ∧ Dct K F H3 p t ds ∧ Rp K F y kd ∧ Rp K F v d ∧ dPut t ds kd d = some ds' ∧ ds.length < bigN ∧
  ∀ o', Dct K F (upd H3 p o') p t ds' → E.nx σ (upd H3 p o')
theorem ps_dset {td ty tv : TE} (hu : X.A.units + 9 < cLine) (ho : PE X a td) (hi : PE X b ty) (hv : PE X value tv) (hs : swapsWith value (some (.Subscript a b tp)) pos.line X.env = pure false) : PS X (.Assign [.Subscript a b tp] value pos) (tDset X.K td ty tv) := by
  refine ⟨fun pins s σ H E I h => ?_⟩
  refine wpAny_Assign_Subscript (thn (hv.run pins s σ H _ I h) fun r s1 ⟨v, H1, I1, rv, q1⟩ => thn (ho.run pins s1 σ H1 _ I1 q1) fun u s2 ⟨x, H2, I2, rx, q2⟩ => thn (hi.run pins s2 σ H2 _ I2 q2) fun w s3 ⟨y, H3, I3, ry, F, p, t, ds, ds', kd, d, ex, ef, hf, dc, rk, rd, g, hz, q3⟩ => ?_) hs
  subst ex
  cases (show u = Value.ref p from rx)
  exact dct_set hu I3 ef hf dc rk ry rv rd g hz fun o' s4 I4 dc4 => ⟨σ, _, I4, q3 o' dc4⟩
theorem s_dset (i : Nat) {y : Str} {n : Nat} (hr : Room n X.A) (hk : PP X b fk) (h : XE X e ge) (hv : PE X (.Name y q) (tVar i) := by exact pv _) (hs : swapsWith e (some (.Subscript (.Name y q) b tp)) pos.line X.env = pure false := by rfl) :
    PSt X (.Assign [.Subscript (.Name y q) b tp] e pos) (sDset i fk ge) := by
  obtain ⟨t, h1, h2⟩ := h
  obtain ⟨u, h3, h4⟩ := hk
  refine ⟨_, ps_dset (by have := Room.u66 hr; omega) hv h3 h1 hs, fun F H σ ρ fl ρ' hf hR E k1 k2 k3 => ?_⟩
  obtain ⟨⟨d, ρ1⟩, e1, e2⟩ := Option.bind_eq_some_iff.mp hf
  dsimp only at e2
  split at e2
  · rename_i t ds e3
    obtain ⟨kd, e4, e5⟩ := Option.bind_eq_some_iff.mp e2
    split at e5
    · rename_i hz
      obtain ⟨ds', e6, e7⟩ := Option.map_eq_some_iff.mp e5
      cases e7
      refine h2 F H σ ρ _ ρ1 e1 hR _ fun v F1 H1 g1 r1 => ?_
      obtain ⟨p, s1, hf1, dc1⟩ := g1.rel.at_ i _ e3
      refine ⟨.ref p, s1, h4 F1 H1 σ ρ1 _ e4 g1.rel _ fun w F2 H2 g2 r2 => ?_⟩
      have g12 := g1.trans (.gr g1.rel g2)
      obtain ⟨p2, s2, hf2, dc2⟩ := g12.rel.at_ i _ e3
      rw [s1] at s2
      cases s2
      exact ⟨F2, p, t, ds, ds', kd, d, rfl, g2.in_, hf2, dc2, r2, r1.mono g2.ex, e6, hz, fun o' dc3 => k1 rfl σ F2 _ (g12.go.trans (own_wrD g12.rel e3 s1 hf2 dc3).go)⟩
    · cases e5
  · cases e2
def tDaug (K : PySem.W.Frag) (td ty tv : TE) (r : R2) : TS := fun E σ H => td σ H fun x H1 => ty σ H1 fun y H2 => ∃ (F : Hp) (p : Addr) (ds : List (D × D)) (kd v0 : D), x = .ref p ∧ Ex F H2 ∧ DV K F H2 p ds ∧ Rp K F y kd ∧ dGet ds kd = some (some v0) ∧
  ∀ v1, Rp K F v1 v0 → tv σ H2 fun v H3 => r v1 v H3 fun z H4 => ∃ (F : Hp) (t : Bool) (ds ds' : List (D × D)) (kd d : D), Ex F H4 ∧ F p = none ∧ Dct K F H4 p t ds ∧ Rp K F y kd ∧ Rp K F z d ∧ dPut t ds kd d = some ds' ∧ ds.length < bigN ∧
  ∀ o', Dct K F (upd H4 p o') p t ds' → E.nx σ (upd H4 p o')
theorem ps_daugU {op : Operator} {r : R2} {td ty tv : TE} (hu : X.A.units + 9 < cLine) (ho : PE X a td) (hi : PE X b ty) (hv : PE X value tv) (hop : OpR X (inplaceOp op) r)
    (ha : ∀ ov iv new, augStore b ov iv new = (do holding [new, ov, iv] (setItem ov iv new); release [new, ov, iv] []; pure .next)) : PS X (.AugAssign (.Subscript a b tp) op value pos) (tDaug X.K td ty tv r) := by
  refine ⟨fun pins s σ H E I h => ?_⟩
  refine wpAny_AugAssign_SubscriptAny (thn (ho.run pins s σ H _ I h) fun u s1 ⟨x, H1, I1, rx, q1⟩ => thn (hi.run pins s1 σ H1 _ I1 q1) fun w s2 ⟨y, H2, I2, ry, F, p, ds, kd, v0, ex, ef, dv, rk, g, q2⟩ => ?_) ha
  subst ex
  cases (show u = Value.ref p from rx)
  refine dv_item hu I2 ef dv rk ry g fun u1 v1 s3 I3 r1 r2 => thn (hv.run pins s3 σ H2 _ I3 (q2 v1 r2)) fun w2 s4 ⟨v, H3, I4, rv, q3⟩ => thn (hop pins s4 σ H3 v1 v u1 w2 _ I4 r1 rv q3) fun w3 s5 ⟨z, H4, I5, rz, F5, t, ds5, ds', kd5, d5, ef5, hf5, dc5, rk5, rd5, g5, hz5, q4⟩ => ?_
  exact dct_set hu I5 ef5 hf5 dc5 rk5 ry rz rd5 g5 hz5 fun o' s6 I6 dc6 => ⟨σ, _, I6, q4 o' dc6⟩
theorem s_daug (i : Nat) {y : Str} {n : Nat} {op : Operator} {g : D → D → Option D} {r : R2} (hr : Room n X.A) (ho : OpR X (inplaceOp op) r) (hg : ∀ F H x y dx dy dz, Ex F H → Vw X.K F H x dx → Vw X.K F H y dy → g dx dy = some dz → ∀ Q : VK, Res X.K F H dz Q → r x y H Q)
    (hk : PP X b fk) (he : PP X e fe) (hv : PE X (.Name y q) (tVar i) := by exact pv _)
    (ha : ∀ ov iv new, augStore b ov iv new = (do holding [new, ov, iv] (setItem ov iv new); release [new, ov, iv] []; pure .next) := by exact fun _ _ _ => rfl) :
    PSt X (.AugAssign (.Subscript (.Name y q) b tp) op e pos) (sDaug i g fk fe) := by
  obtain ⟨t, h1, h2⟩ := he
  obtain ⟨u, h3, h4⟩ := hk
  refine ⟨_, ps_daugU (by have := Room.u66 hr; omega) hv h3 h1 ho ha, fun F H σ ρ fl ρ' hf hR E k1 k2 k3 => ?_⟩
  unfold sDaug at hf
  split at hf
  · rename_i t ds e3
    obtain ⟨kd, e4, q1⟩ := Option.bind_eq_some_iff.mp hf
    obtain ⟨o, e5, q2⟩ := Option.bind_eq_some_iff.mp q1
    obtain ⟨v0, e6, q3⟩ := Option.bind_eq_some_iff.mp q2
    obtain ⟨v, e7, q4⟩ := Option.bind_eq_some_iff.mp q3
    obtain ⟨z, e8, q5⟩ := Option.bind_eq_some_iff.mp q4
    clear q4 q3 q2 q1 hf
    subst e6
    split at q5
    · rename_i hz
      obtain ⟨ds', e9, q6⟩ := Option.map_eq_some_iff.mp q5
      cases q6
      obtain ⟨p, s1, hf1, dc1⟩ := hR.at_ i _ e3
      refine ⟨.ref p, s1, h4 F H σ ρ _ e4 hR _ fun w F1 H1 g1 r1 => ?_⟩
      obtain ⟨p1, s2, hf2, dc2⟩ := (hR.gr g1).at_ i _ e3
      rw [s1] at s2
      cases s2
      refine ⟨F1, p, ds, kd, v0, rfl, g1.in_, dc2.dv, r1, e5, fun v1 rv1 => h2 F1 H1 σ ρ _ e7 (hR.gr g1) _ fun v2 F2 H2 g2 r2 => ?_⟩
      refine hg F2 H2 v1 v2 v0 v z g2.in_ (.inl (rv1.mono g2.ex)) (.inl r2) e8 _ fun z3 F3 H3 g3 r3 => ?_
      have g123 := (g1.trans g2).trans g3
      obtain ⟨p3, s3, hf3, dc3⟩ := (hR.gr g123).at_ i _ e3
      rw [s1] at s3
      cases s3
      exact ⟨F3, t, ds, ds', kd, z, g3.in_, hf3, dc3, (r1.mono g2.ex).mono g3.ex, r3, e9, hz, fun o' dc4 => k1 rfl σ F3 _ ((Go.gr hR g123).trans (own_wrD (hR.gr g123) e3 s1 hf3 dc4).go)⟩
    · cases q5
  · cases hf
theorem go_see {K : PySem.W.Frag} {F H : Hp} {σ : L2.St} {ρ : Fm} {i : Nat} {t : Bool} {ds : List (D × D)} {p : Addr} {o' : HO} (hR : Rel K F H σ ρ) (e : ρ[i]? = some (.od t ds)) (s1 : σ[i]? = some (some (.ref p))) (hf : F p = none) (r : Ex F (upd F p o') → Rp K (upd F p o') (.ref p) (.dict ds)) :
    Go K F H σ ρ (upd F p o') (upd H p o') σ (ρ.set i (.sh (.dict ds))) := by
  have hl : i < ρ.length := (List.getElem?_eq_some_iff.mp e).1
  have exF : Ex F (upd F p o') := .new hf
  have get : ∀ j c, (ρ.set i (.sh (.dict ds)))[j]? = some c → (j = i ∧ c = .sh (.dict ds)) ∨ (j ≠ i ∧ ρ[j]? = some c) := by
    intro j c e
    by_cases hj : j = i
    · subst hj
      rw [List.getElem?_set_self hl] at e
      exact .inl ⟨rfl, (Option.some.inj e).symm⟩
    · rw [List.getElem?_set_ne (fun z => hj z.symm)] at e
      exact .inr ⟨hj, e⟩
  have oi : ownA σ ρ p := ⟨i, _, e, rfl, s1⟩
  refine ⟨⟨hR.ex.both, by rw [List.length_set]; exact hR.len, fun j c e' => ?_, fun j k b c x e1 o1 e2 o2 s1' s2' => ?_⟩, exF, fun x o h n => ?_, fun x h => ?_, fun x h hf' n => ?_, fun x o => ?_, fun j es e' => ?_⟩
  · rcases get j c e' with ⟨rfl, rfl⟩ | ⟨hj, e''⟩
    · exact ⟨.ref p, s1, r exF⟩
    · have := hR.at_ j c e''
      have apart : ∀ x, σ[j]? = some (some (.ref x)) → c.own = true → x ≠ p := fun x f1 oc z => by
        subst z
        exact hj (hR.sep i j _ c x e rfl e'' oc s1 f1).symm
      have key : ∀ es, OwnL K F H σ[j]? es → c.own = true → OwnL K (upd F p o') (upd H p o') σ[j]? es := by
        intro es ⟨x, xs, f1, f2, f3, f4⟩ oc
        have hx := apart x f1 oc
        exact ⟨x, xs, f1, by rw [upd_ne hx]; exact f2, by rw [upd_ne hx]; exact f3, f4.mono exF⟩
      have keyD : ∀ t es, OwnD K F H σ[j]? t es → c.own = true → OwnD K (upd F p o') (upd H p o') σ[j]? t es := by
        intro t es ⟨x, f1, f3, dd⟩ oc
        have hx := apart x f1 oc
        exact ⟨x, f1, by rw [upd_ne hx]; exact f3, dd.move exF fun _ z => by rw [upd_ne hx]; exact z⟩
      cases c with
      | no => trivial
      | sh d =>
        obtain ⟨v, f1, f2⟩ := this
        exact ⟨v, f1, f2.mono exF⟩
      | ow es => exact key es this rfl
      | io es => exact key es this rfl
      | od t es => exact keyD t es this rfl
  · rcases get j b e1 with ⟨rfl, rfl⟩ | ⟨hj, e1'⟩
    · cases o1
    · rcases get k c e2 with ⟨rfl, rfl⟩ | ⟨hk, e2'⟩
      · cases o2
      · exact hR.sep j k b c x e1' o1 e2' o2 s1' s2'
  · have hx : x ≠ p := fun z => n (by rw [z]; exact oi)
    rw [upd_ne hx]
    exact h
  · by_cases hx : x = p
    · rw [hx, upd_same]; intro z; cases z
    · rw [upd_ne hx]; exact h
  · have hx : x ≠ p := fun z => n (by rw [z]; exact oi)
    rw [upd_ne hx]
    exact hf'
  · obtain ⟨j, b, e', ob, s⟩ := o
    rcases get j b e' with ⟨rfl, rfl⟩ | ⟨hj, e''⟩
    · cases ob
    · exact .inl ⟨j, b, e'', ob, s⟩
  · rcases get j _ e' with ⟨rfl, z⟩ | ⟨hj, e''⟩
    · cases z
    · exact ⟨⟨es, e''⟩, rfl⟩
theorem s_frzD (i : Nat) {st : Stmt} {sf : Fm → Option (Fl × Fm)} (h : PSt X st sf) : PSt X st (sFrzD i sf) := by
  obtain ⟨t, h1, h2⟩ := h
  refine ⟨_, ps_orD h1 (ps_orD (ps_see h1) (ps_see0 h1)), fun F H σ ρ fl ρ' hf hR E k1 k2 k3 => ?_⟩
  unfold sFrzD frzD at hf
  split at hf
  · rename_i tt ds e
    obtain ⟨p, s1, hfp, dc⟩ := hR.at_ i _ e
    right
    have fin : ∀ o', (Ex F (upd F p o') → Rp X.K (upd F p o') (.ref p) (.dict ds)) → t E σ (upd H p o') := fun o' r => by
      have g := go_see hR e s1 hfp r
      exact h2 _ _ σ _ fl ρ' hf g.rel E (fun z σ2 F2 H2 g2 => k1 z σ2 F2 H2 (g.trans g2)) (fun z σ2 F2 H2 g2 => k2 z σ2 F2 H2 (g.trans g2)) fun d z v σ2 F2 H2 g2 r => k3 d z v σ2 F2 H2 (g.trans g2) r
    cases tt with
    | true =>
      obtain ⟨xs, hH, rr⟩ := dc
      exact .inl ⟨p, _, hH, trivial, fun od => fin _ fun ex => .dn upd_same (RpN.mono ex rr)⟩
    | false =>
      obtain ⟨kvs, hH, rr⟩ := dc
      cases ds with
      | nil =>
        cases rr
        exact .inr ⟨p, hH, fun od => fin _ fun ex => .dn (xs := []) upd_same .nil⟩
      | cons q r => exact .inl ⟨p, _, hH, trivial, fun od => fin _ fun ex => .dk (by intro z; cases z) upd_same (RpK.mono ex rr)⟩
  · exact .inl (h2 F H σ ρ fl ρ' hf hR E k1 k2 k3)
end
end DL
end
section
set_option Elab.async false
set_option linter.all false
set_option maxRecDepth 100000
/-! Dicts that are walked: keys, values, pairs. -/
namespace DL
open PySem PySem.Spec PyProof.Rows L2
theorem ent_k {P : Program} {w : World} {K : PySem.W.Frag} {F : Hp} : ∀ {es : List DictEntry} {vs : List (Key × Value)} {kvs : List (Key × V)} {ds : List (D × D)}, Pairs (mixKind P w) es vs → KV kvs vs → RpK K F kvs ds →
    ∃ (ks us : List V), RpA K F ks (ds.map (·.1)) ∧ RpA K F us (ds.map (·.2)) ∧ Paired (fun x (en : DictEntry) => RelV x en.key) ks es ∧ Paired (fun x (en : DictEntry) => RelV x en.val) us es := by
  intro es vs kvs ds h
  induction h generalizing kvs ds with
  | nil =>
    intro r q
    cases r
    cases q
    exact ⟨[], [], .nil, .nil, .nil, .nil⟩
  | cons h1 h2 t ih =>
    intro r q
    cases q with
    | nil => cases r
    | @cons k0 v d0 r1 ds1 h4 t3 =>
      cases r with
      | cons h3 t2 =>
        obtain ⟨ks, us, a, b, c, d⟩ := ih t2 t3
        refine ⟨kV k0 :: ks, v :: us, .cons ?_ a, .cons h4 b, .cons ?_ c, .cons ?_ d⟩
        · cases k0 <;> first | exact .int _ | exact .str _
        · have e : k0 = _ := h3.1
          rw [e]
          exact relV_key (show keyIs _ _ = true from h1)
        · rw [h2]; exact h3.2
theorem ent_n {K : PySem.W.Frag} {F : Hp} {w : World} : ∀ {xs : DEs} {ds : List (D × D)}, RpN K F xs ds →
    ∃ (ks us : List V), RpA K F ks (ds.map (·.1)) ∧ RpA K F us (ds.map (·.2)) ∧ Paired (fun x (en : DictEntry) => RelV x en.key) ks (xs.map fun x => ⟨x.1.hash w, .ref x.2.1, x.2.2⟩) ∧ Paired (fun x (en : DictEntry) => RelV x en.val) us (xs.map fun x => ⟨x.1.hash w, .ref x.2.1, x.2.2⟩)
  | _, _, .nil => ⟨[], [], .nil, .nil, .nil, .nil⟩
  | _, _, .cons (q := q) (v := v) h1 h2 h3 h4 t => by
    obtain ⟨ks, us, a, b, c, d⟩ := ent_n (w := w) t
    exact ⟨.ref q :: ks, v :: us, .cons h1 a, .cons h4 b, .cons rfl c, .cons h3 d⟩
/-- what a seen dict's object holds -/
structure Seen (K : PySem.W.Frag) (F H : Hp) (h : Heap) (p : Addr) (ds : List (D × D)) (o : Obj) (u : HO) (es : Array DictEntry) (ep : Nat) (ks us : List V) : Prop where
  at_ : H p = some (.frz o u)
  inF : F p = some (.frz o u)
  sys : (p == sysModules) = false
  obj : h.get? p = some o
  ex : o.ExactDict
  dat : o.data = .dict es ep
  key : RpA K F ks (ds.map (·.1))
  val : RpA K F us (ds.map (·.2))
  eks : Paired (fun x (en : DictEntry) => RelV x en.key) ks es.toList
  evs : Paired (fun x (en : DictEntry) => RelV x en.val) us es.toList
theorem Seen.nk {K : PySem.W.Frag} {F H : Hp} {h : Heap} {p : Addr} {ds : List (D × D)} {o : Obj} {u : HO} {es : Array DictEntry} {ep : Nat} {ks us : List V} (z : Seen K F H h p ds o u es ep ks us) : es.size = ks.length := by
  rw [← Array.length_toList]; exact (Paired.length z.eks).symm
theorem Seen.nv {K : PySem.W.Frag} {F H : Hp} {h : Heap} {p : Addr} {ds : List (D × D)} {o : Obj} {u : HO} {es : Array DictEntry} {ep : Nat} {ks us : List V} (z : Seen K F H h p ds o u es ep ks us) : es.size = us.length := by
  rw [← Array.length_toList]; exact (Paired.length z.evs).symm
theorem Seen.raw {K : PySem.W.Frag} {F H : Hp} {h : Heap} {p : Addr} {ds : List (D × D)} {o : Obj} {u : HO} {es : Array DictEntry} {ep : Nat} {ks us : List V} (z : Seen K F H h p ds o u es ep ks us) : h.DictRaw p es ep := ⟨o, z.obj, z.ex, z.dat⟩
section
variable {X : Cx} {pins : List (Addr × Obj)} {σ : L2.St} {F H : Hp} {s : Shared} {p : Addr} {ds : List (D × D)}
theorem seen_of (I : Inv X pins σ H s) (e : Ex F H) (r : Rp X.K F (.ref p) (.dict ds)) : ∃ o u es ep ks us, Seen X.K F H s.heap p ds o u es ep ks us := by
  cases r with
  | dk hne hF rr =>
    have hH := e _ _ hF
    obtain ⟨hd, z, hs, vs, kv, o', es, ep, ho, hx, hdt, _, pr, _⟩ := I.hok p _ hH
    rw [hd] at ho
    cases ho
    obtain ⟨ks, us, a, b, c, d⟩ := ent_k pr kv rr
    exact ⟨_, _, es, ep, ks, us, hH, hF, hs, hd, hx, hdt, a, b, c, d⟩
  | dn hF rr =>
    have hH := e _ _ hF
    obtain ⟨hd, ⟨hs, z, nd, o', es, ep, ho, hx, hdt, he⟩, _⟩ := I.hok p _ hH
    rw [hd] at ho
    cases ho
    obtain ⟨ks, us, a, b, c, d⟩ := ent_n (w := X.w) rr
    rw [← he X.w] at c d
    exact ⟨_, _, es, ep, ks, us, hH, hF, hs, hd, hx, hdt, a, b, c, d⟩
theorem frz_obj {o : Obj} {u : HO} (I : Inv X pins σ H s) (h : H p = some (.frz o u)) : s.heap.get? p = some o := (I.hok p _ h).1
end
/-- the keys (the values) xs of the seen dict at p -/
def Itw (p : Addr) (o : Obj) (u : HO) (xs : List V) : It :=
  ⟨fun i H => H p = some (.frz o u) ∧ i < xs.length, fun i H x H' => H' = H ∧ xs[i]? = some x, fun i H => H p = some (.frz o u) ∧ xs.length ≤ i⟩
section
variable {P : Program} {w : World} {K : PySem.W.Frag} {tg : Expr} {p : Addr} {o : Obj} {u : HO} {es : Array DictEntry} {ep : Nat} {xs : List V}
theorem turn_wk (it : Addr) (hx : o.ExactDict) (hdt : o.data = .dict es ep) (hp : Paired (fun x (en : DictEntry) => RelV x en.key) xs es.toList) : Turn P w K tg (Itw p o u xs) [it] it (fun i h => h.IsKeyIter it p i es.size ep) where
  mem := List.mem_singleton.mpr rfl
  obj := fun i h st b hb => by
    cases List.mem_singleton.mp hb
    obtain ⟨z, e1, c1, d1⟩ := st
    exact ⟨z, e1, fun v q => by rw [d1] at q; cases q⟩
  keep := fun i h h' st kk => st.at fun z e1 => kk it (List.mem_singleton.mpr rfl) z e1
  item := by
    intro X hP hw hK hc i pins s σ H E I hf st hg
    subst hP hw hK
    obtain ⟨hH, hi⟩ := hg
    obtain ⟨f0, f1, f2, f3, f4, f5⟩ := hf it (List.mem_singleton.mpr rfl)
    have raw : s.heap.DictRaw p es ep := ⟨o, frz_obj I hH, hx, hdt⟩
    have hl : xs.length = es.size := by rw [← Array.length_toList]; exact Paired.length hp
    obtain ⟨x, hxi⟩ : ∃ x, xs[i]? = some x := ⟨xs[i], List.getElem?_eq_getElem hi⟩
    obtain ⟨en, hen, rx⟩ := paired_get hp hxi
    have hlt : i < es.size := by omega
    have hee : es[i] = en := by
      rw [Array.getElem?_toList, Array.getElem?_eq_getElem hlt] at hen
      exact Option.some.inj hen
    refine wpAny_pyNext_keys_item_raw st raw hlt fun h' st' sb => ?_
    have I1 : Inv X pins σ H { s with heap := h' } := I.turned (t' := s.toks) (fun b ob hb e1 => (sb.2 b hb).trans e1) f0 f1 f3 f4 f5
    obtain ⟨oi, e1, c1, d1⟩ := id st'
    exact ⟨_, rfl, go_of (s := { s with heap := h' }) e1 c1 d1 (by decide) ⟨x, H, I1, by rw [hee]; exact rx, ⟨rfl, hxi⟩, st', fun b hb => (hf b hb).1⟩⟩
  done := by
    intro X hP hw hK hc i pins s σ H E I hf st hg
    subst hP hw hK
    obtain ⟨hH, hi⟩ := hg
    obtain ⟨f0, f1, f2, f3, f4, f5⟩ := hf it (List.mem_singleton.mpr rfl)
    have raw : s.heap.DictRaw p es ep := ⟨o, frz_obj I hH, hx, hdt⟩
    have hl : xs.length = es.size := by rw [← Array.length_toList]; exact Paired.length hp
    exact wpAny_pyNext_keys_end_raw (I.ok.hd hc) st raw (by omega) fun h' eb => ⟨rfl, I.turned (t' := s.toks) (fun b ob hb e1 => eb b ob hb e1) f0 f1 f3 f4 f5⟩
  self := fun A i s Q E st h => by
    refine wpAny_pyIter_slot st.typeIs F.slot_dict_keyiterator_iter (wpAny_call_entry F.slot_dict_keyiterator_iter st.typeIs F.entry_dict_keyiterator_iter ?_ (F.args_dict_keyiterator_iter_1 _))
    show wpAny _ _ (ret (.ref it)) _ E s
    exact wpAny_pure ⟨_, rfl, "dict_keyiterator", _, st.typeIs, F.slot_dict_keyiterator_next.lookup, h⟩
theorem turn_wv (it : Addr) (hx : o.ExactDict) (hdt : o.data = .dict es ep) (hp : Paired (fun x (en : DictEntry) => RelV x en.val) xs es.toList) : Turn P w K tg (Itw p o u xs) [it] it (fun i h => h.IsValIter it p i es.size ep) where
  mem := List.mem_singleton.mpr rfl
  obj := fun i h st b hb => by
    cases List.mem_singleton.mp hb
    obtain ⟨z, e1, c1, d1⟩ := st
    exact ⟨z, e1, fun v q => by rw [d1] at q; cases q⟩
  keep := fun i h h' st kk => st.at fun z e1 => kk it (List.mem_singleton.mpr rfl) z e1
  item := by
    intro X hP hw hK hc i pins s σ H E I hf st hg
    subst hP hw hK
    obtain ⟨hH, hi⟩ := hg
    obtain ⟨f0, f1, f2, f3, f4, f5⟩ := hf it (List.mem_singleton.mpr rfl)
    have raw : s.heap.DictRaw p es ep := ⟨o, frz_obj I hH, hx, hdt⟩
    have hl : xs.length = es.size := by rw [← Array.length_toList]; exact Paired.length hp
    obtain ⟨x, hxi⟩ : ∃ x, xs[i]? = some x := ⟨xs[i], List.getElem?_eq_getElem hi⟩
    obtain ⟨en, hen, rx⟩ := paired_get hp hxi
    have hlt : i < es.size := by omega
    have hee : es[i] = en := by
      rw [Array.getElem?_toList, Array.getElem?_eq_getElem hlt] at hen
      exact Option.some.inj hen
    refine wpAny_pyNext_values_item_raw st raw hlt fun h' st' sb => ?_
    have I1 : Inv X pins σ H { s with heap := h' } := I.turned (t' := s.toks) (fun b ob hb e1 => (sb.2 b hb).trans e1) f0 f1 f3 f4 f5
    obtain ⟨oi, e1, c1, d1⟩ := id st'
    exact ⟨_, rfl, go_of (s := { s with heap := h' }) e1 c1 d1 (by decide) ⟨x, H, I1, by rw [hee]; exact rx, ⟨rfl, hxi⟩, st', fun b hb => (hf b hb).1⟩⟩
  done := by
    intro X hP hw hK hc i pins s σ H E I hf st hg
    subst hP hw hK
    obtain ⟨hH, hi⟩ := hg
    obtain ⟨f0, f1, f2, f3, f4, f5⟩ := hf it (List.mem_singleton.mpr rfl)
    have raw : s.heap.DictRaw p es ep := ⟨o, frz_obj I hH, hx, hdt⟩
    have hl : xs.length = es.size := by rw [← Array.length_toList]; exact Paired.length hp
    exact wpAny_pyNext_values_end_raw (I.ok.hd hc) st raw (by omega) fun h' eb => ⟨rfl, I.turned (t' := s.toks) (fun b ob hb e1 => eb b ob hb e1) f0 f1 f3 f4 f5⟩
  self := fun A i s Q E st h => wpAny_pyIter_valiter st h
end
def iWd (K : PySem.W.Frag) (sel : D × D → D) (td : TE) : TI := fun σ H R => td σ H fun x H1 => ∃ (F : Hp) (p : Addr) (ds : List (D × D)), x = .ref p ∧ Ex F H1 ∧ Rp K F (.ref p) (.dict ds) ∧ ∀ o u xs, F p = some (.frz o u) → RpA K F xs (ds.map sel) → R (Itw p o u xs) H1
section
variable {X : Cx} {tg e : Expr} {td : TE} {apos cpos : Pos} {fe : Fm → Option D}
theorem pi_wkeys (he : PE X e td) : PI X tg e (iWd X.K (·.1) td) := by
  refine ⟨fun pins s σ H R I h => ?_⟩
  refine thn (he.run pins s σ H _ I h) fun v s1 ⟨x, H1, I1, rx, F0, p, ds, ex, ef, r, q⟩ => ?_
  subst ex
  cases (show v = Value.ref p from rx)
  obtain ⟨o, u, es, ep, ks, us, z⟩ := seen_of I1 ef r
  refine iter_keys z.sys z.obj z.ex z.dat (pi_one (tk := s1.toks) I1 _ (turn_wk _ z.ex z.dat z.eks) ⟨_, Heap.get?_push_size _ rfl, rfl, ?_⟩ (q o u ks z.inF z.key))
  rfl
theorem pi_wkeysM (he : PE X e td) (hbase : attributeBase e "keys" X.env (eval e X.env) = eval e X.env := by rfl) (hline : (apos.endLine == cpos.line) = true := by rfl) : PI X tg (.Call (.Attribute e "keys" apos) [] [] cpos) (iWd X.K (·.1) td) := by
  refine ⟨fun pins s σ H R I h => ?_⟩
  refine wpAny_Call_method (T := "dict") (id := "dict.keys") hbase rfl hline  PySem.F.plainAttrs_dict  PySem.F.slot_dict_keys  PySem.F.type_dict_keys (thn (he.run pins s σ H _ I h) fun v s1 ⟨x, H1, I1, rx, F0, p, ds, ex, ef, r, q⟩ => ?_)
  subst ex
  cases (show v = Value.ref p from rx)
  obtain ⟨o, u, es, ep, ks, us, z⟩ := seen_of I1 ef r
  refine ⟨z.raw.typeIs, fun b w => by cases w; exact ⟨o, z.obj, z.ex.2.1⟩, ?_⟩
  have I2 : Inv X pins σ H1 { s1 with heap := s1.heap.push { cls := .type "dict_keys", data := .fields #[.ref p] } } := I1.kept (t' := s1.toks) fun b ob w => Heap.get?_push_of_some _ w
  have fin : wpAny (model X.prog X.w) X.A (pyIter (.ref s1.heap.objs.size)) (PIE X pins σ tg R) X.xe { s1 with heap := s1.heap.push { cls := .type "dict_keys", data := .fields #[.ref p] } } := by
    refine wpAny_pyIter_keys_raw (d := p) ⟨_, Heap.get?_push_size _ rfl, rfl, rfl⟩ (z.raw.at fun ob w => Heap.get?_push_of_some _ w) (pi_one (tk := s1.toks) I2 _ (turn_wk _ z.ex z.dat z.eks) ⟨_, Heap.get?_push_size _ rfl, rfl, ?_⟩ (q o u ks z.inF z.key))
    rfl
  show wpAny _ _ (callWith cpos (.builtin "dict.keys") [.ref p] [] []) _ X.xe s1
  exact method_meetsIn  PySem.F.slot_dict_keys  PySem.F.entry_dict_keys rfl (PySem.evalArgs_none ⟨rfl, z.raw.typeIs,  PySem.F.args_dict_keys_1 _, _, meets_dict_keys_raw p z.sys, ⟨es, ep, z.raw⟩, fin⟩)
theorem pi_wvalsM (he : PE X e td) (hbase : attributeBase e "values" X.env (eval e X.env) = eval e X.env := by rfl) (hline : (apos.endLine == cpos.line) = true := by rfl) : PI X tg (.Call (.Attribute e "values" apos) [] [] cpos) (iWd X.K (·.2) td) := by
  refine ⟨fun pins s σ H R I h => ?_⟩
  refine wpAny_Call_method (T := "dict") (id := "dict.values") hbase rfl hline  PySem.F.plainAttrs_dict  PySem.F.slot_dict_values  PySem.F.type_dict_values (thn (he.run pins s σ H _ I h) fun v s1 ⟨x, H1, I1, rx, F0, p, ds, ex, ef, r, q⟩ => ?_)
  subst ex
  cases (show v = Value.ref p from rx)
  obtain ⟨o, u, es, ep, ks, us, z⟩ := seen_of I1 ef r
  refine ⟨z.raw.typeIs, fun b w => by cases w; exact ⟨o, z.obj, z.ex.2.1⟩, ?_⟩
  have I2 : Inv X pins σ H1 { s1 with heap := s1.heap.push { cls := .type "dict_values", data := .fields #[.ref p] } } := I1.kept (t' := s1.toks) fun b ob w => Heap.get?_push_of_some _ w
  have fin : wpAny (model X.prog X.w) X.A (pyIter (.ref s1.heap.objs.size)) (PIE X pins σ tg R) X.xe { s1 with heap := s1.heap.push { cls := .type "dict_values", data := .fields #[.ref p] } } := by
    refine wpAny_pyIter_values_raw (d := p) ⟨_, Heap.get?_push_size _ rfl, rfl, rfl⟩ (z.raw.at fun ob w => Heap.get?_push_of_some _ w) (pi_one (tk := s1.toks) I2 _ (turn_wv _ z.ex z.dat z.evs) ⟨_, Heap.get?_push_size _ rfl, rfl, ?_⟩ (q o u us z.inF z.val))
    rfl
  show wpAny _ _ (callWith cpos (.builtin "dict.values") [.ref p] [] []) _ X.xe s1
  exact method_meetsIn  PySem.F.slot_dict_values  PySem.F.entry_dict_values rfl (PySem.evalArgs_none ⟨rfl, z.raw.typeIs,  PySem.F.args_dict_values_1 _, _, meets_dict_values_raw p z.sys, ⟨es, ep, z.raw⟩, fin⟩)
theorem ok_wd {K : PySem.W.Frag} {F : Hp} {p : Addr} {o : Obj} {u : HO} {xs : List V} {es : List D} (h : F p = some (.frz o u)) (r : RpA K F xs es) : ItOk K (Itw p o u xs) F es := fun F2 H2 e1 e2 => by
  refine ⟨fun i d hd => ⟨⟨e2 _ _ (e1 _ _ h), ?_⟩, fun x H3 hy => ?_⟩, e2 _ _ (e1 _ _ h), by rw [r.length]; exact Nat.le_refl _⟩
  · rw [r.length]; exact (List.getElem?_eq_some_iff.mp hd).1
  · obtain ⟨rfl, hx⟩ := hy
    obtain ⟨v, h1, h2⟩ := (r.mono e1).get hd
    rw [hx] at h1
    cases h1
    exact ⟨F2, .refl e2, h2⟩
theorem si_wd {sel : D × D → D} {g : D → Option (List D)} {td : TE} (hg : ∀ d es, g d = some es → ∃ ds, d = .dict ds ∧ es = ds.map sel) (h : SP X.K td fe) : SI X.K (iWd X.K sel td) (fun ρ => (fe ρ).bind g) := fun F H σ ρ es hf hR R k => by
  obtain ⟨d, e1, e2⟩ := Option.bind_eq_some_iff.mp hf
  obtain ⟨ds, rfl, rfl⟩ := hg _ _ e2
  refine h F H σ ρ _ e1 hR _ fun v F1 H1 g1 r1 => ?_
  cases hv : v with
  | ref p =>
    subst hv
    exact ⟨F1, p, ds, rfl, g1.in_, r1, fun o u xs hF rx => k _ F1 H1 g1 (ok_wd hF rx)⟩
  | _ => subst hv; cases r1
theorem gKeys_some : ∀ d es, gKeys d = some es → ∃ ds, d = .dict ds ∧ es = ds.map (·.1) := fun d es h => by
  cases d with
  | dict ds => exact ⟨ds, rfl, (Option.some.inj h).symm⟩
  | _ => cases h
theorem gVals_some : ∀ d es, gVals d = some es → ∃ ds, d = .dict ds ∧ es = ds.map (·.2) := fun d es h => by
  cases d with
  | dict ds => exact ⟨ds, rfl, (Option.some.inj h).symm⟩
  | _ => cases h
def iKeys (f : Fm → Option D) (ρ : Fm) : Option (List D) := (f ρ).bind gKeys
def iVals (f : Fm → Option D) (ρ : Fm) : Option (List D) := (f ρ).bind gVals
theorem i_keysM (h : PP X e fe) (hbase : attributeBase e "keys" X.env (eval e X.env) = eval e X.env := by rfl) (hline : (apos.endLine == cpos.line) = true := by rfl) : PIt X tg (.Call (.Attribute e "keys" apos) [] [] cpos) (iKeys fe) :=
  let ⟨_, h1, h2⟩ := h
  ⟨_, pi_wkeysM h1 hbase hline, si_wd gKeys_some h2⟩
theorem i_keys (h : PP X e fe) : PIt X tg e (iKeys fe) := let ⟨_, h1, h2⟩ := h; ⟨_, pi_wkeys h1, si_wd gKeys_some h2⟩
theorem i_valsM (h : PP X e fe) (hbase : attributeBase e "values" X.env (eval e X.env) = eval e X.env := by rfl) (hline : (apos.endLine == cpos.line) = true := by rfl) : PIt X tg (.Call (.Attribute e "values" apos) [] [] cpos) (iVals fe) :=
  let ⟨_, h1, h2⟩ := h
  ⟨_, pi_wvalsM h1 hbase hline, si_wd gVals_some h2⟩
end
end DL
end
section
set_option Elab.async false
set_option linter.all false
set_option maxRecDepth 100000
/-! Views of seen dicts, handed to list, sorted, max, sum. -/
namespace DL
open PySem PySem.Spec PyProof.Rows L2 PySem.Calls
/-- the view at q of the keys (b: of the values) of the dict at p -/
def VwO (b : Bool) (q p : Addr) : HO := .ext fun h => h.get? q = some { cls := .type (if b = true then "dict_values" else "dict_keys"), data := .fields #[.ref p] }
def selV (b : Bool) (p : D × D) : D := if b = true then p.2 else p.1
def enV (b : Bool) (en : DictEntry) : Value := if b = true then en.val else en.key
def tVw (K : PySem.W.Frag) (b : Bool) (td : TE) : TE := fun σ H Q => td σ H fun x H1 => ∃ (F : Hp) (p : Addr) (ds : List (D × D)), x = .ref p ∧ Ex F H1 ∧ Rp K F (.ref p) (.dict ds) ∧ ∀ q, H1 q = none → Q (.ref q) (upd H1 q (VwO b q p))
section
variable {X : Cx} {e : Expr} {td : TE} {apos cpos : Pos}
theorem pe_vwK (he : PE X e td) (hbase : attributeBase e "keys" X.env (eval e X.env) = eval e X.env := by rfl) (hline : (apos.endLine == cpos.line) = true := by rfl) : PE X (.Call (.Attribute e "keys" apos) [] [] cpos) (tVw X.K false td) := by
  refine ⟨fun pins s σ H Q I h => ?_⟩
  refine wpAny_Call_method (T := "dict") (id := "dict.keys") hbase rfl hline PySem.F.plainAttrs_dict PySem.F.slot_dict_keys PySem.F.type_dict_keys (thn (he.run pins s σ H _ I h) fun v s1 ⟨x, H1, I1, rx, F0, p, ds, ex, ef, r, q⟩ => ?_)
  subst ex
  cases (show v = Value.ref p from rx)
  obtain ⟨o, u, es, ep, ks, us, z⟩ := seen_of I1 ef r
  refine ⟨z.raw.typeIs, fun b w => by cases w; exact ⟨o, z.obj, z.ex.2.1⟩, ?_⟩
  have I2 := I1.laid (a := s1.heap.objs.size) (o := VwO false s1.heap.objs.size p) (h' := s1.heap.push { cls := .type "dict_keys", data := .fields #[.ref p] }) (t' := s1.toks) (fun _ _ q => Heap.get?_push_of_some _ q) (Nat.le_refl _) ⟨Heap.get?_push_size _ rfl, ⟨_, Heap.get?_push_size _ rfl⟩, fun h1 h2 w k => k _ w⟩
  show wpAny _ _ (callWith cpos (.builtin "dict.keys") [.ref p] [] []) _ X.xe s1
  exact method_meetsIn PySem.F.slot_dict_keys PySem.F.entry_dict_keys rfl (PySem.evalArgs_none ⟨rfl, z.raw.typeIs, PySem.F.args_dict_keys_1 _, _, meets_dict_keys_raw p z.sys, ⟨es, ep, z.raw⟩, ⟨.ref s1.heap.objs.size, _, I2, rfl, q _ (I1.hok.fresh (Nat.le_refl _))⟩⟩)
theorem pe_vwV (he : PE X e td) (hbase : attributeBase e "values" X.env (eval e X.env) = eval e X.env := by rfl) (hline : (apos.endLine == cpos.line) = true := by rfl) : PE X (.Call (.Attribute e "values" apos) [] [] cpos) (tVw X.K true td) := by
  refine ⟨fun pins s σ H Q I h => ?_⟩
  refine wpAny_Call_method (T := "dict") (id := "dict.values") hbase rfl hline PySem.F.plainAttrs_dict PySem.F.slot_dict_values PySem.F.type_dict_values (thn (he.run pins s σ H _ I h) fun v s1 ⟨x, H1, I1, rx, F0, p, ds, ex, ef, r, q⟩ => ?_)
  subst ex
  cases (show v = Value.ref p from rx)
  obtain ⟨o, u, es, ep, ks, us, z⟩ := seen_of I1 ef r
  refine ⟨z.raw.typeIs, fun b w => by cases w; exact ⟨o, z.obj, z.ex.2.1⟩, ?_⟩
  have I2 := I1.laid (a := s1.heap.objs.size) (o := VwO true s1.heap.objs.size p) (h' := s1.heap.push { cls := .type "dict_values", data := .fields #[.ref p] }) (t' := s1.toks) (fun _ _ q => Heap.get?_push_of_some _ q) (Nat.le_refl _) ⟨Heap.get?_push_size _ rfl, ⟨_, Heap.get?_push_size _ rfl⟩, fun h1 h2 w k => k _ w⟩
  show wpAny _ _ (callWith cpos (.builtin "dict.values") [.ref p] [] []) _ X.xe s1
  exact method_meetsIn PySem.F.slot_dict_values PySem.F.entry_dict_values rfl (PySem.evalArgs_none ⟨rfl, z.raw.typeIs, PySem.F.args_dict_values_1 _, _, meets_dict_values_raw p z.sys, ⟨es, ep, z.raw⟩, ⟨.ref s1.heap.objs.size, _, I2, rfl, q _ (I1.hok.fresh (Nat.le_refl _))⟩⟩)
end
def vwT (b : Bool) : String := if b = true then "dict_values" else "dict_keys"
/-- the view as a source -/
structure Src (X : Cx) (F H : Hp) (s : Shared) (b : Bool) (q : Addr) (ds : List (D × D)) (es : Array DictEntry) (p : Addr) (OK : Heap → Prop) (xs : List V) : Prop where
  src : PySem.W.KdlSrc X.prog X.w (vwT b) q p es.size (fun i v => ∃ hi : i < es.size, v = enV b es[i]) OK
  ok : OK s.heap
  val : RpA X.K F xs (ds.map (selV b))
  ens : Paired (fun x (en : DictEntry) => RelV x (enV b en)) xs es.toList
section
variable {X : Cx} {pins : List (Addr × Obj)} {σ : L2.St} {F H : Hp} {s : Shared} {p q : Addr} {ds : List (D × D)} {b : Bool}
theorem src_of (I : Inv X pins σ H s) (e : Ex F H) (r : Rp X.K F (.ref p) (.dict ds)) (hq : H q = some (VwO b q p)) : ∃ es OK xs, Src X F H s b q ds es p OK xs := by
  obtain ⟨o, u, es, ep, ks, us, z⟩ := seen_of I e r
  have hv := (I.hok q _ hq).1
  cases b with
  | false => exact ⟨es, _, ks, PySem.KdlSrc.rawKeys (ep := ep), ⟨⟨_, hv, rfl, rfl⟩, z.raw⟩, z.key, z.eks⟩
  | true => exact ⟨es, _, us, PySem.KdlSrc.rawValues (ep := ep), ⟨⟨_, hv, rfl, rfl⟩, z.raw⟩, z.val, z.evs⟩
theorem src_vals {es : Array DictEntry} {xs : List V} {acc : List Value} (h : Paired (fun x (en : DictEntry) => RelV x (enV b en)) xs es.toList) (hl : acc.length = es.size) (hv : ∀ (j : Nat) (v : Value), acc[j]? = some v → ∃ hi : j < es.size, v = enV b es[j]) : Vals xs acc := by
  have key : ∀ {xs : List V} {l : List DictEntry} {acc : List Value}, Paired (fun x (en : DictEntry) => RelV x (enV b en)) xs l → acc.length = l.length → (∀ (j : Nat) (v : Value), acc[j]? = some v → ∃ hi : j < l.length, v = enV b l[j]) → Vals xs acc := by
    intro xs l acc h
    induction h generalizing acc with
    | nil =>
      intro hl _
      cases acc with
      | nil => exact .nil
      | cons _ _ => cases hl
    | cons r t ih =>
      intro hl hv
      cases acc with
      | nil => cases hl
      | cons v acc =>
        refine .cons ?_ (ih (by simpa using hl) fun j w hw => ?_)
        · obtain ⟨_, e⟩ := hv 0 v rfl
          rw [e]; exact r
        · obtain ⟨h1, e⟩ := hv (j + 1) w (by simpa using hw)
          exact ⟨by simpa using h1, by simpa using e⟩
  refine key h (by rw [hl, Array.length_toList]) fun j v hj => ?_
  obtain ⟨h1, e⟩ := hv j v hj
  exact ⟨by rw [Array.length_toList]; exact h1, by rw [e]; simp⟩
theorem Src.len {es : Array DictEntry} {OK : Heap → Prop} {xs : List V} (z : Src X F H s b q ds es p OK xs) : es.size = ds.length := by
  have h1 : xs.length = es.toList.length := Paired.length z.ens
  have h2 : xs.length = (ds.map (selV b)).length := z.val.length
  rw [Array.length_toList] at h1
  rw [List.length_map] at h2
  exact h1.symm.trans h2
end
def rVw (K : PySem.W.Frag) (b : Bool) (fin : Hp → Hp → List D → VK → Prop) : List V → Hp → VK → Prop := fun vs H Q => ∃ (F : Hp) (q p : Addr) (ds : List (D × D)), vs = [.ref q] ∧ Ex F H ∧ H q = some (VwO b q p) ∧ Rp K F (.ref p) (.dict ds) ∧ ds.length ≤ bigN ∧ fin F H (ds.map (selV b)) Q
section
variable {X : Cx} {b : Bool}
theorem cr_listVw (hc : X.calm = true) : CallR X (.type "list") (rVw X.K b fun F H es Q => ∀ l xs, H l = none → RpA X.K F xs es → Q (.ref l) (upd H l (.lst xs))) := by
  intro pins s σ H vs us Q I r h
  obtain ⟨F, q, p, ds, rfl, e, hq, rd, hz, k⟩ := h
  rw [Vals.ref1 r]
  obtain ⟨es, OK, xs, z⟩ := src_of I e rd hq
  have hn := z.len
  refine PySem.W.kdl_call z.src (I.ok.hd hc) z.ok (by rw [hn]; exact Nat.le_trans hz big_le) fun h' tk acc' c' hk hS hacc => ?_
  have rv : Vals xs acc'.toList := src_vals z.ens (by rw [Array.length_toList]; exact hacc.1) fun j v hj => hacc.2 j v (by rw [← Array.getElem?_toList]; exact hj)
  refine ⟨.ref s.heap.objs.size, upd H s.heap.objs.size (.lst xs), I.laid (t' := tk) hk (Nat.le_refl _) ⟨?_, acc'.toList, c', rv, by rw [Array.toArray_toList]; exact hS⟩, rfl, k _ xs (I.hok.fresh (Nat.le_refl _)) z.val⟩
  rw [z.val.length, List.length_map]
  exact Nat.le_trans hz big_le
def kOk (ds : List D) : Bool := okD (.list ds) && alAll ds && srtOk ds
theorem cr_sortVw (hc : X.calm = true) (hu : X.A.units + 70 < cLine) : CallR X (.builtin "sorted") (rVw X.K b fun F H es Q => kOk es = true ∧ ∀ l xs, H l = none → RpA X.K F xs (sortD es) → Q (.ref l) (upd H l (.lst xs))) := by
  intro pins s σ H vs us Q I r h
  obtain ⟨F, q, p, ds, rfl, e, hq, rd, hz, hko, k⟩ := h
  rw [Vals.ref1 r]
  obtain ⟨es, OK, xs, z⟩ := src_of I e rd hq
  have hn := z.len
  unfold kOk at hko
  rw [Bool.and_eq_true, Bool.and_eq_true] at hko
  obtain ⟨⟨c1, c2⟩, c3⟩ := hko
  have hln : (ds.map (selV b)).length ≤ bigN := by rw [List.length_map]; exact hz
  refine sorted_by (W := Rp X.K F) hu I ((z.val.mono e).dpA (okD_list' c1).1) (rpA_pair z.val) c2 c3 hln (okD_list' c1).2 (fun R E hR => ?_) fun ys p hy hp => k p ys hp (pair_rpA hy)
  refine PySem.W.kdu_collect (A := X.A.in1) z.src (I.ok.hd hc) z.ok (by rw [hn]; exact Nat.le_trans hz big_le) fun h1 tk acc hk hacc => hR h1 tk acc.toList hk ?_
  exact src_vals z.ens (by rw [Array.length_toList]; exact hacc.1) fun j v hj => hacc.2 j v (by rw [← Array.getElem?_toList]; exact hj)
end
end DL
end
section
set_option Elab.async false
set_option linter.all false
set_option maxRecDepth 100000
/-! list, sorted, max, sum of a seen dict's keys or values; its length. -/
namespace DL
open PySem PySem.Spec PyProof.Rows L2 PySem.Calls
theorem enV_vals {b : Bool} {xs : List V} {l : List DictEntry} (h : Paired (fun x (en : DictEntry) => RelV x (enV b en)) xs l) : Vals xs (l.map (enV b)) := by
  induction h with
  | nil => exact .nil
  | cons r _ ih => exact .cons r ih
section
variable {X : Cx} {b : Bool}
theorem cr_maxVw (hc : X.calm = true) (hu : X.A.units + 66 < cLine) : CallR X (.builtin "max") (rVw X.K b fun F H es Q => ∃ y ys, es = y :: ys ∧ okD (.list es) = true ∧ alAll es = true ∧ ∀ v, Rp X.K F v (PySem.W.maxD y ys) → Q v H) := by
  intro pins s σ H vs us Q I r h
  obtain ⟨F, q, p, ds, rfl, e, hq, rd, hz, y, ys, hes, c1, c2, k⟩ := h
  rw [Vals.ref1 r]
  obtain ⟨es, OK, xs, z⟩ := src_of I e rd hq
  have zv := z.val
  rw [hes] at zv c1 c2
  have hd : DpAll X.K H xs (y :: ys) := (zv.mono e).dpA (okD_list c1).1
  have hdp := (okD_list c1).2
  have rv := enV_vals z.ens
  obtain ⟨as, r1⟩ := Dp.readsAll I _ _ _ hd rv
  have hn : es.size = ys.length + 1 := by
    have h1 : xs.length = es.toList.length := Paired.length z.ens
    have h2 : xs.length = (y :: ys).length := zv.length
    rw [Array.length_toList] at h1
    rw [List.length_cons] at h2
    exact h1.symm.trans h2
  refine PySem.call_max_walkH ?_
  obtain ⟨oI, St, hit, W, st⟩ := z.src.iter X.A.in1 s (I.ok.hd hc) z.ok
  have W2 := W.mono_item (P' := fun i v => (es.toList.map (enV b)).toArray[i]? = some v) fun i v hi hv => by
    obtain ⟨h1, rfl⟩ := hv
    simp [h1]
  refine hit _ _ ⟨s.heap.objs.size, _, _, _, es.size, _, _, s.heap, _, rfl, W2.toS, st, fun b hb => ?_, by omega, fun b o w hb => ?_, fun b o w => Heap.get?_push_of_some _ w, PySem.W.cmpIn_gt (A := X.A.in1) (by simpa using r1) (alAll_ok c2) (by show X.A.units + 1 + _ < _; omega), fun v s' hP m => ?_⟩
  · show b < (s.heap.push oI).objs.size
    rw [Heap.size_push]
    rcases List.mem_cons.mp hb with w | hb
    · rw [w]; exact Nat.lt_succ_self _
    · rw [List.mem_singleton.mp hb]
      exact Nat.lt_succ_of_lt (z.src.there _ z.ok).2
  · exact absurd (Heap.lt_size w) (by rw [List.mem_singleton.mp hb]; exact Nat.lt_irrefl _)
  · obtain ⟨h', tk, rfl, hk'⟩ := PySem.W.moved_old (s := s) (o := oI) rfl rfl m
    obtain ⟨bs, r2, _, _, _⟩ := PySem.W.readsAll_atA (vs := (es.toList.map (enV b)).toArray) (by simpa using r1) _ v hP
    have e1 : es.size - 1 = ys.length := by omega
    have e2 := (PySem.W.argBest_fold (fun a b => PySem.W.dataLt b a) PyData.none y ys ys.length (Nat.le_refl _)).2
    rw [List.take_length] at e2
    rw [e1] at r2 hP
    have r3 : Reads h' v (PySem.W.maxD y ys) bs := PySem.W.reads_keeps hk' (by unfold PySem.W.maxD; rw [← e2]; exact r2)
    exact pick_end (I := I) rv hd (okD_list c1).1 hP r3 hk' fun i v hv hd' => by
      obtain ⟨w, h1, h2⟩ := zv.get hd'
      rw [hv] at h1
      cases h1
      exact k v h2
theorem ints_enV {xs : List V} {l : List DictEntry} {ns : List Int} (h : Paired (fun x (en : DictEntry) => RelV x (enV b en)) xs l) (hx : xs = ns.map V.int) : ∀ (i : Nat) (en : DictEntry), l[i]? = some en → ∃ t : Tok, enV b en = Value.int (ns.getD i 0) t := by
  subst hx
  generalize hy : ns.map V.int = ys at h
  induction h generalizing ns with
  | nil => intro i en h; simp at h
  | cons r t ih =>
    cases ns with
    | nil => cases hy
    | cons n ns =>
      cases hy
      intro i en h
      cases i with
      | zero =>
        simp only [List.getElem?_cons_zero, Option.some.injEq] at h
        subst h
        obtain ⟨t, h⟩ := r
        exact ⟨t, h⟩
      | succ i => exact ih rfl i en (by simpa using h)
theorem cr_sumVw (hc : X.calm = true) : CallR X (.builtin "sum") (rVw X.K b fun F H es Q => ∃ ns, intsD es = some ns ∧ Q (.int ns.sum) H) := by
  intro pins s σ H vs us Q I r h
  obtain ⟨F, q, p, ds, rfl, e, hq, rd, hz, ns, hes, k⟩ := h
  rw [Vals.ref1 r]
  obtain ⟨es, OK, xs, z⟩ := src_of I e rd hq
  have hx := ints_of z.val hes
  have hn : es.size = ns.length := by
    have h1 : xs.length = es.toList.length := Paired.length z.ens
    rw [hx, List.length_map, Array.length_toList] at h1
    exact h1.symm
  have hi := ints_enV z.ens hx
  refine call_sum_walkAnyS ?_
  obtain ⟨oI, St, hit, W, st⟩ := z.src.iter X.A.in1 s (I.ok.hd hc) z.ok
  refine hit _ _ ⟨s.heap.objs.size, _, _, _, es.size, _, _, fun i => ns.getD i 0, rfl, W.toS, st, fun b hb => ?_, fun i v hv => ?_, fun s' t' hm => ?_⟩
  · show b < (s.heap.push oI).objs.size
    rw [Heap.size_push]
    rcases List.mem_cons.mp hb with w | hb
    · rw [w]; exact Nat.lt_succ_self _
    · rw [List.mem_singleton.mp hb]
      exact Nat.lt_succ_of_lt (z.src.there _ z.ok).2
  · obtain ⟨h1, rfl⟩ := hv
    exact hi i es[i] (by rw [Array.getElem?_toList]; exact Array.getElem?_eq_getElem h1)
  · have hk : ∀ b o, s.heap.get? b = some o → s'.heap.get? b = some o := fun b o w =>
      hm.heap b o (fun hI => absurd (Heap.lt_size w) (by rw [List.mem_singleton.mp hI]; exact Nat.lt_irrefl _)) (Heap.get?_push_of_some _ w)
    rw [Moved.eq_with hm]
    refine ⟨.int ns.sum, H, I.kept (t' := s'.toks) hk, ⟨t', ?_⟩, k⟩
    rw [hn, preSum_getD, List.take_length]
end
def gVw (b : Bool) : D → Option (List D)
  | .dict ds => if ds.length ≤ bigN then some (ds.map (selV b)) else none
  | _ => none
def fVw (b : Bool) (g : List D → Option D) (fe : Fm → Option D) (ρ : Fm) : Option D := (fe ρ).bind fun d => (gVw b d).bind g
def gList_ (es : List D) : Option D := some (.list es)
def gSort_ (es : List D) : Option D := if kOk es = true then some (.list (sortD es)) else none
def gMax_ : List D → Option D
  | y :: ys => if okD (.list (y :: ys)) && alAll (y :: ys) then some (PySem.W.maxD y ys) else none
  | [] => none
def gSum_ (es : List D) : Option D := (intsD es).map fun ns => .int ns.sum
section
variable {X : Cx} {b : Bool} {e v : Expr} {pos p : Pos} {fe : Fm → Option D}
theorem sp_vw {fin : Hp → Hp → List D → VK → Prop} {g : List D → Option D} {td : TE} {r : List V → Hp → VK → Prop} (hr : r = rVw X.K b fin) (hf : ∀ F H es dz, Ex F H → es.length ≤ bigN → g es = some dz → ∀ Q : VK, Res X.K F H dz Q → fin F H es Q) (h : SP X.K td fe) : SP X.K (tCB r (tCons (tVw X.K b td) tNil)) (fVw b g fe) := by
  subst hr
  intro F H σ ρ d hf' hR Q k
  obtain ⟨dx, e1, hf'⟩ := Option.bind_eq_some_iff.mp hf'
  obtain ⟨es, e2, e3⟩ := Option.bind_eq_some_iff.mp hf'
  cases dx with
  | dict ds =>
    unfold gVw at e2
    dsimp only at e2
    split at e2
    · rename_i hz
      cases e2
      refine h F H σ ρ _ e1 hR _ fun v F1 H1 g1 r1 => ?_
      obtain ⟨p, rfl⟩ : ∃ p, v = .ref p := by cases r1 <;> exact ⟨_, rfl⟩
      refine ⟨F1, p, ds, rfl, g1.in_, r1, fun q hq => ?_⟩
      have g2 := Gr.newH (o := VwO b q p) g1.in_ hq
      exact ⟨F1, q, p, ds, rfl, g2.in_, upd_same, r1, hz, hf F1 _ _ _ g2.in_ (by rw [List.length_map]; exact hz) e3 Q (k.gr (g1.trans g2))⟩
    · cases e2
  | _ => cases e2
theorem fin_list : ∀ F H es dz, Ex F H → es.length ≤ bigN → gList_ es = some dz → ∀ Q : VK, Res X.K F H dz Q → (fun (F H : Hp) (es : List D) (Q : VK) => ∀ l xs, H l = none → RpA X.K F xs es → Q (.ref l) (upd H l (.lst xs))) F H es Q := by
  intro F H es dz e hz hg Q k l xs hl r
  cases hg
  exact k.lst e r l hl
theorem fin_sort : ∀ F H es dz, Ex F H → es.length ≤ bigN → gSort_ es = some dz → ∀ Q : VK, Res X.K F H dz Q → (fun (F H : Hp) (es : List D) (Q : VK) => kOk es = true ∧ ∀ l xs, H l = none → RpA X.K F xs (sortD es) → Q (.ref l) (upd H l (.lst xs))) F H es Q := by
  intro F H es dz e hz hg Q k
  unfold gSort_ at hg
  split at hg
  · rename_i hk
    cases hg
    exact ⟨hk, fun l xs hl r => k.lst e r l hl⟩
  · cases hg
theorem fin_max : ∀ F H es dz, Ex F H → es.length ≤ bigN → gMax_ es = some dz → ∀ Q : VK, Res X.K F H dz Q → (fun (F H : Hp) (es : List D) (Q : VK) => ∃ y ys, es = y :: ys ∧ okD (.list es) = true ∧ alAll es = true ∧ ∀ v, Rp X.K F v (PySem.W.maxD y ys) → Q v H) F H es Q := by
  intro F H es dz e hz hg Q k
  cases es with
  | nil => cases hg
  | cons y ys =>
    unfold gMax_ at hg
    dsimp only at hg
    split at hg
    · rename_i hk
      cases hg
      rw [Bool.and_eq_true] at hk
      exact ⟨y, ys, rfl, hk.1, hk.2, fun v r => k.at_ e r⟩
    · cases hg
theorem fin_sum : ∀ F H es dz, Ex F H → es.length ≤ bigN → gSum_ es = some dz → ∀ Q : VK, Res X.K F H dz Q → (fun (F H : Hp) (es : List D) (Q : VK) => ∃ ns, intsD es = some ns ∧ Q (.int ns.sum) H) F H es Q := by
  intro F H es dz e hz hg Q k
  obtain ⟨ns, h1, h2⟩ := Option.map_eq_some_iff.mp hg
  cases h2
  exact ⟨ns, h1, k.sc e fun _ => .int _⟩
variable {apos cpos : Pos}
/-- PVw: the view's expression -/
def PVw (X : Cx) (b : Bool) (v : Expr) (f : Fm → Option D) : Prop := ∃ td, PE X v (tVw X.K b td) ∧ SP X.K td f
theorem v_keys (h : PP X e fe) (hbase : attributeBase e "keys" X.env (eval e X.env) = eval e X.env := by rfl) (hline : (apos.endLine == cpos.line) = true := by rfl) : PVw X false (.Call (.Attribute e "keys" apos) [] [] cpos) fe := let ⟨t, h1, h2⟩ := h; ⟨t, pe_vwK h1 hbase hline, h2⟩
theorem v_vals (h : PP X e fe) (hbase : attributeBase e "values" X.env (eval e X.env) = eval e X.env := by rfl) (hline : (apos.endLine == cpos.line) = true := by rfl) : PVw X true (.Call (.Attribute e "values" apos) [] [] cpos) fe := let ⟨t, h1, h2⟩ := h; ⟨t, pe_vwV h1 hbase hline, h2⟩
theorem d_vlist (hc : X.calm = true) (B : Bt X.mg) (h : PVw X b v fe) (hg : Gl X "list" := by rfl) (hs : starEach [v] X.env = (false, eval v X.env) :: starEach [] X.env := by rfl) : PP X (.Call (.Name "list" p) [v] [] pos) (fVw b gList_ fe) :=
  let ⟨_, h1, h2⟩ := h
  ⟨_, pe_callTy (cr_listVw hc) hg B.list PyProof.Rows.boot_list (pa_cons h1 pa_nil hs) (by decide) (by decide) hs rfl, sp_vw rfl fin_list h2⟩
theorem d_vsort {k : Nat} (hc : X.calm = true) (hr : Room k X.A) (B : Bt X.mg) (h : PVw X b v fe) (hg : Gl X "sorted" := by rfl) (hs : starEach [v] X.env = (false, eval v X.env) :: starEach [] X.env := by rfl) : PP X (.Call (.Name "sorted" p) [v] [] pos) (fVw b gSort_ fe) :=
  let ⟨_, h1, h2⟩ := h
  ⟨_, pe_callB (cr_sortVw hc (Room.u70 hr)) hg B.sorted PyProof.Rows.boot_sorted (pa_cons h1 pa_nil hs) (by decide) (by decide) hs rfl, sp_vw rfl fin_sort h2⟩
theorem d_vmax {k : Nat} (hc : X.calm = true) (hr : Room k X.A) (B : Bt X.mg) (h : PVw X b v fe) (hg : Gl X "max" := by rfl) (hs : starEach [v] X.env = (false, eval v X.env) :: starEach [] X.env := by rfl) : PP X (.Call (.Name "max" p) [v] [] pos) (fVw b gMax_ fe) :=
  let ⟨_, h1, h2⟩ := h
  ⟨_, pe_callB (cr_maxVw hc (Room.u66 hr)) hg B.max PyProof.Rows.boot_max (pa_cons h1 pa_nil hs) (by decide) (by decide) hs rfl, sp_vw rfl fin_max h2⟩
theorem d_vsum (hc : X.calm = true) (B : Bt X.mg) (h : PVw X b v fe) (hg : Gl X "sum" := by rfl) (hs : starEach [v] X.env = (false, eval v X.env) :: starEach [] X.env := by rfl) : PP X (.Call (.Name "sum" p) [v] [] pos) (fVw b gSum_ fe) :=
  let ⟨_, h1, h2⟩ := h
  ⟨_, pe_callB (cr_sumVw hc) hg B.sum PyProof.Rows.boot_sum (pa_cons h1 pa_nil hs) (by decide) (by decide) hs rfl, sp_vw rfl fin_sum h2⟩
end
/-! len(d) -/
section
variable {X : Cx} {e : Expr} {pos p : Pos} {fe : Fm → Option D}
theorem cr_lenD : CallR X (.builtin "len") (fun vs H Q => ∃ (F : Hp) (p : Addr) (ds : List (D × D)), vs = [.ref p] ∧ Ex F H ∧ DV X.K F H p ds ∧ ds.length ≤ bigN ∧ Q (.int ds.length) H) := by
  intro pins s σ H vs us Q I r h
  obtain ⟨F, p, ds, rfl, e, dv, hz, k⟩ := h
  rw [Vals.ref1 r]
  have hb := big_le
  rcases dv with ⟨kvs, rd, rr⟩ | ⟨xs, rd, rr⟩
  · rw [← rr.len] at k
    exact L2.d_len I rd fun t s' I' => ⟨.int kvs.length, H, I', ⟨t, rfl⟩, k⟩
  · obtain ⟨hd, hz2, dd⟩ := dn_facts I e rd rr
    have km : s.heap.DictKeyed (nestedKind X.prog X.w) p (pairsH xs) := ⟨xs, dd, rfl⟩
    have hl : (pairsH xs).length = ds.length := by rw [pairsH_length, rr.len]
    rw [← hl] at k
    refine PyProof.Rows.call_len_slot (n := (pairsH xs).length) km.typeIs PySem.F.slot_dict_len (fun Q' hq => len_keyed hd km hq) (by omega) ?_ ?_
    · rw [hl]
      have : bigN < 9223372036854775808 := by decide
      omega
    · exact ⟨.int (pairsH xs).length, H, I.tok _, ⟨_, rfl⟩, k⟩
def gLenZ : D → Option D
  | .dict ds => if ds.length ≤ bigN then some (.int ds.length) else none
  | _ => none
theorem d_lenD (B : Bt X.mg) (ha : PV X e fe) (hg : Gl X "len" := by rfl) (hs : starEach [e] X.env = (false, eval e X.env) :: starEach [] X.env := by rfl) : PP X (.Call (.Name "len" p) [e] [] pos) (fOp1 gLenZ fe) :=
  d_b1 cr_lenD PySem.boot_len (fun F H x dx dz e hx hg Q k => by
    cases dx with
    | dict ds =>
      unfold gLenZ at hg
      dsimp only at hg
      split at hg
      · rename_i hz
        cases hg
        obtain ⟨p, rfl, dv⟩ := hx.dict e
        exact ⟨F, p, ds, rfl, e, dv, hz, k.sc e fun _ => .int _⟩
      · cases hg
    | _ => cases hg) hg B.len ha (by decide) (by decide) hs
end
end DL
end
section
set_option Elab.async false
set_option linter.all false
set_option maxRecDepth 100000
/-! max, min of two; dicts made and seen at once. -/
namespace DL
open PySem PySem.Spec PyProof.Rows L2 PySem.Calls
def gMax2 : D → D → Option D
  | .int i, .int j => some (.int (if j > i then j else i))
  | _, _ => none
def gMin2 : D → D → Option D
  | .int i, .int j => some (.int (if j < i then j else i))
  | _, _ => none
section
variable {X : Cx} {a b e k v : Expr} {pos p : Pos} {fa fb fe fk fv : Fm → Option D}
theorem sp_call2 {K : PySem.W.Frag} {r : List V → Hp → VK → Prop} {g : D → D → Option D} {ta tb : TE} {fa fb : Fm → Option D} (hr : ∀ F H x y dx dy dz, Ex F H → Vw K F H x dx → Vw K F H y dy → g dx dy = some dz → ∀ Q : VK, Res K F H dz Q → r [x, y] H Q)
    (ha : SV K ta fa) (hb : SV K tb fb) : SP K (tCB r (tCons ta (tCons tb tNil))) (fOp2 g fa fb) := by
  intro F H σ ρ d hf hR Q k
  obtain ⟨dx, h1, hf⟩ := Option.bind_eq_some_iff.mp hf
  obtain ⟨dy, h2, hf⟩ := Option.bind_eq_some_iff.mp hf
  refine ha F H σ ρ dx h1 hR _ fun x F1 H1 g1 r1 => hb F1 H1 σ ρ dy h2 (hR.gr g1) _ fun y F2 H2 g2 r2 => ?_
  exact hr F2 H2 x y dx dy d g2.in_ (r1.gr g2) r2 hf Q (k.gr (g1.trans g2))
theorem d_max2 (hc : X.calm = true) (B : Bt X.mg) (ha : PV X a fa) (hb : PV X b fb) (hg : Gl X "max" := by rfl) (hs : starEach [a, b] X.env = (false, eval a X.env) :: starEach [b] X.env := by rfl) (hs2 : starEach [b] X.env = (false, eval b X.env) :: starEach [] X.env := by rfl) : PP X (.Call (.Name "max" p) [a, b] [] pos) (fOp2 gMax2 fa fb) :=
  let ⟨_, h1, h2⟩ := ha
  let ⟨_, h3, h4⟩ := hb
  ⟨_, pe_callB (call_max2 hc) hg B.max PyProof.Rows.boot_max (pa_cons h1 (pa_cons h3 pa_nil hs2) hs) (by decide) (by decide) hs (by rw [hs2]; rfl), sp_call2 (fun F H x y dx dy dz e hx hy hg Q k => by
    unfold gMax2 at hg
    split at hg
    · cases hg
      exact ⟨_, _, by rw [hx.int, hy.int], k.sc e fun _ => .int _⟩
    · cases hg) h2 h4⟩
theorem d_min2 (hc : X.calm = true) (B : Bt X.mg) (ha : PV X a fa) (hb : PV X b fb) (hg : Gl X "min" := by rfl) (hs : starEach [a, b] X.env = (false, eval a X.env) :: starEach [b] X.env := by rfl) (hs2 : starEach [b] X.env = (false, eval b X.env) :: starEach [] X.env := by rfl) : PP X (.Call (.Name "min" p) [a, b] [] pos) (fOp2 gMin2 fa fb) :=
  let ⟨_, h1, h2⟩ := ha
  let ⟨_, h3, h4⟩ := hb
  ⟨_, pe_callB (call_min2 hc) hg B.min PyProof.Rows.boot_min (pa_cons h1 (pa_cons h3 pa_nil hs2) hs) (by decide) (by decide) hs (by rw [hs2]; rfl), sp_call2 (fun F H x y dx dy dz e hx hy hg Q k => by
    unfold gMin2 at hg
    split at hg
    · cases hg
      exact ⟨_, _, by rw [hx.int, hy.int], k.sc e fun _ => .int _⟩
    · cases hg) h2 h4⟩
/-- a new thing, known from its making on -/
def tSeeE (t : TE) : TE := fun σ H Q => t σ H fun v H' => ∃ (a : Addr) (u : HO), v = .ref a ∧ H' a = some u ∧ Mut (some u) ∧ ∀ od, Q v (upd H' a (.frz od u))
theorem pe_seeE {t : TE} (h : PE X e t) : PE X e (tSeeE t) := by
  refine ⟨fun pins s σ H Q I hw => ?_⟩
  refine thn (h.run pins s σ H _ I hw) fun v s1 ⟨x, H1, I1, rx, a, u, ex, hu, mu, q⟩ => ?_
  obtain ⟨od, I2⟩ := I1.lock hu mu
  exact ⟨x, _, I2, rx, q od⟩
/-- {} seen at once -/
theorem d_new0 : PP X (.Dict [] [] pos) (fun _ => some (.dict [])) := ⟨_, pe_seeE pe_newN, fun F H σ ρ d hf hR Q q p hp => by
  cases hf
  refine ⟨p, DN p [], rfl, upd_same, trivial, fun od => ?_⟩
  rw [upd_upd]
  exact q _ _ _ (Gr.new hR.ex hp) (.dn (xs := []) upd_same .nil)⟩
/-- {k: v} seen at once -/
theorem d_new1 {n : Nat} (hr : Room n X.A) (hk : PP X k fk) (hv : PP X v fv) : PP X (.Dict [some k] [v] pos) (fun ρ => (fk ρ).bind fun kd => (fv ρ).bind fun d => (kOf true kd).map fun _ => .dict [(kd, d)]) := by
  obtain ⟨tk, h1, h2⟩ := hk
  obtain ⟨tv, h3, h4⟩ := hv
  refine ⟨_, pe_seeE (pe_new1 (by have := Room.u66 hr; omega) h1 h3), fun F H σ ρ b hf hR Q kk p hp => ?_⟩
  obtain ⟨kd, e1, hf⟩ := Option.bind_eq_some_iff.mp hf
  obtain ⟨d, e2, hf⟩ := Option.bind_eq_some_iff.mp hf
  obtain ⟨k0, e3, hf⟩ := Option.map_eq_some_iff.mp hf
  cases hf
  have g0 := Gr.newH (o := DN p []) hR.ex hp
  refine h2 F _ σ ρ _ e1 (hR.gr g0) _ fun x F1 H1 g1 r1 => h4 F1 H1 σ ρ _ e2 ((hR.gr g0).gr g1) _ fun y F2 H2 g2 r2 => ?_
  have g12 := g1.trans g2
  have hF0 : F p = none := hR.ex.free hp
  have hF2 : F2 p = none := g12.hide p (by rw [upd_same]; intro z; cases z) hF0
  refine ⟨F2, kd, d, k0, g2.in_, g12.keep _ _ upd_same, r1.mono g2.ex, e3, r2, fun xs rx => ⟨p, DN p xs, rfl, upd_same, trivial, fun od => ?_⟩⟩
  rw [upd_upd]
  have exF : Ex F2 (upd F2 p (.frz od (DN p xs))) := .new hF2
  refine kk _ (upd F2 p (.frz od (DN p xs))) _ ⟨g12.ex.trans exF, g2.in_.both, fun c o z => ?_, fun c hc hf0 => ?_⟩ (.dn upd_same (RpN.mono exF rx))
  · have : c ≠ p := fun w => by rw [w, hp] at z; cases z
    rw [upd_ne this]
    exact g12.keep c o (by rw [upd_ne this]; exact z)
  · have : c ≠ p := fun w => hc (by rw [w]; exact hp)
    rw [upd_ne this]
    exact g12.hide c (by rw [upd_ne this]; exact hc) hf0
end
end DL
end
section
set_option Elab.async false
set_option linter.all false
set_option maxRecDepth 100000
/-! zip of two: lists, tuples, in any mix. -/
namespace DL
open PySem PySem.Spec PyProof.Rows L2
/-- a list (true) or a tuple (false) of the walk -/
def SqB (k : Bool) (K : PySem.W.Frag) (H : Hp) (a : Addr) (xs : List V) : Prop := cond k (SqL K H a xs) (SqT K H a xs)
def BIs (k : Bool) (h : Heap) (a : Addr) (its : Array Value) : Prop := cond k (h.IsList a its) (h.IsTuple a its)
def BIt (k : Bool) (h : Heap) (it a : Addr) (i : Nat) : Prop := cond k (h.IsListIter it a i) (h.IsTupleIter it a i)
def bItO (k : Bool) (a : Addr) : Obj := cond k { cls := .type "list_iterator", data := .fields #[.ref a, .int 0 0] } { cls := .type "tuple_iterator", data := .fields #[.ref a, .int 0 0] }
theorem draws_b {prog : Program} {w : World} {A : Around} (hh : A.handled = none) (k : Bool) (it a : Addr) (hne : a ≠ it) (its : Array Value) :
    Draws prog w A it [it, a] its.size (fun i v => its[i]? = some v) (fun i h => BIt k h it a i ∧ BIs k h a its) := by
  cases k
  · exact Draws.tuple hh it a hne its
  · exact Draws.list hh it a hne its
theorem begins_b (k : Bool) (a : Addr) (its : Array Value) : Begins (.ref a) (bItO k a) fun h => BIs k h a its := by
  cases k
  · exact begins_tuple a its
  · exact begins_list a its
theorem BIt.new (k : Bool) {h : Heap} {it a : Addr} (e : h.get? it = some (bItO k a)) : BIt k h it a 0 := by
  cases k
  · exact ⟨_, e, rfl, rfl⟩
  · exact ⟨_, e, rfl, rfl⟩
theorem BIt.obj {k : Bool} {h : Heap} {it a : Addr} {i : Nat} (x : BIt k h it a i) : ∃ o, h.get? it = some o ∧ ∀ v q, o.data = .seq v q → False := by
  cases k
  · obtain ⟨o, h1, _, h2⟩ := x
    exact ⟨o, h1, fun v q e => by rw [h2] at e; cases e⟩
  · obtain ⟨o, h1, _, h2⟩ := x
    exact ⟨o, h1, fun v q e => by rw [h2] at e; cases e⟩
theorem BIt.keep {k : Bool} {h h' : Heap} {it a : Addr} {i : Nat} (x : BIt k h it a i) (e : ∀ o, h.get? it = some o → h'.get? it = some o) : BIt k h' it a i := by
  cases k
  · exact x.at e
  · exact x.at e
section
variable {X : Cx} {pins : List (Addr × Obj)} {σ : L2.St} {H : Hp} {s : Shared}
theorem sqB_at {k : Bool} {a : Addr} {xs : List V} (I : Inv X pins σ H s) (q : SqB k X.K H a xs) : ∃ its : List Value, Vals xs its ∧ BIs k s.heap a its.toArray ∧ a < s.heap.objs.size := by
  cases k
  · obtain ⟨its, rv, p, hz⟩ := I.tuple q
    obtain ⟨o, ho, _⟩ := id (isTup_tuple p)
    exact ⟨its, rv, isTup_tuple p, Heap.lt_size ho⟩
  · obtain ⟨its, rv, p, hz⟩ := I.list q
    exact ⟨its, rv, p.isList, p.lt⟩
theorem sqB_inj {k : Bool} {a : Addr} {xs ys : List V} (I : Inv X pins σ H s) (q : SqB k X.K H a xs) (q' : SqB k X.K H a ys) : xs = ys := by
  cases k
  · exact I.tuple_inj q q'
  · exact I.list_inj q q'
end
/-- the two as they stand at each turn, the items in new pairs -/
def ItzB (k l : Bool) (K : PySem.W.Frag) (a b : Addr) : It :=
  ⟨fun i H => ∃ (xs ys : List V) (x y : V), SqB k K H a xs ∧ SqB l K H b ys ∧ xs[i]? = some x ∧ ys[i]? = some y,
    fun i H v H' => ∃ T x y, v = .ref T ∧ H T = none ∧ H' = upd H T (.tup [x, y]) ∧ (∀ xs, SqB k K H a xs → xs[i]? = some x) ∧ ∀ ys, SqB l K H b ys → ys[i]? = some y,
    fun i H => ∃ xs ys : List V, SqB k K H a xs ∧ SqB l K H b ys ∧ (xs.length = i ∧ i ≤ ys.length ∨ ys.length = i ∧ i ≤ xs.length)⟩
theorem turn_zipB {P : Program} {w : World} {K : PySem.W.Frag} {elts : List Expr} {kk : Nat} {tpos : Pos} {k l : Bool} {a b z TI TO i1 i2 : Addr} (D : ZipSep2 z TI TO i1 i2 [i1, a] [i2, b]) (na : a ≠ i1) (nb : b ≠ i2) :
    Turn P w K (.Tuple elts kk tpos) (ItzB k l K a b) [z, TI, TO, i1, i2] z (fun i h => IsZip h z TI TO .none ∧ IsTupOf2 h TI (.ref i1) (.ref i2) ∧ (∃ x y, IsTupOf2 h TO x y) ∧ BIt k h i1 a i ∧ BIt l h i2 b i) where
  mem := by simp
  obj := fun i h st c hc => by
    obtain ⟨hz, hTI, ⟨x, y, hTO⟩, h1, h2⟩ := st
    obtain ⟨o1, e1, d1⟩ := h1.obj
    obtain ⟨o2, e2, d2⟩ := h2.obj
    have e' : c = z ∨ c = TI ∨ c = TO ∨ c = i1 ∨ c = i2 := by simpa using hc
    rcases e' with q | q | q | q | q
    · rw [q]; exact ⟨_, hz, fun v q => nomatch q⟩
    · rw [q]; exact ⟨_, hTI, fun v q => nomatch q⟩
    · rw [q]; exact ⟨_, hTO, fun v q => nomatch q⟩
    · rw [q]
      refine ⟨o1, e1, fun v q => ?_⟩
      cases k
      · obtain ⟨o, h5, _, h6⟩ := h1
        rw [e1] at h5; cases h5; rw [h6] at q; cases q
      · obtain ⟨o, h5, _, h6⟩ := h1
        rw [e1] at h5; cases h5; rw [h6] at q; cases q
    · rw [q]
      refine ⟨o2, e2, fun v q => ?_⟩
      cases l
      · obtain ⟨o, h5, _, h6⟩ := h2
        rw [e2] at h5; cases h5; rw [h6] at q; cases q
      · obtain ⟨o, h5, _, h6⟩ := h2
        rw [e2] at h5; cases h5; rw [h6] at q; cases q
  keep := fun i h h' st kp => by
    obtain ⟨hz, hTI, ⟨x, y, hTO⟩, h1, h2⟩ := st
    exact ⟨kp z (by simp) _ hz, kp TI (by simp) _ hTI, ⟨x, y, kp TO (by simp) _ hTO⟩, h1.keep fun o q => kp i1 (by simp) o q, h2.keep fun o q => kp i2 (by simp) o q⟩
  item := by
    intro X hP hw hK hc i pins s σ H E I hf st hg
    subst hP hw hK
    obtain ⟨hz, hTI, ⟨x0, y0, hTO⟩, h1, h2⟩ := st
    obtain ⟨xs, ys, x, y, hqx, hqy, hx, hy⟩ := hg
    obtain ⟨its, rv, p, _⟩ := sqB_at I hqx
    obtain ⟨its2, rv2, p2, _⟩ := sqB_at I hqy
    obtain ⟨u, hu, ru⟩ := rv.get hx
    obtain ⟨u2, hu2, ru2⟩ := rv2.get hy
    have hzl : z < s.heap.objs.size := Heap.lt_size hz
    have hh : X.A.in1.handled = none := I.ok.hd hc
    have lt1 : i < its.toArray.size := by simpa using (List.getElem?_eq_some_iff.mp hu).1
    have lt2 : i < its2.toArray.size := by simpa using (List.getElem?_eq_some_iff.mp hu2).1
    refine wpAny_pyNext_zipD2_item D (draws_b hh k i1 a na its.toArray) (draws_b hh l i2 b nb its2.toArray) hz hTI hTO ⟨h1, p⟩ ⟨h2, p2⟩ lt1 lt2 fun w1 w2 h' tk P1 P2 z' TO' st1 st2 hT hsz hk => ?_
    have q1 : w1 = u := by
      have e1 : its.toArray[i]? = some u := by simpa using hu
      have e2 : its.toArray[i]? = some w1 := P1
      rw [e1] at e2
      exact (Option.some.inj e2).symm
    have q2 : w2 = u2 := by
      have e1 : its2.toArray[i]? = some u2 := by simpa using hu2
      have e2 : its2.toArray[i]? = some w2 := P2
      rw [e1] at e2
      exact (Option.some.inj e2).symm
    subst q1 q2
    refine ⟨_, rfl, wpAny_letOwnedTupleGo_zip (s := { s with heap := h', toks := tk }) z' fun h'' z'' sb => ?_⟩
    have hT2 : h''.get? s.heap.objs.size = some { cls := .type "tuple", data := .seq #[w1, w2] } := (sb.2 _ (Nat.ne_of_gt hzl)).trans hT
    have new : ObjOk X.prog X.w (upd H s.heap.objs.size (.tup [x, y])) h'' s.heap.objs.size (.tup [x, y]) :=
      ⟨by show 2 ≤ sizeLine; decide, [w1, w2], .cons ru (.cons ru2 .nil), ⟨_, hT2, rfl, _, rfl⟩⟩
    have I1 : Inv X pins σ (upd H s.heap.objs.size (.tup [x, y])) { s with heap := h'', toks := tk } :=
      I.turnedNew (t' := tk) (ch := [z, TI, TO, i1, i2]) (fun c o hb q => (sb.2 c (fun q' => hb (by simp [q']))).trans (hk c o (fun q' => hb (by simp [q'])) (fun q' => hb (by simp [q'])) (fun q' => hb (by simp [q'])) (fun q' => hb (by simp [q'])) q)) hf (Nat.le_refl _) new
    refine ⟨.ref s.heap.objs.size, _, I1, rfl, ⟨_, x, y, rfl, I.hok.fresh (Nat.le_refl _), rfl, fun l hl => by rw [sqB_inj I hl hqx]; exact hx, fun l hl => by rw [sqB_inj I hl hqy]; exact hy⟩, ⟨z'', ?_, ⟨w1, w2, ?_⟩, ?_, ?_⟩, fun c hcm => ?_⟩
    · exact (sb.2 _ D.TIz).trans (hk _ _ D.TIz D.TITO D.TIi1 D.TIi2 hTI)
    · exact (sb.2 _ D.TOz).trans TO'
    · exact st1.1.keep fun o q => (sb.2 _ (Ne.symm D.zi1)).trans q
    · exact st2.1.keep fun o q => (sb.2 _ (Ne.symm D.zi2)).trans q
    · have hlt : c < s.heap.objs.size := by
        have e' : c = z ∨ c = TI ∨ c = TO ∨ c = i1 ∨ c = i2 := by simpa using hcm
        rcases e' with q | q | q | q | q
        · rw [q]; exact hzl
        · rw [q]; exact Heap.lt_size hTI
        · rw [q]; exact Heap.lt_size hTO
        · rw [q]; obtain ⟨_, e1, _⟩ := h1.obj; exact Heap.lt_size e1
        · rw [q]; obtain ⟨_, e2, _⟩ := h2.obj; exact Heap.lt_size e2
      rw [upd_ne (Nat.ne_of_lt hlt)]
      exact (hf c hcm).1
  done := by
    intro X hP hw hK hc i pins s σ H E I hf st hg
    subst hP hw hK
    obtain ⟨hz, hTI, ⟨x0, y0, hTO⟩, h1, h2⟩ := st
    obtain ⟨xs, ys, hqx, hqy, hend⟩ := hg
    obtain ⟨its, rv, p, _⟩ := sqB_at I hqx
    obtain ⟨its2, rv2, p2, _⟩ := sqB_at I hqy
    have hh : X.A.in1.handled = none := I.ok.hd hc
    have l1 : its.toArray.size = xs.length := by rw [List.size_toArray, rv.length]
    have l2 : its2.toArray.size = ys.length := by rw [List.size_toArray, rv2.length]
    exact wpAny_pyNext_zipD2_end (i := i) D (draws_b hh k i1 a na its.toArray) (draws_b hh l i2 b nb its2.toArray) hz hTI hTO ⟨h1, p⟩ ⟨h2, p2⟩ (by omega) (by omega) (by omega) fun h' tk hk => ⟨rfl, I.turnedL (t' := tk) (ch := [z, TI, TO, i1, i2]) (fun c o hb q =>
      hk c o (fun q' => hb (by simp [q'])) (fun q' => hb (by simp [q'])) (fun q' => hb (by simp [q'])) (fun q' => hb (by simp [q'])) q) hf⟩
  self := fun A i s Q E st h => wpAny_pyIter_zip st.1 h
def iZipB (K : PySem.W.Frag) (ta : TA) : TI := fun σ H R => ta σ H fun vs H1 => ∃ k l a b xs ys, vs = [.ref a, .ref b] ∧ SqB k K H1 a xs ∧ SqB l K H1 b ys ∧ R (ItzB k l K a b) H1
theorem pi_zipB {X : Cx} {e e2 : Expr} {ta : TA} {p pos tpos : Pos} {elts : List Expr} {kk : Nat} (hg : Gl X "zip") (hm : X.mg "zip" = none) (ha : PA X [e, e2] ta)
    (hs : starEach [e, e2] X.env = (false, eval e X.env) :: starEach [e2] X.env := by rfl) (hpl : (backTo pos (starEach [e2] X.env)).any (·.1) = false := by rfl) :
    PI X (.Tuple elts kk tpos) (.Call (.Name "zip" p) [e, e2] [] pos) (iZipB X.K ta) := by
  refine ⟨fun pins s σ H R I h => ?_⟩
  refine Call_ (ld_blt I hg hm PyProof.Rows.boot_zip (PyProof.Rows.callWith_type1 (thn (ha.run pos pins s σ H _ I h) fun us s1 ⟨vs, H1, I1, r1, q1⟩ => ?_) hs hpl))
  obtain ⟨k, l, a, b, xs, ys, ex, hqx, hqy, q⟩ := q1
  subst ex
  cases r1 with
  | cons r rr =>
    cases rr with
    | cons r' rr =>
      cases rr
      cases r
      cases r'
      obtain ⟨its, rv, p1, la⟩ := sqB_at I1 hqx
      obtain ⟨its2, rv2, p2, lb⟩ := sqB_at I1 hqy
      refine zip_begins2 (begins_b k a its.toArray) (begins_b l b its2.toArray) p1 p2 fun h' hz hTI hTO h1 h2 hsz hk => wpAny_pyIter_zip hz ?_
      have I2 : Inv X pins σ H1 { s1 with heap := h' } := I1.kept (t' := s1.toks) hk
      have la' : (a : Nat) < s1.heap.objs.size := la
      have lb' : (b : Nat) < s1.heap.objs.size := lb
      refine ⟨s1.heap.objs.size + 4, [s1.heap.objs.size + 4, s1.heap.objs.size + 2, s1.heap.objs.size + 3, s1.heap.objs.size, s1.heap.objs.size + 1], _, _, H1, rfl, I2, turn_zipB (zip_sep2 (fp1 := [a]) (fp2 := [b]) (fun c hc => by rw [List.mem_singleton.mp hc]; exact la) (fun c hc => by rw [List.mem_singleton.mp hc]; exact lb)) (Nat.ne_of_lt la') (Nat.ne_of_lt (Nat.lt_succ_of_lt lb')), ⟨hz, hTI, ⟨_, _, hTO⟩, BIt.new k h1, BIt.new l h2⟩, fun c hcm => ?_, q⟩
      have e' : c = s1.heap.objs.size + 4 ∨ c = s1.heap.objs.size + 2 ∨ c = s1.heap.objs.size + 3 ∨ c = s1.heap.objs.size ∨ c = s1.heap.objs.size + 1 := by simpa using hcm
      have hle : s1.heap.objs.size ≤ c := by
        rcases e' with z | z | z | z | z
        · rw [z]; exact Nat.le_add_right _ _
        · rw [z]; exact Nat.le_add_right _ _
        · rw [z]; exact Nat.le_add_right _ _
        · rw [z]; exact Nat.le_refl _
        · rw [z]; exact Nat.le_add_right _ _
      exact I1.fpOk hle (I1.hok.fresh hle)
/-! ### in data -/
def seqB : D → Option (Bool × List D)
  | .list xs => some (true, xs)
  | .tuple xs => some (false, xs)
  | _ => none
theorem seqB_rp {K : PySem.W.Frag} {F : Hp} {v : V} {d : D} {k : Bool} {ds : List D} (r : Rp K F v d) (e : seqB d = some (k, ds)) : ∃ a xs, v = .ref a ∧ SqB k K F a xs ∧ RpA K F xs ds := by
  cases d <;> cases e
  · cases r with
    | lst s r => exact ⟨_, _, rfl, s, r⟩
  · cases r with
    | tup s r => exact ⟨_, _, rfl, s, r⟩
theorem sqB_ex {k : Bool} {K : PySem.W.Frag} {F H : Hp} {a : Addr} {xs : List V} (e : Ex F H) (s : SqB k K F a xs) : SqB k K H a xs := by
  cases k
  · exact e.sqt s
  · exact e.sql s
def zipD : List D → List D → List D
  | x :: xs, y :: ys => .tuple [x, y] :: zipD xs ys
  | _, _ => []
theorem zipD_get : ∀ (xs ys : List D) (i : Nat) (d : D), (zipD xs ys)[i]? = some d → ∃ x y, xs[i]? = some x ∧ ys[i]? = some y ∧ d = .tuple [x, y]
  | [], _, i, d, h => by simp [zipD] at h
  | _ :: _, [], i, d, h => by simp [zipD] at h
  | x :: xs, y :: ys, 0, d, h => by
    simp only [zipD, List.getElem?_cons_zero, Option.some.injEq] at h
    exact ⟨x, y, rfl, rfl, h.symm⟩
  | x :: xs, y :: ys, i + 1, d, h => by
    simp only [zipD, List.getElem?_cons_succ] at h
    obtain ⟨x', y', h1, h2, h3⟩ := zipD_get xs ys i d h
    exact ⟨x', y', by simpa using h1, by simpa using h2, h3⟩
theorem zipD_len : ∀ (xs ys : List D), xs.length = (zipD xs ys).length ∧ (zipD xs ys).length ≤ ys.length ∨ ys.length = (zipD xs ys).length ∧ (zipD xs ys).length ≤ xs.length
  | [], _ => .inl ⟨rfl, Nat.zero_le _⟩
  | _ :: _, [] => .inr ⟨rfl, Nat.zero_le _⟩
  | x :: xs, y :: ys => by
    simp only [zipD, List.length_cons]
    rcases zipD_len xs ys with ⟨h1, h2⟩ | ⟨h1, h2⟩
    · exact .inl ⟨by omega, by omega⟩
    · exact .inr ⟨by omega, by omega⟩
def iZp (f g : Fm → Option D) (ρ : Fm) : Option (List D) := (f ρ).bind fun d => (g ρ).bind fun e => (seqB d).bind fun x => (seqB e).map fun y => zipD x.2 y.2
theorem zp_new {K : PySem.W.Frag} {F2 H2 : Hp} {T : Addr} {v w : V} {d e : D} (e2 : Ex F2 H2) (hT : H2 T = none) (r : Rp K F2 v d) (r' : Rp K F2 w e) : ∃ F3, Gr F2 H2 F3 (upd H2 T (.tup [v, w])) ∧ Rp K F3 (.ref T) (.tuple [d, e]) := by
  have g := Gr.new (o := .tup [v, w]) e2 hT
  exact ⟨_, g, .tup (.inl (.inl upd_same)) (.cons (r.mono g.ex) (.cons (r'.mono g.ex) .nil))⟩
section
variable {X : Cx} {e e2 : Expr} {pos p : Pos} {fe fe2 : Fm → Option D}
theorem i_zip {elts : List Expr} {kk : Nat} {tpos : Pos} (B : Bt X.mg) (h : PP X e fe) (h' : PP X e2 fe2) (hg : Gl X "zip" := by rfl) (hs : starEach [e, e2] X.env = (false, eval e X.env) :: starEach [e2] X.env := by rfl) (hs2 : starEach [e2] X.env = (false, eval e2 X.env) :: starEach [] X.env := by rfl) (hpl : (backTo pos (starEach [e2] X.env)).any (·.1) = false := by rfl) :
    PIt X (.Tuple elts kk tpos) (.Call (.Name "zip" p) [e, e2] [] pos) (iZp fe fe2) := by
  obtain ⟨t, h1, h2⟩ := h
  obtain ⟨u, h3, h4⟩ := h'
  refine ⟨_, pi_zipB hg B.zip (pa_cons h1 (pa_cons h3 pa_nil hs2) hs) hs hpl, fun F H σ ρ ds hf hR R k => ?_⟩
  obtain ⟨d, e1, hf⟩ := Option.bind_eq_some_iff.mp hf
  obtain ⟨d', e1', hf⟩ := Option.bind_eq_some_iff.mp hf
  obtain ⟨⟨b1, xs⟩, z1, hf⟩ := Option.bind_eq_some_iff.mp hf
  obtain ⟨⟨b2, ys⟩, z2, hf⟩ := Option.map_eq_some_iff.mp hf
  subst hf
  refine h2 F H σ ρ _ e1 hR _ fun v F1 H1 g1 r1 => ?_
  refine h4 F1 H1 σ ρ _ e1' (hR.gr g1) _ fun w F2 H2 g2 r2 => ?_
  obtain ⟨a, vs, rfl, s1, q1⟩ := seqB_rp (r1.mono g2.ex) z1
  obtain ⟨b, ws, rfl, s2, q2⟩ := seqB_rp r2 z2
  refine ⟨b1, b2, a, b, vs, ws, rfl, sqB_ex g2.in_ s1, sqB_ex g2.in_ s2, k _ F2 H2 (g1.trans g2) fun F3 H3 f1 f2 => ?_⟩
  have t1 := sqB_ex f2 (sqB_ex f1 s1)
  have t2 := sqB_ex f2 (sqB_ex f1 s2)
  refine ⟨fun i d hd => ?_, vs, ws, t1, t2, ?_⟩
  · obtain ⟨x, y, hx, hy, rfl⟩ := zipD_get xs ys i d hd
    obtain ⟨v1, v2, v3⟩ := q1.get hx
    obtain ⟨w1, w2, w3⟩ := q2.get hy
    refine ⟨⟨_, _, v1, w1, t1, t2, v2, w2⟩, fun x' H4 hy' => ?_⟩
    obtain ⟨T, x2, y2, rfl, hT, rfl, hx2, hy2⟩ := hy'
    have := (hx2 _ t1).symm.trans v2
    cases this
    have := (hy2 _ t2).symm.trans w2
    cases this
    exact zp_new f2 hT (v3.mono f1) (w3.mono f1)
  · rw [q1.length, q2.length]
    exact zipD_len xs ys
end
end DL
end
section
set_option Elab.async false
set_option linter.all false
set_option maxRecDepth 100000
/-! [..] * n. -/
namespace DL
open PySem PySem.Spec PyProof.Rows L2
theorem rpA_rep {K : PySem.W.Frag} {F : Hp} {xs : List V} {ds : List D} (r : RpA K F xs ds) : ∀ n : Nat, RpA K F (List.replicate n xs).flatten (List.replicate n ds).flatten
  | 0 => .nil
  | n + 1 => by
    rw [List.replicate_succ, List.replicate_succ, List.flatten_cons, List.flatten_cons]
    exact r.append (rpA_rep r n)
def repD (ds : List D) : Nat → List D
  | 0 => []
  | n + 1 => ds ++ repD ds n
theorem repD_eq (ds : List D) : ∀ n, repD ds n = (List.replicate n ds).flatten
  | 0 => rfl
  | n + 1 => by rw [repD, repD_eq ds n, List.replicate_succ, List.flatten_cons]
def fRepL (fs : Fm → Option (List D)) (fb : Fm → Option D) (ρ : Fm) : Option (List D) := (fs ρ).bind fun ds => if ds.length ≤ bigN then (fb ρ).bind fun d => match d with
  | .int k => if decide (-1000000 ≤ k) && decide (k ≤ 1000000) && decide (ds.length * k.toNat ≤ bigN) then some (repD ds k.toNat) else none
  | _ => none else none
section
variable {X : Cx} {e b : Expr} {es : List Expr} {pos p : Pos} {fb : Fm → Option D} {fs : Fm → Option (List D)}
theorem pe_rep (h : PAs X es fs) (h' : PP X b fb) : ∃ t, PE X (.BinOp (.List es p) .Mult b pos) t ∧ ∀ F H σ ρ ds, fRepL fs fb ρ = some ds → Rel X.K F H σ ρ → ∀ Q : VK, (∀ F1 H1 vs q, Gr F H F1 H1 → RpA X.K F1 vs ds → H1 q = none → Q (.ref q) (upd H1 q (.lst vs))) → t σ H Q := by
  obtain ⟨t, h1, h2, _⟩ := h
  obtain ⟨u, h3, h4⟩ := h'
  refine ⟨_, pe_op op_rep (pe_lst h1) h3, fun F H σ ρ ds hf hR Q k => ?_⟩
  obtain ⟨es', e1, hf⟩ := Option.bind_eq_some_iff.mp hf
  split at hf
  · rename_i hz
    obtain ⟨d, e2, hf⟩ := Option.bind_eq_some_iff.mp hf
    split at hf
    · rename_i k0
      split at hf
      · rename_i hb
        cases hf
        simp only [Bool.and_eq_true, decide_eq_true_eq] at hb
        obtain ⟨⟨b1, b2⟩, b3⟩ := hb
        refine h2 F H σ ρ _ e1 hR _ fun vs F1 H1 g1 r1 => ⟨by rw [r1.length]; exact Nat.le_trans hz big_le, fun p hp => ?_⟩
        have g2 := Gr.newH (o := .lst vs) g1.in_ hp
        refine h4 F1 _ σ ρ _ e2 (hR.gr (g1.trans g2)) _ fun v F2 H2 g3 r2 => ?_
        refine ⟨p, k0, vs, rfl, r2.intI, g3.keep p _ upd_same, by omega, by omega, by rw [r1.length]; exact Nat.le_trans b3 big_le, fun q hq => ?_⟩
        refine k F2 H2 _ q ((g1.trans g2).trans g3) ?_ hq
        rw [repD_eq]
        exact rpA_rep (r1.mono g3.ex) k0.toNat
      · cases hf
    · cases hf
  · cases hf
def fRep (fs : Fm → Option (List D)) (fb : Fm → Option D) (ρ : Fm) : Option D := (fRepL fs fb ρ).map .list
theorem d_rep (h : PAs X es fs) (h' : PP X b fb) : PP X (.BinOp (.List es p) .Mult b pos) (fRep fs fb) := by
  obtain ⟨t, h1, h2⟩ := pe_rep (p := p) (pos := pos) h h'
  refine ⟨t, h1, fun F H σ ρ d hf hR Q k => ?_⟩
  obtain ⟨ds, e1, rfl⟩ := Option.map_eq_some_iff.mp hf
  exact h2 F H σ ρ ds e1 hR Q fun F1 H1 vs q g r hq => (k.gr g).lst g.in_ r q hq
def mRep (fs : Fm → Option (List D)) (fb : Fm → Option D) (ρ : Fm) : Option (B × Fm) := (fRepL fs fb ρ).map fun ds => (.ow ds, ρ)
theorem m_rep (h : PAs X es fs) (h' : PP X b fb) : XM X (.BinOp (.List es p) .Mult b pos) (mRep fs fb) := by
  obtain ⟨t, h1, h2⟩ := pe_rep (p := p) (pos := pos) h h'
  refine ⟨t, h1, fun F H σ ρ b ρ' hf hR Q k => ?_⟩
  obtain ⟨ds, e1, e2⟩ := Option.map_eq_some_iff.mp hf
  cases e2
  refine h2 F H σ ρ ds e1 hR Q fun F1 H1 vs q g r hq => ?_
  have hq0 : H q = none := g.keep.free hq
  exact k _ _ _ (.gr hR (g.trans (Gr.newH (o := .lst vs) g.in_ hq))) ⟨q, vs, rfl, hq0, upd_same, g.in_.free hq, r⟩
end
end DL
end
section
set_option Elab.async false
set_option linter.all false
set_option maxRecDepth 100000
/-! Slices of lists and tuples. -/
namespace DL
open PySem PySem.Spec PyProof.Rows L2
def cutD (ds : List D) (lo hi : Option Int) : List D := (ds.drop (HT.sIx ds.length 0 lo)).take (HT.sIx ds.length ds.length hi - HT.sIx ds.length 0 lo)
def gSl (d : D) (lo hi : Option Int) : Option D := match d with
  | .list ds => some (.list (cutD ds lo hi))
  | .tuple ds => some (.tuple (cutD ds lo hi))
  | _ => none
def fPart (f : Fm → Option D) (ρ : Fm) : Option (Option Int) := match f ρ with
  | some (.int i) => some (some i)
  | _ => none
def fNoP (_ : Fm) : Option (Option Int) := some none
def fSl (f : Fm → Option D) (fl fh : Fm → Option (Option Int)) (ρ : Fm) : Option D := (f ρ).bind fun d => (fl ρ).bind fun l => (fh ρ).bind fun h => gSl d l h
def SO (K : PySem.W.Frag) (t : TO) (f : Fm → Option (Option Int)) : Prop := ∀ F H σ ρ o, f ρ = some o → Rel K F H σ ρ → ∀ Q : Option Int → Hp → Prop, (∀ F' H', Gr F H F' H' → Q o H') → t σ H Q
def PPo (X : Cx) (e : Option Expr) (f : Fm → Option (Option Int)) : Prop := ∃ t, PO X e t ∧ SO X.K t f
theorem cut_rp {K : PySem.W.Frag} {F : Hp} {xs : List V} {ds : List D} (r : RpA K F xs ds) (lo hi : Option Int) : RpA K F (cutV xs lo hi) (cutD ds lo hi) := by
  unfold cutV cutD
  rw [r.length]
  exact (r.drop _).take _
theorem cut_whole {ds : List D} {lo hi : Option Int} (h : HT.sIx ds.length 0 lo = 0 ∧ HT.sIx ds.length ds.length hi = ds.length) : cutD ds lo hi = ds := by
  unfold cutD
  rw [h.1, h.2, List.drop_zero, Nat.sub_zero, List.take_length]
section
variable {X : Cx} {e : Expr} {lo hi : Option Expr} {pos p2 : Pos} {fe : Fm → Option D} {fl fh : Fm → Option (Option Int)}
theorem po_no : PPo X none fNoP := ⟨_, po_none, fun F H σ ρ o hf hR Q k => by
  cases hf
  exact k F H (.refl hR.ex)⟩
theorem po_at (h : PP X e fe) : PPo X (some e) (fPart fe) := by
  obtain ⟨t, h1, h2⟩ := h
  refine ⟨_, po_some h1, fun F H σ ρ o hf hR Q k => ?_⟩
  unfold fPart at hf
  split at hf
  · rename_i i e1
    cases hf
    exact h2 F H σ ρ _ e1 hR _ fun v F1 H1 g1 r1 => ⟨i, r1.intI, k F1 H1 g1⟩
  · cases hf
theorem d_slice (h : PP X e fe) (hl : PPo X lo fl) (hh : PPo X hi fh) : PP X (.Subscript e (.Slice lo hi none p2) pos) (fSl fe fl fh) := by
  obtain ⟨t, h1, h2⟩ := h
  obtain ⟨u, h3, h4⟩ := hl
  obtain ⟨w, h5, h6⟩ := hh
  refine ⟨_, pe_slice (SlR.or sl_list sl_tupA) h1 h3 h5, fun F H σ ρ d hf hR Q k => ?_⟩
  obtain ⟨d0, e1, hf⟩ := Option.bind_eq_some_iff.mp hf
  obtain ⟨l0, e2, hf⟩ := Option.bind_eq_some_iff.mp hf
  obtain ⟨h0, e3, hf⟩ := Option.bind_eq_some_iff.mp hf
  refine h2 F H σ ρ _ e1 hR _ fun v F1 H1 g1 r1 => h4 F1 H1 σ ρ _ e2 (hR.gr g1) _ fun F2 H2 g2 => h6 F2 H2 σ ρ _ e3 (hR.gr (g1.trans g2)) _ fun F3 H3 g3 => ?_
  have g := (g1.trans g2).trans g3
  have r3 := (r1.mono g2.ex).mono g3.ex
  cases d0 <;> cases hf
  · cases r3 with
    | lst s r => exact .inl ⟨_, _, rfl, g3.in_.sql s, fun p hp => (k.gr g).lst g.in_ (cut_rp r l0 h0) p hp⟩
  · cases r3 with
    | tup s r =>
      refine .inr ⟨_, _, rfl, g3.in_.sqt s, fun hw => ?_, fun _ p hp => (k.gr g).tup g.in_ (cut_rp r l0 h0) p hp⟩
      rw [r.length] at hw
      rw [cut_whole hw] at k
      exact k _ F3 H3 g (.tup s r)
end
end DL
end
section
set_option Elab.async false
set_option linter.all false
set_option maxRecDepth 100000
/-! range(i, j, -1). -/
namespace DL
open PySem PySem.Spec PyProof.Rows L2
def dwnD (i : Int) (n : Nat) : List D := (List.range n).map fun k => .int (i - (k : Nat))
def iRgD (f g h : Fm → Option D) (ρ : Fm) : Option (List D) := match f ρ, g ρ, h ρ with
  | some (.int i), some (.int j), some (.int c) => if smR i && smR j && decide (c = -1) then some (dwnD i (i - j).toNat) else none
  | _, _, _ => none
theorem ok_dwn {K : PySem.W.Frag} {F : Hp} {i : Int} {n : Nat} : ItOk K (Itc i (-1) n) F (dwnD i n) := fun F2 H2 e1 e2 => by
  have hl : (dwnD i n).length = n := by unfold dwnD; rw [List.length_map, List.length_range]
  refine ⟨fun k d h => ?_, Nat.le_of_eq hl.symm⟩
  have hi : k < n := by rw [← hl]; exact (List.getElem?_eq_some_iff.mp h).1
  refine ⟨hi, fun x H3 hy => ?_⟩
  obtain ⟨rfl, rfl⟩ := hy
  unfold dwnD at h
  rw [List.getElem?_map, List.getElem?_range hi] at h
  cases h
  have e : i + ((k : Nat) : Int) * -1 = i - (k : Nat) := by omega
  rw [e]
  exact ⟨F2, .refl e2, .int _⟩
section
variable {X : Cx} {a b c : Expr} {pos p : Pos} {fa fb fc : Fm → Option D}
theorem i_rgd {tg : Expr} (B : Bt X.mg) (h : PP X a fa) (h' : PP X b fb) (h'' : PP X c fc) (hg : Gl X "range" := by rfl) (hs : starEach [a, b, c] X.env = (false, eval a X.env) :: starEach [b, c] X.env := by rfl) (hs2 : starEach [b, c] X.env = (false, eval b X.env) :: starEach [c] X.env := by rfl) (hs3 : starEach [c] X.env = (false, eval c X.env) :: starEach [] X.env := by rfl) (hpl : (backTo pos (starEach [b, c] X.env)).any (·.1) = false := by rfl) :
    PIt X tg (.Call (.Name "range" p) [a, b, c] [] pos) (iRgD fa fb fc) := by
  obtain ⟨t, h1, h2⟩ := h
  obtain ⟨u, h3, h4⟩ := h'
  obtain ⟨w, h5, h6⟩ := h''
  refine ⟨_, pi_range3 hg B.range (pa_cons h1 (pa_cons h3 (pa_cons h5 pa_nil hs3) hs2) hs) hs hpl, fun F H σ ρ ds hf hR R k => ?_⟩
  unfold iRgD at hf
  split at hf
  · rename_i i j c' e1 e2 e3
    split at hf
    · rename_i hz
      cases hf
      unfold smR at hz
      simp only [Bool.and_eq_true, decide_eq_true_eq] at hz
      obtain ⟨⟨⟨z1, z2⟩, z3, z4⟩, rfl⟩ := hz
      refine h2 F H σ ρ _ e1 hR _ fun v F1 H1 g1 r1 => ?_
      refine h4 F1 H1 σ ρ _ e2 (hR.gr g1) _ fun v2 F2 H2 g2 r2 => ?_
      refine h6 F2 H2 σ ρ _ e3 (hR.gr (g1.trans g2)) _ fun v3 F3 H3 g3 r3 => ?_
      refine ⟨i, j, -1, (i - j).toNat, by rw [r1.intI, r2.intI, r3.intI], RgC.neg (by omega) (by omega) (by omega) (by omega), k _ F3 H3 ((g1.trans g2).trans g3) ok_dwn⟩
    · cases hf
  · cases hf
end
end DL
end
section
set_option Elab.async false
set_option linter.all false
set_option maxRecDepth 100000
/-! dict(xs), xs a list of pairs with apart keys that are numbers or texts. -/
namespace DL
open PySem PySem.Spec PyProof.Rows L2
def dpairs : List D → Option (List (Key × D))
  | [] => some []
  | .tuple [.int i, d] :: r => (dpairs r).map fun s => (.inl i, d) :: s
  | .tuple [.str x, d] :: r => (dpairs r).map fun s => (.inr x, d) :: s
  | _ :: _ => none
theorem putK_new {kvs : List (Key × V)} {k : Key} {v : V} (h : k ∉ kvs.map (·.1)) : putK kvs k v = kvs ++ [(k, v)] := by
  unfold putK
  rw [if_neg]
  rw [List.any_eq_true]
  rintro ⟨x, hx, e⟩
  exact h (List.mem_map.mpr ⟨x, hx, of_decide_eq_true e⟩)
theorem mergeK_nd : ∀ (kvs acc : List (Key × V)), ((acc ++ kvs).map (·.1)).Nodup → mergeK acc kvs = acc ++ kvs
  | [], acc, _ => by rw [List.append_nil]; rfl
  | (k, v) :: kvs, acc, h => by
    have h' : ((acc ++ [(k, v)] ++ kvs).map (·.1)).Nodup := by rw [List.append_assoc]; exact h
    have hk : k ∉ acc.map (·.1) := by
      rw [List.map_append, List.map_cons] at h
      exact fun z => (List.nodup_append.mp h).2.2 k z k (.head _) rfl
    show mergeK (putK acc k v) kvs = _
    rw [putK_new hk, mergeK_nd kvs _ h', List.append_assoc]
    rfl
theorem pairs_rp {K : PySem.W.Frag} {F : Hp} : ∀ {vs : List V} {ds : List D} {kds : List (Key × D)}, RpA K F vs ds → dpairs ds = some kds →
    ∃ (ps : List Addr) (kvs : List (Key × V)), vs = ps.map V.ref ∧ Paired (fun p kv => SqT K F p [kV kv.1, kv.2]) ps kvs ∧ kvs.map (·.1) = kds.map (·.1) ∧ RpK K F kvs (kds.map fun x => (keyD x.1, x.2))
  | _, _, kds, .nil, e => by
    cases e
    exact ⟨[], [], rfl, .nil, rfl, .nil⟩
  | _, _, kds, .cons (d := d) (ds := ds) h t, e => by
    unfold dpairs at e
    split at e
    · rename_i heq
      cases heq
    · rename_i i d' r heq
      cases heq
      obtain ⟨s, e1, rfl⟩ := Option.map_eq_some_iff.mp e
      obtain ⟨ps, kvs, rfl, p1, p2, p3⟩ := pairs_rp t e1
      cases h with
      | @tup a xs _ sq ra =>
        cases ra with
        | cons r1 ra =>
          cases ra with
          | cons r2 ra =>
            cases ra
            rename_i v1 v2
            have := r1.intI
            subst this
            exact ⟨a :: ps, (.inl i, v2) :: kvs, rfl, .cons sq p1, by rw [List.map_cons, List.map_cons, p2], .cons r2 p3⟩
    · rename_i x d' r heq
      cases heq
      obtain ⟨s, e1, rfl⟩ := Option.map_eq_some_iff.mp e
      obtain ⟨ps, kvs, rfl, p1, p2, p3⟩ := pairs_rp t e1
      cases h with
      | @tup a xs _ sq ra =>
        cases ra with
        | cons r1 ra =>
          cases ra with
          | cons r2 ra =>
            cases ra
            rename_i v1 v2
            cases r1
            exact ⟨a :: ps, (.inr x, v2) :: kvs, rfl, .cons sq p1, by rw [List.map_cons, List.map_cons, p2], .cons r2 p3⟩
    · cases e
def gDictP : D → Option D
  | .list xs => (dpairs xs).bind fun kds => if !kds.isEmpty && decide (kds.map (·.1)).Nodup then some (.dict (kds.map fun x => (keyD x.1, x.2))) else none
  | _ => none
section
variable {X : Cx} {e : Expr} {pos p : Pos} {fe : Fm → Option D}
theorem d_dictP (hc : X.calm = true) (B : Bt X.mg) (ha : PP X e fe) (hg : Gl X "dict" := by rfl) (hs : starEach [e] X.env = (false, eval e X.env) :: starEach [] X.env := by rfl) : PP X (.Call (.Name "dict" p) [e] [] pos) (fOp1 gDictP fe) := by
  obtain ⟨t, h1, h2⟩ := ha
  refine ⟨_, pe_seeE (pe_callTy (call_dictP hc) hg B.dict PyProof.Rows.boot_dict (pa_cons h1 pa_nil hs) (by decide) (by decide) hs rfl), fun F H σ ρ d hf hR Q k => ?_⟩
  obtain ⟨d0, e1, e2⟩ := Option.bind_eq_some_iff.mp hf
  unfold gDictP at e2
  split at e2
  · rename_i xs
    obtain ⟨kds, e3, e4⟩ := Option.bind_eq_some_iff.mp e2
    split at e4
    · rename_i hz
      cases e4
      rw [Bool.and_eq_true, decide_eq_true_eq, Bool.not_eq_true'] at hz
      refine h2 F H σ ρ _ e1 hR _ fun v F1 H1 g1 r1 => ?_
      cases r1 with
      | @lst a vs _ sq ra =>
        obtain ⟨ps, kvs, rfl, p1, p2, p3⟩ := pairs_rp ra e3
        refine ⟨a, ps, kvs, rfl, g1.in_.sql sq, ?_, fun q hq => ⟨q, _, rfl, upd_same, trivial, fun od => ?_⟩⟩
        · clear p2 p3 e3 ra sq k hz
          induction p1 with
          | nil => exact .nil
          | cons a _ ih => exact .cons (g1.in_.sqt a) ih
        · have hnd : ((([] : List (Key × V)) ++ kvs).map (·.1)).Nodup := by rw [List.nil_append, p2]; exact hz.2
          rw [upd_upd, mergeK_nd kvs [] hnd, List.nil_append]
          have g2 := Gr.new (o := .frz od (.dK kvs)) g1.in_ hq
          refine k _ _ _ (g1.trans g2) (.dk ?_ upd_same (RpK.mono g2.ex p3))
          intro z
          rw [List.map_eq_nil_iff] at z
          rw [z] at hz
          exact absurd hz.1 (by decide)
    · cases e4
  · cases e2
end
end DL
end
section
set_option Elab.async false
set_option linter.all false
set_option maxRecDepth 100000
/-! xs[::-1] of lists and tuples. -/
namespace DL
open PySem PySem.Spec PyProof.Rows L2
section
variable {prog : Program} {w : World} {A : Around} {E : Value → Shared → Prop} {s : Shared}
theorem adj_rev (n : Nat) : Builtin.Slice.sliceAdjust none none (-1) (n : Int) = ((n : Int) - 1, -1) := rfl
theorem pla_rev (n : Nat) : Builtin.Slice.slicePlaces ((n : Int) - 1) (-1) (-1) = n := by
  unfold Builtin.Slice.slicePlaces
  have h1 : ¬ ((-1 : Int) > 0) := by omega
  simp only [h1, if_false]
  have e : -(-1 : Int) = 1 := rfl
  rw [e, Int.ediv_one]
  split <;> omega
theorem applied_rev {sl : Addr} {t : Tok} {n : Nat} {Q : Int × Int × Nat → Shared → Prop} (hs : s.heap.IsSliceOf sl .none .none (.int (-1) t)) (h : Q ((n : Int) - 1, -1, n) s) : wpAny (model prog w) A (Builtin.Slice.sliceApplied (.ref sl) (pure (n : Int))) Q E s := by
  obtain ⟨os, hos, hcs, hds⟩ := id hs
  unfold Builtin.Slice.sliceApplied Builtin.Slice.sliceFields
  refine wpAny_bind (wpAny_bind (wpAny_field hos hds (x := .none) rfl (wpAny_bind (wpAny_field hos hds (x := .none) rfl (wpAny_bind (wpAny_field hos hds (x := .int (-1) t) rfl (wpAny_pure ?_)))))))
  refine wpAny_bind (HT.slicePart_ (.int (-1) t) ?_)
  show wpAny _ _ (if ((-1 : Int) == 0) = true then _ else _) _ _ s
  rw [if_neg (by decide)]
  refine wpAny_bind (HT.slicePart_ .none (wpAny_bind (HT.slicePart_ .none (wpAny_bind (wpAny_pure ?_)))))
  show wpAny _ _ (pure ((n : Int) - 1, (-1 : Int), Builtin.Slice.slicePlaces ((n : Int) - 1) (-1) (-1))) _ _ s
  rw [pla_rev]
  exact wpAny_pure h
theorem fm_some {α β : Type} {f : α → Option β} {g : α → β} : ∀ {L : List α}, (∀ m ∈ L, f m = some (g m)) → L.filterMap f = L.map g
  | [], _ => rfl
  | m :: L, h => by
    rw [List.filterMap_cons, h m (.head _), List.map_cons, fm_some fun x hx => h x (.tail _ hx)]
theorem pick_rev (xs : Array Value) : ((List.range xs.size).filterMap fun (m : Nat) => xs[(((xs.size : Int) - 1) + (m : Int) * -1).toNat]?).toArray = xs.toList.reverse.toArray := by
  congr 1
  have e : ((List.range xs.size).filterMap fun (m : Nat) => xs[(((xs.size : Int) - 1) + (m : Int) * -1).toNat]?) = (List.range xs.size).map fun m => xs.toList.reverse.getD m .none := by
    refine fm_some fun m hm => ?_
    have hm := List.mem_range.mp hm
    have e1 : (((xs.size : Int) - 1) + (m : Int) * -1).toNat = xs.size - 1 - m := by omega
    rw [e1]
    rw [List.getD_eq_getElem?_getD, List.getElem?_reverse (by simpa using hm)]
    simp only [Array.length_toList, Array.getElem?_toList]
    rw [Array.getElem?_eq_getElem (by omega)]
    rfl
  rw [e]
  refine List.ext_getElem? fun i => ?_
  rw [List.getElem?_map]
  by_cases h : i < xs.size
  · rw [List.getElem?_range h, Option.map_some, List.getD_eq_getElem?_getD, List.getElem?_eq_getElem (by simpa using h)]
    rfl
  · rw [List.getElem?_eq_none (by simpa using h), List.getElem?_eq_none (by simpa using h)]
    rfl
theorem getItem_tuple_rev {t sl : Addr} {items : Array Value} {u : Tok} {Q : Value → Shared → Prop} (ht : IsTup s.heap t items) (hs : s.heap.IsSliceOf sl .none .none (.int (-1) u))
    (h : Q (.ref s.heap.objs.size) { s with heap := s.heap.push { cls := .type "tuple", data := .seq items.toList.reverse.toArray } })
    (hsz : items.size ≤ sizeLine) : wpAny (model prog w) A (getItem (.ref t) (.ref sl)) Q E s := by
  have htake : sizeOk (.seq items.toList.reverse.toArray) := by
    show items.toList.reverse.toArray.size ≤ sizeLine
    rw [List.size_toArray, List.length_reverse, Array.length_toList]
    exact hsz
  obtain ⟨os, hos, hcs, hds⟩ := id hs
  have hTs : s.TypeIs (.ref sl) "slice" := ⟨os, hos, hcs⟩
  unfold getItem
  try with_reducible refine wpAny_holding ?_
  first | refine wpAny_bind (wpAny_pure ?_) | skip
  refine wpAny_bind (wpAny_sequenceKey ht.typeIs (by decide) ?_)
  refine wpAny_bind (wpAny_callSpecial?_slot (name := Str.ofString "__getitem__") ht.typeIs PyProof.Rows.slot_tuple_getitem
    (wpAny_call_entry PyProof.Rows.slot_tuple_getitem ht.typeIs entry_tuple_getitem ?_ (args_tuple_getitem _ _)))
  show wpAny _ _ (Builtin.Tuple.tupleItemsOf (.ref t) >>= _) _ _ s
  refine wpAny_bind (tupleItemsOf_ ht ?_)
  refine wpAny_bind (wpAny_typeOf hTs ?_)
  rw [if_pos (by decide)]
  refine wpAny_bind (applied_rev hs ?_)
  have hno : ¬ ((((items.size : Int) - 1) == 0 && (-1 : Int) == 1 && items.size == items.size) = true) := by
    intro q
    rw [Bool.and_eq_true, Bool.and_eq_true] at q
    exact absurd q.1.2 (by decide)
  show wpAny _ _ (if (((items.size : Int) - 1) == 0 && (-1 : Int) == 1 && items.size == items.size) = true then _ else _) _ _ s
  rw [if_neg hno, pick_rev]
  first
    | exact wpAny_bind (m := Builtin.Tuple.tupleExact _) (wpAny_newObj_type (wpAny_pure ⟨_, rfl, wpAny_pure h⟩) htake)
    | exact wpAny_bind (m := Builtin.Tuple.tupleExact _) (wpAny_newObj_type (wpAny_bind (wpAny_pure (wpAny_pure ⟨_, rfl, wpAny_pure h⟩))) htake)
    | exact wpAny_bind (wpAny_bind (m := Builtin.Tuple.tupleExact _) (wpAny_newObj_type (wpAny_pure (wpAny_pure ⟨_, rfl, wpAny_pure h⟩)) htake))
    | exact wpAny_bind (wpAny_bind (m := Builtin.Tuple.tupleExact _) (wpAny_newObj_type (wpAny_pure ⟨_, rfl, wpAny_pure h⟩) htake))
end
/-! ### in the walk -/
def tRevA (K : PySem.W.Frag) (te : TE) : TE := fun σ H Q => te σ H fun x H1 => ∃ a xs, x = .ref a ∧ ((SqL K H1 a xs ∧ ∀ p, H1 p = none → Q (.ref p) (upd H1 p (.lst xs.reverse))) ∨ (SqT K H1 a xs ∧ ∀ p, H1 p = none → Q (.ref p) (upd H1 p (.tup xs.reverse))))
theorem pe_revA {X : Cx} {e : Expr} {te : TE} {k : Nat} {p1 p2 p3 pos : Pos} (he : PE X e te) : PE X (.Subscript e (.Slice none none (some (.UnaryOp .USub (.Constant (.int 1) k p1) p2)) p3) pos) (tRevA X.K te) := by
  refine ⟨fun pins s σ H Q I h => ?_⟩
  refine Subscript_ (thn (he.run pins s σ H _ I h) fun v s1 ⟨x, H1, I1, r1, q1⟩ => ?_)
  obtain ⟨a, xs, ex, q⟩ := q1
  subst ex
  cases r1
  have hst : PO X (some (.UnaryOp .USub (.Constant (.int 1) k p1) p2)) (tPart (tUn (rU fun i => .int (-i)) (tC (.int 1)))) := po_some (pe_un un_neg pe_int)
  refine wpAny_Slice (thn (po_none.run pins s1 σ H1 (fun o H2 => o = none ∧ H2 = H1) I1 ⟨rfl, rfl⟩) fun vl s2 ⟨l, H2, I2, pl, el, e2⟩ => ?_)
  subst el e2
  refine thn (po_none.run pins s2 σ H2 (fun o H3 => o = none ∧ H3 = H2) I2 ⟨rfl, rfl⟩) fun vu s3 ⟨u, H3, I3, pu, eu, e3⟩ => ?_
  subst eu e3
  refine thn (hst.run pins s3 σ H3 (fun o H4 => o = some (-1) ∧ H4 = H3) I3 ⟨1, rfl, -1, rfl, rfl, rfl⟩) fun vs s4 ⟨o, H4, I4, ps, eo, e4⟩ => ?_
  subst eo e4
  have I5 : Inv X pins σ H4 { s4 with heap := s4.heap.push { cls := .type "slice", data := .fields #[vl, vu, vs] } } := I4.kept (t' := s4.toks) fun b ob q => Heap.get?_push_of_some _ q
  show wpAny (model X.prog X.w) X.A (subscriptTail e (.Slice none none (some (.UnaryOp .USub (.Constant (.int 1) k p1) p2)) p3) (.ref a) (.ref s4.heap.objs.size)) (EP X pins σ Q) X.xe { s4 with heap := s4.heap.push { cls := .type "slice", data := .fields #[vl, vu, vs] } }
  rcases q with ⟨hx, q⟩ | ⟨hx, q⟩
  · obtain ⟨its, r, ht, hz⟩ := I5.list hx
    have hlen := r.length
    refine tail_any (ops := [.ref a, .ref s4.heap.objs.size]) ht.isList.typeIs (PySem.slot_list_getitem.lookup) ?_ (by with_unfolding_all rfl)
    refine wpAny_getItem_list_slice ht.isList (Heap.IsSliceOf.new _ vl vu vs) pl pu ps (by decide) ?_ (by rw [List.size_toArray]; omega)
    rw [PySem.W.krv_pick]
    refine ⟨.ref _, _, I5.laid (t' := s4.toks) (o := .lst xs.reverse) (fun b ob q => Heap.get?_push_of_some _ q) (Nat.le_refl _) ?_, rfl, q _ (I5.hok.fresh (Nat.le_refl _))⟩
    exact ⟨by rw [List.length_reverse]; exact hz, _, 0, r.reverse, Heap.get?_push_size _ rfl⟩
  · obtain ⟨its, r, ht, hz⟩ := I5.tuple hx
    have hlen := r.length
    cases pl
    cases pu
    cases ps
    refine tail_any (ops := [.ref a, .ref s4.heap.objs.size]) ht.typeIs (PyProof.Rows.slot_tuple_getitem.lookup) ?_ (by with_unfolding_all rfl)
    refine getItem_tuple_rev ht (Heap.IsSliceOf.new _ _ _ _) ?_ (by rw [List.size_toArray]; omega)
    refine ⟨.ref _, _, I5.laid (t' := s4.toks) (o := .tup xs.reverse) (fun b ob q => Heap.get?_push_of_some _ q) (Nat.le_refl _) ?_, rfl, q _ (I5.hok.fresh (Nat.le_refl _))⟩
    exact ⟨by rw [List.length_reverse]; exact hz, _, r.reverse, ⟨_, Heap.get?_push_size _ rfl, rfl, _, rfl⟩⟩
def gRev : D → Option D
  | .list ds => some (.list ds.reverse)
  | .tuple ds => some (.tuple ds.reverse)
  | _ => none
theorem RpA.rev {K : PySem.W.Frag} {F : Hp} : ∀ {xs : List V} {ds : List D}, RpA K F xs ds → RpA K F xs.reverse ds.reverse
  | _, _, .nil => .nil
  | _, _, .cons h t => by
    rw [List.reverse_cons, List.reverse_cons]
    exact (RpA.rev t).append (.one h)
theorem d_rev {X : Cx} {e : Expr} {fe : Fm → Option D} {k : Nat} {p1 p2 p3 pos : Pos} (h : PP X e fe) : PP X (.Subscript e (.Slice none none (some (.UnaryOp .USub (.Constant (.int 1) k p1) p2)) p3) pos) (fOp1 gRev fe) := by
  obtain ⟨t, h1, h2⟩ := h
  refine ⟨_, pe_revA h1, fun F H σ ρ d hf hR Q k => ?_⟩
  obtain ⟨d0, e1, e2⟩ := Option.bind_eq_some_iff.mp hf
  refine h2 F H σ ρ _ e1 hR _ fun v F1 H1 g1 r1 => ?_
  cases d0 <;> cases e2
  · cases r1 with
    | lst s r => exact ⟨_, _, rfl, .inl ⟨g1.in_.sql s, fun p hp => (k.gr g1).lst g1.in_ (RpA.rev r) p hp⟩⟩
  · cases r1 with
    | tup s r => exact ⟨_, _, rfl, .inr ⟨g1.in_.sqt s, fun p hp => (k.gr g1).tup g1.in_ (RpA.rev r) p hp⟩⟩
end DL
end
section
set_option Elab.async false
set_option linter.all false
set_option maxRecDepth 100000
set_option maxHeartbeats 4000000
/-! tuple * n, for any small n. -/
namespace DL
open PySem PySem.Spec PyProof.Rows L2
theorem tmul_same (l : Addr) (items : Array Value) (n : Nat) (dd : Option Addr) (sl : Array (Option Value)) (x : Int) (u : Tok) (c0 : (decide (x < -(2 ^ 63)) || decide (x ≥ 2 ^ 63)) = false) (c1 : (items.isEmpty || x == 1) = true) :
    Meets (Builtin.«tuple.__mul__» ⟨[.ref l, .int x u], []⟩) (fun _ R s => s.heap.get? l = some { cls := .type "tuple", dict := dd, data := .seq items n, slots := sl } ∧ R (.ok (.ret (Value.ref l))) s) :=
  .of_wp fun prog w A R s h => by
    obtain ⟨hp, g, d, tk, os⟩ := s
    obtain ⟨hl, h⟩ := h
    have f1 := AutoSeq1.idx_int
    wp_walk using wpAny_loadPart' hl
    repeat (first
      | (refine wpAny_ite_false (decide_eq_false (by rw [c0]; exact Bool.false_ne_true)) ?_; wp_walk using wpAny_loadPart' hl)
      | (refine wpAny_ite_true (decide_eq_true (by rw [c1])) ?_; wp_walk using wpAny_loadPart' hl))
    exact ⟨_, rfl, h⟩
theorem tmul_none (l : Addr) (items : Array Value) (n : Nat) (dd : Option Addr) (sl : Array (Option Value)) (x : Int) (u : Tok) (c0 : (decide (x < -(2 ^ 63)) || decide (x ≥ 2 ^ 63)) = false) (c1 : (items.isEmpty || x == 1) = false) (c2 : (decide (x ≤ 0) || items.isEmpty) = true) :
    Meets (Builtin.«tuple.__mul__» ⟨[.ref l, .int x u], []⟩) (fun _ R s => s.heap.get? l = some { cls := .type "tuple", dict := dd, data := .seq items n, slots := sl } ∧
      R (.ok (.ret (Value.ref s.heap.objs.size))) { s with heap := s.heap.push { cls := Value.type "tuple", data := Data.seq #[] }, toks := s.toks }) :=
  .of_wp fun prog w A R s h => by
    obtain ⟨hp, g, d, tk, os⟩ := s
    obtain ⟨hl, h⟩ := h
    have f1 := AutoSeq1.idx_int
    wp_walk using wpAny_loadPart' hl
    repeat (first
      | (refine wpAny_ite_false (decide_eq_false (by rw [c0]; exact Bool.false_ne_true)) ?_; wp_walk using wpAny_loadPart' hl)
      | (refine wpAny_ite_false (decide_eq_false (by rw [c1]; exact Bool.false_ne_true)) ?_; wp_walk using wpAny_loadPart' hl)
      | (refine wpAny_ite_true (decide_eq_true (by rw [c2])) ?_; wp_walk using wpAny_loadPart' hl))
    exact ⟨_, rfl, h⟩
def rRepT2 (K : PySem.W.Frag) : R2 := fun x y H Q => ∃ l k xs, x = .ref l ∧ y = .int k ∧ SqT K H l xs ∧ -1000 ≤ k ∧ k ≤ 1000 ∧ xs.length ≤ 1000 ∧ ((xs = [] ∨ k = 1) → Q (.ref l) H) ∧ (xs ≠ [] → k ≠ 1 → ∀ p, H p = none → Q (.ref p) (upd H p (.tup (List.replicate k.toNat xs).flatten)))
section
variable {X : Cx}
theorem op_repT2 : OpR X (binaryOp .Mult) (rRepT2 X.K) := by
  intro pins s σ H x y v u Q I rx ry h
  obtain ⟨l, k, xs, rfl, rfl, hT, h1, h2, hz, qs, q⟩ := h
  by_cases hb : xs ≠ [] ∧ 2 ≤ k
  · exact op_repT pins s σ H _ _ v u Q I rx ry ⟨l, k, xs, rfl, rfl, hT, hb.1, hb.2, h2, hz, q hb.1 (by omega)⟩
  cases rx
  obtain ⟨t, rfl⟩ := ry
  obtain ⟨its, r, ⟨⟨cls, dd, data, sl⟩, ho, hc, n, hd⟩, hs⟩ := I.tuple hT
  simp only at hc hd
  subst hc hd
  have hle : its.length = xs.length := r.length.symm
  have c0 : (decide (k < -(2 ^ 63)) || decide (k ≥ 2 ^ 63)) = false := by
    rw [decide_eq_false (by omega), decide_eq_false (by omega)] <;> rfl
  by_cases hsame : xs = [] ∨ k = 1
  · have c1 : (its.toArray.isEmpty || k == 1) = true := by
      rcases hsame with e | e
      · rw [e] at hle
        rw [List.eq_nil_of_length_eq_zero hle]
        rfl
      · subst e
        rw [beq_self_eq_true, Bool.or_true]
    refine wpAny_binaryOp_repeat_ref (T := "tuple") (U := "int") (by decide) ⟨_, ho, rfl⟩ (fun s' => typeIs_int s' k t) noFill_tuple_mul F.fills_int_mul F.slot_int_rmul repeat_tuple F.slot_int_index.lookup
      (call_meets F.slot_int_rmul (typeIs_int s k t) F.entry_int_rmul (F.args_int_rmul_2 _ _) (int_rmul_tuple k t l its.toArray n dd sl)
        ⟨ho, rfl, ⟨_, ho, rfl⟩, call_meets F.slot_tuple_mul ⟨_, ho, rfl⟩ F.entry_tuple_mul (F.args_tuple_mul_2 _ _) (tmul_same l its.toArray n dd sl k t c0 c1) ⟨ho, ?_⟩⟩)
    exact ⟨.ref l, _, I, rfl, qs hsame⟩
  · have hne : xs ≠ [] := fun e => hsame (.inl e)
    have hk1 : k ≠ 1 := fun e => hsame (.inr e)
    have hk0 : k ≤ 0 := by
      have : ¬ 2 ≤ k := fun z => hb ⟨hne, z⟩
      omega
    have hi : its.toArray.isEmpty = false := by
      cases its with
      | nil => exact absurd (List.eq_nil_of_length_eq_zero hle.symm) hne
      | cons a b => rfl
    have c1 : (its.toArray.isEmpty || k == 1) = false := by
      rw [hi, Bool.false_or]
      exact beq_eq_false_iff_ne.mpr hk1
    have c2 : (decide (k ≤ 0) || its.toArray.isEmpty) = true := by
      rw [decide_eq_true hk0, Bool.true_or]
    refine wpAny_binaryOp_repeat_ref (T := "tuple") (U := "int") (by decide) ⟨_, ho, rfl⟩ (fun s' => typeIs_int s' k t) noFill_tuple_mul F.fills_int_mul F.slot_int_rmul repeat_tuple F.slot_int_index.lookup
      (call_meets F.slot_int_rmul (typeIs_int s k t) F.entry_int_rmul (F.args_int_rmul_2 _ _) (int_rmul_tuple k t l its.toArray n dd sl)
        ⟨ho, rfl, ⟨_, ho, rfl⟩, call_meets F.slot_tuple_mul ⟨_, ho, rfl⟩ F.entry_tuple_mul (F.args_tuple_mul_2 _ _) (tmul_none l its.toArray n dd sl k t c0 c1 c2) ⟨ho, ?_⟩⟩)
    have hk : k.toNat = 0 := by omega
    have e0 : (List.replicate k.toNat xs).flatten = [] := by rw [hk]; rfl
    refine ⟨.ref s.heap.objs.size, _, I.laid (t' := s.toks) (o := .tup (List.replicate k.toNat xs).flatten) (fun b ob q => Heap.get?_push_of_some _ q) (Nat.le_refl _) ?_, rfl, q hne hk1 _ (I.hok.fresh (Nat.le_refl _))⟩
    rw [e0]
    exact ⟨by rw [sizeLine_eq]; exact Nat.zero_le _, _, .nil, IsTup.new _ _⟩
end
/-- a tuple times a number -/
def gMulT : D → D → Option D
  | .tuple ds, .int k => if decide (-1000 ≤ k) && decide (k ≤ 1000) && decide (ds.length ≤ 1000) then some (.tuple (repD ds k.toNat)) else none
  | _, _ => none
theorem vw_mulT {K : PySem.W.Frag} : ∀ F H x y dx dy dz, Ex F H → Vw K F H x dx → Vw K F H y dy → gMulT dx dy = some dz → ∀ Q : VK, Res K F H dz Q → rRepT2 K x y H Q := by
  intro F H x y dx dy dz e hx hy hg Q k
  unfold gMulT at hg
  split at hg
  · rename_i ds k0
    split at hg
    · rename_i hb
      cases hg
      simp only [Bool.and_eq_true, decide_eq_true_eq] at hb
      obtain ⟨⟨b1, b2⟩, b3⟩ := hb
      have hx' := hx
      obtain ⟨a, xs, rfl, s1, r1⟩ := hx.tuple e
      refine ⟨a, k0, xs, rfl, hy.int, s1, b1, b2, by rw [r1.length]; exact b3, fun hs => ?_, fun hne hk1 p hp => ?_⟩
      · have hds : repD ds k0.toNat = ds := by
          rcases hs with rfl | rfl
          · cases r1
            generalize k0.toNat = m
            clear k
            induction m with
            | zero => rfl
            | succ m ih => rw [repD, ih]; rfl
          · show ds ++ [] = ds
            rw [List.append_nil]
        rw [hds] at k
        rcases hx' with hx' | ⟨_, _, _, _, q, _⟩ | ⟨_, _, _, q, _⟩
        · exact k.at_ e hx'
        · cases q
        · cases q
      · rw [repD_eq] at k
        exact k.tup e (rpA_rep r1 k0.toNat) p hp
    · cases hg
  · cases hg
theorem d_mulT {X : Cx} {a b : Expr} {pos : Pos} {fa fb : Fm → Option D} (ha : PV X a fa) (hb : PV X b fb) : PP X (.BinOp a .Mult b pos) (fOp2 gMulT fa fb) := let ⟨_, h1, h2⟩ := ha; let ⟨_, h3, h4⟩ := hb; ⟨_, pe_op op_repT2 h1 h3, sp_op2 vw_mulT h2 h4⟩
/-- sorted(..) that one goes on with -/
def mSort (f : Fm → Option D) (ρ : Fm) : Option (B × Fm) := (f ρ).bind fun d => (gSorted d).bind fun r => match r with
  | .list ds => some (.ow ds, ρ)
  | _ => none
theorem m_sorted {X : Cx} {e : Expr} {pos p : Pos} {fe : Fm → Option D} {k : Nat} (hr : Room k X.A) (B : Bt X.mg) (ha : PV X e fe) (hg : Gl X "sorted" := by rfl) (hs : starEach [e] X.env = (false, eval e X.env) :: starEach [] X.env := by rfl) : XM X (.Call (.Name "sorted" p) [e] [] pos) (mSort fe) := by
  obtain ⟨t, h1, h2⟩ := ha
  refine ⟨_, pe_callB (cr_sortD (Room.u70 hr)) hg B.sorted PyProof.Rows.boot_sorted (pa_cons h1 pa_nil hs) (by decide) (by decide) hs rfl, fun F H σ ρ b ρ' hf hR Q k => ?_⟩
  obtain ⟨d, e1, hf⟩ := Option.bind_eq_some_iff.mp hf
  obtain ⟨r, e2, hf⟩ := Option.bind_eq_some_iff.mp hf
  refine h2 F H σ ρ d e1 hR _ fun x F1 H1 g1 r1 => ?_
  unfold gSorted at e2
  split at e2
  · split at e2
    · rename_i hc
      cases e2
      cases hf
      simp only [Bool.and_eq_true, decide_eq_true_eq] at hc
      obtain ⟨⟨⟨c1, c2⟩, c3⟩, c4⟩ := hc
      obtain ⟨a, xs, rfl, s1, r2⟩ := r1.list g1.in_
      exact ⟨a, xs, _, Rp X.K F1, rfl, .inl s1, (r2.mono g1.in_).dpA (okD_list c1).1, rpA_pair r2, c2, c3, c4, (okD_list c1).2, fun ys q hy hq => k _ _ _ (.gr hR (g1.trans (Gr.newH (o := .lst ys) g1.in_ hq))) ⟨q, ys, rfl, g1.keep.free hq, upd_same, g1.in_.free hq, pair_rpA hy⟩⟩
    · cases e2
  · split at e2
    · rename_i hc
      cases e2
      cases hf
      simp only [Bool.and_eq_true, decide_eq_true_eq] at hc
      obtain ⟨⟨⟨c1, c2⟩, c3⟩, c4⟩ := hc
      obtain ⟨a, xs, rfl, s1, r2⟩ := r1.tuple g1.in_
      exact ⟨a, xs, _, Rp X.K F1, rfl, .inr s1, (r2.mono g1.in_).dpA (okD_tuple c1).1, rpA_pair r2, c2, c3, c4, (okD_tuple c1).2, fun ys q hy hq => k _ _ _ (.gr hR (g1.trans (Gr.newH (o := .lst ys) g1.in_ hq))) ⟨q, ys, rfl, g1.keep.free hq, upd_same, g1.in_.free hq, pair_rpA hy⟩⟩
    · cases e2
  · cases e2
/-- is, is not of two bools -/
def gIsB (neg : Bool) : D → D → Option D
  | .bool a, .bool b => some (.bool (if neg then !decide (a = b) else decide (a = b)))
  | _, _ => none
section
variable {X : Cx} {a b : Expr} {fa fb : Fm → Option D}
theorem vw_isB {K : PySem.W.Frag} : ∀ F H x y dx dy dz, Ex F H → Vw K F H x dx → Vw K F H y dy → gIsB false dx dy = some dz → ∀ Q : VK, Res K F H dz Q → (∃ a b, x = .bl a ∧ y = .bl b ∧ Q (.bl (decide (a = b))) H) := by
  intro F H x y dx dy dz e hx hy hg Q k
  unfold gIsB at hg
  split at hg
  · cases hg
    exact ⟨_, _, hx.bl, hy.bl, k.sc e fun _ => .bl _⟩
  · cases hg
theorem vw_noB {K : PySem.W.Frag} : ∀ F H x y dx dy dz, Ex F H → Vw K F H x dx → Vw K F H y dy → gIsB true dx dy = some dz → ∀ Q : VK, Res K F H dz Q → (∃ a b, x = .bl a ∧ y = .bl b ∧ Q (.bl (!decide (a = b))) H) := by
  intro F H x y dx dy dz e hx hy hg Q k
  unfold gIsB at hg
  split at hg
  · cases hg
    exact ⟨_, _, hx.bl, hy.bl, k.sc e fun _ => .bl _⟩
  · cases hg
theorem c_isb (ha : PV X a fa) (hb : PV X b fb) : PCm X .Is a b (fOp2 (gIsB false) fa fb) := let ⟨ta, h1, h2⟩ := ha; let ⟨tb, h3, h4⟩ := hb; ⟨_, ta, tb, op_is_bl, h1, h3, sp_op2 vw_isB h2 h4⟩
theorem c_nob (ha : PV X a fa) (hb : PV X b fb) : PCm X .IsNot a b (fOp2 (gIsB true) fa fb) := let ⟨ta, h1, h2⟩ := ha; let ⟨tb, h3, h4⟩ := hb; ⟨_, ta, tb, op_isnot_bl, h1, h3, sp_op2 vw_noB h2 h4⟩
end
end DL
end
section
set_option Elab.async false
set_option linter.all false
set_option maxRecDepth 100000
/-! sorted(set(xs)), xs a list of whole numbers. -/
namespace DL
open PySem PySem.Spec PyProof.Rows L2
section
variable {P : Program} {w : World} {A : Around} {E : Value → Shared → Prop} {s : Shared}
/-- a new set -/
abbrev emO (w : World) : Obj := { cls := .type "set", dict := none, data := .set #[] 0 (.fresh 0 0 (!w.params.followText "set-order")) }
set_option maxRecDepth 100000 in
set_option maxHeartbeats 3200000 in
theorem set_listI {l : Addr} {arr : Array Value} (zs : List Int) {Q : Value → Shared → Prop} (hh : A.handled = none) (hla : s.heap.IsList l arr) (hin0 : IntsAre arr.toList zs) (hb : zs.length + 1 < scanBound)
    (h : ∀ (hp1 : Heap) (tq c : Nat), SetR w hp1 s.heap.objs.size (fun j => decide (j ∈ zs)) c → c ≤ zs.length → (∀ b o, s.heap.get? b = some o → hp1.get? b = some o) → Q (.ref s.heap.objs.size) { s with heap := hp1, toks := tq }) :
    wpAny (model P w) A (call (.type "set") [.ref l]) Q E s := by
  have hsz0 : arr.size = zs.length := by
    have q := IntsAre.length hin0
    rw [Array.length_toList] at q
    exact q
  obtain ⟨c, tl, hm0⟩ := F.called_set.mro
  have hmd := F.called_set.made
  have hsub := F.called_set.sub
  refine wpAny_call (codeAny_of_tree ?_)
  show wpAny _ _ (callAny (.type "set") _) _ _ _
  refine wpAny_pure ⟨Code.quiet_builtin _ (by decide +kernel), codeAny_builtin F.entry_type_call ?_⟩
  rw [Around.under_plain (weight_type_call_type "set" [.ref l] []) rfl]
  have h1 := F.called_set.notType
  have h2 := F.called_set.canCreate
  have hct0 := F.typeCall_set_1 (.ref l)
  repeat (any_goals (first | assumption | wp_step))

  refine codeAny_mono (code_set_led1 (.ref l) (E := E) (Q₁ := fun obj ss1 => obj = .ref s.heap.objs.size ∧ ss1 = { s with heap := s.heap.push (emO w) }) ⟨rfl, rfl⟩) fun r ss1 hr => ?_
  cases r with
  | error e => exact hr
  | ok fl =>
    cases fl with
    | ret obj =>
      obtain ⟨rfl, rfl⟩ := hr
      have hS : (s.heap.push (emO w)).get? s.heap.objs.size = some (emO w) := Heap.get?_push_size _ rfl
      have hTy : Shared.TypeIs { s with heap := s.heap.push (emO w) } (.ref s.heap.objs.size) "set" := ⟨_, hS, rfl⟩
      have hli := F.called_set.init.lookup
      have hbi := F.called_set.init.bind (.ref s.heap.objs.size)
      repeat (any_goals (first | assumption | wp_step))

      refine codeAny_mono (codeAny_call_builtin (R := wants (fun r ss2 => r = .none ∧ ∃ hp1 tq c, ss2 = { s with heap := hp1, toks := tq } ∧ SetR w hp1 s.heap.objs.size (fun j => decide (j ∈ zs)) c ∧ c ≤ zs.length ∧
          (∀ b o, s.heap.get? b = some o → hp1.get? b = some o)) E) F.called_set.init.plain F.entry_set_init (check_set_init_1 hTy ?_)) fun rr2 ss2 hr2 => ?_
      · obtain ⟨ol, hol, hcl, nl, hdl⟩ := hla
        obtain ⟨ocls, odict, odata, oslots⟩ := ol
        simp only at hcl hdl
        subst hcl; subst hdl
        have hob1 : (s.heap.push (emO w)).get? l = some { cls := .type "list", dict := odict, data := .seq arr nl, slots := oslots } := Heap.get?_push_of_some _ hol
        have hsls := F.sub_list_set
        have hslf := F.sub_list_frozenset
        have hne : (Value.type "list" == Value.type "dict") = false := by decide
        have hla1 : (s.heap.push (emO w)).IsList l arr := ⟨_, hob1, rfl, nl, rfl⟩
        unfold Builtin.«set.__init__» noKeywords Builtin.Frozenset.updateFrom
        generalize hPI : pyIter = PI
        wp_walk
        subst hPI

        refine wpAny_pyIter_list hla1 ?_
        refine wpAny_bind (wpAny_runValue ?_)
        have hlS1 : l < s.heap.objs.size := Heap.lt_size hol
        have hh3 : A.in1.in1.in1.handled = none := by simp [hh]
        have hz1 : (s.heap.push (emO w)).objs.size = s.heap.objs.size + 1 := Heap.size_push ..
        have hne1 : l ≠ (s.heap.push (emO w)).objs.size := by
          rw [Heap.size_push]; exact Nat.ne_of_lt (Nat.lt_succ_of_lt hlS1)
        have hSf1 : s.heap.objs.size ∉ [(s.heap.push (emO w)).objs.size, l] := by
          rw [Heap.size_push]; simp only [List.mem_cons, List.mem_singleton, List.not_mem_nil, or_false, not_or]
          exact ⟨Nat.ne_of_lt (Nat.lt_succ_self _), Nat.ne_of_gt hlS1⟩
        have hvals : ∀ (i : Nat) (v : Value), arr[i]? = some v → ∃ k t, zs[i]? = some k ∧ v = .int k t := fun i v hv => by
          have hi : i < zs.length := by rw [← hsz0]; exact (Array.getElem?_eq_some_iff.mp hv).1
          obtain ⟨t, e⟩ := PyProof.Rows.IntsAre.int_at hin0 i v (by rw [Array.getElem?_toList]; exact hv)
          refine ⟨zs[i], t, List.getElem?_eq_getElem hi, ?_⟩
          rw [e, List.getD_eq_getElem?_getD, List.getElem?_eq_getElem hi] <;> rfl
        refine set_update_ints ((Walks.list hh3 _ l hne1 arr).toS) s.heap.objs.size
          hSf1 zs hsz0 hb hvals (arr.size - 0) 0 _ (by omega) (Nat.zero_le _)
          ⟨⟨_, Heap.get?_push_size _ rfl, rfl, rfl⟩, (hla1.push _)⟩ ?hS0 ?hR
        case hS0 =>
          have hget : ((s.heap.push (emO w)).push { cls := .type "list_iterator", data := .fields #[.ref l, .int 0 0] }).get? s.heap.objs.size
              = some (emO w) := Heap.get?_push_of_some _ hS
          exact ⟨0, Nat.le_refl 0, setR_new_at hget⟩
        case hR =>
          intro s' c' hm hcp hSp
          obtain ⟨hp1, g2, d', tk', os'⟩ := s'
          have eg : g2 = s.gens := hm.gens
          have ed : d' = s.drawn := hm.drawn
          have eo : os' = s.os := hm.os
          subst eg; subst ed; subst eo
          show wpAny _ _ _ _ _ _
          refine wpAny_pure ?_
          show wpAny _ _ (ret Value.none) _ _ _
          rw [hsz0] at hcp
          refine wpAny_pure ⟨rfl, hp1, tk', c', rfl, hSp, hcp, fun b o e => ?_⟩
          have hn0 : b < s.heap.objs.size := Heap.lt_size e
          have hn1 : b ≠ s.heap.objs.size := Nat.ne_of_lt hn0
          have hn2 : b ≠ (s.heap.push (emO w)).objs.size := by
            rw [Heap.size_push]; exact Nat.ne_of_lt (Nat.lt_succ_of_lt hn0)
          exact hm.heap b o (by simp only [List.mem_cons, List.mem_singleton, List.not_mem_nil, or_false, not_or]; exact ⟨hn1, hn2⟩) (Heap.get?_push_of_some _ (Heap.get?_push_of_some _ e))

      · cases rr2 with
        | error e => exact hr2
        | ok fl2 =>
          cases fl2 with
          | ret r =>
            obtain ⟨rfl, hp1, tq, c', rfl, hSp, hcp, hkp⟩ := hr2
            repeat (any_goals (first | assumption | wp_step))
            exact h _ _ _ hSp hcp hkp
          | _ => exact hr2.elim
    | _ => exact hr.elim

end
end DL
end
section
set_option Elab.async false
set_option linter.all false
set_option maxRecDepth 100000
/-! sorted(set(xs)), xs a list of whole numbers, or of pairs. -/
namespace DL
open PySem PySem.Spec PyProof.Rows L2
def insI (p : Int) : List Int → List Int
  | [] => [p]
  | q :: r => if p < q then p :: q :: r else if q < p then q :: insI p r else q :: r
def ssI (ns : List Int) : List Int := ns.foldr insI []
theorem mem_insI {x p : Int} : ∀ {l : List Int}, x ∈ insI p l ↔ x = p ∨ x ∈ l
  | [] => by simp [insI]
  | q :: r => by
    unfold insI
    split
    · rw [List.mem_cons]
    · split
      · rw [List.mem_cons, mem_insI, List.mem_cons]
        constructor
        · rintro (h | h | h)
          · exact .inr (.inl h)
          · exact .inl h
          · exact .inr (.inr h)
        · rintro (h | h | h)
          · exact .inr (.inl h)
          · exact .inl h
          · exact .inr (.inr h)
      · have : p = q := by omega
        subst this
        simp
theorem insI_asc {p : Int} : ∀ {l : List Int}, l.Pairwise (· < ·) → (insI p l).Pairwise (· < ·)
  | [], _ => by simp [insI]
  | q :: r, h => by
    have a := List.pairwise_cons.mp h
    unfold insI
    split
    · rename_i hpq
      refine List.pairwise_cons.mpr ⟨fun x hx => ?_, h⟩
      rcases List.mem_cons.mp hx with e | hx
      · rw [e]; exact hpq
      · exact Int.lt_trans hpq (a.1 x hx)
    · split
      · rename_i hqp
        refine List.pairwise_cons.mpr ⟨fun x hx => ?_, insI_asc a.2⟩
        rcases mem_insI.mp hx with e | hx
        · rw [e]; exact hqp
        · exact a.1 x hx
      · exact h
theorem mem_ssI {x : Int} : ∀ {ps : List Int}, x ∈ ssI ps ↔ x ∈ ps
  | [] => by simp [ssI]
  | p :: ps => by
    show x ∈ insI p (ssI ps) ↔ _
    rw [mem_insI, mem_ssI, List.mem_cons]
theorem ssI_asc : ∀ (ps : List Int), (ssI ps).Pairwise (· < ·)
  | [] => .nil
  | p :: ps => insI_asc (ssI_asc ps)
def wholeD : List D → Option (List Int)
  | [] => some []
  | .int a :: r => (wholeD r).map (a :: ·)
  | _ :: _ => none
def ssW (ds : List D) : Option D := (wholeD ds).bind fun ns => if ns.length < 1000 ∧ (ssI ns).length < 62 then some (.list ((ssI ns).map .int)) else none
def gSSI : D → Option D
  | .list ds => ssW ds
  | .tuple ds => ssW ds
  | _ => none
def gSS2 (d : D) : Option D := (gSSI d).or (gSS d)
theorem rp_ints {K : PySem.W.Frag} {F : Hp} : ∀ {xs : List V} {ds : List D} {ns : List Int}, RpA K F xs ds → wholeD ds = some ns → xs = ns.map V.int
  | _, _, _, .nil, h => by cases h; rfl
  | _, _, _, .cons (d := d) (ds := ds) r t, h => by
    unfold wholeD at h
    split at h
    · rename_i e; cases e
    · rename_i a r' e
      cases e
      obtain ⟨ps, h1, h2⟩ := Option.map_eq_some_iff.mp h
      have ih := rp_ints t h1
      cases r
      subst ih
      rw [← h2]; rfl
    · cases h
theorem ints_rp {K : PySem.W.Frag} {F : Hp} : ∀ (ns : List Int), RpA K F (ns.map V.int) (ns.map .int)
  | [] => .nil
  | n :: ns => .cons (.int n) (ints_rp ns)
theorem nd_le : ∀ {l m : List Int}, l.Nodup → (∀ x ∈ l, x ∈ m) → l.length ≤ m.length
  | [], _, _, _ => Nat.zero_le _
  | x :: l, m, hn, h => by
    have hx : x ∈ m := h x List.mem_cons_self
    have h1 := List.nodup_cons.mp hn
    have ih := nd_le (l := l) (m := m.erase x) h1.2 fun y hy => (List.mem_erase_of_ne (fun e => h1.1 (by rw [← e]; exact hy))).mpr (h y (List.mem_cons_of_mem _ hy))
    rw [List.length_erase_of_mem hx] at ih
    have := List.length_pos_of_mem hx
    rw [List.length_cons]
    omega
theorem setR_le {w : World} {h : Heap} {a : Addr} {ns : List Int} {n : Nat} (R : SetR w h a (fun j => decide (j ∈ ns)) n) : n ≤ (ssI ns).length := by
  obtain ⟨o, es, ep, t, _, _, _, _, nd, mem, _, _, e, _⟩ := R
  have := nd_le (m := ssI ns) nd fun x hx => mem_ssI.mpr (of_decide_eq_true ((mem x).mpr hx))
  rw [List.length_map, Array.length_toList, e] at this
  exact this
def rSetOfI (K : PySem.W.Frag) (w : World) : List V → Hp → VK → Prop := fun xs H Q => ∃ (l : Addr) (ns : List Int), xs = [V.ref l] ∧ (SqL K H l (ns.map V.int) ∨ SqT K H l (ns.map V.int)) ∧ ns.length < 1000 ∧
  ∀ (a : Addr) (S : Int → Bool) (n : Nat), H a = none → (∀ k, S k = true ↔ k ∈ ns) → n ≤ (ssI ns).length → Q (.ref a) (upd H a (SetO w a S n))
section
variable {X : Cx} {e : Expr} {pos p p2 pos2 : Pos} {fe f1 f2 f : Fm → Option D}
theorem cr_setOfI (hc : X.calm = true) : CallR X (.type "set") (rSetOfI X.K X.w) := by
  intro pins s σ H xs us Q I r h
  obtain ⟨l, ns, rfl, hl, hf, q⟩ := h
  rw [Vals.ref1 r]
  have hn : H s.heap.objs.size = none := I.hok.fresh (Nat.le_refl _)
  have fin : ∀ (h' : Heap) (tk c : Nat), SetR X.w h' s.heap.objs.size (fun j => decide (j ∈ ns)) c → c ≤ ns.length → (∀ b o, s.heap.get? b = some o → h'.get? b = some o) → EP X pins σ Q (.ref s.heap.objs.size) { s with heap := h', toks := tk } := fun h' tk c R g k =>
    ⟨.ref s.heap.objs.size, upd H s.heap.objs.size (SetO X.w s.heap.objs.size (fun j => decide (j ∈ ns)) c), I.laid (t' := tk) k (Nat.le_refl _) (setO_new R), rfl, q _ _ c hn (fun k => decide_eq_true_iff) (setR_le R)⟩
  rcases hl with hl | hl
  · obtain ⟨its, rv, pl, hz⟩ := I.list hl
    exact set_listI (P := X.prog) (w := X.w) ns (I.ok.hd hc) pl.isList (by simpa using ints_of_vals rv) (by unfold scanBound; omega) fin
  · obtain ⟨its, rv, pl, hz⟩ := I.tuple hl
    exact call_set_tupI (P := X.prog) (w := X.w) ns (I.ok.hd hc) (show s.heap.IsTuple l its.toArray from pl) (by simpa using ints_of_vals rv) (by unfold scanBound; omega) fin
theorem d_ssI (hc : X.calm = true) (B : Bt X.mg) (ha : PV X e fe) (hg : Gl X "sorted" := by rfl) (hg2 : Gl X "set" := by rfl) (hs : starEach [e] X.env = (false, eval e X.env) :: starEach [] X.env := by rfl) :
    PP X (.Call (.Name "sorted" p) [.Call (.Name "set" p2) [e] [] pos2] [] pos) (fOp1 gSSI fe) := by
  obtain ⟨t, h1, h2⟩ := ha
  refine ⟨_, pe_callB (cr_sortedSet hc) hg B.sorted PyProof.Rows.boot_sorted (pa_cons (pe_callTy (cr_setOfI hc) hg2 B.set PyProof.Rows.boot_set (pa_cons h1 pa_nil hs) (by decide) (by decide) hs rfl) pa_nil rfl) (by decide) (by decide) rfl rfl, fun F H σ ρ d hf hR Q q => ?_⟩
  obtain ⟨dx, e1, e2⟩ := Option.bind_eq_some_iff.mp hf
  have key : ∀ ds : List D, ssW ds = some d → ∀ (a : Addr) (xs : List V) (F1 H1 : Hp), Gr F H F1 H1 → (SqL X.K H1 a xs ∨ SqT X.K H1 a xs) → RpA X.K F1 xs ds → rSetOfI X.K X.w [.ref a] H1 fun v H2 => rSortedSet X.w [v] H2 Q := fun ds e2 a xs F1 H1 g1 s1 rl => by
    unfold ssW at e2
    obtain ⟨ns, e3, e4⟩ := Option.bind_eq_some_iff.mp e2
    split at e4
    · rename_i hz
      cases e4
      have k1 := rp_ints rl e3
      subst k1
      refine ⟨a, ns, rfl, s1, hz.1, fun b S n hb hS hn => ?_⟩
      have hz2 := hz.2
      have g2 : Gr F1 H1 F1 (upd H1 b (SetO X.w b S n)) := .newH g1.in_ hb
      refine ⟨b, S, n, rfl, upd_same, by omega, fun L pL hasc hm hln hpn => ?_⟩
      have hlist : L = ssI ns := asc_ext (fun x h => by omega) (fun x y h h' => by omega) hasc (ssI_asc ns) fun k => by rw [hm, hS, mem_ssI]
      subst hlist
      exact ((q.gr g1).gr g2).lst g2.in_ (ints_rp _) pL hpn
    · cases e4
  unfold gSSI at e2
  split at e2
  · refine h2 F H σ ρ _ e1 hR _ fun v F1 H1 g1 r1 => ?_
    obtain ⟨a, xs, rfl, s1, rl⟩ := r1.list g1.in_
    exact key _ e2 a xs F1 H1 g1 (.inl s1) rl
  · refine h2 F H σ ρ _ e1 hR _ fun v F1 H1 g1 r1 => ?_
    obtain ⟨a, xs, rfl, s1, rl⟩ := r1.tuple g1.in_
    exact key _ e2 a xs F1 H1 g1 (.inr s1) rl
  · cases e2
theorem pp_or (h1 : PP X e f1) (h2 : PP X e f2) (h : ∀ ρ d, f ρ = some d → f1 ρ = some d ∨ f2 ρ = some d) : PP X e f := by
  obtain ⟨t1, a1, b1⟩ := h1
  obtain ⟨t2, a2, b2⟩ := h2
  refine ⟨fun σ H Q => t1 σ H Q ∨ t2 σ H Q, ⟨fun pins s σ H Q I h => ?_⟩, fun F H σ ρ d hf hR Q q => ?_⟩
  · rcases h with h | h
    · exact a1.run pins s σ H Q I h
    · exact a2.run pins s σ H Q I h
  · rcases h ρ d hf with h | h
    · exact .inl (b1 F H σ ρ d h hR Q q)
    · exact .inr (b2 F H σ ρ d h hR Q q)
theorem d_ss2 {k : Nat} (hc : X.calm = true) (hr : Room k X.A) (B : Bt X.mg) (ha : PV X e fe) (hg : Gl X "sorted" := by rfl) (hg2 : Gl X "set" := by rfl) (hs : starEach [e] X.env = (false, eval e X.env) :: starEach [] X.env := by rfl) :
    PP X (.Call (.Name "sorted" p) [.Call (.Name "set" p2) [e] [] pos2] [] pos) (fOp1 gSS2 fe) :=
  pp_or (d_ssI hc B ha hg hg2 hs) (d_ss hc hr B ha hg hg2 hs) fun ρ d hf => by
    obtain ⟨dx, e1, e2⟩ := Option.bind_eq_some_iff.mp hf
    unfold gSS2 at e2
    cases h : gSSI dx with
    | some y =>
      rw [h] at e2
      exact .inl (by unfold fOp1; rw [e1]; exact h.trans e2)
    | none =>
      rw [h] at e2
      exact .inr (by unfold fOp1; rw [e1]; exact e2)
end
end DL
end
section
set_option Elab.async false
set_option linter.all false
set_option maxRecDepth 100000
/-! ranges as values; count, index of whole numbers. -/
namespace DL
open PySem PySem.Spec PyProof.Rows L2
def rgOk (j : Int) : Bool := decide (0 ≤ j) && decide (j ≤ 1000000)
def gRgL : D → Option D
  | .int j => if rgOk j then some (.list (rngD 0 j.toNat)) else none
  | _ => none
def gRgT : D → Option D
  | .int j => if rgOk j then some (.tuple (rngD 0 j.toNat)) else none
  | _ => none
theorem rg_rp {K : PySem.W.Frag} {F : Hp} (j : Int) : RpA K F (rgV 0 j) (rngD 0 j.toNat) := by
  unfold rgV rngD
  rw [Int.sub_zero]
  generalize j.toNat = n
  have : ∀ (l : List Nat), RpA K F (l.map fun i => V.int (0 + (i : Nat))) (l.map fun (i : Nat) => PyData.int (0 + (i : Int))) := by
    intro l
    induction l with
    | nil => exact .nil
    | cons x l ih => exact .cons (.int _) ih
  exact this _
theorem smR_rg {j : Int} (h : rgOk j = true) : RgOk 0 j := by
  unfold rgOk at h
  simp only [Bool.and_eq_true, decide_eq_true_eq] at h
  have h1 := h.1
  have h2 := h.2
  have h3 : (2 : Nat) ^ 24 = 16777216 := by decide
  exact ⟨by omega, by omega, by omega, by omega, by rw [h3]; omega⟩
section
variable {X : Cx} {e o : Expr} {pos p p2 pos2 apos cpos : Pos} {fe fo : Fm → Option D}
theorem d_rgL (hc : X.calm = true) (B : Bt X.mg) (ha : PP X e fe) (hg : Gl X "list" := by rfl) (hg2 : Gl X "range" := by rfl) (hs : starEach [e] X.env = (false, eval e X.env) :: starEach [] X.env := by rfl)
    (hs2 : starEach [.Call (.Name "range" p2) [e] [] pos2] X.env = (false, eval (.Call (.Name "range" p2) [e] [] pos2) X.env) :: starEach [] X.env := by rfl) :
    PP X (.Call (.Name "list" p) [.Call (.Name "range" p2) [e] [] pos2] [] pos) (fOp1 gRgL fe) := by
  obtain ⟨t, h1, h2⟩ := ha
  refine ⟨_, pe_listRg hc hg B.list (prg_1 hg2 B.range h1 hs) hs2, fun F H σ ρ d hf hR Q q => ?_⟩
  obtain ⟨dx, e1, e2⟩ := Option.bind_eq_some_iff.mp hf
  unfold gRgL at e2
  split at e2
  · rename_i j
    split at e2
    · rename_i hz
      cases e2
      refine h2 F H σ ρ _ e1 hR _ fun v F1 H1 g1 r1 => ?_
      exact ⟨j, r1.intI, smR_rg hz, fun b hb => (q.gr g1).lst g1.in_ (rg_rp j) b hb⟩
    · cases e2
  · cases e2
theorem d_rgT (hc : X.calm = true) (B : Bt X.mg) (ha : PP X e fe) (hg : Gl X "tuple" := by rfl) (hg2 : Gl X "range" := by rfl) (hs : starEach [e] X.env = (false, eval e X.env) :: starEach [] X.env := by rfl)
    (hs2 : starEach [.Call (.Name "range" p2) [e] [] pos2] X.env = (false, eval (.Call (.Name "range" p2) [e] [] pos2) X.env) :: starEach [] X.env := by rfl) :
    PP X (.Call (.Name "tuple" p) [.Call (.Name "range" p2) [e] [] pos2] [] pos) (fOp1 gRgT fe) := by
  obtain ⟨t, h1, h2⟩ := ha
  refine ⟨_, pe_tupRg hc hg B.tuple (prg_1 hg2 B.range h1 hs) hs2, fun F H σ ρ d hf hR Q q => ?_⟩
  obtain ⟨dx, e1, e2⟩ := Option.bind_eq_some_iff.mp hf
  unfold gRgT at e2
  split at e2
  · rename_i j
    split at e2
    · rename_i hz
      cases e2
      refine h2 F H σ ρ _ e1 hR _ fun v F1 H1 g1 r1 => ?_
      exact ⟨j, r1.intI, smR_rg hz, fun b hb => (q.gr g1).tup g1.in_ (rg_rp j) b hb⟩
    · cases e2
  · cases e2
/-- a list's own method of one argument -/
theorem d_lmeth {name : Str} {id : String} {r : V → List V → Hp → VK → Prop} {g : D → D → Option D} (slot : Slot "list" name id) (hty : typeOf (.builtin id) = pure (.type "method_descriptor")) (hm : MtR X id r)
    (hl : ∀ dx dy dz, g dx dy = some dz → ∃ ds, dx = .list ds) (hv : ∀ F H x y dx dy dz, Ex F H → Vw X.K F H x dx → Vw X.K F H y dy → g dx dy = some dz → ∀ Q : VK, Res X.K F H dz Q → r x [y] H Q)
    (ho : PV X o fo) (ha : PV X e fe) (hbase : attributeBase o name X.env (eval o X.env) = eval o X.env := by rfl)
    (hfew : ((backTo cpos (starEach [e] X.env)).all (fun x => !x.1) && (backToKw cpos (keywordEach [] X.env)).all (fun x => x.1.isSome)
      && decide (([e] : List Expr).length + ([] : List Keyword).length + (if ([] : List Keyword).isEmpty then 0 else 1) < 30)) = true := by rfl)
    (hline : (apos.endLine == cpos.line) = true := by rfl) (hs : starEach [e] X.env = (false, eval e X.env) :: starEach [] X.env := by rfl) :
    PP X (.Call (.Attribute o name apos) [e] [] cpos) (fOp2 g fo fe) := by
  obtain ⟨t, h1, h2⟩ := ho
  obtain ⟨u, h3, h4⟩ := ha
  refine ⟨_, pe_bm PySem.F.plainAttrs_list slot hty hm h1 (pa_cons h3 pa_nil hs) hbase hfew hline hs rfl, fun F H σ ρ d hf hR Q q => ?_⟩
  obtain ⟨dx, e1, e2⟩ := Option.bind_eq_some_iff.mp hf
  obtain ⟨dy, e3, e4⟩ := Option.bind_eq_some_iff.mp e2
  obtain ⟨ds, rfl⟩ := hl _ _ _ e4
  refine h2 F H σ ρ _ e1 hR _ fun v F1 H1 g1 r1 => ?_
  obtain ⟨a, xs, rfl, s1, rl⟩ := r1.list g1.in_
  refine ⟨.inl ⟨rfl, xs, s1⟩, ?_⟩
  refine h4 F1 H1 σ ρ _ e3 (hR.gr g1) _ fun y F2 H2 g2 r2 => ?_
  exact hv F2 H2 (.ref a) y _ _ _ g2.in_ (r1.gr g2) r2 e4 Q ((q.gr g1).gr g2)
def gCount : D → D → Option D
  | .list ds, .int k => (wholeD ds).map fun ns => .int ((ns.count k : Nat) : Int)
  | _, _ => none
theorem d_count (ho : PV X o fo) (ha : PV X e fe) (hbase : attributeBase o "count" X.env (eval o X.env) = eval o X.env := by rfl)
    (hfew : ((backTo cpos (starEach [e] X.env)).all (fun x => !x.1) && (backToKw cpos (keywordEach [] X.env)).all (fun x => x.1.isSome)
      && decide (([e] : List Expr).length + ([] : List Keyword).length + (if ([] : List Keyword).isEmpty then 0 else 1) < 30)) = true := by rfl)
    (hline : (apos.endLine == cpos.line) = true := by rfl) (hs : starEach [e] X.env = (false, eval e X.env) :: starEach [] X.env := by rfl) :
    PP X (.Call (.Attribute o "count" apos) [e] [] cpos) (fOp2 gCount fo fe) := by
  refine d_lmeth PySem.F.slot_list_count PySem.F.type_list_count mt_lcount (fun dx dy dz h => ?_) (fun F H x y dx dy dz ex vx vy h Q q => ?_) ho ha hbase hfew hline hs
  · unfold gCount at h
    split at h
    · exact ⟨_, rfl⟩
    · cases h
  · unfold gCount at h
    split at h
    · obtain ⟨ns, h1, h2⟩ := Option.map_eq_some_iff.mp h
      obtain ⟨a, xs, rfl, s1, rl⟩ := vx.list ex
      have k1 := rp_ints rl h1
      subst k1
      rw [vy.int]
      refine ⟨a, ns, _, rfl, rfl, s1, ?_⟩
      rw [← h2] at q
      exact q.sc ex fun _ => .int _
    · cases h
theorem idx_ne {k : Int} : ∀ {ns : List Int} {m : Nat} {h : m < ns.length}, m < ns.idxOf k → ¬ ns[m] = k
  | [], m, h, _ => by simp at h
  | x :: ns, 0, h, hm => by
    intro e
    have e : x = k := e
    subst e
    simp at hm
  | x :: ns, m + 1, h, hm => by
    rw [List.idxOf_cons] at hm
    rw [List.getElem_cons_succ]
    by_cases hx : (x == k) = true
    · rw [hx] at hm; simp at hm
    · rw [Bool.not_eq_true] at hx
      rw [hx] at hm
      exact idx_ne (by simpa using hm)
def gIndex : D → D → Option D
  | .list ds, .int k => (wholeD ds).bind fun ns => if k ∈ ns then some (.int ((ns.idxOf k : Nat) : Int)) else none
  | _, _ => none
theorem d_index (ho : PV X o fo) (ha : PV X e fe) (hbase : attributeBase o "index" X.env (eval o X.env) = eval o X.env := by rfl)
    (hfew : ((backTo cpos (starEach [e] X.env)).all (fun x => !x.1) && (backToKw cpos (keywordEach [] X.env)).all (fun x => x.1.isSome)
      && decide (([e] : List Expr).length + ([] : List Keyword).length + (if ([] : List Keyword).isEmpty then 0 else 1) < 30)) = true := by rfl)
    (hline : (apos.endLine == cpos.line) = true := by rfl) (hs : starEach [e] X.env = (false, eval e X.env) :: starEach [] X.env := by rfl) :
    PP X (.Call (.Attribute o "index" apos) [e] [] cpos) (fOp2 gIndex fo fe) := by
  refine d_lmeth PySem.F.slot_list_index PySem.F.type_list_index mt_index (fun dx dy dz h => ?_) (fun F H x y dx dy dz ex vx vy h Q q => ?_) ho ha hbase hfew hline hs
  · unfold gIndex at h
    split at h
    · exact ⟨_, rfl⟩
    · cases h
  · unfold gIndex at h
    split at h
    · obtain ⟨ns, h1, h2⟩ := Option.bind_eq_some_iff.mp h
      split at h2
      · rename_i k hk
        cases h2
        obtain ⟨a, xs, rfl, s1, rl⟩ := vx.list ex
        have k1 := rp_ints rl h1
        subst k1
        rw [vy.int]
        have hlt : ns.idxOf k < ns.length := List.idxOf_lt_length_of_mem hk
        refine ⟨a, ns.map V.int, .int k, ns.idxOf k, .int k, rfl, rfl, s1, rfl, ?_, ?_, ?_, ?_, ?_⟩
        · rw [List.all_eq_true]
          intro z hz
          obtain ⟨i, _, rfl⟩ := List.mem_map.mp hz
          rfl
        · rw [List.getElem?_map, List.getElem?_eq_getElem hlt, List.getElem_idxOf hlt]; rfl
        · exact decide_eq_true rfl
        · intro m z hm hz
          rw [List.getElem?_map, List.getElem?_eq_getElem (by omega)] at hz
          cases hz
          have := idx_ne (h := Nat.lt_trans hm hlt) hm
          exact decide_eq_false this
        · exact q.sc ex fun _ => .int _
      · cases h2
    · cases h
/-- a target of names and tuples of names = e -/
def sTgt (t : Tg) (f : Fm → Option (D × Fm)) (ρ : Fm) : Option (Fl × Fm) := (f ρ).bind fun x => (setT t x.1 x.2).map fun ρ' => (.nx, ρ')
theorem s_tgt {t : Tg} {tg : Expr} {ge : Fm → Option (D × Fm)} (hg : PTg X tg t) (ha : XE X e ge) (hs : swapsWithSole [tg] e pos.line X.env = pure false := by rfl) (hw : swappedStores [tg] e X.env = pure none := by rfl)
    (hm : (assignEach [tg] X.env).map (·.2) = [assign tg X.env] := by rfl) : PSt X (.Assign [tg] e pos) (sTgt t ge) := by
  obtain ⟨u, h1, h2⟩ := ha
  obtain ⟨g, b1, b2⟩ := hg
  refine ⟨_, ps_asg h1 b1 hs hw hm, fun F H σ ρ fl ρ' hf hR E k1 k2 k3 => ?_⟩
  obtain ⟨⟨d, ρ1⟩, e1, e2⟩ := Option.bind_eq_some_iff.mp hf
  obtain ⟨ρ2, e3, e4⟩ := Option.map_eq_some_iff.mp e2
  cases e4
  refine h2 F H σ ρ _ ρ1 e1 hR _ fun v F1 H1 g1 r1 => ?_
  exact b2 F1 H1 σ ρ1 d ρ' v e3 g1.rel r1 _ fun σ3 g3 _ => k1 rfl σ3 F1 H1 (g1.go.trans g3)
end
end DL
end
section
set_option Elab.async false
set_option linter.all false
set_option maxRecDepth 100000
/-! count, index of any data. -/
namespace DL
open PySem PySem.Spec PyProof.Rows L2
def rCntD (K : PySem.W.Frag) : V → List V → Hp → VK → Prop := fun x xs H Q => ∃ (a : Addr) (y : V) (d : PyData) (ds : List PyData), x = V.ref a ∧ xs = [y] ∧ Dp K H (V.ref a) (.list ds) ∧ Dp K H y d ∧
  SeqAt.shaped (.list ds) = true ∧ SeqAt.shaped d = true ∧ Q (.int ((ds.countP fun z => PyData.eqv z d : Nat) : Int)) H
section
variable {X : Cx}
theorem mt_countD (hu : X.A.units + 65 < cLine) : MtR X "list.count" (rCntD X.K) := by
  intro pins s σ H x xs v us Q I rx rxs h
  obtain ⟨a, y, d, ds, rfl, rfl, hl, hy, sl, sd, q⟩ := h
  cases rx
  cases rxs with
  | cons ry rt =>
    rename_i uy ut
    cases rt
    obtain ⟨bs, r1⟩ := Dp.reads I d y uy hy ry
    have hxs : PyData.canLayAll0 ds = true := SeqAt.canLay_of_shaped sl
    have hroom : X.A.units + 1 + min (PyData.depthAll ds) d.depth < cLine := room_in_shaped sd hu
    cases hl with
    | lst hs ha =>
      obtain ⟨its, rv, ⟨⟨cls, dd, data, sls⟩, n, ho, hc, hdn, hdt⟩, hlen⟩ := I.list hs
      simp only at hc hdt
      subst hc hdt
      obtain ⟨as, h4⟩ := Dp.readsAll I ds _ its ha rv
      have hmap : its.map (SeqAt.readOf s.heap) = ds := SeqAt.readsAll_map ds its as hxs h4
      refine call_meets PySem.F.slot_list_count ⟨_, ho, rfl⟩ PySem.F.entry_list_count (PySem.F.args_list_count_2 _ _)
        (SeqAt.list_countAt a its.toArray n dd sls uy (fun u => PyData.eqv (SeqAt.readOf s.heap u) d)) ⟨ho, SeqAt.items_eqAt (vs := its.toArray) (show ReadsAll s.heap its.toArray.toList ds as from h4) r1 hxs (SeqAt.canLay_of_shaped sd) hroom, ?_⟩
      have ec : its.toArray.toList.countP (fun u => PyData.eqv (SeqAt.readOf s.heap u) d) = ds.countP fun z => PyData.eqv z d := by
        rw [← hmap, List.countP_map]
        rfl
      refine ⟨.int ((ds.countP fun z => PyData.eqv z d : Nat) : Int), H, I.tok _, ⟨s.toks, ?_⟩, q⟩
      show Value.int ((its.toArray.toList.countP (fun u => PyData.eqv (SeqAt.readOf s.heap u) d) : Nat) : Int) s.toks = Value.int ((ds.countP fun z => PyData.eqv z d : Nat) : Int) s.toks
      rw [ec]
end
def gCountD : D → D → Option D
  | .list ds, y => if okD (.list ds) && okD y then some (.int ((ds.countP fun z => PyData.eqv z y : Nat) : Int)) else none
  | _, _ => none
section
variable {X : Cx} {e o : Expr} {pos p p2 pos2 apos cpos : Pos} {fe fo : Fm → Option D}
theorem d_countD {k : Nat} (hr : Room k X.A) (ho : PV X o fo) (ha : PV X e fe) (hbase : attributeBase o "count" X.env (eval o X.env) = eval o X.env := by rfl)
    (hfew : ((backTo cpos (starEach [e] X.env)).all (fun x => !x.1) && (backToKw cpos (keywordEach [] X.env)).all (fun x => x.1.isSome)
      && decide (([e] : List Expr).length + ([] : List Keyword).length + (if ([] : List Keyword).isEmpty then 0 else 1) < 30)) = true := by rfl)
    (hline : (apos.endLine == cpos.line) = true := by rfl) (hs : starEach [e] X.env = (false, eval e X.env) :: starEach [] X.env := by rfl) :
    PP X (.Call (.Attribute o "count" apos) [e] [] cpos) (fOp2 gCountD fo fe) := by
  refine d_lmeth PySem.F.slot_list_count PySem.F.type_list_count (mt_countD (by have := Room.u66 hr; omega)) (fun dx dy dz h => ?_) (fun F H x y dx dy dz ex vx vy h Q q => ?_) ho ha hbase hfew hline hs
  · unfold gCountD at h
    split at h
    · exact ⟨_, rfl⟩
    · cases h
  · unfold gCountD at h
    split at h
    · split at h
      · rename_i ds hc
        cases h
        simp only [Bool.and_eq_true] at hc
        obtain ⟨a, xs, e1, s1, rl⟩ := vx.list ex
        subst e1
        exact ⟨a, y, _, ds, rfl, rfl, (vx.rp ex (nd_ok hc.1)).dp (nd_ok hc.1), (vy.rp ex (nd_ok hc.2)).dp (nd_ok hc.2), hc.1, hc.2, q.sc ex fun _ => .int _⟩
      · cases h
    · cases h
end
end DL
end
section
set_option Elab.async false
set_option linter.all false
set_option maxRecDepth 100000
/-! A dict against an empty one; t.index(x) of any data. -/
namespace DL
open PySem PySem.Spec PyProof.Rows L2
def Dsz (h : Heap) (a : Addr) (m : Nat) : Prop := (a == sysModules) = false ∧ ∃ o es ep, h.get? a = some o ∧ o.ExactDict ∧ o.data = .dict es ep ∧ es.size = m
theorem Dsz.typeIs {s : Shared} {a : Addr} {m : Nat} (h : Dsz s.heap a m) : s.TypeIs (.ref a) "dict" := by
  obtain ⟨_, o, _, _, h1, h2, _⟩ := h
  exact ⟨o, h1, h2.1⟩
section
variable {prog : Program} {w : World} {A : Around} {E : Value → Shared → Prop} {s : Shared}
theorem same_sz {nm : String} {a b : Addr} {m : Nat} {Q : Bool → Shared → Prop} (da : Dsz s.heap a m) (db : Dsz s.heap b 0) (h : Q (m == 0) s) :
    wpAny (model prog w) A (Builtin.Dict.samePairs nm a b) Q E s := by
  obtain ⟨ha, oa, es, ep, hoa, _, hda, hla⟩ := da
  obtain ⟨hb, ob, es', ep', hob, _, hdb, hlb⟩ := db
  unfold Builtin.Dict.samePairs Builtin.Dict.showsAll
  rw [if_neg (show ¬ (a == sysModules) = true by rw [ha]; exact Bool.false_ne_true), if_neg (show ¬ (b == sysModules) = true by rw [hb]; exact Bool.false_ne_true)]
  refine wpAny_bind (wpAny_pure (wpAny_bind (wpAny_pure ?_)))
  refine wpAny_bind (wpAny_dictEntries hoa hda ?_)
  dsimp only
  refine wpAny_bind (wpAny_dictEntries hob hdb ?_)
  by_cases hsz : es.size = es'.size
  case neg =>
    rw [if_pos (by simpa using hsz)]
    have hbf : (m == 0) = false := by
      rw [beq_eq_false_iff_ne]
      omega
    rw [hbf] at h
    exact wpAny_bind (wpAny_rule (wpAny_pure h))
  case pos =>
    have h' : Q true s := by
      have : (m == 0) = true := by rw [beq_iff_eq]; omega
      rw [this] at h
      exact h
    have h0 : es.size = 0 := by omega
    rw [if_neg (by rw [hsz]; simp)]
    refine wpAny_bind (wpAny_dictEpoch hoa hda ?_)
    refine wpAny_bind ?_
    rw [Std.Legacy.Range.forIn_eq_forIn_range']
    simp only [Std.Legacy.Range.size, Nat.sub_zero, Nat.add_sub_cancel, Nat.div_one]
    refine wpAny_forIn_list _
      (fun rest q s' => s' = s ∧ q = (none, ()) ∧ rest = [])
      _ ?_ ?_ _ _ ⟨rfl, rfl, by rw [h0]; rfl⟩
    · rintro x rest q s' ⟨_, _, hr⟩
      cases hr
    · rintro q s' ⟨rfl, rfl, _⟩
      exact wpAny_pure h'
theorem ne_sz {a b : Addr} {m : Nat} {Q : Value → Shared → Prop} (da : Dsz s.heap a m) (db : Dsz s.heap b 0) (hu : A.units < cLine) (h : Q (.bool (!(m == 0))) s) :
    wpAny (model prog w) A (compareOp .NotEq (.ref a) (.ref b)) Q E s := by
  refine wpAny_richCompare_same_room (op := .NotEq) da.typeIs db.typeIs PySem.F.slot_dict_ne (wpAny_call_entry PySem.F.slot_dict_ne da.typeIs PySem.F.entry_dict_ne ?_ (PySem.F.args_dict_ne_2 _ _)) hu
  show wpAny _ _ (Builtin.Dict.dictSlotArgs "__ne__" ⟨[.ref a, .ref b], []⟩ >>= _) _ _ s
  refine wpAny_bind ?_
  unfold Builtin.Dict.dictSlotArgs
  refine wpAny_bind (wpAny_notOrdered_dict da.typeIs ?_)
  show wpAny _ _ (pure (Value.ref a, Value.ref b)) _ _ s
  refine wpAny_pure ?_
  refine wpAny_bind (wpAny_isInstance (T := "dict") db.typeIs PySem.F.sub_dict_dict ?_)
  simp only [Bool.not_true, Bool.false_eq_true, if_false]
  refine wpAny_bind (wpAny_pure (wpAny_bind (wpAny_pure ?_)))
  refine wpAny_bind (same_sz da db ?_)
  refine wpAny_pure ⟨_, rfl, ?_, ?_⟩
  · exact fun x => nomatch x
  · simpa using h
end
section
variable {X : Cx} {pins : List (Addr × Obj)} {σ : L2.St} {F H : Hp} {s : Shared} {a : Addr} {ds : List (D × D)}
theorem rpN_len {K : PySem.W.Frag} : ∀ {xs : DEs} {ds : List (D × D)}, RpN K F xs ds → xs.length = ds.length
  | _, _, .nil => rfl
  | _, _, .cons _ _ _ _ t => by rw [List.length_cons, List.length_cons, rpN_len t]
theorem dv_sz (I : Inv X pins σ H s) (h : DV X.K F H a ds) (e : Ex F H) : Dsz s.heap a ds.length := by
  rcases h with ⟨kvs, rd, r⟩ | ⟨xs, rd, r⟩
  · obtain ⟨z, hd, vs, rel, dd⟩ := dk_rd I.hok rd
    obtain ⟨o, es, ep, h1, h2, h3, _, hp, _⟩ := dd
    refine ⟨hd, o, es, ep, h1, h2, h3, ?_⟩
    have := hp.length
    rw [Array.length_toList] at this
    rw [this, ← rel.length, r.len]
  · obtain ⟨hd, hz, dd⟩ := dn_facts I e rd r
    obtain ⟨o, es, ep, h1, h2, h3, h4, _⟩ := dd
    refine ⟨hd, o, es, ep, h1, h2, h3, ?_⟩
    rw [size_of_entries h4, rpN_len r]
end
def rNeE (K : PySem.W.Frag) : R2 := fun x y H Q => ∃ (F : Hp) (p q : Addr) (ds : List (D × D)), x = .ref p ∧ y = .ref q ∧ Ex F H ∧ DV K F H p ds ∧ DV K F H q [] ∧ Q (.bl (!(ds.length == 0))) H
def gNeE : D → D → Option D
  | .dict ds, .dict [] => some (.bool (!(ds.length == 0)))
  | _, _ => none
section
variable {X : Cx} {e o a b : Expr} {pos apos cpos : Pos} {fe fo fa fb : Fm → Option D}
theorem op_neE (hu : X.A.units < cLine) : OpR X (compareOp .NotEq) (rNeE X.K) := by
  intro pins s σ H x y v u Q I rx ry ⟨F, p, q, ds, ex, ey, e, d1, d2, k⟩
  subst ex
  subst ey
  cases (show v = Value.ref p from rx)
  cases (show u = Value.ref q from ry)
  exact ne_sz (dv_sz I d1 e) (dv_sz I d2 e) hu ⟨.bl (!(ds.length == 0)), H, I, rfl, k⟩
theorem vw_neE {K : PySem.W.Frag} : ∀ F H x y dx dy dz, Ex F H → Vw K F H x dx → Vw K F H y dy → gNeE dx dy = some dz → ∀ Q : VK, Res K F H dz Q → rNeE K x y H Q := by
  intro F H x y dx dy dz e hx hy hg Q k
  unfold gNeE at hg
  split at hg
  · rename_i ds
    cases hg
    obtain ⟨p, rfl, d1⟩ := hx.dict e
    obtain ⟨q, rfl, d2⟩ := hy.dict e
    exact ⟨F, p, q, ds, rfl, rfl, e, d1, d2, k.sc e fun _ => .bl _⟩
  · cases hg
theorem c_neE {k : Nat} (hr : Room k X.A) (ha : PV X a fa) (hb : PV X b fb) : PCm X .NotEq a b (fOp2 gNeE fa fb) := let ⟨ta, h1, h2⟩ := ha; let ⟨tb, h3, h4⟩ := hb; ⟨_, ta, tb, op_neE (by have := Room.u66 hr; omega), h1, h3, sp_op2 vw_neE h2 h4⟩
end
end DL
end
section
set_option Elab.async false
set_option linter.all false
set_option maxRecDepth 100000
/-! A list added up, kept as the frame's own. -/
namespace DL
open PySem PySem.Spec PyProof.Rows L2
def fCat (fa fb : Fm → Option D) (ρ : Fm) : Option (List D × Fm) := match fa ρ, fb ρ with
  | some (.list xs), some (.list ys) => some (xs ++ ys, ρ)
  | _, _ => none
section
variable {X : Cx} {a b : Expr} {pos : Pos} {fa fb : Fm → Option D}
theorem m_cat (ha : PV X a fa) (hb : PV X b fb) : XM X (.BinOp a .Add b pos) (mOw (fCat fa fb)) := by
  obtain ⟨ta, h1, h2⟩ := ha
  obtain ⟨tb, h3, h4⟩ := hb
  refine ⟨_, pe_op op_catS h1 h3, fun F H σ ρ b ρ' hf hR Q k => ?_⟩
  obtain ⟨⟨ds, ρ1⟩, e1, e2⟩ := Option.bind_eq_some_iff.mp hf
  split at e2
  · rename_i hz
    cases e2
    unfold fCat at e1
    split at e1
    · rename_i xs ys e3 e4
      cases e1
      refine h2 F H σ ρ _ e3 hR _ fun x F1 H1 g1 r1 => ?_
      refine h4 F1 H1 σ ρ _ e4 (hR.gr g1) _ fun y F2 H2 g2 r2 => ?_
      have g := g1.trans g2
      obtain ⟨a1, vs, q1, s1, rl1⟩ := (r1.gr g2).list g2.in_
      obtain ⟨a2, ws, q2, s2, rl2⟩ := r2.list g2.in_
      have rl : RpA X.K F2 (vs ++ ws) (xs ++ ys) := rl1.append rl2
      refine ⟨a1, a2, vs, ws, q1, q2, s1, s2, ?_, fun p hp => ?_⟩
      · rw [rl1.length, rl2.length, ← List.length_append]
        exact Nat.le_trans hz big_le
      · have hp0 : H p = none := Classical.byContradiction fun z => (GoE.gr hR g).go.live p z hp
        exact k _ _ _ (.gr hR (g.trans (Gr.newH (o := .lst (vs ++ ws)) g2.in_ hp))) ⟨p, vs ++ ws, rfl, hp0, upd_same, g2.in_.free hp, rl⟩
    · cases e1
  · cases e2
end
end DL
end
section
set_option Elab.async false
set_option linter.all false
set_option maxRecDepth 100000
/-! A comprehension kept as the frame's own list. -/
namespace DL
open PySem PySem.Spec PyProof.Rows L2
def mLc (vs : List Nat) (t : Tg) (fi : Fm → Option (List D)) (fc : Fm → Option Bool) (fe : Fm → Option D) (ρ : Fm) : Option (B × Fm) := (fi ρ).bind fun ds => if ds.length ≤ bigN then (lcP t fc fe (wipeB ρ vs) ds).map fun rs => (.ow rs, ρ) else none
theorem sm_lc {K : PySem.W.Frag} {wi : TI} {g : TG} {tt : TT} {te : TE} {vs : List Nat} {t : Tg} {fi : Fm → Option (List D)} {fc : Fm → Option Bool} {fe : Fm → Option D} (hi : SI K wi fi) (hg : ST K g t) (ht : SB K tt fc) (he : SP K te fe) (hv : ∀ i ∈ slotsT t, i ∈ vs) : SM K (tLc wi g tt te vs) (mLc vs t fi fc fe) := by
  intro F H σ ρ d ρz hf hR Q k
  obtain ⟨ds, e1, e2⟩ := Option.bind_eq_some_iff.mp hf
  split at e2
  · rename_i hz
    obtain ⟨rs, e3, e4⟩ := Option.map_eq_some_iff.mp e2
    cases e4
    refine hi F H σ ρ ds e1 hR _ fun J F0 H0 g0 ok => ?_
    intro Dl hD
    refine ⟨fun i m H' => m = ds.length - i ∧ i ≤ ds.length ∧ ∃ (F' : Hp) (acc : List V) (dacc rest : List D), Ex F0 F' ∧ Ex F' H' ∧ Ex H0 H' ∧ (∀ a, H0 a ≠ none → F0 a = none → F' a = none) ∧ F' Dl = none ∧ H' Dl = some (.lst acc) ∧ RpA K F' acc dacc ∧ dacc.length ≤ i ∧ lcP t fc fe (wipeB ρ vs) (ds.drop i) = some rest ∧ dacc ++ rest = rs,
      ⟨_, rfl, Nat.zero_le _, F0, [], [], rs, .refl _, g0.in_.trans (.new hD), .new hD, fun _ _ h => h, g0.in_.free hD, upd_same, .nil, Nat.le_refl _, e3, rfl⟩, fun i m H' hW => ?_⟩
    obtain ⟨rfl, hil, F', acc, dacc, rest, x1, x2, x3, hh, hFD, hHD, ra, hlen, e5, e6⟩ := hW
    by_cases h : i < ds.length
    · right
      have hd : ds[i]? = some ds[i] := List.getElem?_eq_getElem h
      obtain ⟨ha, hb⟩ := (ok F' H' x1 x2).1 i _ hd
      rw [List.drop_eq_getElem_cons h] at e5
      obtain ⟨ρ1, e7, e8⟩ := Option.bind_eq_some_iff.mp e5
      obtain ⟨b, e9, e10⟩ := Option.bind_eq_some_iff.mp e8
      refine ⟨ha, fun H2 => ∃ (F2 : Hp) (acc2 : List V) (dacc2 rest2 : List D), Ex F0 F2 ∧ Ex F2 H2 ∧ Ex H0 H2 ∧ (∀ a, H0 a ≠ none → F0 a = none → F2 a = none) ∧ F2 Dl = none ∧ H2 Dl = some (.lst acc2) ∧ RpA K F2 acc2 dacc2 ∧ dacc2.length ≤ i + 1 ∧ lcP t fc fe (wipeB ρ vs) (ds.drop (i + 1)) = some rest2 ∧ dacc2 ++ rest2 = rs, fun H2 hN => ?_, fun x H2 hy => ?_⟩
      · exact ⟨ds.length - (i + 1), by omega, rfl, h, hN⟩
      · obtain ⟨F2, gr, rx⟩ := hb x H2 hy
        have relw : Rel K F' H' (L2.wipe σ vs) (wipeB ρ vs) := by
          refine Rel.gr (Rel.wipe (hR.gr g0) vs) ?_ |> fun z => z
          exact ⟨x1, x2, x3, hh⟩
        have relw2 := relw.gr gr
        refine hg F2 H2 _ _ _ ρ1 x e7 relw2 rx _ fun σ2 g2 so => ⟨wipe_same so hv, ?_⟩
        refine ht F2 H2 σ2 ρ1 b e9 g2.rel _ fun F3 H3 g3 => ?_
        have g23 := gr.trans g3
        by_cases hbt : b = true
        · rw [if_pos hbt] at e10 ⊢
          obtain ⟨y, e11, e12⟩ := Option.bind_eq_some_iff.mp e10
          obtain ⟨rest2, e13, e14⟩ := Option.map_eq_some_iff.mp e12
          refine he F3 H3 σ2 ρ1 y e11 (g2.rel.gr g3) _ fun w F4 H4 g4 r4 => ?_
          have g24 := g23.trans g4
          have hD4 : H4 Dl = some (.lst acc) := g24.keep _ _ hHD
          have hF4 : F4 Dl = none := g24.hide Dl (by rw [hHD]; intro z; cases z) hFD
          refine ⟨acc, hD4, ?_, F4, acc ++ [w], dacc ++ [y], rest2, x1.trans g24.ex, fun q o hq => ?_, fun q o hq => ?_, fun q hq hf => g24.hide q (fun z => hq (x3.free z)) (hh q hq hf), hF4, upd_same, (ra.mono g24.ex).append (.one r4), ?_, e13, ?_⟩
          · rw [ra.length]
            exact Nat.lt_of_lt_of_le (by omega) big_le
          · have : q ≠ Dl := fun z => by rw [z, hF4] at hq; cases hq
            rw [upd_ne this]
            exact g24.in_ q o hq
          · have : q ≠ Dl := fun z => by rw [z, hD] at hq; cases hq
            rw [upd_ne this]
            exact g24.keep q o (x3 q o hq)
          · rw [List.length_append]
            show dacc.length + 1 ≤ i + 1
            omega
          · rw [List.append_assoc]
            show dacc ++ (y :: rest2) = rs
            rw [e14]
            exact e6
        · rw [if_neg hbt] at e10 ⊢
          exact ⟨F3, acc, dacc, rest, x1.trans g23.ex, g23.in_, x3.trans g23.keep, fun q hq hf => g23.hide q (fun z => hq (x3.free z)) (hh q hq hf), g23.hide Dl (by rw [hHD]; intro z; cases z) hFD, g23.keep _ _ hHD, ra.mono g23.ex, by omega, e10, e6⟩
    · left
      have hl : i = ds.length := by omega
      subst hl
      rw [List.drop_length] at e5
      cases e5
      rw [List.append_nil] at e6
      subst e6
      refine ⟨(ok F' H' x1 x2).2, ?_⟩
      have gr : Gr F H F' H' := g0.trans ⟨x1, x2, x3, hh⟩
      have hD0 : H Dl = none := Classical.byContradiction fun z => (GoE.gr hR g0).go.live Dl z hD
      exact k (.ref Dl) F' H' (.gr hR gr) ⟨Dl, acc, rfl, hD0, hHD, hFD, ra⟩
  · cases e2
section
variable {X : Cx} {elt tg iter c : Expr} {scope : Scope} {own : List (Str × Nat)} {pos spos py : Pos} {t : Tg} {fi : Fm → Option (List D)} {fc : Fm → Option Bool} {fe : Fm → Option D}
theorem s_mlc0 (i : Nat) {y : Str} (hc : X.calm = true) (hN : X.N.Nodup) (hi : PIt X tg iter fi) (ok : BlkOk X.N X.env.scope scope own) (hg : ∀ a, PTg (blkOf X scope a) tg t) (he : ∀ a, PP (blkOf X scope a) elt fe) (hv : ∀ i ∈ slotsT t, i ∈ own.map (·.2))
    (hsw : swapsWith (.ListComp elt [⟨tg, iter, [], 0⟩] scope pos) (some (.Name y py)) spos.line X.env = pure true) (hy : X.N[i]? = some y := by rfl) (hyl : X.env.scope.names.lookup y = some .local := by rfl) (hs : ∀ x, foldedSetIterable iter X.env x = pure x := by intro _; rfl) :
    PSt X (.Assign [.Name y py] (.ListComp elt [⟨tg, iter, [], 0⟩] scope pos) spos) (sAsg i (mLc (own.map (·.2)) t fi fYes fe)) := by
  obtain ⟨wi, a1, a2⟩ := hi
  obtain ⟨g, b1, b2⟩ := all_PTg (Y := fun a => blkOf X scope a) (K := X.K) (fun a => rfl) hg
  obtain ⟨te, c1, c2⟩ := all_PP (Y := fun a => blkOf X scope a) (K := X.K) (fun a => rfl) he
  refine ⟨_, ps_setLc hc hN hy hyl hsw a1 ok (fun s H C cl fp => b1 ⟨s, H, C, cl, fp⟩) (fun _ _ _ _ _ => pts_nil) (fun s H C cl fp => c1 ⟨s, H, C, cl, fp⟩) hs, fun F H σ ρ fl ρ' hf hR E k1 k2 k3 => ?_⟩
  obtain ⟨⟨b, ρ1⟩, e1, e2⟩ := Option.map_eq_some_iff.mp hf
  cases e2
  exact sm_lc a2 b2 sb_yes c2 hv F H σ ρ b ρ1 e1 hR _ fun v F1 H1 g1 r1 => k1 rfl _ F1 H1 (go_store hR g1 r1)
theorem m_lc0 (hc : X.calm = true) (hN : X.N.Nodup) (hi : PIt X tg iter fi) (ok : BlkOk X.N X.env.scope scope own) (hg : ∀ a, PTg (blkOf X scope a) tg t) (he : ∀ a, PP (blkOf X scope a) elt fe) (hv : ∀ i ∈ slotsT t, i ∈ own.map (·.2)) (hs : ∀ x, foldedSetIterable iter X.env x = pure x := by intro _; rfl) :
    XM X (.ListComp elt [⟨tg, iter, [], 0⟩] scope pos) (mLc (own.map (·.2)) t fi fYes fe) := by
  obtain ⟨wi, a1, a2⟩ := hi
  obtain ⟨g, b1, b2⟩ := all_PTg (Y := fun a => blkOf X scope a) (K := X.K) (fun a => rfl) hg
  obtain ⟨te, c1, c2⟩ := all_PP (Y := fun a => blkOf X scope a) (K := X.K) (fun a => rfl) he
  exact ⟨_, pe_lc hc hN a1 ok (fun s H C cl fp => b1 ⟨s, H, C, cl, fp⟩) (fun _ _ _ _ _ => pts_nil) (fun s H C cl fp => c1 ⟨s, H, C, cl, fp⟩) hs, sm_lc a2 b2 sb_yes c2 hv⟩
end
end DL
end
section
set_option Elab.async false
set_option linter.all false
set_option maxRecDepth 100000
/-! The sum of a tuple of numbers. -/
namespace DL
open PySem PySem.Spec PyProof.Rows L2
def rSumT (K : PySem.W.Frag) : List V → Hp → VK → Prop := fun vs H Q => ∃ (a : Addr) (ns : List Int), vs = [V.ref a] ∧ SqT K H a (ns.map V.int) ∧ Q (.int ns.sum) H
section
variable {prog : Program} {w : World} {A : Around} {E : Value → Shared → Prop} {s : Shared} {l : Addr} {its : List Value} {ns : List Int} {Q : Value → Shared → Prop}
theorem sum_rawT (hh : A.handled = none) (hl : s.heap.IsTuple l its.toArray) (hi : IntsAre its ns)
    (h : ∀ h' tk t', (∀ b o, s.heap.get? b = some o → h'.get? b = some o) → Q (.int ns.sum t') { s with heap := h', toks := tk }) : wpAny (model prog w) A (call (.builtin "sum") [.ref l]) Q E s := by
  obtain ⟨xs, e⟩ := hi.allInts.items
  have hn : numsOf (intItems xs).toList = ns := by rw [← e]; exact hi.numsOf
  rw [nums_intItems] at hn
  rw [e] at hl
  refine PySem.W.ktm_sumG hh hl fun h' tk t' hk => ?_
  have := h h' tk t' hk
  rw [preSum_eq, List.take_of_length_le (by simp), hn]; exact this
end
section
variable {X : Cx}
theorem cr_sumT (hc : X.calm = true) : CallR X (.builtin "sum") (rSumT X.K) := by
  intro pins s σ H vs us Q I r h
  obtain ⟨a, ns, rfl, hs, q⟩ := h
  obtain ⟨its, rv, hl, _⟩ := I.tuple hs
  rw [Vals.ref1 r]
  exact sum_rawT (I.ok.hd hc) hl rv.ints fun h' tk t' hk => ⟨.int _, H, I.kept hk, ⟨_, rfl⟩, q⟩
end
def gSumT : D → Option D
  | .tuple xs => (intsD xs).map fun ns => .int ns.sum
  | _ => none
section
variable {K : PySem.W.Frag}
theorem vw_sumT : ∀ F H x dx dz, Ex F H → Vw K F H x dx → gSumT dx = some dz → ∀ Q : VK, Res K F H dz Q → rSumT K [x] H Q := by
  intro F H x dx dz e hx hg Q k
  unfold gSumT at hg
  split at hg
  · obtain ⟨ns, h1, h2⟩ := Option.map_eq_some_iff.mp hg
    subst h2
    obtain ⟨a, xs, rfl, s1, r1⟩ := hx.tuple e
    rw [ints_of r1 h1] at s1
    exact ⟨a, ns, rfl, s1, k.sc e fun _ => .int _⟩
  · cases hg
end
section
variable {X : Cx} {e : Expr} {pos p : Pos} {fe : Fm → Option D}
theorem d_sumT (hc : X.calm = true) (B : Bt X.mg) (ha : PV X e fe) (hg : Gl X "sum" := by rfl) (hs : starEach [e] X.env = (false, eval e X.env) :: starEach [] X.env := by rfl) : PP X (.Call (.Name "sum" p) [e] [] pos) (fOp1 gSumT fe) :=
  d_b1 (cr_sumT hc) PyProof.Rows.boot_sum vw_sumT hg B.sum ha (by decide) (by decide) hs
end
/-! max of two values of which some have effects -/
section
variable {X : Cx} {a b : Expr} {pos p : Pos} {ga gb : Fm → Option (D × Fm)}
theorem sx_call2 {K : PySem.W.Frag} {r : List V → Hp → VK → Prop} {g : D → D → Option D} {ta tb : TE} (hr : ∀ F H x y dx dy dz, Ex F H → Vw K F H x dx → Vw K F H y dy → g dx dy = some dz → ∀ Q : VK, Res K F H dz Q → r [x, y] H Q)
    (ha : SX K ta ga) (hb : SX K tb gb) : SX K (tCB r (tCons ta (tCons tb tNil))) (xOp2 g ga gb) := by
  intro F H σ ρ d ρ' hf hR Q k
  obtain ⟨⟨dx, ρ1⟩, h1, hf⟩ := Option.bind_eq_some_iff.mp hf
  obtain ⟨⟨dy, ρ2⟩, h2, hf⟩ := Option.bind_eq_some_iff.mp hf
  obtain ⟨dz, h3, hf⟩ := Option.map_eq_some_iff.mp hf
  cases hf
  refine ha F H σ ρ dx ρ1 h1 hR _ fun x F1 H1 g1 r1 => ?_
  refine hb F1 H1 σ ρ1 dy ρ2 h2 g1.rel _ fun y F2 H2 g2 r2 => ?_
  exact hr F2 H2 x y dx dy d g2.rel.ex (.inl (r1.mono g2.go.ex)) (.inl r2) h3 Q fun v F3 H3 g3 r3 => k v F3 H3 ((g1.trans g2).trans (.gr g2.rel g3)) r3
theorem x_max2 (hc : X.calm = true) (B : Bt X.mg) (ha : XE X a ga) (hb : XE X b gb) (hg : Gl X "max" := by rfl) (hs : starEach [a, b] X.env = (false, eval a X.env) :: starEach [b] X.env := by rfl) (hs2 : starEach [b] X.env = (false, eval b X.env) :: starEach [] X.env := by rfl) : XE X (.Call (.Name "max" p) [a, b] [] pos) (xOp2 gMax2 ga gb) :=
  let ⟨_, h1, h2⟩ := ha
  let ⟨_, h3, h4⟩ := hb
  ⟨_, pe_callB (call_max2 hc) hg B.max PyProof.Rows.boot_max (pa_cons h1 (pa_cons h3 pa_nil hs2) hs) (by decide) (by decide) hs (by rw [hs2]; rfl), sx_call2 (fun F H x y dx dy dz e hx hy hg Q k => by
    unfold gMax2 at hg
    split at hg
    · cases hg
      exact ⟨_, _, by rw [hx.int, hy.int], k.sc e fun _ => .int _⟩
    · cases hg) h2 h4⟩
end
end DL
end
section
set_option Elab.async false
set_option linter.all false
set_option maxRecDepth 100000
/-! x //= e; x[k], y[k] = e. -/
namespace DL
open PySem PySem.Spec PyProof.Rows L2
def gDivS : D → D → Option D := gI2 (fun _ j => decide (0 < j) && decide (j < 1073741824)) fun i j => i / j
theorem cdiv_ok {i j : Int} (h : (decide (0 < j) && decide (j < 1073741824)) = true) : CDiv i j := by
  rw [Bool.and_eq_true, decide_eq_true_eq, decide_eq_true_eq] at h
  exact h
def tsetD (K : PySem.W.Frag) : TSet := fun o i v H Q => ∃ (F : Hp) (p : Addr) (t : Bool) (ds ds' : List (D × D)) (kd d : D), o = .ref p ∧ Ex F H ∧ F p = none ∧ Dct K F H p t ds ∧ Rp K F i kd ∧ Rp K F v d ∧ dPut t ds kd d = some ds' ∧ ds.length < bigN ∧ ∀ o', Dct K F (upd H p o') p t ds' → Q (upd H p o')
def putOd (i : Nat) (kd d : D) (ρ : Fm) : Option Fm := match ρ[i]? with
  | some (.od t ds) => if ds.length < bigN then (dPut t ds kd d).map fun ds' => ρ.set i (.od t ds') else none
  | _ => none
def sDset2 (i j : Nat) (fk fk2 : Fm → Option D) (f : Fm → Option (D × Fm)) (ρ : Fm) : Option (Fl × Fm) := (f ρ).bind fun x => match x.1 with
  | .tuple [d1, d2] => (fk x.2).bind fun k1 => (putOd i k1 d1 x.2).bind fun ρ1 => (fk2 ρ1).bind fun k2 => (putOd j k2 d2 ρ1).map fun ρ2 => (.nx, ρ2)
  | _ => none
section
variable {X : Cx} {e b b2 : Expr} {pos tp tp2 q q2 tpos : Pos} {fk fk2 : Fm → Option D} {ge : Fm → Option (D × Fm)}
theorem pset_dct (hu : X.A.units + 9 < cLine) : PSet X (tsetD X.K) := by
  intro pins s σ H o i v ov iv u Q I ro ri rv h
  obtain ⟨F, p, t, ds, ds', kd, d, rfl, ef, hf, dc, rk, rd, g, hz, k⟩ := h
  cases (show ov = Value.ref p from ro)
  exact dct_set hu I ef hf dc rk ri rv rd g hz fun o' s4 I4 dc4 => ⟨_, I4, k o' dc4⟩
theorem s_dset2 (i j : Nat) {y y2 : Str} {n kt : Nat} (hc : X.calm = true) (hr : Room n X.A) (hk : PP X b fk) (hk2 : PP X b2 fk2) (h : XE X e ge) (hv : PE X (.Name y q) (tVar i) := by exact pv _) (hv2 : PE X (.Name y2 q2) (tVar j) := by exact pv _)
    (ha : ∀ v, assign (.Subscript (.Name y q) b tp) X.env v = (do
      let ov ← holding [v] (eval (.Name y q) X.env)
      let iv ← holding [v, ov] (eval b X.env)
      standAt tp
      holding [v, ov, iv] (setItem ov iv v)
      release [v, ov, iv] []) := by intro _; rfl)
    (ha2 : ∀ v, assign (.Subscript (.Name y2 q2) b2 tp2) X.env v = (do
      let ov ← holding [v] (eval (.Name y2 q2) X.env)
      let iv ← holding [v, ov] (eval b2 X.env)
      standAt tp2
      holding [v, ov, iv] (setItem ov iv v)
      release [v, ov, iv] []) := by intro _; rfl)
    (h1s : (assignEach [.Subscript (.Name y q) b tp, .Subscript (.Name y2 q2) b2 tp2] X.env).map (·.2) = assign (.Subscript (.Name y q) b tp) X.env :: (assignEach [.Subscript (.Name y2 q2) b2 tp2] X.env).map (·.2) := by rfl)
    (h2s : (assignEach [.Subscript (.Name y2 q2) b2 tp2] X.env).map (·.2) = assign (.Subscript (.Name y2 q2) b2 tp2) X.env :: (assignEach [] X.env).map (·.2) := by rfl)
    (hl : (assignEach [.Subscript (.Name y q) b tp, .Subscript (.Name y2 q2) b2 tp2] X.env).length = 2 := by rfl) (hst : (assignEach [.Subscript (.Name y q) b tp, .Subscript (.Name y2 q2) b2 tp2] X.env).findIdx? (·.1) = none := by rfl)
    (hs : swapsWithSole [.Tuple [.Subscript (.Name y q) b tp, .Subscript (.Name y2 q2) b2 tp2] kt tpos] e pos.line X.env = pure false := by rfl) (hw : swappedStores [.Tuple [.Subscript (.Name y q) b tp, .Subscript (.Name y2 q2) b2 tp2] kt tpos] e X.env = pure none := by rfl) :
    PSt X (.Assign [.Tuple [.Subscript (.Name y q) b tp, .Subscript (.Name y2 q2) b2 tp2] kt tpos] e pos) (sDset2 i j fk fk2 ge) := by
  obtain ⟨t, h1, h2⟩ := h
  obtain ⟨u, h3, h4⟩ := hk
  obtain ⟨u2, h5, h6⟩ := hk2
  have hu : X.A.units + 9 < cLine := by have := Room.u66 hr; omega
  refine ⟨_, ps_asg h1 (pg_tup hc (pgs_cons (pg_sub hv h3 (pset_dct hu) ha) (pgs_cons (pg_sub hv2 h5 (pset_dct hu) ha2) pgs_nil h2s) h1s) hl hst) hs hw rfl, fun F H σ ρ fl ρ' hf hR E k1 k2 k3 => ?_⟩
  obtain ⟨⟨d, ρ1⟩, e1, e2⟩ := Option.bind_eq_some_iff.mp hf
  dsimp only at e2
  split at e2
  · rename_i d1 d2
    obtain ⟨kd, e3, e2⟩ := Option.bind_eq_some_iff.mp e2
    obtain ⟨ρa, e4, e2⟩ := Option.bind_eq_some_iff.mp e2
    obtain ⟨kd2, e5, e2⟩ := Option.bind_eq_some_iff.mp e2
    obtain ⟨ρb, e6, e2⟩ := Option.map_eq_some_iff.mp e2
    cases e2
    unfold putOd at e4 e6
    split at e4
    · rename_i t1 ds1 a1
      split at e4
      · rename_i z1
        obtain ⟨ds1', a2, a3⟩ := Option.map_eq_some_iff.mp e4
        subst a3
        split at e6
        · rename_i t2 ds2 b1
          split at e6
          · rename_i z2
            obtain ⟨ds2', b3, b4⟩ := Option.map_eq_some_iff.mp e6
            subst b4
            refine h2 F H σ ρ _ ρ1 e1 hR _ fun v F1 H1 g1 r1 => ?_
            cases r1 with
            | tup hs r =>
              cases r with
              | cons rv1 r =>
                cases r with
                | cons rv2 r =>
                  cases r
                  refine ⟨_, _, rfl, g1.rel.ex.sqt hs, rfl, _, _, rfl, ?_⟩
                  obtain ⟨p, s1, hf1, dc1⟩ := g1.rel.at_ i _ a1
                  refine ⟨.ref p, s1, h4 F1 H1 σ ρ1 _ e3 g1.rel _ fun w F2 H2 g2 r2 => ?_⟩
                  have g12 := g1.trans (.gr g1.rel g2)
                  obtain ⟨p2, s2, hf2, dc2⟩ := g12.rel.at_ i _ a1
                  rw [s1] at s2
                  cases s2
                  refine ⟨F2, p, t1, ds1, ds1', kd, d1, rfl, g2.in_, hf2, dc2, r2, rv1.mono g2.ex, a2, z1, fun o' dc3 => ?_⟩
                  have w1 := own_wrD g12.rel a1 s1 hf2 dc3
                  refine ⟨_, _, rfl, ?_⟩
                  obtain ⟨p', s1', hf1', dc1'⟩ := w1.rel.at_ j _ b1
                  refine ⟨.ref p', s1', h6 F2 _ σ _ _ e5 w1.rel _ fun w' F3 H3 g3 r3 => ?_⟩
                  have g13 := w1.trans (.gr w1.rel g3)
                  obtain ⟨p3, s3, hf3, dc4⟩ := g13.rel.at_ j _ b1
                  rw [s1'] at s3
                  cases s3
                  refine ⟨F3, p', t2, ds2, ds2', kd2, d2, rfl, g3.in_, hf3, dc4, r3, (rv2.mono g2.ex).mono g3.ex, b3, z2, fun o'' dc5 => ?_⟩
                  have w2 := own_wrD g13.rel b1 s1' hf3 dc5
                  exact ⟨rfl, k1 rfl σ F3 _ (g12.go.trans (g13.go.trans w2.go))⟩
          · cases e6
        · cases e6
      · cases e4
    · cases e4
  · cases e2
end
end DL
end
section
set_option Elab.async false
set_option linter.all false
set_option maxRecDepth 100000
namespace LF
open PySem PySem.Spec PyProof.Rows L2 DL
abbrev wFuel : Nat := 100000
abbrev gAddI : D → D → Option D := gI2 (fun _ _ => true) fun i j => i + j
/-! is_in -/
def b_is_in : Fm → Option (Fl × Fm) :=
  sRet (up (fAndV (fOp1 (gIsa ["int"]) (fVar 0)) (fAndV (fNotV (fOp1 (gIsa ["bool"]) (fVar 0))) (fChain gLe gLe (fVar 1) (fVar 0) (fVar 2)))))
def f_is_in : List D → Option D := runP 3 b_is_in
/-! is_arrow -/
def b_is_arrow : Fm → Option (Fl × Fm) :=
  sSeq (sIf (up (fOr (fNot (fBl (fOp1 (gIsa ["tuple"]) (fVar 0)))) (fBl (fOp2 gNe (fOp1 gLen (fVar 0)) (fC (.int 2)))))) (sRet (up (fC (.bool false)))) (sNext))
    (sRet (up (fAndV (fOp2 gEq (fLc [2] (.one 2) (iSeq (fVar 0)) (fNot (fBl (fCall LF.f_is_in (fCons (fVar 2) (fCons (fC (.int 0)) (fCons (fOp2 gSub (fVar 1) (fC (.int 1))) (fNil))))))) (fVar 2)) (fLst (fNil))) (fOp2 gLt (fOp2 gIx (fVar 0) (fC (.int 0))) (fOp2 gIx (fVar 0) (fC (.int 1)))))))
def f_is_arrow : List D → Option D := runP 3 b_is_arrow
/-! need_web -/
def b_need_web_l1 : Fm → Option (Fl × Fm) :=
  sIf (up (fOr (fNot (fBl (fCall LF.f_is_arrow (fCons (fVar 2) (fCons (fOp2 gIx (fVar 0) (fC (.int 0))) (fNil)))))) (fAnd (fBl (fOp2 gGt (fVar 1) (fC (.int 0)))) (fBl (fOp2 gLe (fVar 2) (fOp2 gIx (fOp2 gIx (fVar 0) (fC (.int 1))) (fOp2 gSub (fVar 1) (fC (.int 1))))))))) (sNever) (sNext)
def b_need_web : Fm → Option (Fl × Fm) :=
  sSeq (sIf (up (fOr (fNot (fBl (fOp1 (gIsa ["tuple"]) (fVar 0)))) (fOr (fBl (fOp2 gNe (fOp1 gLen (fVar 0)) (fC (.int 2)))) (fNot (fBl (fOp1 (gIsa ["tuple"]) (fOp2 gIx (fVar 0) (fC (.int 1))))))))) (sNever) (sNext))
    (sSeq (sIf (up (fNot (fBl (fCall LF.f_is_in (fCons (fOp2 gIx (fVar 0) (fC (.int 0))) (fCons (fC (.int 1)) (fCons (fC (.int 9)) (fNil)))))))) (sNever) (sNext))
    (sFor (.tup [.one 1, .one 2]) (iEn (fOp2 gIx (fVar 0) (fC (.int 1)))) (LF.b_need_web_l1)))
def f_need_web : List D → Option D := runP 3 b_need_web
/-! _law_taken -/
def b_law_taken : Fm → Option (Fl × Fm) :=
  sSeq (sIf (up (fBl (fOp2 gGt (fOp2 gIx (fOwn 0) (fC (.int 3))) (fC (.int 0))))) (sSeq (sAsg 2 (mSh (up (fOp2 gMod (fOp1 gInt (fOp2 gIx (fOwn 0) (fC (.int 3)))) (fVar 1)))))
    (sSeq (sPut 0 (fC (.int 3)) (up (fOp2 gDiv (fOp2 gIx (fOwn 0) (fC (.int 3))) (fVar 1))))
    (sRet (up (fVar 2))))) (sNext))
    (sSeq (sPut 0 (fC (.int 1)) (up (fOp2 gAdd (fOp2 gIx (fOwn 0) (fC (.int 1))) (fC (.int 1)))))
    (sSeq (sIf (up (fBl (fOp2 gGt (fOp2 gIx (fOwn 0) (fC (.int 1))) (fOp1 gLen (fOp2 gIx (fOwn 0) (fC (.int 0))))))) (sSeq (sPut 0 (fC (.int 2)) (up (fOp2 gMod (fOp1 gInt (fOp2 gAdd (fOp2 gMulI (fOp2 gIx (fOwn 0) (fC (.int 2))) (fC (.int 48271))) (fC (.int 11)))) (fC (.int 2147483647)))))
    (sRet (up (fOp2 gMod (fOp1 gInt (fOp2 gDiv (fOp2 gIx (fOwn 0) (fC (.int 2))) (fC (.int 7)))) (fVar 1))))) (sNext))
    (sSeq (sAsg 3 (mSh (up (fOp2 gIx (fOp2 gIx (fOwn 0) (fC (.int 0))) (fOp2 gSub (fOp2 gIx (fOwn 0) (fC (.int 1))) (fC (.int 1)))))))
    (sSeq (sPut 0 (fC (.int 2)) (up (fOp2 gMod (fOp1 gInt (fOp2 gAdd (fOp2 gAdd (fOp2 gMulI (fOp2 gIx (fOwn 0) (fC (.int 2))) (fC (.int 48271))) (fVar 3)) (fC (.int 11)))) (fC (.int 2147483647)))))
    (sSeq (sIf (up (fBl (fOp2 gGe (fVar 3) (fOp2 gPow (fC (.int 10)) (fC (.int 18)))))) (sPut 0 (fC (.int 3)) (up (fOp2 gDiv (fVar 3) (fVar 1)))) (sNext))
    (sRet (up (fOp2 gMod (fOp1 gInt (fVar 3)) (fVar 1)))))))))
def f_law_taken : List D → List D → Option (D × List D) := runI 4 b_law_taken
/-! _law_pick -/
def b_law_pick : Fm → Option (Fl × Fm) :=
  sRet (xOp2 gIx (up (fVar 1)) (xCallI 0 LF.f_law_taken (xCons (up (fOp1 gLen (fVar 1))) (up fNil))))
def f_law_pick : List D → List D → Option (D × List D) := runI 2 b_law_pick
/-! _law_alike -/
def b_law_alike (g : List D → Option D) : Fm → Option (Fl × Fm) :=
  sSeq (sIf (up (fBl (fOp1 (gIsa ["tuple", "list"]) (fVar 1)))) (sSeq (sIf (up (fOr (fNot (fBl (fOp1 (gIsa ["tuple", "list"]) (fVar 0)))) (fBl (fOp2 gNe (fOp1 (gIsa ["list"]) (fVar 0)) (fOp1 (gIsa ["list"]) (fVar 1)))))) (sRet (up (fC (.bool false)))) (sNext))
    (sSeq (sIf (up (fBl (fOp2 gNe (fOp1 gLen (fVar 0)) (fOp1 gLen (fVar 1))))) (sRet (up (fC (.bool false)))) (sNext))
    (sRet (up (fOp2 gEq (fLc [2] (.one 2) (iRg1 (fOp1 gLen (fVar 1))) (fNot (fBl (fCall g (fCons (fOp2 gIx (fVar 0) (fVar 2)) (fCons (fOp2 gIx (fVar 1) (fVar 2)) (fNil)))))) (fVar 2)) (fLst (fNil))))))) (sNext))
    (sSeq (sIf (up (fOr (fBl (fOp2 (gIsN false) (fVar 1) (fC .none))) (fBl (fOp1 (gIsa ["str"]) (fVar 1))))) (sRet (up (fAndV (fOp2 gEq (fVar 0) (fVar 1)) (fOp2 gEq (fOp1 (gIsa ["str"]) (fVar 0)) (fOp1 (gIsa ["str"]) (fVar 1)))))) (sNext))
    (sRet (up (fAndV (fOp1 (gIsa ["int"]) (fVar 0)) (fAndV (fOp2 gEq (fOp1 (gIsa ["bool"]) (fVar 0)) (fOp1 (gIsa ["bool"]) (fVar 1))) (fOp2 gEq (fVar 0) (fVar 1)))))))
def f_law_alike : Nat → List D → Option D
  | 0 => fun _ => none
  | n + 1 => runP 3 (b_law_alike (f_law_alike n))
/-! need_burning -/
def b_need_burning_l1 : Fm → Option (Fl × Fm) :=
  sIf (up (fOr (fNot (fBl (fCall LF.f_is_in (fCons (fVar 3) (fCons (fC (.int 0)) (fCons (fOp2 gSub (fOp2 gIx (fVar 0) (fC (.int 0))) (fC (.int 1))) (fNil))))))) (fAnd (fBl (fOp2 gGt (fVar 2) (fC (.int 0)))) (fBl (fOp2 gLe (fVar 3) (fOp2 gIx (fVar 1) (fOp2 gSub (fVar 2) (fC (.int 1))))))))) (sNever) (sNext)
def b_need_burning : Fm → Option (Fl × Fm) :=
  sSeq (sIf (up (fNot (fBl (fOp1 (gIsa ["tuple"]) (fVar 1))))) (sNever) (sNext))
    (sFor (.tup [.one 2, .one 3]) (iEn (fVar 1)) (LF.b_need_burning_l1))
def f_need_burning : List D → Option D := runP 4 b_need_burning
/-! need_both -/
def b_need_both : Fm → Option (Fl × Fm) :=
  sSeq (sDrop (up (fCall LF.f_need_web (fCons (fVar 0) (fNil)))))
    (sDrop (up (fCall LF.f_need_burning (fCons (fVar 0) (fCons (fVar 1) (fNil))))))
def f_need_both : List D → Option D := runP 2 b_need_both
/-! need_two -/
def b_need_two : Fm → Option (Fl × Fm) :=
  sSeq (sDrop (up (fCall LF.f_need_both (fCons (fVar 0) (fCons (fVar 1) (fNil))))))
    (sDrop (up (fCall LF.f_need_burning (fCons (fVar 0) (fCons (fVar 2) (fNil))))))
def f_need_two : List D → Option D := runP 3 b_need_two
/-! sides -/
def b_sides : Fm → Option (Fl × Fm) :=
  sRet (up (fTup (fCons (fLc [2] (.one 2) (iSeq (fVar 1)) (fBl (fOp2 (gIn true) (fVar 2) (fVar 0))) (fVar 2)) (fCons (fLc [2] (.one 2) (iSeq (fVar 0)) (fBl (fOp2 (gIn true) (fVar 2) (fVar 1))) (fVar 2)) (fNil)))))
def f_sides : List D → Option D := runP 3 b_sides
/-! need_burning -/
def b_need_burning_3339_l1 : Fm → Option (Fl × Fm) :=
  sIf (up (fOr (fNot (fBl (fCall LF.f_is_in (fCons (fVar 3) (fCons (fC (.int 0)) (fCons (fOp2 gSub (fVar 0) (fC (.int 1))) (fNil))))))) (fAnd (fBl (fOp2 gGt (fVar 2) (fC (.int 0)))) (fBl (fOp2 gLe (fVar 3) (fOp2 gIx (fVar 1) (fOp2 gSub (fVar 2) (fC (.int 1))))))))) (sNever) (sNext)
def b_need_burning_3339 : Fm → Option (Fl × Fm) :=
  sSeq (sIf (up (fNot (fBl (fOp1 (gIsa ["tuple"]) (fVar 1))))) (sNever) (sNext))
    (sFor (.tup [.one 2, .one 3]) (iEn (fVar 1)) (LF.b_need_burning_3339_l1))
def f_need_burning_3339 : List D → Option D := runP 4 b_need_burning_3339
/-! _law_row_burning -/
def b_law_row_burning : Fm → Option (Fl × Fm) :=
  sSeq (sAsg 2 (mSh (xCallI 0 LF.f_law_pick (xCons (up (fLst (fCons (fC (.int 2)) (fCons (fC (.int 3)) (fCons (fC (.int 8)) (fNil)))))) (up fNil)))))
    (sRet (xOp1 gTuple (xLc [3] (.one 3) (up (iRg1 (fVar 1))) (xBl (xOp2 gEq (xCallI 0 LF.f_law_taken (xCons (up (fVar 2)) (up fNil))) (up (fC (.int 0))))) (up (fVar 3)))))
def f_law_row_burning : List D → List D → Option (D × List D) := runI 4 b_law_row_burning
/-! need_parents -/
def b_need_parents_l1 : Fm → Option (Fl × Fm) :=
  sIf (up (fAnd (fBl (fOp2 (gIsN true) (fVar 2) (fC .none))) (fNot (fBl (fCall LF.f_is_in (fCons (fVar 2) (fCons (fC (.int 0)) (fCons (fOp2 gSub (fVar 1) (fC (.int 1))) (fNil))))))))) (sNever) (sNext)
def b_need_parents : Fm → Option (Fl × Fm) :=
  sSeq (sIf (up (fOr (fNot (fBl (fOp1 (gIsa ["tuple"]) (fVar 0)))) (fNot (fBl (fChain gLe gLe (fC (.int 1)) (fOp1 gLen (fVar 0)) (fC (.int 40))))))) (sNever) (sNext))
    (sFor (.tup [.one 1, .one 2]) (iEn (fVar 0)) (LF.b_need_parents_l1))
def f_need_parents : List D → Option D := runP 3 b_need_parents
/-! children -/
def b_children : Fm → Option (Fl × Fm) :=
  sRet (up (fLc [2, 3] (.tup [.one 2, .one 3]) (iEn (fVar 0)) (fBl (fOp2 gEq (fVar 3) (fVar 1))) (fVar 2)))
def f_children : List D → Option D := runP 4 b_children
/-! need_two -/
def b_need_two_43b8 : Fm → Option (Fl × Fm) :=
  sSeq (sDrop (up (fCall LF.f_need_parents (fCons (fVar 0) (fNil)))))
    (sSeq (sDrop (up (fCall LF.f_need_burning_3339 (fCons (fOp1 gLen (fVar 0)) (fCons (fVar 1) (fNil))))))
    (sDrop (up (fCall LF.f_need_burning_3339 (fCons (fOp1 gLen (fVar 0)) (fCons (fVar 2) (fNil)))))))
def f_need_two_43b8 : List D → Option D := runP 3 b_need_two_43b8
/-! spare_of -/
def b_spare_of_l1 : Fm → Option (Fl × Fm) :=
  sAsg 9 (mSh (up (fOp2 gAdd (fVar 9) (fCall LF.f_children (fCons (fVar 0) (fCons (fVar 8) (fNil)))))))
def b_spare_of_l2 : Fm → Option (Fl × Fm) :=
  sSeq (sAsg 9 (mSh (up (fLc [8] (.one 8) (iSeq (fVar 6)) (fBl (fOp2 (gIsN true) (fOp2 gIx (fVar 0) (fVar 8)) (fC .none))) (fOp2 gIx (fVar 0) (fVar 8))))))
    (sSeq (sFor (.one 8) (iSeq (fVar 7)) (LF.b_spare_of_l1))
    (sSeq (sAsg 9 (mSh (up (fLc [8] (.one 8) (iSeq (fOp1 gSS2 (fVar 9))) (fAnd (fBl (fOp2 (gIn true) (fVar 8) (fVar 1))) (fAnd (fBl (fOp2 (gIn true) (fVar 8) (fVar 2))) (fBl (fOp2 (gIn true) (fVar 8) (fVar 5))))) (fVar 8)))))
    (sAll [5, 6, 7] (mCons (mSh (up (fOp2 gAdd (fVar 5) (fVar 9)))) (mCons (mSh (up (fVar 9))) (mCons (mSh (up (fVar 9))) (mNil)))))))
def b_spare_of : Fm → Option (Fl × Fm) :=
  sSeq (sUnp [3, 4] (up (fCall LF.f_sides (fCons (fVar 1) (fCons (fVar 2) (fNil))))))
    (sSeq (sAll [5, 6, 7] (mCons (mSh (up (fLst (fNil)))) (mCons (mSh (up (fOp1 gList (fVar 3)))) (mCons (mSh (up (fOp1 gList (fVar 4)))) (mNil)))))
    (sSeq (sWhile LF.wFuel (up (fBl (fOp2 gNe (fOp2 gAdd (fVar 6) (fVar 7)) (fLst (fNil))))) (LF.b_spare_of_l2))
    (sRet (up (fOp1 gSorted (fVar 5))))))
def f_spare_of : List D → Option D := runP 10 b_spare_of
/-! forest_spare -/
def b_forest_spare : Fm → Option (Fl × Fm) :=
  sSeq (sDrop (up (fCall LF.f_need_two_43b8 (fCons (fVar 0) (fCons (fVar 1) (fCons (fVar 2) (fNil)))))))
    (sRet (up (fOp1 gTuple (fCall LF.f_spare_of (fCons (fVar 0) (fCons (fVar 1) (fCons (fVar 2) (fNil))))))))
def f_forest_spare : List D → Option D := runP 3 b_forest_spare
/-! word_of -/
def b_word_of : Fm → Option (Fl × Fm) :=
  sSeq (sUnp [3, 4] (up (fCall LF.f_sides (fCons (fVar 1) (fCons (fVar 2) (fNil))))))
    (sSeq (sAsg 5 (mSh (up (fCall LF.f_spare_of (fCons (fVar 0) (fCons (fVar 1) (fCons (fVar 2) (fNil))))))))
    (sRet (up (fOp2 gAdd (fOp1 gSorted (fOp2 gAdd (fVar 3) (fVar 5))) (fOp1 gSorted (fOp2 gAdd (fVar 4) (fVar 5)))))))
def f_word_of : List D → Option D := runP 6 b_word_of
/-! forest_fewest -/
def b_forest_fewest : Fm → Option (Fl × Fm) :=
  sSeq (sDrop (up (fCall LF.f_need_two_43b8 (fCons (fVar 0) (fCons (fVar 1) (fCons (fVar 2) (fNil)))))))
    (sRet (up (fOp1 gLen (fCall LF.f_word_of (fCons (fVar 0) (fCons (fVar 1) (fCons (fVar 2) (fNil))))))))
def f_forest_fewest : List D → Option D := runP 3 b_forest_fewest
/-! forest_word -/
def b_forest_word : Fm → Option (Fl × Fm) :=
  sSeq (sDrop (up (fCall LF.f_need_two_43b8 (fCons (fVar 0) (fCons (fVar 1) (fCons (fVar 2) (fNil)))))))
    (sRet (up (fOp1 gTuple (fCall LF.f_word_of (fCons (fVar 0) (fCons (fVar 1) (fCons (fVar 2) (fNil))))))))
def f_forest_word : List D → Option D := runP 3 b_forest_word
/-! leads_to -/
def b_leads_to_l1 : Fm → Option (Fl × Fm) :=
  sSeq (sIf (up (fNot (fBl (fCall LF.f_is_in (fCons (fVar 4) (fCons (fC (.int 0)) (fCons (fOp2 gSub (fOp1 gLen (fVar 0)) (fC (.int 1))) (fNil)))))))) (sRet (up (fC .none))) (sNext))
    (sSeq (sIf (up (fBl (fOp2 gIx (fOwn 3) (fVar 4)))) (sAsg 5 (mSh (up (fLc [6] (.one 6) (iSeq (fCall LF.f_children (fCons (fVar 0) (fCons (fVar 4) (fNil))))) (fNot (fBl (fOp2 gIx (fOwn 3) (fVar 6)))) (fVar 6))))) (sAsg 5 (mSh (up (fLc [6] (.one 6) (iSeq (fSl (fVar 0) (fPart (fVar 4)) (fPart (fOp2 gAdd (fVar 4) (fC (.int 1)))))) (fAnd (fBl (fOp2 (gIsN true) (fVar 6) (fC .none))) (fNot (fBl (fOp2 gIx (fOwn 3) (fVar 6))))) (fVar 6))))))
    (sSeq (sIf (up (fBl (fOp2 gNe (fVar 5) (fLst (fNil))))) (sRet (up (fC .none))) (sNext))
    (sPut 3 (fVar 4) (up (fNotV (fOp2 gIx (fOwn 3) (fVar 4)))))))
def b_leads_to : Fm → Option (Fl × Fm) :=
  sSeq (sAsg 3 (mLc [6] (.one 6) (iRg1 (fOp1 gLen (fVar 0))) fYes (fOp2 (gIn false) (fVar 6) (fVar 1))))
    (sSeq (sFor (.one 4) (iSeq (fVar 2)) (LF.b_leads_to_l1))
    (sRet (up (fOp1 gTuple (fLc [6] (.one 6) (iRg1 (fOp1 gLen (fVar 0))) (fBl (fOp2 gIx (fOwn 3) (fVar 6))) (fVar 6))))))
def f_leads_to : List D → Option D := runP 7 b_leads_to
/-! shows_forest_word -/
def b_shows_forest_word : Fm → Option (Fl × Fm) :=
  sSeq (sDrop (up (fCall LF.f_need_two_43b8 (fCons (fVar 0) (fCons (fVar 1) (fCons (fVar 2) (fNil)))))))
    (sSeq (sIf (up (fOr (fNot (fBl (fOp1 (gIsa ["tuple"]) (fVar 3)))) (fBl (fOp2 gNe (fOp1 gLen (fVar 3)) (fOp1 gLen (fCall LF.f_word_of (fCons (fVar 0) (fCons (fVar 1) (fCons (fVar 2) (fNil)))))))))) (sRet (up (fC (.bool false)))) (sNext))
    (sRet (up (fOp2 gEq (fCall LF.f_leads_to (fCons (fVar 0) (fCons (fVar 1) (fCons (fVar 3) (fNil))))) (fVar 2)))))
def f_shows_forest_word : List D → Option D := runP 4 b_shows_forest_word
/-! forest_light_ways -/
def b_forest_light_ways_l1 : Fm → Option (Fl × Fm) :=
  sDset 7 (fVar 5) (up (fOp2 gAdd (fC (.int 1)) (fOp1 gSum (fLc [9] (.one 9) (iSeq (fCall LF.f_children (fCons (fVar 0) (fCons (fVar 5) (fNil))))) (fBl (fOp2 (gInD false) (fVar 9) (fOwn 7))) (fOp2 gIxD (fOwn 7) (fVar 9))))))
def b_forest_light_ways_l2 : Fm → Option (Fl × Fm) :=
  sAug 6 gMulI (fOp2 gAdd (fVar 8) (fC (.int 1)))
def b_forest_light_ways_l3 : Fm → Option (Fl × Fm) :=
  sAug 6 gDivS (fOp2 gIxD (fOwn 7) (fVar 5))
def b_forest_light_ways : Fm → Option (Fl × Fm) :=
  sSeq (sDrop (up (fCall LF.f_need_two_43b8 (fCons (fVar 0) (fCons (fVar 1) (fCons (fVar 2) (fNil)))))))
    (sSeq (sUnp [3, 4] (up (fCall LF.f_sides (fCons (fVar 1) (fCons (fVar 2) (fNil))))))
    (sSeq (sIf (up (fOr (fBl (fOp2 gNe (fVar 4) (fLst (fNil)))) (fBl (fOp2 gNe (fLc [5] (.one 5) (iSeq (fVar 3)) (fAnd (fBl (fOp2 (gIsN true) (fOp2 gIx (fVar 0) (fVar 5)) (fC .none))) (fBl (fOp2 (gIn true) (fOp2 gIx (fVar 0) (fVar 5)) (fVar 2)))) (fVar 5)) (fLst (fNil)))))) (sRet (up (fC (.int 0)))) (sNext))
    (sSeq (sAll [6, 7] (mCons (mSh (up (fC (.int 1)))) (mCons (mNewD false) (mNil))))
    (sSeq (sFor (.one 5) (iSeq (fOp1 gRev (fVar 3))) (LF.b_forest_light_ways_l1))
    (sSeq (sFor (.tup [.one 8, .one 5]) (iEn (fVar 3)) (LF.b_forest_light_ways_l2))
    (sSeq (sFor (.one 5) (iSeq (fVar 3)) (LF.b_forest_light_ways_l3))
    (sRet (up (fVar 6)))))))))
def f_forest_light_ways : List D → Option D := runP 10 b_forest_light_ways
/-! forest_light_states -/
def b_forest_light_states_l1 : Fm → Option (Fl × Fm) :=
  sSeq (sDaug 2 gMulI (fVar 4) (fOp2 gAdd (fOp2 gIxD (fOwn 2) (fVar 5)) (fIf (fBl (fOp2 (gIn false) (fVar 5) (fVar 1))) (fC (.int 0)) (fOp2 gIxD (fOwn 3) (fVar 5)))))
    (sDaug 3 gMulI (fVar 4) (fIf (fBl (fOp2 (gIn false) (fVar 5) (fVar 1))) (fOp2 gIxD (fOwn 2) (fVar 5)) (fOp2 gIxD (fOwn 3) (fVar 5))))
def b_forest_light_states_l2 : Fm → Option (Fl × Fm) :=
  sSeq (sDset2 2 3 (fVar 4) (fVar 4) (up (fTup (fCons (fC (.int 1)) (fCons (fC (.int 1)) (fNil))))))
    (sFor (.one 5) (iSeq (fCall LF.f_children (fCons (fVar 0) (fCons (fVar 4) (fNil))))) (LF.b_forest_light_states_l1))
def b_forest_light_states_l3 : Fm → Option (Fl × Fm) :=
  sAug 6 gMulI (fOp2 gAdd (fOp2 gIxD (fOwn 2) (fVar 4)) (fIf (fBl (fOp2 (gIn false) (fVar 4) (fVar 1))) (fC (.int 0)) (fOp2 gIxD (fOwn 3) (fVar 4))))
def b_forest_light_states : Fm → Option (Fl × Fm) :=
  sSeq (sDrop (up (fCall LF.f_need_parents (fCons (fVar 0) (fNil)))))
    (sSeq (sDrop (up (fCall LF.f_need_burning_3339 (fCons (fOp1 gLen (fVar 0)) (fCons (fVar 1) (fNil))))))
    (sSeq (sAll [2, 3] (mCons (mNewD false) (mCons (mNewD false) (mNil))))
    (sSeq (sFor (.one 4) (iRgD (fOp2 gSub (fOp1 gLen (fVar 0)) (fC (.int 1))) (fOp1 gNeg (fC (.int 1))) (fOp1 gNeg (fC (.int 1)))) (LF.b_forest_light_states_l2))
    (sSeq (sAsg 6 (mSh (up (fC (.int 1)))))
    (sSeq (sFor (.one 4) (iSeq (fCall LF.f_children (fCons (fVar 0) (fCons (fC .none) (fNil))))) (LF.b_forest_light_states_l3))
    (sRet (up (fVar 6))))))))
def f_forest_light_states : List D → Option D := runP 7 b_forest_light_states
/-! _law_parents -/
def b_law_parents_l1 : Fm → Option (Fl × Fm) :=
  sSeq (sAsg 6 (mSh (xIf (up (fBl (fOp2 gEq (fVar 3) (fC (.int 0))))) (up (fOp2 gSub (fVar 5) (fC (.int 1)))) (xIf (up (fBl (fOp2 gLt (fVar 3) (fC (.int 3))))) (xCallI 0 LF.f_law_taken (xCons (up (fVar 5)) (up fNil))) (xOp2 gMax2 (up (fC (.int 0))) (xOp2 gSub (up (fOp2 gSub (fVar 5) (fC (.int 1)))) (xCallI 0 LF.f_law_taken (xCons (up (fC (.int 3))) (up fNil)))))))))
    (sApp 4 (xIf (xBl (xOp2 gEq (xCallI 0 LF.f_law_taken (xCons (up (fC (.int 6))) (up fNil))) (up (fC (.int 0))))) (up (fC .none)) (up (fVar 6))))
def b_law_parents : Fm → Option (Fl × Fm) :=
  sSeq (sAll [2, 3] (mCons (mSh (xOp2 gAdd (up (fC (.int 1))) (xCallI 0 LF.f_law_taken (xCons (up (fVar 1)) (up fNil))))) (mCons (mSh (xCallI 0 LF.f_law_taken (xCons (up (fC (.int 4))) (up fNil)))) (mNil))))
    (sSeq (sAsg 4 (mOw (xCons (up (fC .none)) (up fNil))))
    (sSeq (sFor (.one 5) (iRg2 (fC (.int 1)) (fVar 2)) (LF.b_law_parents_l1))
    (sRet (up (fOp1 gTuple (fOwn 4))))))
def f_law_parents : List D → List D → Option (D × List D) := runI 7 b_law_parents
/-! k74 -/
def b_k74 : Fm → Option (Fl × Fm) :=
  sSeq (sAsg 1 (mOw (xCons (up (fVar 0)) (xCons (up (fC (.int 0))) (xCons (up (fC (.int 9674))) (xCons (up (fC (.int 0))) (up fNil)))))))
    (sSeq (sAll [2, 3] (mCons (mSh (xCallI 1 LF.f_law_parents (xCons (up (fC (.int 20))) (up fNil)))) (mCons (mSh (xCallI 1 LF.f_law_parents (xCons (up (fC (.int 20))) (up fNil)))) (mNil))))
    (sSeq (sAll [4, 5] (mCons (mSh (up (fOp1 gLen (fVar 2)))) (mCons (mSh (up (fOp1 gLen (fVar 3)))) (mNil))))
    (sSeq (sAsg 6 (mSh (up (fOp2 gAdd (fVar 2) (fOp1 gTuple (fLc [19] (.one 19) (iSeq (fVar 3)) fYes (fIf (fBl (fOp2 (gIsN false) (fVar 19) (fC .none))) (fC .none) (fOp2 gAdd (fVar 19) (fVar 4)))))))))
    (sSeq (sAll [7, 8, 9, 10] (mCons (mSh (xCallI 1 LF.f_law_row_burning (xCons (up (fVar 4)) (up fNil)))) (mCons (mSh (xCallI 1 LF.f_law_row_burning (xCons (up (fVar 5)) (up fNil)))) (mCons (mSh (xCallI 1 LF.f_law_row_burning (xCons (up (fVar 4)) (up fNil)))) (mCons (mSh (xCallI 1 LF.f_law_row_burning (xCons (up (fVar 5)) (up fNil)))) (mNil))))))
    (sSeq (sAll [11, 12] (mCons (mSh (up (fOp2 gAdd (fVar 7) (fOp1 gTuple (fLc [19] (.one 19) (iSeq (fVar 8)) fYes (fOp2 gAdd (fVar 19) (fVar 4))))))) (mCons (mSh (up (fOp2 gAdd (fVar 9) (fOp1 gTuple (fLc [19] (.one 19) (iSeq (fVar 10)) fYes (fOp2 gAdd (fVar 19) (fVar 4))))))) (mNil))))
    (sSeq (sIf (up (fBl (fOp2 gNe (fCall LF.f_forest_spare (fCons (fVar 6) (fCons (fVar 11) (fCons (fVar 12) (fNil))))) (fOp2 gAdd (fCall LF.f_forest_spare (fCons (fVar 2) (fCons (fVar 7) (fCons (fVar 9) (fNil))))) (fOp1 gTuple (fLc [19] (.one 19) (iSeq (fCall LF.f_forest_spare (fCons (fVar 3) (fCons (fVar 8) (fCons (fVar 10) (fNil)))))) fYes (fOp2 gAdd (fVar 19) (fVar 4)))))))) (sRet (up (fC (.bool false)))) (sNext))
    (sSeq (sIf (up (fBl (fOp2 gNe (fCall LF.f_forest_fewest (fCons (fVar 6) (fCons (fVar 11) (fCons (fVar 12) (fNil))))) (fOp2 gAdd (fCall LF.f_forest_fewest (fCons (fVar 2) (fCons (fVar 7) (fCons (fVar 9) (fNil))))) (fCall LF.f_forest_fewest (fCons (fVar 3) (fCons (fVar 8) (fCons (fVar 10) (fNil))))))))) (sRet (up (fC (.bool false)))) (sNext))
    (sSeq (sAsg 13 (mSh (up (fOp2 gAdd (fCall LF.f_forest_word (fCons (fVar 2) (fCons (fVar 7) (fCons (fVar 9) (fNil))))) (fOp1 gTuple (fLc [19] (.one 19) (iSeq (fCall LF.f_forest_word (fCons (fVar 3) (fCons (fVar 8) (fCons (fVar 10) (fNil)))))) fYes (fOp2 gAdd (fVar 19) (fVar 4))))))))
    (sSeq (sIf (up (fNot (fBl (fCall LF.f_shows_forest_word (fCons (fVar 6) (fCons (fVar 11) (fCons (fVar 12) (fCons (fVar 13) (fNil))))))))) (sRet (up (fC (.bool false)))) (sNext))
    (sSeq (sIf (up (fAnd (fBl (fOp2 gNe (fVar 13) (fTup (fNil)))) (fBl (fCall LF.f_shows_forest_word (fCons (fVar 6) (fCons (fVar 11) (fCons (fVar 12) (fCons (fSl (fVar 13) (fPart (fC (.int 1))) fNoP) (fNil))))))))) (sRet (up (fC (.bool false)))) (sNext))
    (sSeq (sIf (up (fBl (fOp2 gNe (fCall LF.f_forest_light_states (fCons (fVar 6) (fCons (fVar 11) (fNil)))) (fOp2 gMulI (fCall LF.f_forest_light_states (fCons (fVar 2) (fCons (fVar 7) (fNil)))) (fCall LF.f_forest_light_states (fCons (fVar 3) (fCons (fVar 8) (fNil)))))))) (sRet (up (fC (.bool false)))) (sNext))
    (sSeq (sAsg 14 (mSh (up (fOp2 gAdd (fTup (fCons (fC .none) (fNil))) (fOp1 gTuple (fLc [19] (.one 19) (iSeq (fVar 2)) fYes (fIf (fBl (fOp2 (gIsN false) (fVar 19) (fC .none))) (fC (.int 0)) (fOp2 gAdd (fVar 19) (fC (.int 1))))))))))
    (sSeq (sAll [15, 16] (mCons (mSh (up (fOp1 gTuple (fLc [19] (.one 19) (iSeq (fVar 7)) fYes (fOp2 gAdd (fVar 19) (fC (.int 1))))))) (mCons (mSh (up (fOp1 gTuple (fLc [19] (.one 19) (iSeq (fVar 9)) fYes (fOp2 gAdd (fVar 19) (fC (.int 1))))))) (mNil))))
    (sSeq (sIf (up (fBl (fOp2 gNe (fCall LF.f_forest_fewest (fCons (fVar 14) (fCons (fOp2 gAdd (fTup (fCons (fC (.int 0)) (fNil))) (fVar 15)) (fCons (fOp2 gAdd (fTup (fCons (fC (.int 0)) (fNil))) (fVar 16)) (fNil))))) (fCall LF.f_forest_fewest (fCons (fVar 2) (fCons (fVar 7) (fCons (fVar 9) (fNil)))))))) (sRet (up (fC (.bool false)))) (sNext))
    (sSeq (sIf (up (fBl (fOp2 gNe (fCall LF.f_forest_light_ways (fCons (fVar 14) (fCons (fTup (fNil)) (fCons (fOp1 gRgT (fOp2 gAdd (fVar 4) (fC (.int 1)))) (fNil))))) (fCall LF.f_forest_light_ways (fCons (fVar 2) (fCons (fTup (fNil)) (fCons (fOp1 gRgT (fVar 4)) (fNil)))))))) (sRet (up (fC (.bool false)))) (sNext))
    (sSeq (sAsg 17 (mSh (up (fLc [19] (.one 19) (iSeq (fVar 9)) (fBl (fOp2 (gIn true) (fVar 19) (fVar 7))) (fVar 19)))))
    (sSeq (sIf (up (fAnd (fBl (fOp2 gNe (fVar 17) (fLst (fNil)))) (fAnd (fBl (fOp2 gEq (fVar 7) (fTup (fNil)))) (fBl (fOp2 gNe (fSl (fCall LF.f_forest_spare (fCons (fVar 14) (fCons (fVar 15) (fCons (fVar 16) (fNil))))) fNoP (fPart (fC (.int 1)))) (fTup (fCons (fC (.int 0)) (fNil)))))))) (sRet (up (fC (.bool false)))) (sNext))
    (sSeq (sAsg 18 (mSh (xCallI 1 LF.f_law_row_burning (xCons (up (fVar 4)) (up fNil)))))
    (sRet (up (fOp2 gLe (fCall LF.f_forest_fewest (fCons (fVar 2) (fCons (fVar 7) (fCons (fVar 18) (fNil))))) (fOp2 gAdd (fCall LF.f_forest_fewest (fCons (fVar 2) (fCons (fVar 7) (fCons (fVar 9) (fNil))))) (fCall LF.f_forest_fewest (fCons (fVar 2) (fCons (fVar 9) (fCons (fVar 18) (fNil)))))))))))))))))))))))))))
def f_k74 : List D → Option D := runP 20 b_k74
end LF
end
section
set_option Elab.async false
set_option linter.all false
set_option maxRecDepth 100000
/-! The first steps with data: numbers, loops, comprehensions. -/
namespace LF
open PySem DL
open L2 (atI ixN)
theorem dlt_i (a b : Int) : PySem.W.dataLt (.int a) (.int b) = decide (a < b) := by
  show PyProof.Rows.lexLt PyProof.Rows.itemOrd [Sum.inl a] [Sum.inl b] = _
  simp [PyProof.Rows.lexLt, PyProof.Rows.itemLt]
theorem gLt_i (a b : Int) : gLt (.int a) (.int b) = some (.bool (decide (a < b))) := by
  show (if true = true then _ else _) = _
  rw [if_pos rfl, dlt_i]
theorem gGt_i (a b : Int) : gGt (.int a) (.int b) = some (.bool (decide (b < a))) := by
  show (if true = true then _ else _) = _
  rw [if_pos rfl, dlt_i]
theorem gLe_i (a b : Int) : gLe (.int a) (.int b) = some (.bool (decide (a ≤ b))) := by
  show (if true = true then some (PyData.bool (!PySem.W.dataLt (.int b) (.int a))) else _) = _
  rw [if_pos rfl, dlt_i]
  by_cases h : a ≤ b
  · rw [decide_eq_true h, decide_eq_false (by omega)]; rfl
  · rw [decide_eq_false h, decide_eq_true (by omega)]; rfl
theorem gGe_i (a b : Int) : gGe (.int a) (.int b) = some (.bool (decide (b ≤ a))) := by
  show (if true = true then some (PyData.bool (!PySem.W.dataLt (.int a) (.int b))) else _) = _
  rw [if_pos rfl, dlt_i]
  by_cases h : b ≤ a
  · rw [decide_eq_true h, decide_eq_false (by omega)]; rfl
  · rw [decide_eq_false h, decide_eq_true (by omega)]; rfl
theorem gEq_i (a b : Int) : gEq (.int a) (.int b) = some (.bool (a == b)) := rfl
theorem gNe_i (a b : Int) : gNe (.int a) (.int b) = some (.bool (!(a == b))) := rfl
theorem gAdd_i (a b : Int) : gAdd (.int a) (.int b) = some (.int (a + b)) := rfl
theorem gSub_i (a b : Int) : gSub (.int a) (.int b) = some (.int (a - b)) := rfl
theorem gMul_r (a b : Int) (h : smI b = true) : gMulI (.int a) (.int b) = some (.int (a * b)) := by
  show (if (smI a || smI b) = true then some (PyData.int (a * b)) else none) = _
  rw [h, Bool.or_true]; rfl
theorem gDiv_i (a b : Int) (h : 0 < b) (h2 : b < 1073741824) : gDiv (.int a) (.int b) = some (.int (a / b)) := by
  show (if (decide (0 < b) && decide (b < 18446744073709551616)) = true then some (PyData.int (a / b)) else none) = _
  rw [decide_eq_true h, decide_eq_true (by omega)]; rfl
theorem gMod_i (a b : Int) (h : 0 < b) : gMod (.int a) (.int b) = some (.int (a % b)) := by
  show (if decide (0 < b) = true then some (PyData.int (a % b)) else none) = _
  rw [decide_eq_true h]; rfl
/-! ### the state of a script that is read -/
structure Row (ls : List D) : Prop where
  ex : ∃ (ns : List Int) (p : Nat) (s r : Int), ls = [.list (ns.map .int), .int p, .int s, .int r]
theorem atI_at {α : Type} {xs : List α} {i : Nat} {d : α} (h : xs[i]? = some d) : atI xs (i : Int) = some d := by
  have hi : i < xs.length := (List.getElem?_eq_some_iff.mp h).1
  unfold atI
  have : ixN xs.length (i : Int) = some i := by
    unfold ixN
    rw [if_pos (by omega), if_pos (by omega)]
    simp
  rw [this]
  exact h
theorem ix0 {α : Type} (x : α) (xs : List α) : atI (x :: xs) 0 = some x := atI_at (i := 0) rfl
theorem ix1 {α : Type} (x y : α) (xs : List α) : atI (x :: y :: xs) 1 = some y := atI_at (i := 1) rfl
theorem ix2 {α : Type} (x y z : α) (xs : List α) : atI (x :: y :: z :: xs) 2 = some z := atI_at (i := 2) rfl
theorem ix3 {α : Type} (x y z w : α) (xs : List α) : atI (x :: y :: z :: w :: xs) 3 = some w := atI_at (i := 3) rfl
theorem gIxL (xs : List D) (i : Int) : gIx (.list xs) (.int i) = atI xs i := rfl
theorem gIxT (xs : List D) (i : Int) : gIx (.tuple xs) (.int i) = atI xs i := rfl
theorem gLenL (xs : List D) : gLen (.list xs) = some (.int xs.length) := rfl
theorem gLenT (xs : List D) : gLen (.tuple xs) = some (.int xs.length) := rfl
theorem gInt_i (a : Int) : gInt (.int a) = some (.int a) := rfl
theorem ixn0 {n : Nat} : ixN (n + 1) 0 = some 0 := by unfold ixN; rw [if_pos (by omega), if_pos (by omega)]; rfl
theorem ixn1 {n : Nat} : ixN (n + 1 + 1) 1 = some 1 := by unfold ixN; rw [if_pos (by omega), if_pos (by omega)]; rfl
theorem ixn2 {n : Nat} : ixN (n + 1 + 1 + 1) 2 = some 2 := by unfold ixN; rw [if_pos (by omega), if_pos (by omega)]; rfl
theorem ixn3 {n : Nat} : ixN (n + 1 + 1 + 1 + 1) 3 = some 3 := by unfold ixN; rw [if_pos (by omega), if_pos (by omega)]; rfl
theorem taken_ok {ls : List D} (R : Row ls) {m : Int} (h : 0 < m) (h2 : m < 1073741824) : ∃ (r : Int) (ls' : List D), f_law_taken ls [.int m] = some (.int r, ls') ∧ 0 ≤ r ∧ r < m ∧ Row ls' := by
  obtain ⟨ns, p, s, r, rfl⟩ := R.ex
  have m0 : ∀ a : Int, 0 ≤ a % m ∧ a % m < m := fun a => ⟨Int.emod_nonneg a (by omega), Int.emod_lt_of_pos a h⟩
  have k1 := gMod_i
  have k2 : ∀ a, gMod (.int a) (.int m) = some (.int (a % m)) := fun a => gMod_i a m h
  have k3 : ∀ a, gDiv (.int a) (.int m) = some (.int (a / m)) := fun a => gDiv_i a m h h2
  have k4 : ∀ a, gMod (.int a) (.int 2147483647) = some (.int (a % 2147483647)) := fun a => gMod_i a _ (by decide)
  have k5 : ∀ a, gDiv (.int a) (.int 7) = some (.int (a / 7)) := fun a => gDiv_i a _ (by decide) (by decide)
  have k6 : ∀ a, gMulI (.int a) (.int 48271) = some (.int (a * 48271)) := fun a => gMul_r a _ rfl
  unfold f_law_taken DL.runI b_law_taken
  simp only [sSeq, sIf, sAsg, sAll, sUnp, sRet, sDrop, sNext, sBreak, sFor, sForX, sApp, sPut, sAug, sFrz, sNever, frz1, putB, mSh, mOw, mNil, mCons, up, fBl, fNot, fAnd, fOr, fIf, fAndV, fOrV, fNotV, fOp1, fOp2, fOwn, fVar, fC, fNil, fCons, fTup, fLst, fCall, fYes, xBl, xNot, xAnd, xOr, xIf, xOp1, xOp2, xCons, xTup, xLst, xCall, xCallI, xPop, ownOf, ioOf, B.put, iSeq, iRg1, iRg2, iEn, seqD, itemsD, setT, setTs, wipeB, startB, startI, fChain, List.map_cons, List.map_nil, List.length_cons, List.length_nil, List.cons_append, List.nil_append, List.replicate_succ, List.replicate_zero, Nat.add_zero, Nat.zero_add, Nat.reduceAdd, Nat.reduceSub, Nat.sub_self, List.getElem?_cons_zero, List.getElem?_cons_succ, List.set_cons_zero, List.set_cons_succ, Option.bind_some, Option.bind_none, Option.map_some, Option.map_none, Bool.false_eq_true, if_true, if_false, if_pos, reduceIte, Bool.not_true, Bool.not_false, gIxL, gIxT, ix0, ix1, ix2, ix3, gLenL, gLenT, gInt_i, gTuple, gList, gAdd_i, gSub_i, gGt_i, gLt_i, gGe_i, gLe_i, gEq_i, gNe_i, ixn1, ixn2, ixn3, ixn0]
  by_cases hr : 0 < r
  · simp only [sSeq, sIf, sAsg, sAll, sUnp, sRet, sDrop, sNext, sBreak, sFor, sForX, sApp, sPut, sAug, sFrz, sNever, frz1, putB, mSh, mOw, mNil, mCons, up, fBl, fNot, fAnd, fOr, fIf, fAndV, fOrV, fNotV, fOp1, fOp2, fOwn, fVar, fC, fNil, fCons, fTup, fLst, fCall, fYes, xBl, xNot, xAnd, xOr, xIf, xOp1, xOp2, xCons, xTup, xLst, xCall, xCallI, xPop, ownOf, ioOf, B.put, iSeq, iRg1, iRg2, iEn, seqD, itemsD, setT, setTs, wipeB, startB, startI, fChain, List.map_cons, List.map_nil, List.length_cons, List.length_nil, List.cons_append, List.nil_append, List.replicate_succ, List.replicate_zero, Nat.add_zero, Nat.zero_add, Nat.reduceAdd, Nat.reduceSub, Nat.sub_self, List.getElem?_cons_zero, List.getElem?_cons_succ, List.set_cons_zero, List.set_cons_succ, Option.bind_some, Option.bind_none, Option.map_some, Option.map_none, Bool.false_eq_true, if_true, if_false, if_pos, reduceIte, Bool.not_true, Bool.not_false, gIxL, gIxT, ix0, ix1, ix2, ix3, gLenL, gLenT, gInt_i, gTuple, gList, gAdd_i, gSub_i, gGt_i, gLt_i, gGe_i, gLe_i, gEq_i, gNe_i, ixn1, ixn2, ixn3, ixn0, hr, decide_true, k2, k3]
    refine ⟨r % m, _, rfl, (m0 _).1, (m0 _).2, ⟨ns, p, s, r / m, rfl⟩⟩
  · simp only [sSeq, sIf, sAsg, sAll, sUnp, sRet, sDrop, sNext, sBreak, sFor, sForX, sApp, sPut, sAug, sFrz, sNever, frz1, putB, mSh, mOw, mNil, mCons, up, fBl, fNot, fAnd, fOr, fIf, fAndV, fOrV, fNotV, fOp1, fOp2, fOwn, fVar, fC, fNil, fCons, fTup, fLst, fCall, fYes, xBl, xNot, xAnd, xOr, xIf, xOp1, xOp2, xCons, xTup, xLst, xCall, xCallI, xPop, ownOf, ioOf, B.put, iSeq, iRg1, iRg2, iEn, seqD, itemsD, setT, setTs, wipeB, startB, startI, fChain, List.map_cons, List.map_nil, List.length_cons, List.length_nil, List.cons_append, List.nil_append, List.replicate_succ, List.replicate_zero, Nat.add_zero, Nat.zero_add, Nat.reduceAdd, Nat.reduceSub, Nat.sub_self, List.getElem?_cons_zero, List.getElem?_cons_succ, List.set_cons_zero, List.set_cons_succ, Option.bind_some, Option.bind_none, Option.map_some, Option.map_none, Bool.false_eq_true, if_true, if_false, if_pos, reduceIte, Bool.not_true, Bool.not_false, gIxL, gIxT, ix0, ix1, ix2, ix3, gLenL, gLenT, gInt_i, gTuple, gList, gAdd_i, gSub_i, gGt_i, gLt_i, gGe_i, gLe_i, gEq_i, gNe_i, ixn1, ixn2, ixn3, ixn0, hr, decide_false, List.length_map]
    by_cases hq : (ns.length : Int) < (p : Int) + 1
    · simp only [sSeq, sIf, sAsg, sAll, sUnp, sRet, sDrop, sNext, sBreak, sFor, sForX, sApp, sPut, sAug, sFrz, sNever, frz1, putB, mSh, mOw, mNil, mCons, up, fBl, fNot, fAnd, fOr, fIf, fAndV, fOrV, fNotV, fOp1, fOp2, fOwn, fVar, fC, fNil, fCons, fTup, fLst, fCall, fYes, xBl, xNot, xAnd, xOr, xIf, xOp1, xOp2, xCons, xTup, xLst, xCall, xCallI, xPop, ownOf, ioOf, B.put, iSeq, iRg1, iRg2, iEn, seqD, itemsD, setT, setTs, wipeB, startB, startI, fChain, List.map_cons, List.map_nil, List.length_cons, List.length_nil, List.cons_append, List.nil_append, List.replicate_succ, List.replicate_zero, Nat.add_zero, Nat.zero_add, Nat.reduceAdd, Nat.reduceSub, Nat.sub_self, List.getElem?_cons_zero, List.getElem?_cons_succ, List.set_cons_zero, List.set_cons_succ, Option.bind_some, Option.bind_none, Option.map_some, Option.map_none, Bool.false_eq_true, if_true, if_false, if_pos, reduceIte, Bool.not_true, Bool.not_false, gIxL, gIxT, ix0, ix1, ix2, ix3, gLenL, gLenT, gInt_i, gTuple, gList, gAdd_i, gSub_i, gGt_i, gLt_i, gGe_i, gLe_i, gEq_i, gNe_i, ixn1, ixn2, ixn3, ixn0, hq, decide_true, k6, k4, k5, k2]
      exact ⟨_, _, rfl, (m0 _).1, (m0 _).2, ⟨ns, p + 1, _, _, rfl⟩⟩
    · have hc : ∃ c, ns[p]? = some c := ⟨_, List.getElem?_eq_getElem (show p < ns.length by omega)⟩
      obtain ⟨c, hc⟩ := hc
      have hc : atI (ns.map PyData.int) (p : Int) = some (.int c) := atI_at (by rw [List.getElem?_map, hc]; rfl)
      have k7 : gPow (.int 10) (.int 18) = some (.int 1000000000000000000) := by rfl
      simp only [sSeq, sIf, sAsg, sAll, sUnp, sRet, sDrop, sNext, sBreak, sFor, sForX, sApp, sPut, sAug, sFrz, sNever, frz1, putB, mSh, mOw, mNil, mCons, up, fBl, fNot, fAnd, fOr, fIf, fAndV, fOrV, fNotV, fOp1, fOp2, fOwn, fVar, fC, fNil, fCons, fTup, fLst, fCall, fYes, xBl, xNot, xAnd, xOr, xIf, xOp1, xOp2, xCons, xTup, xLst, xCall, xCallI, xPop, ownOf, ioOf, B.put, iSeq, iRg1, iRg2, iEn, seqD, itemsD, setT, setTs, wipeB, startB, startI, fChain, List.map_cons, List.map_nil, List.length_cons, List.length_nil, List.cons_append, List.nil_append, List.replicate_succ, List.replicate_zero, Nat.add_zero, Nat.zero_add, Nat.reduceAdd, Nat.reduceSub, Nat.sub_self, List.getElem?_cons_zero, List.getElem?_cons_succ, List.set_cons_zero, List.set_cons_succ, Option.bind_some, Option.bind_none, Option.map_some, Option.map_none, Bool.false_eq_true, if_true, if_false, if_pos, reduceIte, Bool.not_true, Bool.not_false, gIxL, gIxT, ix0, ix1, ix2, ix3, gLenL, gLenT, gInt_i, gTuple, gList, gAdd_i, gSub_i, gGt_i, gLt_i, gGe_i, gLe_i, gEq_i, gNe_i, ixn1, ixn2, ixn3, ixn0, hq, decide_false, Int.add_sub_cancel, hc, k6, k4, k7]
      by_cases h9 : 1000000000000000000 ≤ c
      · simp only [sSeq, sIf, sAsg, sAll, sUnp, sRet, sDrop, sNext, sBreak, sFor, sForX, sApp, sPut, sAug, sFrz, sNever, frz1, putB, mSh, mOw, mNil, mCons, up, fBl, fNot, fAnd, fOr, fIf, fAndV, fOrV, fNotV, fOp1, fOp2, fOwn, fVar, fC, fNil, fCons, fTup, fLst, fCall, fYes, xBl, xNot, xAnd, xOr, xIf, xOp1, xOp2, xCons, xTup, xLst, xCall, xCallI, xPop, ownOf, ioOf, B.put, iSeq, iRg1, iRg2, iEn, seqD, itemsD, setT, setTs, wipeB, startB, startI, fChain, List.map_cons, List.map_nil, List.length_cons, List.length_nil, List.cons_append, List.nil_append, List.replicate_succ, List.replicate_zero, Nat.add_zero, Nat.zero_add, Nat.reduceAdd, Nat.reduceSub, Nat.sub_self, List.getElem?_cons_zero, List.getElem?_cons_succ, List.set_cons_zero, List.set_cons_succ, Option.bind_some, Option.bind_none, Option.map_some, Option.map_none, Bool.false_eq_true, if_true, if_false, if_pos, reduceIte, Bool.not_true, Bool.not_false, gIxL, gIxT, ix0, ix1, ix2, ix3, gLenL, gLenT, gInt_i, gTuple, gList, gAdd_i, gSub_i, gGt_i, gLt_i, gGe_i, gLe_i, gEq_i, gNe_i, ixn1, ixn2, ixn3, ixn0, h9, decide_true, k2, k3]
        exact ⟨_, _, rfl, (m0 _).1, (m0 _).2, ⟨ns, p + 1, _, _, rfl⟩⟩
      · simp only [sSeq, sIf, sAsg, sAll, sUnp, sRet, sDrop, sNext, sBreak, sFor, sForX, sApp, sPut, sAug, sFrz, sNever, frz1, putB, mSh, mOw, mNil, mCons, up, fBl, fNot, fAnd, fOr, fIf, fAndV, fOrV, fNotV, fOp1, fOp2, fOwn, fVar, fC, fNil, fCons, fTup, fLst, fCall, fYes, xBl, xNot, xAnd, xOr, xIf, xOp1, xOp2, xCons, xTup, xLst, xCall, xCallI, xPop, ownOf, ioOf, B.put, iSeq, iRg1, iRg2, iEn, seqD, itemsD, setT, setTs, wipeB, startB, startI, fChain, List.map_cons, List.map_nil, List.length_cons, List.length_nil, List.cons_append, List.nil_append, List.replicate_succ, List.replicate_zero, Nat.add_zero, Nat.zero_add, Nat.reduceAdd, Nat.reduceSub, Nat.sub_self, List.getElem?_cons_zero, List.getElem?_cons_succ, List.set_cons_zero, List.set_cons_succ, Option.bind_some, Option.bind_none, Option.map_some, Option.map_none, Bool.false_eq_true, if_true, if_false, if_pos, reduceIte, Bool.not_true, Bool.not_false, gIxL, gIxT, ix0, ix1, ix2, ix3, gLenL, gLenT, gInt_i, gTuple, gList, gAdd_i, gSub_i, gGt_i, gLt_i, gGe_i, gLe_i, gEq_i, gNe_i, ixn1, ixn2, ixn3, ixn0, h9, decide_false, k2, k3]
        exact ⟨_, _, rfl, (m0 _).1, (m0 _).2, ⟨ns, p + 1, _, _, rfl⟩⟩
end LF
end
section
set_option Elab.async false
set_option linter.all false
set_option maxRecDepth 100000
/-! Loops; the webs that a script draws. -/
namespace LF
open PySem DL
open L2 (atI ixN)
theorem forL_inv {t : Tg} {f : Fm → Option (Fl × Fm)} (I : Nat → Fm → Prop) : ∀ (ds : List D) (k : Nat) (ρ : Fm), I k ρ →
    (∀ i d ρ, ds[i]? = some d → I (k + i) ρ → ∃ ρ1 ρ', setT t d ρ = some ρ1 ∧ f ρ1 = some (.nx, ρ') ∧ I (k + i + 1) ρ') → ∃ ρ', forL t f ds ρ = some (.nx, ρ') ∧ I (k + ds.length) ρ'
  | [], k, ρ, h, _ => ⟨ρ, rfl, h⟩
  | d :: ds, k, ρ, h, st => by
    obtain ⟨ρ1, ρ2, e1, e2, h2⟩ := st 0 d ρ rfl h
    obtain ⟨ρ3, e3, h3⟩ := forL_inv I ds (k + 1) ρ2 h2 fun i d' ρ' hd hI => by
      have := st (i + 1) d' ρ' hd (by rw [show k + (i + 1) = k + 1 + i by omega]; exact hI)
      rw [show k + (i + 1) + 1 = k + 1 + i + 1 by omega] at this
      exact this
    refine ⟨ρ3, ?_, by rw [show k + (d :: ds).length = k + 1 + ds.length by rw [List.length_cons]; omega]; exact h3⟩
    rw [forL, e1, Option.bind_some, e2, Option.bind_some]
    exact e3
theorem lcP_map {α : Type} {enc : α → D} {t : Tg} {fc : Fm → Option Bool} {fe : Fm → Option D} {ρ : Fm} (p : α → Bool) (q : α → D) : ∀ {xs : List α}, (∀ x ∈ xs, ∃ ρ1, setT t (enc x) ρ = some ρ1 ∧ fc ρ1 = some (p x) ∧ (p x = true → fe ρ1 = some (q x))) → lcP t fc fe ρ (xs.map enc) = some ((xs.filter p).map q)
  | [], _ => rfl
  | x :: xs, h => by
    obtain ⟨ρ1, e1, e2, e3⟩ := h x List.mem_cons_self
    have ih := lcP_map (fc := fc) p q fun y hy => h y (List.mem_cons_of_mem _ hy)
    rw [List.map_cons, lcP, e1, Option.bind_some, e2, Option.bind_some]
    cases hp : p x with
    | true => rw [if_pos rfl, e3 hp, Option.bind_some, ih, List.filter_cons_of_pos hp]; rfl
    | false => rw [if_neg (by decide), ih, List.filter_cons_of_neg (by rw [hp]; decide)]
theorem lcP_all {α : Type} {enc : α → D} {t : Tg} {fe : Fm → Option D} {ρ : Fm} (q : α → D) {xs : List α} (h : ∀ x ∈ xs, ∃ ρ1, setT t (enc x) ρ = some ρ1 ∧ fe ρ1 = some (q x)) : lcP t fYes fe ρ (xs.map enc) = some (xs.map q) := by
  have := lcP_map (fc := fYes) (fun _ => true) q (xs := xs) fun x hx => let ⟨r, a, b⟩ := h x hx; ⟨r, a, rfl, fun _ => b⟩
  rwa [List.filter_eq_self.mpr fun _ _ => rfl] at this
theorem fLc_map {α : Type} {enc : α → D} {vs : List Nat} {t : Tg} {fi : Fm → Option (List D)} {fc : Fm → Option Bool} {fe : Fm → Option D} {ρ : Fm} (p : α → Bool) (q : α → D) {xs : List α} (hi : fi ρ = some (xs.map enc)) (hz : xs.length ≤ bigN) (h : ∀ x ∈ xs, ∃ ρ1, setT t (enc x) (wipeB ρ vs) = some ρ1 ∧ fc ρ1 = some (p x) ∧ (p x = true → fe ρ1 = some (q x))) :
    fLc vs t fi fc fe ρ = some (.list ((xs.filter p).map q)) := by
  unfold fLc
  rw [hi, Option.bind_some, if_pos (by rw [List.length_map]; exact hz), lcP_map p q h]
  rfl
theorem fLc_all {α : Type} {enc : α → D} {vs : List Nat} {t : Tg} {fi : Fm → Option (List D)} {fe : Fm → Option D} {ρ : Fm} (q : α → D) {xs : List α} (hi : fi ρ = some (xs.map enc)) (hz : xs.length ≤ bigN) (h : ∀ x ∈ xs, ∃ ρ1, setT t (enc x) (wipeB ρ vs) = some ρ1 ∧ fe ρ1 = some (q x)) :
    fLc vs t fi fYes fe ρ = some (.list (xs.map q)) := by
  unfold fLc
  rw [hi, Option.bind_some, if_pos (by rw [List.length_map]; exact hz), lcP_all q h]
  rfl
theorem seq_go {f g : Fm → Option (Fl × Fm)} {ρ ρ1 : Fm} {r : Option (Fl × Fm)} (h : f ρ = some (.nx, ρ1)) (k : g ρ1 = r) : sSeq f g ρ = r := by
  unfold sSeq
  rw [h]; exact k
theorem seq_rt {f g : Fm → Option (Fl × Fm)} {ρ ρ1 : Fm} {d : D} (h : f ρ = some (.rt d, ρ1)) : sSeq f g ρ = some (.rt d, ρ1) := by
  unfold sSeq
  rw [h]; rfl
theorem runI_rt {n : Nat} {f : Fm → Option (Fl × Fm)} {ls ds ls' : List D} {ρ' : Fm} {d : D} (h : f (startI n ls ds) = some (.rt d, ρ')) (h0 : ioOf ρ'[0]? = some ls') : DL.runI n f ls ds = some (d, ls') := by
  unfold DL.runI
  rw [h, Option.bind_some]
  simp only [h0, Option.map_some]
theorem runP_rt {n : Nat} {f : Fm → Option (Fl × Fm)} {ds : List D} {ρ' : Fm} {d : D} (h : f (startB n ds) = some (.rt d, ρ')) : DL.runP n f ds = some d := by
  unfold DL.runP
  rw [h]; rfl
theorem runP_nx {n : Nat} {f : Fm → Option (Fl × Fm)} {ds : List D} {ρ' : Fm} (h : f (startB n ds) = some (.nx, ρ')) : DL.runP n f ds = some .none := by
  unfold DL.runP
  rw [h]; rfl
theorem for_go {t : Tg} {fi : Fm → Option (List D)} {f : Fm → Option (Fl × Fm)} {ρ : Fm} {ds : List D} {r : Option (Fl × Fm)} (h : fi ρ = some ds) (k : forL t f ds ρ = r) : sFor t fi f ρ = r := by
  unfold sFor
  rw [h]; exact k
theorem if_go {c : Fm → Option (Bool × Fm)} {f g : Fm → Option (Fl × Fm)} {ρ ρ1 : Fm} {b : Bool} {r : Option (Fl × Fm)} (h : c ρ = some (b, ρ1)) (k : (if b = true then f ρ1 else g ρ1) = r) : sIf c f g ρ = r := by
  unfold sIf
  rw [h]; exact k
theorem rngN {n : Int} (h : 0 ≤ n) : rngD 0 n.toNat = (List.range n.toNat).map fun i : Nat => .int (i : Int) := by
  unfold rngD
  simp
theorem rng_at {lo : Int} {n i : Nat} {d : D} (h : (rngD lo n)[i]? = some d) : i < n ∧ d = .int (lo + i) := by
  unfold rngD at h
  rw [List.getElem?_map] at h
  obtain ⟨j, h1, h2⟩ := Option.map_eq_some_iff.mp h
  obtain ⟨hi, h3⟩ := List.getElem?_eq_some_iff.mp h1
  rw [List.getElem_range] at h3
  subst h3
  exact ⟨by simpa using hi, h2.symm⟩
theorem rng_len (lo : Int) (n : Nat) : (rngD lo n).length = n := by unfold rngD; simp
theorem smR_of {i : Int} (h : -1000000 ≤ i) (h2 : i ≤ 1000000) : smR i = true := by
  unfold smR
  rw [decide_eq_true (by omega), decide_eq_true (by omega)]; rfl
theorem pick_ok {ls xs : List D} (R : Row ls) (h : xs ≠ []) (hz : xs.length < 1000000) : ∃ (d : D) (ls' : List D), f_law_pick ls [.list xs] = some (d, ls') ∧ d ∈ xs ∧ Row ls' := by
  have hp : 0 < xs.length := List.length_pos_iff.mpr h
  obtain ⟨r, ls', e, h0, h1, R'⟩ := taken_ok R (m := xs.length) (by omega) (by omega)
  obtain ⟨j, rfl⟩ := Int.eq_ofNat_of_zero_le h0
  have hj : j < xs.length := by omega
  have hc : atI xs (j : Int) = some xs[j] := atI_at (List.getElem?_eq_getElem hj)
  refine ⟨xs[j], ls', ?_, List.getElem_mem hj, R'⟩
  unfold f_law_pick DL.runI b_law_pick
  simp only [sSeq, sIf, sAsg, sAll, sUnp, sRet, sDrop, sNext, sBreak, sFor, sForX, sApp, sPut, sAug, sFrz, sNever, frz1, putB, mSh, mOw, mNil, mCons, up, fBl, fNot, fAnd, fOr, fIf, fAndV, fOrV, fNotV, fOp1, fOp2, fOwn, fVar, fC, fNil, fCons, fTup, fLst, fCall, fYes, xBl, xNot, xAnd, xOr, xIf, xOp1, xOp2, xCons, xTup, xLst, xCall, xCallI, xPop, ownOf, ioOf, B.put, iSeq, iRg1, iRg2, iEn, seqD, itemsD, setT, setTs, wipeB, startB, startI, fChain, List.map_cons, List.map_nil, List.length_cons, List.length_nil, List.cons_append, List.nil_append, List.replicate_succ, List.replicate_zero, Nat.add_zero, Nat.zero_add, Nat.reduceAdd, Nat.reduceSub, Nat.sub_self, List.getElem?_cons_zero, List.getElem?_cons_succ, List.set_cons_zero, List.set_cons_succ, Option.bind_some, Option.bind_none, Option.map_some, Option.map_none, Bool.false_eq_true, if_true, if_false, if_pos, reduceIte, Bool.not_true, Bool.not_false, gIxL, gIxT, ix0, ix1, ix2, ix3, gLenL, gLenT, gInt_i, gTuple, gList, gAdd_i, gSub_i, gGt_i, gLt_i, gGe_i, gLe_i, gEq_i, gNe_i, ixn1, ixn2, ixn3, ixn0, e, hc]
/-! ### webs -/
def prD (p : Nat × Nat) : D := .tuple [.int p.1, .int p.2]
def webD (n : Nat) (A : List (Nat × Nat)) : D := .tuple [.int n, .tuple (A.map prD)]
def ltN (p q : Nat × Nat) : Prop := p.1 < q.1 ∨ (p.1 = q.1 ∧ p.2 < q.2)
structure Web (n : Nat) (A : List (Nat × Nat)) : Prop where
  pos : 0 < n
  most : n ≤ 9
  asc : A.Pairwise ltN
  ok : ∀ p ∈ A, p.1 < p.2 ∧ p.2 < n
end LF
end
section
set_option Elab.async false
set_option linter.all false
set_option maxRecDepth 100000
/-! Webs that are asked about; answers that are alike. -/
namespace LF
open PySem DL
open L2 (atI ixN)
theorem isa_int (v : Int) : gIsa ["int"] (.int v) = some (.bool true) := rfl
theorem isa_bool (v : Int) : gIsa ["bool"] (.int v) = some (.bool false) := rfl
theorem is_in_i (v lo hi : Int) : f_is_in [.int v, .int lo, .int hi] = some (.bool (decide (lo ≤ v) && decide (v ≤ hi))) := by
  unfold f_is_in b_is_in
  by_cases h : lo ≤ v
  · exact runP_rt (ρ' := [.sh (.int v), .sh (.int lo), .sh (.int hi)]) (by simp only [sSeq, sIf, sAsg, sAll, sUnp, sRet, sDrop, sNext, sBreak, sFor, sForX, sApp, sPut, sAug, sFrz, sNever, frz1, putB, mSh, mOw, mNil, mCons, up, fBl, fNot, fAnd, fOr, fIf, fAndV, fOrV, fNotV, fOp1, fOp2, fOwn, fVar, fC, fNil, fCons, fTup, fLst, fCall, fYes, xBl, xNot, xAnd, xOr, xIf, xOp1, xOp2, xCons, xTup, xLst, xCall, xCallI, xPop, ownOf, ioOf, B.put, iSeq, iRg1, iRg2, iEn, seqD, itemsD, setT, setTs, wipeB, startB, startI, fChain, List.map_cons, List.map_nil, List.length_cons, List.length_nil, List.cons_append, List.nil_append, List.replicate_succ, List.replicate_zero, Nat.add_zero, Nat.zero_add, Nat.reduceAdd, Nat.reduceSub, Nat.sub_self, List.getElem?_cons_zero, List.getElem?_cons_succ, List.set_cons_zero, List.set_cons_succ, Option.bind_some, Option.bind_none, Option.map_some, Option.map_none, Bool.false_eq_true, if_true, if_false, if_pos, reduceIte, Bool.not_true, Bool.not_false, gIxL, gIxT, ix0, ix1, ix2, ix3, gLenL, gLenT, gInt_i, gTuple, gList, gAdd_i, gSub_i, gGt_i, gLt_i, gGe_i, gLe_i, gEq_i, gNe_i, ixn1, ixn2, ixn3, ixn0, isa_int, isa_bool, h, decide_true, Bool.true_and])
  · exact runP_rt (ρ' := [.sh (.int v), .sh (.int lo), .sh (.int hi)]) (by simp only [sSeq, sIf, sAsg, sAll, sUnp, sRet, sDrop, sNext, sBreak, sFor, sForX, sApp, sPut, sAug, sFrz, sNever, frz1, putB, mSh, mOw, mNil, mCons, up, fBl, fNot, fAnd, fOr, fIf, fAndV, fOrV, fNotV, fOp1, fOp2, fOwn, fVar, fC, fNil, fCons, fTup, fLst, fCall, fYes, xBl, xNot, xAnd, xOr, xIf, xOp1, xOp2, xCons, xTup, xLst, xCall, xCallI, xPop, ownOf, ioOf, B.put, iSeq, iRg1, iRg2, iEn, seqD, itemsD, setT, setTs, wipeB, startB, startI, fChain, List.map_cons, List.map_nil, List.length_cons, List.length_nil, List.cons_append, List.nil_append, List.replicate_succ, List.replicate_zero, Nat.add_zero, Nat.zero_add, Nat.reduceAdd, Nat.reduceSub, Nat.sub_self, List.getElem?_cons_zero, List.getElem?_cons_succ, List.set_cons_zero, List.set_cons_succ, Option.bind_some, Option.bind_none, Option.map_some, Option.map_none, Bool.false_eq_true, if_true, if_false, if_pos, reduceIte, Bool.not_true, Bool.not_false, gIxL, gIxT, ix0, ix1, ix2, ix3, gLenL, gLenT, gInt_i, gTuple, gList, gAdd_i, gSub_i, gGt_i, gLt_i, gGe_i, gLe_i, gEq_i, gNe_i, ixn1, ixn2, ixn3, ixn0, isa_int, isa_bool, h, decide_false, Bool.false_and])
theorem is_in_yes {v lo hi : Int} (h : lo ≤ v) (h2 : v ≤ hi) : f_is_in [.int v, .int lo, .int hi] = some (.bool true) := by
  rw [is_in_i, decide_eq_true h, decide_eq_true h2]; rfl
theorem webD0 (n : Nat) (A : List (Nat × Nat)) : gIx (webD n A) (.int 0) = some (.int n) := rfl
theorem webD1 (n : Nat) (A : List (Nat × Nat)) : gIx (webD n A) (.int 1) = some (.tuple (A.map prD)) := rfl
theorem ndA_all : ∀ {xs : List D}, (∀ x ∈ xs, nd x = true) → ndA xs = true
  | [], _ => rfl
  | x :: xs, h => by rw [ndA, h x List.mem_cons_self, ndA_all fun y hy => h y (List.mem_cons_of_mem _ hy)]; rfl
theorem isa_tup {xs : List D} (h : ndA xs = true) : gIsa ["tuple"] (.tuple xs) = some (.bool true) := by
  unfold gIsa
  rw [show nd (.tuple xs) = true from h]; rfl
end LF
end
section
set_option Elab.async false
set_option linter.all false
set_option maxRecDepth 100000
/-! Data without dicts, of few depths: alike to itself. -/
namespace LF
open PySem DL
open L2 (atI ixN)
/-- no dict in it, of at most k depths -/
structure Pl (k : Nat) (d : D) : Prop where
  lay : PyData.canLay0 d = true
  dep : d.depth ≤ k
theorem Pl.int (k : Nat) (i : Int) : Pl k (.int i) := ⟨rfl, Nat.zero_le _⟩
theorem Pl.bool (k : Nat) (b : Bool) : Pl k (.bool b) := ⟨rfl, Nat.zero_le _⟩
theorem Pl.none (k : Nat) : Pl k .none := ⟨rfl, Nat.zero_le _⟩
theorem pl_all {k : Nat} : ∀ {xs : List D}, (∀ x ∈ xs, Pl k x) → PyData.canLayAll0 xs = true ∧ PyData.depthAll xs ≤ k
  | [], _ => ⟨rfl, Nat.zero_le _⟩
  | x :: xs, h => by
    obtain ⟨a, b⟩ := pl_all fun y hy => h y (List.mem_cons_of_mem _ hy)
    have p := h x List.mem_cons_self
    refine ⟨?_, ?_⟩
    · rw [PyData.canLayAll0, p.lay, a]; rfl
    · rw [PyData.depthAll]
      exact Nat.max_le.mpr ⟨p.dep, b⟩
theorem all_pl {k : Nat} : ∀ {xs : List D}, PyData.canLayAll0 xs = true → PyData.depthAll xs ≤ k → ∀ x ∈ xs, Pl k x
  | [], _, _, x, h => by simp at h
  | y :: xs, a, b, x, h => by
    rw [PyData.canLayAll0, Bool.and_eq_true] at a
    rw [PyData.depthAll] at b
    rcases List.mem_cons.mp h with rfl | h
    · exact ⟨a.1, (Nat.max_le.mp b).1⟩
    · exact all_pl a.2 (Nat.max_le.mp b).2 x h
theorem Pl.tup {k : Nat} {xs : List D} (h : ∀ x ∈ xs, Pl k x) : Pl (k + 1) (.tuple xs) :=
  ⟨by rw [PyData.canLay0]; exact (pl_all h).1, by rw [PyData.depth]; exact Nat.succ_le_succ (pl_all h).2⟩
theorem Pl.lst {k : Nat} {xs : List D} (h : ∀ x ∈ xs, Pl k x) : Pl (k + 1) (.list xs) :=
  ⟨by rw [PyData.canLay0]; exact (pl_all h).1, by rw [PyData.depth]; exact Nat.succ_le_succ (pl_all h).2⟩
theorem Pl.of_tup {k : Nat} {xs : List D} (h : Pl (k + 1) (.tuple xs)) : ∀ x ∈ xs, Pl k x := by
  have a := h.lay
  have b := h.dep
  rw [PyData.canLay0] at a
  rw [PyData.depth] at b
  exact all_pl a (Nat.le_of_succ_le_succ b)
theorem Pl.of_lst {k : Nat} {xs : List D} (h : Pl (k + 1) (.list xs)) : ∀ x ∈ xs, Pl k x := by
  have a := h.lay
  have b := h.dep
  rw [PyData.canLay0] at a
  rw [PyData.depth] at b
  exact all_pl a (Nat.le_of_succ_le_succ b)
theorem Pl.mono {j k : Nat} {d : D} (h : Pl j d) (e : j ≤ k) : Pl k d := ⟨h.lay, Nat.le_trans h.dep e⟩
theorem Pl.nd {k : Nat} {d : D} (h : Pl k d) : DL.nd d = true := nd_lay h.lay
theorem Pl.okD {k : Nat} {d : D} (h : Pl k d) (hk : k ≤ 64) : DL.okD d = true := by
  show SeqAt.shaped d = true
  unfold SeqAt.shaped
  rw [h.lay, decide_eq_true (Nat.le_trans h.dep hk)]; rfl
theorem nd_seq {k : Nat} {xs : List D} (h : ∀ x ∈ xs, Pl k x) : ndA xs = true := ndA_all fun x hx => (h x hx).nd
/-- a list or a tuple, item by item -/
theorem alike_seq {n k : Nat} {d : D} {xs : List D} (hd : d = .tuple xs ∨ d = .list xs) (h : ∀ x ∈ xs, Pl k x) (hz : xs.length ≤ 1000000) (ih : ∀ x ∈ xs, f_law_alike n [x, x] = some (.bool true)) : f_law_alike (n + 1) [d, d] = some (.bool true) := by
  have hnd : DL.nd d = true := by
    rcases hd with rfl | rfl
    · exact nd_seq h
    · exact nd_seq h
  have i1 : gIsa ["tuple", "list"] d = some (.bool true) := by
    unfold gIsa
    rw [hnd]
    rcases hd with rfl | rfl <;> rfl
  have i2 : ∃ b, gIsa ["list"] d = some (.bool b) := by
    unfold gIsa
    rw [hnd]
    exact ⟨_, rfl⟩
  obtain ⟨b, i2⟩ := i2
  have i3 : gNe (.bool b) (.bool b) = some (.bool false) := by cases b <;> rfl
  have l1 : gLen d = some (.int xs.length) := by rcases hd with rfl | rfl <;> rfl
  have ix : ∀ i : Int, gIx d (.int i) = atI xs i := fun i => by rcases hd with rfl | rfl <;> rfl
  show DL.runP 3 (b_law_alike (f_law_alike n)) [d, d] = _
  unfold b_law_alike
  have lc := fLc_map (α := Nat) (enc := fun i => .int (i : Int)) (ρ := [.sh d, .sh d, .no]) (vs := [2]) (t := .one 2) (fi := iRg1 (fOp1 gLen (fVar 1))) (fc := fNot (fBl (fCall (f_law_alike n) (fCons (fOp2 gIx (fVar 0) (fVar 2)) (fCons (fOp2 gIx (fVar 1) (fVar 2)) (fNil)))))) (fe := fVar 2) (fun _ => false) (fun i => .int (i : Int)) (xs := List.range xs.length) (by
      simp only [sSeq, sIf, sAsg, sAll, sUnp, sRet, sDrop, sNext, sBreak, sFor, sForX, sApp, sPut, sAug, sFrz, sNever, frz1, putB, mSh, mOw, mNil, mCons, up, fBl, fNot, fAnd, fOr, fIf, fAndV, fOrV, fNotV, fOp1, fOp2, fOwn, fVar, fC, fNil, fCons, fTup, fLst, fCall, fYes, xBl, xNot, xAnd, xOr, xIf, xOp1, xOp2, xCons, xTup, xLst, xCall, xCallI, xPop, ownOf, ioOf, B.put, iSeq, iRg1, iRg2, iEn, seqD, itemsD, setT, setTs, wipeB, startB, startI, fChain, List.map_cons, List.map_nil, List.length_cons, List.length_nil, List.cons_append, List.nil_append, List.replicate_succ, List.replicate_zero, Nat.add_zero, Nat.zero_add, Nat.reduceAdd, Nat.reduceSub, Nat.sub_self, List.getElem?_cons_zero, List.getElem?_cons_succ, List.set_cons_zero, List.set_cons_succ, Option.bind_some, Option.bind_none, Option.map_some, Option.map_none, Bool.false_eq_true, if_true, if_false, if_pos, reduceIte, Bool.not_true, Bool.not_false, gIxL, gIxT, ix0, ix1, ix2, ix3, gLenL, gLenT, gInt_i, gTuple, gList, gAdd_i, gSub_i, gGt_i, gLt_i, gGe_i, gLe_i, gEq_i, gNe_i, ixn1, ixn2, ixn3, ixn0, l1, smR_of (i := (xs.length : Int)) (by omega) (by omega), Option.some.injEq]
      exact rngN (by omega)) (by rw [List.length_range]; exact hz) fun i hi => by
    have hi := List.mem_range.mp hi
    have e : atI xs (i : Int) = some xs[i] := atI_at (List.getElem?_eq_getElem hi)
    exact ⟨_, rfl, by simp only [sSeq, sIf, sAsg, sAll, sUnp, sRet, sDrop, sNext, sBreak, sFor, sForX, sApp, sPut, sAug, sFrz, sNever, frz1, putB, mSh, mOw, mNil, mCons, up, fBl, fNot, fAnd, fOr, fIf, fAndV, fOrV, fNotV, fOp1, fOp2, fOwn, fVar, fC, fNil, fCons, fTup, fLst, fCall, fYes, xBl, xNot, xAnd, xOr, xIf, xOp1, xOp2, xCons, xTup, xLst, xCall, xCallI, xPop, ownOf, ioOf, B.put, iSeq, iRg1, iRg2, iEn, seqD, itemsD, setT, setTs, wipeB, startB, startI, fChain, List.map_cons, List.map_nil, List.length_cons, List.length_nil, List.cons_append, List.nil_append, List.replicate_succ, List.replicate_zero, Nat.add_zero, Nat.zero_add, Nat.reduceAdd, Nat.reduceSub, Nat.sub_self, List.getElem?_cons_zero, List.getElem?_cons_succ, List.set_cons_zero, List.set_cons_succ, Option.bind_some, Option.bind_none, Option.map_some, Option.map_none, Bool.false_eq_true, if_true, if_false, if_pos, reduceIte, Bool.not_true, Bool.not_false, gIxL, gIxT, ix0, ix1, ix2, ix3, gLenL, gLenT, gInt_i, gTuple, gList, gAdd_i, gSub_i, gGt_i, gLt_i, gGe_i, gLe_i, gEq_i, gNe_i, ixn1, ixn2, ixn3, ixn0, ix, e, ih xs[i] (List.getElem_mem hi)], fun h => by cases h⟩
  have e0 : gEq (.list []) (.list []) = some (.bool true) := rfl
  have z0 : ((0 : Nat) ≤ bigN) = True := eq_true (by decide)
  have n0 : ∀ l : List Nat, l.filter (fun _ => false) = [] := fun l => by simp
  refine runP_rt (ρ' := [.sh d, .sh d, .no]) (seq_rt (if_go (b := true) (ρ1 := [.sh d, .sh d, .no]) (by simp only [sSeq, sIf, sAsg, sAll, sUnp, sRet, sDrop, sNext, sBreak, sFor, sForX, sApp, sPut, sAug, sFrz, sNever, frz1, putB, mSh, mOw, mNil, mCons, up, fBl, fNot, fAnd, fOr, fIf, fAndV, fOrV, fNotV, fOp1, fOp2, fOwn, fVar, fC, fNil, fCons, fTup, fLst, fCall, fYes, xBl, xNot, xAnd, xOr, xIf, xOp1, xOp2, xCons, xTup, xLst, xCall, xCallI, xPop, ownOf, ioOf, B.put, iSeq, iRg1, iRg2, iEn, seqD, itemsD, setT, setTs, wipeB, startB, startI, fChain, List.map_cons, List.map_nil, List.length_cons, List.length_nil, List.cons_append, List.nil_append, List.replicate_succ, List.replicate_zero, Nat.add_zero, Nat.zero_add, Nat.reduceAdd, Nat.reduceSub, Nat.sub_self, List.getElem?_cons_zero, List.getElem?_cons_succ, List.set_cons_zero, List.set_cons_succ, Option.bind_some, Option.bind_none, Option.map_some, Option.map_none, Bool.false_eq_true, if_true, if_false, if_pos, reduceIte, Bool.not_true, Bool.not_false, gIxL, gIxT, ix0, ix1, ix2, ix3, gLenL, gLenT, gInt_i, gTuple, gList, gAdd_i, gSub_i, gGt_i, gLt_i, gGe_i, gLe_i, gEq_i, gNe_i, ixn1, ixn2, ixn3, ixn0, i1]) ?_))
  rw [if_pos rfl]
  refine seq_go (ρ1 := [.sh d, .sh d, .no]) (by simp only [sSeq, sIf, sAsg, sAll, sUnp, sRet, sDrop, sNext, sBreak, sFor, sForX, sApp, sPut, sAug, sFrz, sNever, frz1, putB, mSh, mOw, mNil, mCons, up, fBl, fNot, fAnd, fOr, fIf, fAndV, fOrV, fNotV, fOp1, fOp2, fOwn, fVar, fC, fNil, fCons, fTup, fLst, fCall, fYes, xBl, xNot, xAnd, xOr, xIf, xOp1, xOp2, xCons, xTup, xLst, xCall, xCallI, xPop, ownOf, ioOf, B.put, iSeq, iRg1, iRg2, iEn, seqD, itemsD, setT, setTs, wipeB, startB, startI, fChain, List.map_cons, List.map_nil, List.length_cons, List.length_nil, List.cons_append, List.nil_append, List.replicate_succ, List.replicate_zero, Nat.add_zero, Nat.zero_add, Nat.reduceAdd, Nat.reduceSub, Nat.sub_self, List.getElem?_cons_zero, List.getElem?_cons_succ, List.set_cons_zero, List.set_cons_succ, Option.bind_some, Option.bind_none, Option.map_some, Option.map_none, Bool.false_eq_true, if_true, if_false, if_pos, reduceIte, Bool.not_true, Bool.not_false, gIxL, gIxT, ix0, ix1, ix2, ix3, gLenL, gLenT, gInt_i, gTuple, gList, gAdd_i, gSub_i, gGt_i, gLt_i, gGe_i, gLe_i, gEq_i, gNe_i, ixn1, ixn2, ixn3, ixn0, i1, i2, i3]) ?_
  refine seq_go (ρ1 := [.sh d, .sh d, .no]) (by simp only [sSeq, sIf, sAsg, sAll, sUnp, sRet, sDrop, sNext, sBreak, sFor, sForX, sApp, sPut, sAug, sFrz, sNever, frz1, putB, mSh, mOw, mNil, mCons, up, fBl, fNot, fAnd, fOr, fIf, fAndV, fOrV, fNotV, fOp1, fOp2, fOwn, fVar, fC, fNil, fCons, fTup, fLst, fCall, fYes, xBl, xNot, xAnd, xOr, xIf, xOp1, xOp2, xCons, xTup, xLst, xCall, xCallI, xPop, ownOf, ioOf, B.put, iSeq, iRg1, iRg2, iEn, seqD, itemsD, setT, setTs, wipeB, startB, startI, fChain, List.map_cons, List.map_nil, List.length_cons, List.length_nil, List.cons_append, List.nil_append, List.replicate_succ, List.replicate_zero, Nat.add_zero, Nat.zero_add, Nat.reduceAdd, Nat.reduceSub, Nat.sub_self, List.getElem?_cons_zero, List.getElem?_cons_succ, List.set_cons_zero, List.set_cons_succ, Option.bind_some, Option.bind_none, Option.map_some, Option.map_none, Bool.false_eq_true, if_true, if_false, if_pos, reduceIte, Bool.not_true, Bool.not_false, gIxL, gIxT, ix0, ix1, ix2, ix3, gLenL, gLenT, gInt_i, gTuple, gList, gAdd_i, gSub_i, gGt_i, gLt_i, gGe_i, gLe_i, gEq_i, gNe_i, ixn1, ixn2, ixn3, ixn0, l1, beq_self_eq_true]) ?_
  simp only [sSeq, sIf, sAsg, sAll, sUnp, sRet, sDrop, sNext, sBreak, sFor, sForX, sApp, sPut, sAug, sFrz, sNever, frz1, putB, mSh, mOw, mNil, mCons, up, fBl, fNot, fAnd, fOr, fIf, fAndV, fOrV, fNotV, fOp1, fOp2, fOwn, fVar, fC, fNil, fCons, fTup, fLst, fCall, fYes, xBl, xNot, xAnd, xOr, xIf, xOp1, xOp2, xCons, xTup, xLst, xCall, xCallI, xPop, ownOf, ioOf, B.put, iSeq, iRg1, iRg2, iEn, seqD, itemsD, setT, setTs, wipeB, startB, startI, fChain, List.map_cons, List.map_nil, List.length_cons, List.length_nil, List.cons_append, List.nil_append, List.replicate_succ, List.replicate_zero, Nat.add_zero, Nat.zero_add, Nat.reduceAdd, Nat.reduceSub, Nat.sub_self, List.getElem?_cons_zero, List.getElem?_cons_succ, List.set_cons_zero, List.set_cons_succ, Option.bind_some, Option.bind_none, Option.map_some, Option.map_none, Bool.false_eq_true, if_true, if_false, if_pos, reduceIte, Bool.not_true, Bool.not_false, gIxL, gIxT, ix0, ix1, ix2, ix3, gLenL, gLenT, gInt_i, gTuple, gList, gAdd_i, gSub_i, gGt_i, gLt_i, gGe_i, gLe_i, gEq_i, gNe_i, ixn1, ixn2, ixn3, ixn0, lc, n0, e0, z0]
theorem alike_self : ∀ (n k : Nat) (d : D), Pl k d → k < n → (∀ xs, d = .tuple xs ∨ d = .list xs → xs.length ≤ 1000000) → (∀ x, d ≠ .str x) → (∀ x, d ≠ .dict x) → (∀ xs, d = .tuple xs ∨ d = .list xs → ∀ x ∈ xs, f_law_alike (n - 1) [x, x] = some (.bool true)) → f_law_alike n [d, d] = some (.bool true) := by
  intro n k d h hk hz hs hdi ih
  obtain ⟨n, rfl⟩ : ∃ m, n = m + 1 := ⟨n - 1, by omega⟩
  cases d with
  | tuple xs =>
    cases k with
    | zero => have := h.dep; rw [PyData.depth] at this; omega
    | succ k => exact alike_seq (.inl rfl) h.of_tup (hz xs (.inl rfl)) (ih xs (.inl rfl))
  | list xs =>
    cases k with
    | zero => have := h.dep; rw [PyData.depth] at this; omega
    | succ k => exact alike_seq (.inr rfl) h.of_lst (hz xs (.inr rfl)) (ih xs (.inr rfl))
  | int i =>
    show DL.runP 3 (b_law_alike (f_law_alike n)) _ = _
    unfold b_law_alike
    have e1 : gIsa ["tuple", "list"] (.int i) = some (.bool false) := rfl
    have e2 : gIsa ["str"] (.int i) = some (.bool false) := rfl
    have e3 : gIsa ["int"] (.int i) = some (.bool true) := rfl
    have e4 : gIsa ["bool"] (.int i) = some (.bool false) := rfl
    have e5 : gIsN false (.int i) .none = some (.bool false) := rfl
    have e6 : gEq (.bool false) (.bool false) = some (.bool true) := rfl
    exact runP_rt (ρ' := [.sh (.int i), .sh (.int i), .no]) (by simp only [sSeq, sIf, sAsg, sAll, sUnp, sRet, sDrop, sNext, sBreak, sFor, sForX, sApp, sPut, sAug, sFrz, sNever, frz1, putB, mSh, mOw, mNil, mCons, up, fBl, fNot, fAnd, fOr, fIf, fAndV, fOrV, fNotV, fOp1, fOp2, fOwn, fVar, fC, fNil, fCons, fTup, fLst, fCall, fYes, xBl, xNot, xAnd, xOr, xIf, xOp1, xOp2, xCons, xTup, xLst, xCall, xCallI, xPop, ownOf, ioOf, B.put, iSeq, iRg1, iRg2, iEn, seqD, itemsD, setT, setTs, wipeB, startB, startI, fChain, List.map_cons, List.map_nil, List.length_cons, List.length_nil, List.cons_append, List.nil_append, List.replicate_succ, List.replicate_zero, Nat.add_zero, Nat.zero_add, Nat.reduceAdd, Nat.reduceSub, Nat.sub_self, List.getElem?_cons_zero, List.getElem?_cons_succ, List.set_cons_zero, List.set_cons_succ, Option.bind_some, Option.bind_none, Option.map_some, Option.map_none, Bool.false_eq_true, if_true, if_false, if_pos, reduceIte, Bool.not_true, Bool.not_false, gIxL, gIxT, ix0, ix1, ix2, ix3, gLenL, gLenT, gInt_i, gTuple, gList, gAdd_i, gSub_i, gGt_i, gLt_i, gGe_i, gLe_i, gEq_i, gNe_i, ixn1, ixn2, ixn3, ixn0, e1, e2, e3, e4, e5, e6, beq_self_eq_true])
  | bool b =>
    show DL.runP 3 (b_law_alike (f_law_alike n)) _ = _
    unfold b_law_alike
    cases b <;> exact runP_rt (ρ' := [.sh (.bool _), .sh (.bool _), .no]) rfl
  | none =>
    show DL.runP 3 (b_law_alike (f_law_alike n)) _ = _
    unfold b_law_alike
    exact runP_rt (ρ' := [.sh .none, .sh .none, .no]) rfl
  | str x => exact absurd rfl (hs x)
  | dict x => exact absurd rfl (hdi x)
theorem alike_int (n : Nat) (i : Int) : f_law_alike (n + 1) [.int i, .int i] = some (.bool true) :=
  alike_self (n + 1) 0 _ (.int 0 i) (by omega) (fun xs h => by rcases h with h | h <;> cases h) (fun _ h => by cases h) (fun _ h => by cases h) (fun xs h => by rcases h with h | h <;> cases h)
/-- numbers -/
def nums (L : List Nat) : List D := L.map fun k : Nat => .int (k : Int)
end LF
end
section
set_option Elab.async false
set_option linter.all false
set_option maxRecDepth 100000
/-! Lamps ahead and behind. -/
namespace LF
open PySem DL
open L2 (atI ixN)
def upN (A : List (Nat × Nat)) (k : Nat) : List Nat := (A.filter fun p => p.2 == k).map (·.1)
def dnN (A : List (Nat × Nat)) (k : Nat) : List Nat := (A.filter fun p => p.1 == k).map (·.2)
theorem mem_upN {A : List (Nat × Nat)} {j k : Nat} : j ∈ upN A k ↔ (j, k) ∈ A := by
  unfold upN
  rw [List.mem_map]
  constructor
  · rintro ⟨⟨a, b⟩, h, rfl⟩
    have q := List.mem_filter.mp h
    have e := of_decide_eq_true (by simpa using q.2 : decide (b = k) = true)
    subst e
    exact q.1
  · exact fun h => ⟨(j, k), List.mem_filter.mpr ⟨h, by simp⟩, rfl⟩
theorem mem_dnN {A : List (Nat × Nat)} {j k : Nat} : j ∈ dnN A k ↔ (k, j) ∈ A := by
  unfold dnN
  rw [List.mem_map]
  constructor
  · rintro ⟨⟨a, b⟩, h, rfl⟩
    have q := List.mem_filter.mp h
    have e := of_decide_eq_true (by simpa using q.2 : decide (a = k) = true)
    subst e
    exact q.1
  · exact fun h => ⟨(k, j), List.mem_filter.mpr ⟨h, by simp⟩, rfl⟩
theorem asc_range (n : Nat) : (List.range n).Pairwise (· < ·) := List.pairwise_lt_range
theorem asc_same {l m : List Nat} (hl : l.Pairwise (· < ·)) (hm : m.Pairwise (· < ·)) (h : ∀ x, x ∈ l ↔ x ∈ m) : l = m := asc_ext Nat.lt_irrefl (fun x y a b => by omega) hl hm h
section
variable {n : Nat} {A : List (Nat × Nat)}
theorem asc_len : ∀ {l : List Nat} {n : Nat}, l.Pairwise (· < ·) → (∀ x ∈ l, x < n) → l.length ≤ n := by
  intro l n hl h
  have : l = (List.range n).filter (fun x => decide (x ∈ l)) := asc_same hl ((asc_range n).filter _) fun x => by
    rw [List.mem_filter, decide_eq_true_eq, List.mem_range]
    exact ⟨fun z => ⟨h x z, z⟩, fun z => z.2⟩
  rw [this]
  exact Nat.le_trans (List.length_filter_le _ _) (by simp)
end
end LF
end
section
set_option Elab.async false
set_option linter.all false
set_option maxRecDepth 100000
/-! Layers, heads, tails. -/
namespace LF
open PySem DL
open L2 (atI ixN)
theorem pl_nums (L : List Nat) : ∀ x ∈ nums L, Pl 0 x := fun x hx => by
  obtain ⟨k, _, rfl⟩ := List.mem_map.mp hx
  exact .int 0 _
theorem nums_len (L : List Nat) : (nums L).length = L.length := List.length_map _
theorem nums_at {L : List Nat} {i : Nat} {d : Nat} (h : L[i]? = some d) : atI (nums L) (i : Int) = some (.int d) := atI_at (by unfold nums; rw [List.getElem?_map, h]; rfl)
theorem eqv_int (a b : Int) : PyData.eqv (.int a) (.int b) = (a == b) := rfl
theorem any_nums {L : List Nat} {k : Nat} : (nums L).any (fun z => PyData.eqv z (.int k)) = decide (k ∈ L) := by
  unfold nums
  rw [List.any_map]
  rw [Bool.eq_iff_iff, List.any_eq_true, decide_eq_true_eq]
  constructor
  · rintro ⟨x, hx, e⟩
    simp only [Function.comp, eqv_int, beq_iff_eq] at e
    have : x = k := by omega
    subst this; exact hx
  · intro h
    exact ⟨k, h, by simp only [Function.comp, eqv_int, beq_self_eq_true]⟩
theorem gNi_numsL {L : List Nat} {k : Nat} : gIn true (.int k) (.list (nums L)) = some (.bool (!decide (k ∈ L))) := by
  unfold gIn itemsD
  simp only [(Pl.int 0 (k : Int)).okD (by omega), (Pl.lst (pl_nums L)).okD (by omega), Bool.and_self, if_true, any_nums]
theorem gIn_numsT {L : List Nat} {k : Nat} : gIn false (.int k) (.tuple (nums L)) = some (.bool (decide (k ∈ L))) := by
  unfold gIn itemsD
  simp only [(Pl.int 0 (k : Int)).okD (by omega), (Pl.tup (pl_nums L)).okD (by omega), Bool.and_self, if_true, any_nums, Bool.false_eq_true, if_false]
theorem gNi_numsT {L : List Nat} {k : Nat} : gIn true (.int k) (.tuple (nums L)) = some (.bool (!decide (k ∈ L))) := by
  unfold gIn itemsD
  simp only [(Pl.int 0 (k : Int)).okD (by omega), (Pl.tup (pl_nums L)).okD (by omega), Bool.and_self, if_true, any_nums]
theorem gEq_nilL (L : List Nat) : gEq (.list (nums L)) (.list []) = some (.bool L.isEmpty) := by
  unfold gEq
  have h2 : okD (.list []) = true := rfl
  simp only [(Pl.lst (pl_nums L)).okD (by omega), h2, Bool.and_self, if_true]
  cases L <;> rfl
theorem alAll_nums (L : List Nat) : alAll (nums L) = true := by
  unfold alAll nums
  rw [List.all_eq_true]
  intro x hx
  obtain ⟨k, _, rfl⟩ := List.mem_map.mp hx
  simp only [Bool.and_true, List.all_eq_true]
  intro y hy
  obtain ⟨j, _, rfl⟩ := List.mem_map.mp hy
  rfl
theorem op1_at {g : D → Option D} {f : Fm → Option D} {ρ : Fm} {a : D} (h : f ρ = some a) : fOp1 g f ρ = g a := by
  unfold fOp1; rw [h]; rfl
theorem op2_at {g : D → D → Option D} {f1 f2 : Fm → Option D} {ρ : Fm} {a b : D} (h : f1 ρ = some a) (h2 : f2 ρ = some b) : fOp2 g f1 f2 ρ = g a b := by
  unfold fOp2; rw [h, Option.bind_some, h2]; rfl
section
variable {n : Nat} {A : List (Nat × Nat)}
theorem rng_nums (n : Nat) : rngD 0 n = nums (List.range n) := by
  unfold rngD nums
  simp
end
end LF
end
section
set_option Elab.async false
set_option linter.all false
set_option maxRecDepth 100000
/-! Law k00. -/
namespace LF
open PySem DL
open L2 (atI ixN)
section
variable {n : Nat} {A : List (Nat × Nat)}
theorem call2_at {g : List D → Option D} {f1 f2 : Fm → Option D} {ρ : Fm} {a b r : D} (h : f1 ρ = some a) (h2 : f2 ρ = some b) (h3 : g [a, b] = some r) : fCall g (fCons f1 (fCons f2 fNil)) ρ = some r := by
  unfold fCall fCons fNil
  simp only [h, h2, Option.bind_some]
  exact h3
theorem not_at {f : Fm → Option D} {ρ : Fm} {b : Bool} (h : f ρ = some (.bool b)) : up (fNot (fBl f)) ρ = some (!b, ρ) := by
  unfold up fNot fBl
  rw [h]; rfl
end
end LF
end
section
set_option Elab.async false
set_option linter.all false
set_option maxRecDepth 100000
/-! The lamps that are spare: the least closed set. -/
namespace LF
open PySem DL
open L2 (atI ixN)
theorem asc_sub {L M : List Nat} (hL : L.Pairwise (· < ·)) (hM : M.Pairwise (· < ·)) (h : ∀ x ∈ L, x ∈ M) : L = M ∨ L.length < M.length := by
  have e : L = M.filter (fun x => decide (x ∈ L)) := asc_same hL (hM.filter _) fun x => by
    rw [List.mem_filter, decide_eq_true_eq]
    exact ⟨fun z => ⟨h x z, z⟩, fun z => z.2⟩
  rcases Nat.lt_or_ge L.length M.length with h1 | h1
  · exact .inr h1
  · left
    have h2 := List.length_filter_le (fun x => decide (x ∈ L)) M
    rw [← e] at h2
    have h3 : (M.filter (fun x => decide (x ∈ L))).length = M.length := by rw [← e]; omega
    rw [List.length_filter_eq_length_iff] at h3
    rw [e, List.filter_eq_self.mpr fun x hx => h3 x hx]
section
variable (n : Nat) (A : List (Nat × Nat)) (P Q : List Nat)
def ndB (S : List Nat) (k : Nat) : Bool := (!decide (k ∈ P) && !decide (k ∈ Q)) && ((dnN A k).any (fun j => decide (j ∈ S) || (decide (j ∈ Q) && !decide (j ∈ P))) || (upN A k).any (fun j => decide (j ∈ S) || (decide (j ∈ P) && !decide (j ∈ Q))))
def nxt (S : List Nat) : List Nat := (List.range n).filter (ndB A P Q S)
def itS : Nat → List Nat
  | 0 => []
  | t + 1 => nxt n A P Q (itS t)
def spF : List Nat := itS n A P Q n
end
section
variable {n : Nat} {A : List (Nat × Nat)} {P Q : List Nat}
theorem ndB_iff {S : List Nat} {k : Nat} : ndB A P Q S k = true ↔ (k ∉ P ∧ k ∉ Q) ∧ ((∃ j, (k, j) ∈ A ∧ (j ∈ S ∨ (j ∈ Q ∧ j ∉ P))) ∨ ∃ j, (j, k) ∈ A ∧ (j ∈ S ∨ (j ∈ P ∧ j ∉ Q))) := by
  unfold ndB
  simp only [Bool.and_eq_true, Bool.or_eq_true, List.any_eq_true, Bool.not_eq_true', decide_eq_false_iff_not, decide_eq_true_eq, mem_dnN, mem_upN]
theorem mem_nxt {S : List Nat} {k : Nat} : k ∈ nxt n A P Q S ↔ k < n ∧ ndB A P Q S k = true := by
  unfold nxt
  rw [List.mem_filter, List.mem_range]
theorem ndB_mono {S T : List Nat} {k : Nat} (h : ∀ x ∈ S, x ∈ T) (hk : ndB A P Q S k = true) : ndB A P Q T k = true := by
  rw [ndB_iff] at hk ⊢
  refine ⟨hk.1, ?_⟩
  rcases hk.2 with ⟨j, h1, h2⟩ | ⟨j, h1, h2⟩
  · exact .inl ⟨j, h1, h2.imp (h j) id⟩
  · exact .inr ⟨j, h1, h2.imp (h j) id⟩
theorem nxt_mono {S T : List Nat} (h : ∀ x ∈ S, x ∈ T) : ∀ x ∈ nxt n A P Q S, x ∈ nxt n A P Q T := fun x hx => by
  rw [mem_nxt] at hx ⊢
  exact ⟨hx.1, ndB_mono h hx.2⟩
theorem nxt_asc (S : List Nat) : (nxt n A P Q S).Pairwise (· < ·) := (asc_range n).filter _
theorem itS_asc : ∀ t, (itS n A P Q t).Pairwise (· < ·)
  | 0 => .nil
  | t + 1 => nxt_asc _
theorem itS_lt {t k : Nat} (h : k ∈ itS n A P Q t) : k < n := by
  cases t with
  | zero => exact absurd h List.not_mem_nil
  | succ t => exact (mem_nxt.mp h).1
theorem itS_len (t : Nat) : (itS n A P Q t).length ≤ n := asc_len (itS_asc t) fun _ h => itS_lt h
theorem itS_dark {t k : Nat} (h : k ∈ itS n A P Q t) : k ∉ P ∧ k ∉ Q := by
  cases t with
  | zero => exact absurd h List.not_mem_nil
  | succ t => exact (ndB_iff.mp (mem_nxt.mp h).2).1
theorem itS_sub : ∀ t, ∀ x ∈ itS n A P Q t, x ∈ itS n A P Q (t + 1)
  | 0 => fun x h => absurd h List.not_mem_nil
  | t + 1 => nxt_mono (itS_sub t)
theorem itS_stay {u : Nat} (h : itS n A P Q (u + 1) = itS n A P Q u) : ∀ d, itS n A P Q (u + d) = itS n A P Q u
  | 0 => rfl
  | d + 1 => by
    have ih := itS_stay h d
    show nxt n A P Q (itS n A P Q (u + d)) = _
    rw [ih]; exact h
theorem itS_grow : ∀ t, (∃ u, u < t ∧ itS n A P Q (u + 1) = itS n A P Q u) ∨ t ≤ (itS n A P Q t).length
  | 0 => .inr (Nat.zero_le _)
  | t + 1 => by
    rcases itS_grow t with ⟨u, h1, h2⟩ | h
    · exact .inl ⟨u, by omega, h2⟩
    · rcases asc_sub (itS_asc t) (itS_asc (t + 1)) (itS_sub t) with e | hl
      · exact .inl ⟨t, by omega, e.symm⟩
      · exact .inr (by omega)
theorem itS_fix : itS n A P Q (n + 1) = itS n A P Q n := by
  rcases itS_grow (n := n) (A := A) (P := P) (Q := Q) n with ⟨u, h1, h2⟩ | h
  · have a := itS_stay h2 (n - u)
    have b := itS_stay h2 (n + 1 - u)
    rw [show u + (n - u) = n by omega] at a
    rw [show u + (n + 1 - u) = n + 1 by omega] at b
    rw [a, b]
  · rcases asc_sub (itS_asc n) (itS_asc (n + 1)) (itS_sub n) with e | hl
    · exact e.symm
    · have := itS_len (n := n) (A := A) (P := P) (Q := Q) (n + 1)
      omega
theorem spF_fix : nxt n A P Q (spF n A P Q) = spF n A P Q := itS_fix
theorem spF_asc : (spF n A P Q).Pairwise (· < ·) := itS_asc n
theorem spF_len : (spF n A P Q).length ≤ n := itS_len n
theorem spF_lt {k : Nat} (h : k ∈ spF n A P Q) : k < n := itS_lt h
theorem spF_dark {k : Nat} (h : k ∈ spF n A P Q) : k ∉ P ∧ k ∉ Q := itS_dark h
/-- the least of the closed ones -/
theorem itS_least {S : List Nat} (h : ∀ k, k < n → ndB A P Q S k = true → k ∈ S) : ∀ t, ∀ x ∈ itS n A P Q t, x ∈ S
  | 0 => fun x hx => absurd hx List.not_mem_nil
  | t + 1 => fun x hx => by
    have := mem_nxt.mp (nxt_mono (itS_least h t) x hx)
    exact h x this.1 this.2
theorem spF_least {S : List Nat} (h : ∀ k, k < n → ndB A P Q S k = true → k ∈ S) : ∀ x ∈ spF n A P Q, x ∈ S := itS_least h n
theorem spF_closed {k : Nat} (hk : k < n) (h : ndB A P Q (spF n A P Q) k = true) : k ∈ spF n A P Q := by
  have : k ∈ nxt n A P Q (spF n A P Q) := mem_nxt.mpr ⟨hk, h⟩
  rwa [spF_fix] at this
end
/-! ### lists of numbers -/
theorem gAdd_nums {L M : List Nat} (h : L.length + M.length ≤ 1000000) : gAdd (.list (nums L)) (.list (nums M)) = some (.list (nums (L ++ M))) := by
  show (if (nums L).length + (nums M).length ≤ bigN then _ else _) = _
  rw [if_pos (by rw [nums_len, nums_len]; exact h)]
  unfold nums
  rw [List.map_append]
theorem wholeD_nums : ∀ L : List Nat, wholeD (nums L) = some (L.map fun k : Nat => (k : Int))
  | [] => rfl
  | k :: L => by
    show (wholeD (nums L)).map _ = _
    rw [wholeD_nums L]; rfl
theorem ssW_nums {L M : List Nat} (h : L.length < 1000) (hM : M.Pairwise (· < ·)) (hl : M.length < 62) (hm : ∀ x, x ∈ M ↔ x ∈ L) : ssW (nums L) = some (.list (nums M)) := by
  have e : ssI (L.map fun k : Nat => (k : Int)) = M.map fun k : Nat => (k : Int) := by
    refine asc_ext (fun x h => by omega) (fun x y h h' => by omega) (ssI_asc _) ?_ fun z => ?_
    · rw [List.pairwise_map]
      exact hM.imp fun h => by omega
    · rw [mem_ssI, List.mem_map, List.mem_map]
      constructor
      · rintro ⟨x, hx, rfl⟩
        exact ⟨x, (hm x).mpr hx, rfl⟩
      · rintro ⟨x, hx, rfl⟩
        exact ⟨x, (hm x).mp hx, rfl⟩
  unfold ssW
  simp only [wholeD_nums, Option.bind_some, e]
  rw [if_pos ⟨by rw [List.length_map]; exact h, by rw [List.length_map]; exact hl⟩, List.map_map]
  rfl
theorem gSS2_nums {L M : List Nat} (h : L.length < 1000) (hM : M.Pairwise (· < ·)) (hl : M.length < 62) (hm : ∀ x, x ∈ M ↔ x ∈ L) : gSS2 (.list (nums L)) = some (.list (nums M)) := by
  have : gSSI (.list (nums L)) = some (.list (nums M)) := ssW_nums h hM hl hm
  unfold gSS2
  rw [this]; rfl
theorem sortD_nums (L : List Nat) : sortD (nums L) = nums (L.mergeSort fun a b => decide (a ≤ b)) := by
  rw [sortD_eq]
  unfold nums
  rw [List.map_mergeSort (s := fun a b => !PySem.W.dataLt b a)]
  intro a _ b _
  rw [dlt_i]
  by_cases h : a ≤ b
  · rw [decide_eq_true h, decide_eq_false (by omega)]; rfl
  · rw [decide_eq_false h, decide_eq_true (by omega)]; rfl
theorem srtOk_nums (L : List Nat) : srtOk (nums L) = true := by
  unfold srtOk nums
  rw [Bool.or_eq_true, Bool.or_eq_true]
  refine .inl (.inr ?_)
  rw [List.all_eq_true]
  intro x hx
  obtain ⟨k, _, rfl⟩ := List.mem_map.mp hx
  rfl
theorem sort_asc {L : List Nat} (h : L.Nodup) : (L.mergeSort fun a b => decide (a ≤ b)).Pairwise (· < ·) := by
  have h1 := List.pairwise_mergeSort (le := fun a b : Nat => decide (a ≤ b)) (fun a b c h h' => by simp only [decide_eq_true_eq] at *; omega) (fun a b => by simp only [Bool.or_eq_true, decide_eq_true_eq]; omega) L
  have h2 : (L.mergeSort fun a b => decide (a ≤ b)).Nodup := (List.mergeSort_perm L _).nodup_iff.mpr h
  exact (h1.and h2).imp fun ⟨a, b⟩ => by
    simp only [decide_eq_true_eq] at a
    omega
theorem gSorted_nums {L M : List Nat} (hL : L.Nodup) (hz : L.length ≤ 1000000) (hM : M.Pairwise (· < ·)) (hm : ∀ x, x ∈ M ↔ x ∈ L) : gSorted (.list (nums L)) = some (.list (nums M)) := by
  have e : (L.mergeSort fun a b => decide (a ≤ b)) = M := asc_same (sort_asc hL) hM fun x => by
    rw [(List.mergeSort_perm L _).mem_iff, hm]
  unfold gSorted
  simp only [(Pl.lst (pl_nums L)).okD (by omega), alAll_nums, srtOk_nums, Bool.and_self, Bool.true_and]
  rw [if_pos (by rw [nums_len, decide_eq_true_eq]; exact hz), sortD_nums, e]
theorem gNe_nilL (L : List Nat) : gNe (.list (nums L)) (.list []) = some (.bool (!L.isEmpty)) := by
  unfold gNe
  have h2 : okD (.list []) = true := rfl
  simp only [(Pl.lst (pl_nums L)).okD (by omega), h2, Bool.and_self, if_true]
  cases L <;> rfl
theorem eqvA_nums : ∀ L M : List Nat, PyData.eqvAll (nums L) (nums M) = decide (L = M)
  | [], [] => rfl
  | [], _ :: _ => rfl
  | _ :: _, [] => rfl
  | a :: L, b :: M => by
    show (PyData.eqv (.int a) (.int b) && PyData.eqvAll (nums L) (nums M)) = _
    rw [eqvA_nums L M, eqv_int, Bool.eq_iff_iff, Bool.and_eq_true, beq_iff_eq, decide_eq_true_eq, decide_eq_true_eq]
    constructor
    · rintro ⟨h1, h2⟩
      rw [h2, show a = b by omega]
    · intro h
      cases h
      exact ⟨rfl, rfl⟩
theorem gNe_nums (L M : List Nat) : gNe (.list (nums L)) (.list (nums M)) = some (.bool (!decide (L = M))) := by
  unfold gNe
  simp only [(Pl.lst (pl_nums L)).okD (by omega), (Pl.lst (pl_nums M)).okD (by omega), Bool.and_self, if_true]
  show some (PyData.bool (!PyData.eqvAll (nums L) (nums M))) = _
  rw [eqvA_nums]
end LF
end
section
set_option Elab.async false
set_option linter.all false
set_option maxRecDepth 100000
/-! The lamps that are spare: what the program works out. -/
namespace LF
open PySem DL
open L2 (atI ixN)
abbrev tpN (L : List Nat) : D := .tuple (nums L)
abbrev lsN (L : List Nat) : D := .list (nums L)
def frN (P Q : List Nat) : List Nat := Q.filter fun k => !decide (k ∈ P)
theorem lc_nums {vs : List Nat} {v : Nat} {fi : Fm → Option (List D)} {fc : Fm → Option Bool} {ρ : Fm} {L : List Nat} (p : Nat → Bool) (hi : fi ρ = some (nums L)) (hz : L.length ≤ 1000000) (hv : ∀ k : Nat, fVar v ((wipeB ρ vs).set v (.sh (.int k))) = some (.int k)) (hl : v < (wipeB ρ vs).length) (h : ∀ k ∈ L, fc ((wipeB ρ vs).set v (.sh (.int (k : Int)))) = some (p k)) :
    fLc vs (.one v) fi fc (fVar v) ρ = some (lsN (L.filter p)) := by
  have := fLc_map (α := Nat) (enc := fun k => .int (k : Int)) (ρ := ρ) (vs := vs) (t := .one v) (fi := fi) (fc := fc) (fe := fVar v) p (fun k => .int (k : Int)) (xs := L) hi hz fun k hk => ⟨(wipeB ρ vs).set v (.sh (.int (k : Int))), by
    unfold setT
    simp only [hl, if_true], h k hk, fun _ => hv k⟩
  exact this
section
variable {n : Nat} {A : List (Nat × Nat)} {P Q S : List Nat}
theorem nums_get {L : List Nat} {i : Nat} {d : D} (h : (nums L)[i]? = some d) : ∃ k : Nat, L[i]? = some k ∧ d = .int k := by
  unfold nums at h
  rw [List.getElem?_map] at h
  obtain ⟨k, h1, h2⟩ := Option.map_eq_some_iff.mp h
  exact ⟨k, h1, h2.symm⟩
theorem mem_frN {k : Nat} : k ∈ frN P Q ↔ k ∈ Q ∧ k ∉ P := by
  unfold frN
  rw [List.mem_filter, Bool.not_eq_true', decide_eq_false_iff_not]
end
end LF
end
section
set_option Elab.async false
set_option linter.all false
set_option maxRecDepth 100000
/-! The lamps that are spare: what the law works out; standings that a script draws. -/
namespace LF
open PySem DL
open L2 (atI ixN)
theorem bl_at {f : Fm → Option D} {ρ : Fm} {b : Bool} (h : f ρ = some (.bool b)) : fBl f ρ = some b := by
  unfold fBl; rw [h]
theorem and_at {f g : Fm → Option Bool} {ρ : Fm} {a b : Bool} (h : f ρ = some a) (k : g ρ = some b) : fAnd f g ρ = some (a && b) := by
  unfold fAnd; rw [h, Option.bind_some, k]; cases a <;> rfl
theorem or_at {f g : Fm → Option Bool} {ρ : Fm} {a b : Bool} (h : f ρ = some a) (k : g ρ = some b) : fOr f g ρ = some (a || b) := by
  unfold fOr; rw [h, Option.bind_some, k]; cases a <;> rfl
theorem asg_at {i : Nat} {f : Fm → Option D} {ρ ρ' : Fm} {d : D} (h : f ρ = some d) (k : ρ.set i (.sh d) = ρ') : sAsg i (mSh (up f)) ρ = some (.nx, ρ') := by
  unfold sAsg mSh up
  rw [h]
  subst k
  rfl
theorem up_at {α : Type} {f : Fm → Option α} {ρ : Fm} {a : α} (h : f ρ = some a) : up f ρ = some (a, ρ) := by
  unfold up; rw [h]; rfl
section
variable {n : Nat} {A : List (Nat × Nat)} {P Q S : List Nat}
end
/-! ### standings that a script draws -/
theorem xlc_some {vs : List Nat} {t : Tg} {fc : Fm → Option (Bool × Fm)} {fe : Fm → Option (D × Fm)} (I : Fm → Prop) : ∀ (L : List Nat) (ρ : Fm), I ρ →
    (∀ k ∈ L, ∀ ρ, I ρ → ∃ ρ1 b ρ2, setT t (.int (k : Int)) ρ = some ρ1 ∧ fc ρ1 = some (b, ρ2) ∧ fe ρ2 = some (.int (k : Int), ρ2) ∧ I (wipeB ρ2 vs)) → ∃ M ρ', xlcL vs t fc fe (nums L) ρ = some (nums M, ρ') ∧ M.Sublist L ∧ I ρ'
  | [], ρ, h, _ => ⟨[], ρ, rfl, .slnil, h⟩
  | k :: L, ρ, h, st => by
    obtain ⟨ρ1, b, ρ2, e1, e2, e3, h2⟩ := st k List.mem_cons_self ρ h
    obtain ⟨M, ρ3, e4, s, h3⟩ := xlc_some I L _ h2 fun j hj => st j (List.mem_cons_of_mem _ hj)
    have hn : nums (k :: L) = .int (k : Int) :: nums L := rfl
    cases b with
    | true =>
      refine ⟨k :: M, ρ3, ?_, s.cons₂ k, h3⟩
      rw [hn, xlcL, e1, Option.bind_some, e2, Option.bind_some]
      simp only [if_true]
      rw [e3, Option.bind_some, e4]
      rfl
    | false =>
      refine ⟨M, ρ3, ?_, s.cons k, h3⟩
      rw [hn, xlcL, e1, Option.bind_some, e2, Option.bind_some]
      simp only [Bool.false_eq_true, if_false]
      exact e4
end LF
end
section
set_option Elab.async false
set_option linter.all false
set_option maxRecDepth 100000
/-! All standings, sorted; standings that are asked about. -/
namespace LF
open PySem DL
open L2 (atI ixN)
def castL (L : List Nat) : List Int := L.map fun k : Nat => (k : Int)
theorem castL_inj {L M : List Nat} (h : castL L = castL M) : L = M := by
  unfold castL at h
  exact (List.map_inj_right fun x y e => by omega).mp h
def leT (L M : List Nat) : Bool := !decide (castL M < castL L)
def ev : Nat → List (List Nat)
  | 0 => [[]]
  | k + 1 => ev k ++ (ev k).map (· ++ [k])
theorem ev_len : ∀ k, (ev k).length = 2 ^ k
  | 0 => rfl
  | k + 1 => by
    rw [ev, List.length_append, List.length_map, ev_len k, Nat.pow_succ]
    omega
theorem ev_le {k : Nat} (h : k ≤ 9) : (ev k).length ≤ 512 := by
  rw [ev_len]
  exact Nat.pow_le_pow_right (n := 2) (by decide) h
theorem mem_ev : ∀ {k : Nat} {L : List Nat}, L ∈ ev k ↔ L.Pairwise (· < ·) ∧ ∀ x ∈ L, x < k
  | 0, L => by
    rw [ev, List.mem_singleton]
    constructor
    · rintro rfl
      exact ⟨.nil, fun x h => absurd h List.not_mem_nil⟩
    · rintro ⟨_, h⟩
      cases L with
      | nil => rfl
      | cons x r => have := h x List.mem_cons_self; omega
  | k + 1, L => by
    rw [ev, List.mem_append, List.mem_map, mem_ev]
    constructor
    · rintro (⟨h1, h2⟩ | ⟨M, hM, rfl⟩)
      · exact ⟨h1, fun x hx => by have := h2 x hx; omega⟩
      · obtain ⟨h1, h2⟩ := mem_ev.mp hM
        refine ⟨?_, fun x hx => ?_⟩
        · rw [List.pairwise_append]
          refine ⟨h1, List.pairwise_singleton _ _, fun a ha b hb => ?_⟩
          rw [List.mem_singleton] at hb
          subst hb
          exact h2 a ha
        · rcases List.mem_append.mp hx with h | h
          · have := h2 x h; omega
          · rw [List.mem_singleton] at h; omega
    · rintro ⟨h1, h2⟩
      by_cases hk : k ∈ L
      · right
        refine ⟨L.filter fun x => decide (x < k), mem_ev.mpr ⟨h1.filter _, fun x hx => by simpa using (List.mem_filter.mp hx).2⟩, ?_⟩
        refine asc_same ?_ h1 fun x => ?_
        · rw [List.pairwise_append]
          refine ⟨h1.filter _, List.pairwise_singleton _ _, fun a ha b hb => ?_⟩
          rw [List.mem_singleton] at hb
          subst hb
          simpa using (List.mem_filter.mp ha).2
        · rw [List.mem_append, List.mem_filter, List.mem_singleton, decide_eq_true_eq]
          constructor
          · rintro (h | rfl)
            · exact h.1
            · exact hk
          · intro h
            have := h2 x h
            by_cases e : x = k
            · exact .inr e
            · exact .inl ⟨h, by omega⟩
      · exact .inl ⟨h1, fun x hx => by
          have := h2 x hx
          have : x ≠ k := fun e => hk (e ▸ hx)
          omega⟩
def evS (n : Nat) : List (List Nat) := (ev n).mergeSort leT
theorem mem_evS {n : Nat} {L : List Nat} : L ∈ evS n ↔ L.Pairwise (· < ·) ∧ ∀ x ∈ L, x < n := by
  unfold evS
  rw [(List.mergeSort_perm _ _).mem_iff, mem_ev]
theorem call1_at {g : List D → Option D} {f1 : Fm → Option D} {ρ : Fm} {a r : D} (h : f1 ρ = some a) (h3 : g [a] = some r) : fCall g (fCons f1 fNil) ρ = some r := by
  unfold fCall fCons fNil
  simp only [h, Option.bind_some]
  exact h3
theorem call3_at {g : List D → Option D} {f1 f2 f3 : Fm → Option D} {ρ : Fm} {a b c r : D} (h : f1 ρ = some a) (h2 : f2 ρ = some b) (h3 : f3 ρ = some c) (h4 : g [a, b, c] = some r) : fCall g (fCons f1 (fCons f2 (fCons f3 fNil))) ρ = some r := by
  unfold fCall fCons fNil
  simp only [h, h2, h3, Option.bind_some]
  exact h4
/-! ### standings that are asked about -/
structure Stn (n : Nat) (P : List Nat) : Prop where
  asc : P.Pairwise (· < ·)
  lt : ∀ x ∈ P, x < n
theorem Stn.len {n : Nat} {P : List Nat} (h : Stn n P) : P.length ≤ n := asc_len h.asc h.lt
end LF
end
section
set_option Elab.async false
set_option linter.all false
set_option maxRecDepth 100000
/-! Law k22. -/
namespace LF
open PySem DL
open L2 (atI ixN)
theorem tup2_at {f g : Fm → Option D} {ρ : Fm} {a b : D} (h : f ρ = some a) (k : g ρ = some b) : fTup (fCons f (fCons g fNil)) ρ = some (.tuple [a, b]) := by
  unfold fTup fCons fNil
  simp only [h, k, Option.bind_some, Option.map_some]
  rfl
theorem rt_at {f : Fm → Option D} {ρ : Fm} {d : D} (h : f ρ = some d) : sRet (up f) ρ = some (.rt d, ρ) := by
  unfold sRet up
  rw [h]; rfl
/-! ### the first one of the greatest -/
section
variable (f : List Nat → Nat)
def best : List Nat → List (List Nat) → List Nat
  | a, [] => a
  | a, y :: E => if f a < f y then best y E else best a E
end
section
variable {n : Nat} {A : List (Nat × Nat)} {P : List Nat}
end
theorem xcall1_at {i : Nat} {g : List D → List D → Option (D × List D)} {f : Fm → Option D} {ρ : Fm} {b : B} {ls ls' : List D} {a d : D} (hb : ρ[i]? = some b) (ho : ownOf b = some ls) (hf : f ρ = some a) (hg : g ls [a] = some (d, ls')) : xCallI i g (xCons (up f) (up fNil)) ρ = some (d, ρ.set i (b.put ls')) := by
  unfold xCallI xCons up fNil
  simp only [hb, ho, hf, hg, Option.bind_some, Option.map_some]
theorem sh_at {f : Fm → Option (D × Fm)} {ρ ρ' : Fm} {d : D} (h : f ρ = some (d, ρ')) : mSh f ρ = some (.sh d, ρ') := by
  unfold mSh; rw [h]; rfl
theorem all2_at {i j : Nat} {m1 m2 : Fm → Option (B × Fm)} {ρ ρ1 ρ2 : Fm} {b1 b2 : B} (h1 : m1 ρ = some (b1, ρ1)) (h2 : m2 ρ1 = some (b2, ρ2)) : sAll [i, j] (mCons m1 (mCons m2 mNil)) ρ = some (.nx, (ρ2.set i b1).set j b2) := by
  unfold sAll mCons mNil
  simp only [h1, h2, Option.bind_some, Option.map_some, putB]
theorem asgx_at {i : Nat} {m : Fm → Option (B × Fm)} {ρ ρ1 : Fm} {b : B} (h : m ρ = some (b, ρ1)) : sAsg i m ρ = some (.nx, ρ1.set i b) := by
  unfold sAsg; rw [h]; rfl
section
variable {s : D} {l2 : List D} {n : Nat} {A : List (Nat × Nat)} {P : List Nat}
end
end LF
end
section
set_option Elab.async false
set_option linter.all false
set_option maxRecDepth 100000
/-! Lamps that are changed: what the program works out. -/
namespace LF
open PySem DL
open L2 (atI ixN)
theorem dropv_at {f : Fm → Option D} {ρ : Fm} {d : D} (h : f ρ = some d) : sDrop (up f) ρ = some (.nx, ρ) := by
  unfold sDrop up; rw [h]; rfl
theorem if_no {c : Fm → Option (Bool × Fm)} {f : Fm → Option (Fl × Fm)} {ρ : Fm} (h : c ρ = some (false, ρ)) : sIf c f sNext ρ = some (.nx, ρ) := by
  unfold sIf; rw [h]; rfl
section
variable {n : Nat} {A : List (Nat × Nat)} {P Q L : List Nat}
def mgN (n : Nat) (X Y : List Nat) : List Nat := (List.range n).filter fun x => decide (x ∈ X) || decide (x ∈ Y)
theorem mgN_asc {X Y : List Nat} : (mgN n X Y).Pairwise (· < ·) := (asc_range n).filter _
theorem mem_mgN {X Y : List Nat} {x : Nat} : x ∈ mgN n X Y ↔ x < n ∧ (x ∈ X ∨ x ∈ Y) := by
  unfold mgN
  rw [List.mem_filter, List.mem_range, Bool.or_eq_true, decide_eq_true_eq, decide_eq_true_eq]
theorem spF_stn : Stn n (spF n A P Q) := ⟨spF_asc, fun _ h => spF_lt h⟩
end
end LF
end
section
set_option Elab.async false
set_option linter.all false
set_option maxRecDepth 100000
/-! Law k04. -/
namespace LF
open PySem DL
open L2 (atI ixN)
theorem eqv_tp (L M : List Nat) : PyData.eqv (tpN L) (tpN M) = decide (L = M) := eqvA_nums L M
theorem alike_bool (m : Nat) (b : Bool) : f_law_alike (m + 1) [.bool b, .bool b] = some (.bool true) :=
  alike_self (m + 1) 0 _ (.bool 0 b) (by omega) (fun xs h => by rcases h with h | h <;> cases h) (fun _ h => by cases h) (fun _ h => by cases h) (fun xs h => by rcases h with h | h <;> cases h)
/-! ### the least one -/
section
variable {s : D} {l : List D} {n : Nat} {A : List (Nat × Nat)} {P Q L : List Nat}
end
end LF
end
section
set_option Elab.async false
set_option linter.all false
set_option maxRecDepth 100000
/-! Breadth first search: what it finds. -/
namespace LF
open PySem DL
section
variable {α : Type} [DecidableEq α] (nx : α → List α)
def keysB (F : List (α × Nat)) : List α := F.map (·.1)
def lookB : List (α × Nat) → α → Nat
  | [], _ => 0
  | (k, v) :: F, s => if k = s then v else lookB F s
def visB (here : α) (st : List (α × Nat) × List α) (t : α) : List (α × Nat) × List α := if t ∈ keysB st.1 then st else (st.1 ++ [(t, lookB st.1 here + 1)], st.2 ++ [t])
def rowB (st : List (α × Nat) × List α) (here : α) : List (α × Nat) × List α := (nx here).foldl (visB here) st
def levB (F : List (α × Nat)) (rows : List α) : List (α × Nat) × List α := rows.foldl (rowB nx) (F, [])
def bfsB : Nat → List (α × Nat) → List α → Option (List (α × Nat))
  | 0, _, _ => none
  | k + 1, F, rows => if rows = [] then some F else bfsB k (levB nx F rows).1 (levB nx F rows).2
inductive Pth (s0 : α) : Nat → α → Prop
  | zero : Pth s0 0 s0
  | step {d : Nat} {s t : α} : Pth s0 d s → t ∈ nx s → Pth s0 (d + 1) t
end
section
variable {α : Type} [DecidableEq α] {nx : α → List α}
theorem lookB_mem {F : List (α × Nat)} {s : α} {v : Nat} (hn : (keysB F).Nodup) (h : (s, v) ∈ F) : lookB F s = v := by
  induction F with
  | nil => cases h
  | cons e F ih =>
    obtain ⟨k, u⟩ := e
    simp only [lookB]
    rcases List.mem_cons.mp h with h | h
    · cases h
      rw [if_pos rfl]
    · have hn' : k ∉ keysB F ∧ (keysB F).Nodup := by simpa [keysB] using hn
      by_cases e : k = s
      · subst e
        exact absurd (List.mem_map.mpr ⟨_, h, rfl⟩) hn'.1
      · rw [if_neg e]
        exact ih hn'.2 h
theorem mem_keysB {F : List (α × Nat)} {s : α} {v : Nat} (h : (s, v) ∈ F) : s ∈ keysB F := List.mem_map.mpr ⟨_, h, rfl⟩
variable {d : Nat} {F0 : List (α × Nat)} {rows : List α}
end
section
variable {α : Type} [DecidableEq α] {nx : α → List α} {s0 : α} {D : α → Nat} {d N : Nat} {F : List (α × Nat)} {rows : List α}
end
end LF
end
section
set_option Elab.async false
set_option linter.all false
set_option maxRecDepth 100000
/-! The least number of deeds between two standings. -/
namespace LF
open PySem DL
def canD (A : List (Nat × Nat)) (b : List Nat) (k : Nat) : Bool := if k ∈ b then (dnN A k).all (fun j => decide (j ∈ b)) else (upN A k).all (fun j => decide (j ∈ b))
def doN (n : Nat) (A : List (Nat × Nat)) (b : List Nat) : List Nat := (List.range n).filter (canD A b)
def tgN (n : Nat) (b : List Nat) (k : Nat) : List Nat := (List.range n).filter fun x => decide (x ∈ b) != decide (x = k)
def nxN (n : Nat) (A : List (Nat × Nat)) (b : List Nat) : List (List Nat) := (doN n A b).map (tgN n b)
def sumN : Nat → (Nat → Nat) → Nat
  | 0, _ => 0
  | n + 1, f => sumN n f + f n
def b01 (b : Bool) : Nat := if b then 1 else 0
def dfN (P Q : List Nat) (x : Nat) : Bool := decide (x ∈ P) != decide (x ∈ Q)
/-- the least number of deeds -/
def DfN (n : Nat) (A : List (Nat × Nat)) (P Q : List Nat) : Nat := sumN n fun x => b01 (dfN P Q x) + 2 * b01 (decide (x ∈ spF n A P Q))
theorem sumN_len (n : Nat) (p : Nat → Bool) : sumN n (fun x => b01 (p x)) = ((List.range n).filter p).length := by
  induction n with
  | zero => rfl
  | succ n ih =>
    rw [sumN, ih, List.range_succ, List.filter_append, List.length_append]
    congr 1
    unfold b01
    by_cases h : p n = true
    · simp [h]
    · simp [h]
theorem sumN_add (n : Nat) (f g : Nat → Nat) : sumN n (fun x => f x + g x) = sumN n f + sumN n g := by
  induction n with
  | zero => rfl
  | succ n ih => simp only [sumN]; rw [ih]; omega
theorem sumN_mul (n : Nat) (f : Nat → Nat) : sumN n (fun x => 2 * f x) = 2 * sumN n f := by
  induction n with
  | zero => rfl
  | succ n ih => simp only [sumN]; rw [ih]; omega
theorem sumN_le {n : Nat} {f g : Nat → Nat} (h : ∀ x, x < n → f x ≤ g x) : sumN n f ≤ sumN n g := by
  induction n with
  | zero => exact Nat.le_refl _
  | succ n ih =>
    have := ih fun x hx => h x (by omega)
    have := h n (by omega)
    simp only [sumN]
    omega
theorem sumN_eq {n : Nat} {f g : Nat → Nat} (h : ∀ x, x < n → f x = g x) : sumN n f = sumN n g := by
  have a := sumN_le (n := n) (f := f) (g := g) fun x hx => by rw [h x hx]; exact Nat.le_refl _
  have b := sumN_le (n := n) (f := g) (g := f) fun x hx => by rw [h x hx]; exact Nat.le_refl _
  omega
theorem sumN_one {n k : Nat} {f g : Nat → Nat} (h : ∀ x, x < n → x ≠ k → g x ≤ f x) (hk : g k ≤ f k + 1) : sumN n g ≤ sumN n f + 1 := by
  induction n with
  | zero => exact Nat.zero_le _
  | succ n ih =>
    simp only [sumN]
    by_cases e : k = n
    · subst e
      have := sumN_le (n := k) (f := g) (g := f) fun x hx => h x (by omega) (by omega)
      omega
    · have := ih fun x hx hn => h x (by omega) hn
      have := h n (by omega) (fun z => e z.symm)
      omega
theorem DfN_eq {n : Nat} {A : List (Nat × Nat)} {P Q : List Nat} : DfN n A P Q = ((List.range n).filter (dfN P Q)).length + 2 * (spF n A P Q).length := by
  have e : spF n A P Q = (List.range n).filter fun x => decide (x ∈ spF n A P Q) := asc_same spF_asc ((asc_range n).filter _) fun x => by
    rw [List.mem_filter, List.mem_range, decide_eq_true_eq]
    exact ⟨fun h => ⟨spF_lt h, h⟩, fun h => h.2⟩
  unfold DfN
  rw [sumN_add, sumN_mul, sumN_len, sumN_len, ← e]
theorem mem_tgN {n : Nat} {b : List Nat} {k x : Nat} : x ∈ tgN n b k ↔ x < n ∧ (if x = k then x ∉ b else x ∈ b) := by
  unfold tgN
  rw [List.mem_filter, List.mem_range]
  by_cases h : x = k
  · subst h
    by_cases h2 : x ∈ b <;> simp [h2]
  · by_cases h2 : x ∈ b <;> simp [h, h2]
theorem tgN_stn {n : Nat} {b : List Nat} {k : Nat} : Stn n (tgN n b k) := ⟨(asc_range n).filter _, fun x h => (mem_tgN.mp h).1⟩
theorem mem_nxN {n : Nat} {A : List (Nat × Nat)} {b t : List Nat} : t ∈ nxN n A b ↔ ∃ k, k < n ∧ canD A b k = true ∧ t = tgN n b k := by
  unfold nxN doN
  rw [List.mem_map]
  constructor
  · rintro ⟨k, h, rfl⟩
    rw [List.mem_filter, List.mem_range] at h
    exact ⟨k, h.1, h.2, rfl⟩
  · rintro ⟨k, h1, h2, rfl⟩
    exact ⟨k, List.mem_filter.mpr ⟨List.mem_range.mpr h1, h2⟩, rfl⟩
section
variable {n : Nat} {A : List (Nat × Nat)} {P Q : List Nat}
/-- what a way shows: the lamps e that have burned -/
structure Way (n : Nat) (A : List (Nat × Nat)) (P Q : List Nat) (d : Nat) (e : Nat → Bool) : Prop where
  p : ∀ k ∈ P, e k = true
  q : ∀ k ∈ Q, e k = true
  lt : ∀ k, e k = true → k < n
  up : ∀ j, e j = true → j ∉ P → ∀ k, (k, j) ∈ A → e k = true
  dn : ∀ j, e j = true → j ∉ Q → ∀ k, (j, k) ∈ A → e k = true
  le : (sumN n fun x => b01 (dfN P Q x) + 2 * b01 (e x && !decide (x ∈ P) && !decide (x ∈ Q))) ≤ d
theorem way_of (hP : Stn n P) {d : Nat} (h : Pth (nxN n A) P d Q) : Stn n Q ∧ ∃ e, Way n A P Q d e := by
  induction h with
  | zero =>
    refine ⟨hP, fun k => decide (k ∈ P), fun k h => decide_eq_true h, fun k h => decide_eq_true h, fun k h => hP.lt k (of_decide_eq_true h), fun j h h' => absurd (of_decide_eq_true h) h', fun j h h' => absurd (of_decide_eq_true h) h', ?_⟩
    rw [show sumN n _ = sumN n (fun _ => 0) from sumN_eq fun x _ => ?_]
    · have : ∀ n, sumN n (fun _ => 0) = 0 := by
        intro n
        induction n with
        | zero => rfl
        | succ n ih => simp only [sumN]; omega
      rw [this]; exact Nat.le_refl _
    · unfold dfN b01
      by_cases hx : x ∈ P <;> simp [hx]
  | @step d s t hp ht ih =>
    obtain ⟨hs, e, w⟩ := ih
    obtain ⟨k, hk, hc, rfl⟩ := mem_nxN.mp ht
    refine ⟨tgN_stn, fun x => e x || decide (x = k), ?_⟩
    have oth : ∀ x, x ≠ k → x < n → (x ∈ tgN n s k ↔ x ∈ s) := fun x hx hn => by rw [mem_tgN, if_neg hx]; exact ⟨fun h => h.2, fun h => ⟨hn, h⟩⟩
    have self : k ∈ tgN n s k ↔ k ∉ s := by rw [mem_tgN, if_pos rfl]; exact ⟨fun h => h.2, fun h => ⟨hk, h⟩⟩
    unfold canD at hc
    refine ⟨?_, ?_, ?_, ?_, ?_, ?_⟩
    · intro x hx
      simp [w.p x hx]
    · intro x hx
      by_cases hxk : x = k
      · simp [hxk]
      · have := (oth x hxk (mem_tgN.mp hx).1).mp hx
        simp [w.q x this]
    · intro x hx
      rw [Bool.or_eq_true, decide_eq_true_eq] at hx
      rcases hx with hx | rfl
      · exact w.lt x hx
      · exact hk
    · intro j hj hjP i hi
      rw [Bool.or_eq_true, decide_eq_true_eq] at hj ⊢
      by_cases hej : e j = true
      · exact .inl (w.up j hej hjP i hi)
      · have hjk : j = k := by
          rcases hj with hj | hj
          · exact absurd hj hej
          · exact hj
        subst hjk
        have hns : j ∉ s := fun z => hej (w.q j z)
        rw [if_neg hns, List.all_eq_true] at hc
        exact .inl (w.q i (of_decide_eq_true (hc i (mem_upN.mpr hi))))
    · intro j hj hjQ i hi
      rw [Bool.or_eq_true, decide_eq_true_eq] at hj ⊢
      by_cases hjk : j = k
      · subst hjk
        have hns : j ∈ s := Classical.byContradiction fun z => hjQ (self.mpr z)
        rw [if_pos hns, List.all_eq_true] at hc
        exact .inl (w.q i (of_decide_eq_true (hc i (mem_dnN.mpr hi))))
      · have hej : e j = true := by
          rcases hj with hj | hj
          · exact hj
          · exact absurd hj hjk
        have hns : j ∉ s := fun z => hjQ ((oth j hjk (w.lt j hej)).mpr z)
        exact .inl (w.dn j hej hns i hi)
    · refine Nat.le_trans (sumN_one (k := k) (fun x hx hn => ?_) ?_) (Nat.succ_le_succ w.le)
      · unfold dfN
        have := oth x hn hx
        simp [this, hn]
      · unfold dfN
        by_cases h1 : k ∈ s
        · have h2 : ¬ k ∈ tgN n s k := fun z => self.mp z h1
          have h3 := w.q k h1
          by_cases h4 : k ∈ P <;> simp [h1, h2, h3, h4, b01]
        · have h2 : k ∈ tgN n s k := self.mpr h1
          by_cases h4 : k ∈ P
          · simp [h1, h2, h4, b01]
          · by_cases h5 : e k = true <;> simp [h1, h2, h4, h5, b01]
theorem low_le (hP : Stn n P) {d : Nat} (h : Pth (nxN n A) P d Q) : DfN n A P Q ≤ d := by
  obtain ⟨hQ, e, w⟩ := way_of hP h
  refine Nat.le_trans (sumN_le fun x hx => ?_) w.le
  have : x ∈ spF n A P Q → (e x && !decide (x ∈ P) && !decide (x ∈ Q)) = true := fun hs => by
    have := spF_least (n := n) (A := A) (P := P) (Q := Q) (S := (List.range n).filter fun x => e x && !decide (x ∈ P) && !decide (x ∈ Q)) (fun k hk hn => ?_) x hs
    · exact (List.mem_filter.mp this).2
    · rw [ndB_iff] at hn
      obtain ⟨⟨n1, n2⟩, hn⟩ := hn
      refine List.mem_filter.mpr ⟨List.mem_range.mpr hk, ?_⟩
      have hek : e k = true := by
        rcases hn with ⟨j, hj, hS⟩ | ⟨j, hj, hS⟩
        · rcases hS with hS | ⟨h1, h2⟩
          · have := (List.mem_filter.mp hS).2
            simp only [Bool.and_eq_true, Bool.not_eq_true', decide_eq_false_iff_not] at this
            exact w.up j this.1.1 this.1.2 k hj
          · exact w.up j (w.q j h1) h2 k hj
        · rcases hS with hS | ⟨h1, h2⟩
          · have := (List.mem_filter.mp hS).2
            simp only [Bool.and_eq_true, Bool.not_eq_true', decide_eq_false_iff_not] at this
            exact w.dn j this.1.1 this.2 k hj
          · exact w.dn j (w.p j h1) h2 k hj
      simp [hek, n1, n2]
  by_cases hs : x ∈ spF n A P Q
  · rw [this hs, decide_eq_true hs]
    exact Nat.le_refl _
  · rw [decide_eq_false hs]
    simp [b01]
theorem Pth.more {α : Type} {nx : α → List α} {s0 s t : α} {d e : Nat} (h : Pth nx s0 d s) (h' : Pth nx s e t) : Pth nx s0 (d + e) t := by
  induction h' with
  | zero => exact h
  | step _ ht ih => exact .step ih ht
def litB (n : Nat) (A : List (Nat × Nat)) (P Q : List Nat) (x : Nat) : Bool := (decide (x ∈ Q) && !decide (x ∈ P)) || decide (x ∈ spF n A P Q)
def outB (n : Nat) (A : List (Nat × Nat)) (P Q : List Nat) (x : Nat) : Bool := (decide (x ∈ P) && !decide (x ∈ Q)) || decide (x ∈ spF n A P Q)
def stL (n : Nat) (A : List (Nat × Nat)) (P Q : List Nat) (m : Nat) : List Nat := (List.range n).filter fun x => decide (x ∈ P) || (litB n A P Q x && decide (x < m))
def stO (n : Nat) (A : List (Nat × Nat)) (P Q : List Nat) (m : Nat) : List Nat := (List.range n).filter fun x => (decide (x ∈ P) || litB n A P Q x) && !(outB n A P Q x && decide (x < m))
theorem litB_iff {x : Nat} : litB n A P Q x = true ↔ (x ∈ Q ∧ x ∉ P) ∨ x ∈ spF n A P Q := by
  unfold litB
  simp
theorem outB_iff {x : Nat} : outB n A P Q x = true ↔ (x ∈ P ∧ x ∉ Q) ∨ x ∈ spF n A P Q := by
  unfold outB
  simp
theorem mem_stL {m x : Nat} : x ∈ stL n A P Q m ↔ x < n ∧ (x ∈ P ∨ (litB n A P Q x = true ∧ x < m)) := by
  unfold stL
  rw [List.mem_filter, List.mem_range]
  simp
theorem mem_stO {m x : Nat} : x ∈ stO n A P Q m ↔ x < n ∧ (x ∈ P ∨ litB n A P Q x = true) ∧ ¬ (outB n A P Q x = true ∧ x < m) := by
  unfold stO
  rw [List.mem_filter, List.mem_range]
  simp
  intro _ _
  cases outB n A P Q x <;> simp
theorem pth_one {s t : List Nat} {k : Nat} (hk : k < n) (hc : canD A s k = true) (ht : t.Pairwise (· < ·)) (h : ∀ x, x ∈ t ↔ x < n ∧ (if x = k then x ∉ s else x ∈ s)) : Pth (nxN n A) s 1 t :=
  .step .zero (mem_nxN.mpr ⟨k, hk, hc, asc_same ht ((asc_range n).filter _) fun x => (h x).trans mem_tgN.symm⟩)
theorem lit_way (hA : ∀ p ∈ A, p.1 < p.2 ∧ p.2 < n) (hP : Stn n P) (m : Nat) (hm : m ≤ n) : Pth (nxN n A) P (sumN m fun x => b01 (litB n A P Q x)) (stL n A P Q m) := by
  induction m with
  | zero =>
    have : stL n A P Q 0 = P := asc_same ((asc_range n).filter _) hP.asc fun x => by
      rw [mem_stL]
      exact ⟨fun h => h.2.resolve_right fun z => absurd z.2 (Nat.not_lt_zero _), fun h => ⟨hP.lt x h, .inl h⟩⟩
    rw [this]
    exact .zero
  | succ m ih =>
    have ih := ih (by omega)
    by_cases hl : litB n A P Q m = true
    · have hmP : m ∉ P := fun z => by
        rcases litB_iff.mp hl with h | h
        · exact h.2 z
        · exact (spF_dark h).1 z
      have e : b01 (litB n A P Q m) = 1 := by rw [hl]; rfl
      show Pth _ _ (_ + b01 (litB n A P Q m)) _
      rw [e]
      refine ih.more (pth_one (k := m) (by omega) ?_ ((asc_range n).filter _) fun x => ?_)
      · unfold canD
        have hms : m ∉ stL n A P Q m := fun z => by
          rcases (mem_stL.mp z).2 with h | h
          · exact hmP h
          · omega
        rw [if_neg hms, List.all_eq_true]
        intro i hi
        have hi := mem_upN.mp hi
        have hlt := hA _ hi
        have l1 : i < m := hlt.1
        rw [decide_eq_true_eq, mem_stL]
        refine ⟨by omega, ?_⟩
        by_cases h1 : i ∈ P
        · exact .inl h1
        · refine .inr ⟨litB_iff.mpr ?_, l1⟩
          by_cases h2 : i ∈ Q
          · exact .inl ⟨h2, h1⟩
          · refine .inr (spF_closed (by omega) (ndB_iff.mpr ⟨⟨h1, h2⟩, .inl ⟨m, hi, ?_⟩⟩))
            rcases litB_iff.mp hl with h | h
            · exact .inr h
            · exact .inl h
      · rw [mem_stL, mem_stL]
        by_cases hx : x = m
        · subst hx
          rw [if_pos rfl]
          constructor
          · rintro ⟨h1, _⟩
            exact ⟨h1, fun z => z.2.elim hmP fun z => absurd z.2 (Nat.lt_irrefl _)⟩
          · rintro ⟨h1, _⟩
            exact ⟨h1, .inr ⟨hl, by omega⟩⟩
        · rw [if_neg hx]
          constructor
          · rintro ⟨h1, h2⟩
            exact ⟨h1, h1, h2.imp id fun z => ⟨z.1, by omega⟩⟩
          · rintro ⟨h1, _, h2⟩
            exact ⟨h1, h2.imp id fun z => ⟨z.1, by omega⟩⟩
    · have hl' : litB n A P Q m = false := by simpa using hl
      have e : b01 (litB n A P Q m) = 0 := by rw [hl']; rfl
      show Pth _ _ (_ + b01 (litB n A P Q m)) _
      rw [e, Nat.add_zero]
      have : stL n A P Q (m + 1) = stL n A P Q m := asc_same ((asc_range n).filter _) ((asc_range n).filter _) fun x => by
        rw [mem_stL, mem_stL]
        constructor
        · rintro ⟨h1, h2⟩
          refine ⟨h1, h2.imp id fun z => ⟨z.1, ?_⟩⟩
          have : x ≠ m := fun q => hl (q ▸ z.1)
          omega
        · rintro ⟨h1, h2⟩
          exact ⟨h1, h2.imp id fun z => ⟨z.1, by omega⟩⟩
      rw [this]
      exact ih
theorem out_way (hA : ∀ p ∈ A, p.1 < p.2 ∧ p.2 < n) (hP : Stn n P) (m : Nat) (hm : m ≤ n) : Pth (nxN n A) (stO n A P Q 0) (sumN m fun x => b01 (outB n A P Q x)) (stO n A P Q m) := by
  induction m with
  | zero => exact .zero
  | succ m ih =>
    have ih := ih (by omega)
    by_cases hl : outB n A P Q m = true
    · have hmB : m ∈ P ∨ litB n A P Q m = true := by
        rcases outB_iff.mp hl with h | h
        · exact .inl h.1
        · exact .inr (litB_iff.mpr (.inr h))
      have e : b01 (outB n A P Q m) = 1 := by rw [hl]; rfl
      show Pth _ _ (_ + b01 (outB n A P Q m)) _
      rw [e]
      refine ih.more (pth_one (k := m) (by omega) ?_ ((asc_range n).filter _) fun x => ?_)
      · unfold canD
        have hms : m ∈ stO n A P Q m := mem_stO.mpr ⟨by omega, hmB, fun z => absurd z.2 (Nat.lt_irrefl _)⟩
        rw [if_pos hms, List.all_eq_true]
        intro i hi
        have hi := mem_dnN.mp hi
        have hlt := hA _ hi
        have l1 : m < i := hlt.1
        have l2 : i < n := hlt.2
        rw [decide_eq_true_eq, mem_stO]
        refine ⟨l2, ?_, fun z => by omega⟩
        by_cases h1 : i ∈ P
        · exact .inl h1
        · refine .inr (litB_iff.mpr ?_)
          by_cases h2 : i ∈ Q
          · exact .inl ⟨h2, h1⟩
          · refine .inr (spF_closed l2 (ndB_iff.mpr ⟨⟨h1, h2⟩, .inr ⟨m, hi, ?_⟩⟩))
            rcases outB_iff.mp hl with h | h
            · exact .inr h
            · exact .inl h
      · rw [mem_stO, mem_stO]
        by_cases hx : x = m
        · subst hx
          rw [if_pos rfl]
          constructor
          · rintro ⟨h1, _, h2⟩
            exact absurd ⟨hl, by omega⟩ h2
          · rintro ⟨h1, h2⟩
            exact absurd ⟨h1, hmB, fun z => absurd z.2 (Nat.lt_irrefl _)⟩ h2
        · rw [if_neg hx]
          constructor
          · rintro ⟨h1, h2, h3⟩
            exact ⟨h1, h1, h2, fun z => h3 ⟨z.1, by omega⟩⟩
          · rintro ⟨h1, _, h2, h3⟩
            exact ⟨h1, h2, fun z => h3 ⟨z.1, by omega⟩⟩
    · have hl' : outB n A P Q m = false := by simpa using hl
      have e : b01 (outB n A P Q m) = 0 := by rw [hl']; rfl
      show Pth _ _ (_ + b01 (outB n A P Q m)) _
      rw [e, Nat.add_zero]
      have : stO n A P Q (m + 1) = stO n A P Q m := asc_same ((asc_range n).filter _) ((asc_range n).filter _) fun x => by
        rw [mem_stO, mem_stO]
        constructor
        · rintro ⟨h1, h2, h3⟩
          exact ⟨h1, h2, fun z => h3 ⟨z.1, by omega⟩⟩
        · rintro ⟨h1, h2, h3⟩
          refine ⟨h1, h2, fun z => h3 ⟨z.1, ?_⟩⟩
          have : x ≠ m := fun q => hl (q ▸ z.1)
          omega
      rw [this]
      exact ih
theorem high_way (hA : ∀ p ∈ A, p.1 < p.2 ∧ p.2 < n) (hP : Stn n P) (hQ : Stn n Q) : Pth (nxN n A) P (DfN n A P Q) Q := by
  have w1 := lit_way (Q := Q) hA hP n (Nat.le_refl _)
  have w2 := out_way (Q := Q) hA hP n (Nat.le_refl _)
  have e1 : stL n A P Q n = stO n A P Q 0 := asc_same ((asc_range n).filter _) ((asc_range n).filter _) fun x => by
    rw [mem_stL, mem_stO]
    constructor
    · rintro ⟨h1, h2⟩
      exact ⟨h1, h2.imp id fun z => z.1, fun z => absurd z.2 (Nat.not_lt_zero _)⟩
    · rintro ⟨h1, h2, _⟩
      exact ⟨h1, h2.imp id fun z => ⟨z, h1⟩⟩
  have e2 : stO n A P Q n = Q := asc_same ((asc_range n).filter _) hQ.asc fun x => by
    rw [mem_stO]
    constructor
    · rintro ⟨h1, h2, h3⟩
      have h3' : ¬ outB n A P Q x = true := fun z => h3 ⟨z, h1⟩
      rw [outB_iff, not_or] at h3'
      rcases h2 with h2 | h2
      · exact Classical.byContradiction fun z => h3'.1 ⟨h2, z⟩
      · rcases litB_iff.mp h2 with h | h
        · exact h.1
        · exact absurd h h3'.2
    · intro h
      refine ⟨hQ.lt x h, ?_, fun z => ?_⟩
      · by_cases h1 : x ∈ P
        · exact .inl h1
        · exact .inr (litB_iff.mpr (.inl ⟨h, h1⟩))
      · rcases outB_iff.mp z.1 with z | z
        · exact z.2 h
        · exact (spF_dark z).2 h
  rw [e1] at w1
  rw [e2] at w2
  have w := w1.more w2
  rw [← sumN_add] at w
  have e3 : DfN n A P Q = sumN n fun x => b01 (litB n A P Q x) + b01 (outB n A P Q x) := sumN_eq fun x _ => by
    unfold litB outB dfN
    by_cases h3 : x ∈ spF n A P Q
    · obtain ⟨h1, h2⟩ := spF_dark h3
      simp [h1, h2, h3, b01]
    · by_cases h1 : x ∈ P <;> by_cases h2 : x ∈ Q <;> simp [h1, h2, h3, b01]
  rw [e3]
  exact w
end
end LF
end
section
set_option Elab.async false
set_option linter.all false
set_option maxRecDepth 100000
/-! The deeds that can be done, as the laws work them out. -/
namespace LF
open PySem DL
open L2 (atI ixN)
section
variable {n : Nat} {A : List (Nat × Nat)} {P Q b : List Nat}
theorem doN_asc : (doN n A b).Pairwise (· < ·) := (asc_range n).filter _
theorem mem_doN {k : Nat} : k ∈ doN n A b ↔ k < n ∧ canD A b k = true := by
  unfold doN
  rw [List.mem_filter, List.mem_range]
end
end LF
end
section
set_option Elab.async false
set_option linter.all false
set_option maxRecDepth 100000
/-! The search of the laws. -/
namespace LF
open PySem DL
open L2 (atI ixN)
/-! ### standings as keys -/
/-! ### how far it grows -/
theorem sub_len {α : Type} [DecidableEq α] : ∀ {L M : List α}, L.Nodup → (∀ x ∈ L, x ∈ M) → L.length ≤ M.length
  | [], _, _, _ => Nat.zero_le _
  | x :: L, M, hn, h => by
    have hn' := List.nodup_cons.mp hn
    have hx := h x (.head _)
    have ih := sub_len (L := L) (M := M.erase x) hn'.2 fun y hy => (List.mem_erase_of_ne fun (z : y = x) => hn'.1 (z ▸ hy)).mpr (h y (.tail _ hy))
    have := List.length_erase_of_mem hx
    have := List.length_pos_of_mem hx
    rw [List.length_cons]
    omega
structure OkB (n : Nat) (st : List (List Nat × Nat) × List (List Nat)) : Prop where
  nd : (keysB st.1).Nodup
  stn : ∀ s ∈ keysB st.1, Stn n s
  val : ∀ e ∈ st.1, e.2 < st.1.length
  row : ∀ s ∈ st.2, s ∈ keysB st.1
  len : st.2.length ≤ st.1.length
theorem OkB.size {n : Nat} {st : List (List Nat × Nat) × List (List Nat)} (h : OkB n st) (hn : n ≤ 9) : st.1.length ≤ 512 := by
  have := sub_len (M := ev n) h.nd fun s hs => mem_ev.mpr ⟨(h.stn s hs).asc, (h.stn s hs).lt⟩
  have e := ev_le hn
  have : (keysB st.1).length = st.1.length := by unfold keysB; rw [List.length_map]
  omega
/-! ### the walk -/
section
variable {n : Nat} {A : List (Nat × Nat)} {P : List Nat}
end
end LF
end
section
set_option Elab.async false
set_option linter.all false
set_option maxRecDepth 100000
/-! k03: the least number of deeds. -/
namespace LF
open PySem DL
open L2 (atI ixN)
section
variable {n : Nat} {A : List (Nat × Nat)} {P Q : List Nat}
end
end LF
end
section
set_option Elab.async false
set_option linter.all false
set_option maxRecDepth 100000
/-! The search of the program. -/
namespace LF
open PySem DL
open L2 (atI ixN)
section
variable {n : Nat} {A : List (Nat × Nat)} {P Q b : List Nat}
theorem gAdd_numsT {L M : List Nat} (h : L.length + M.length ≤ 1000000) : gAdd (.tuple (nums L)) (.tuple (nums M)) = some (.tuple (nums (L ++ M))) := by
  show (if (nums L).length + (nums M).length ≤ bigN then some (PyData.tuple (nums L ++ nums M)) else none) = _
  rw [if_pos (by rw [nums_len, nums_len]; exact h)]
  unfold nums
  rw [List.map_append]
/-! ### steps_from -/
end
end LF
end
section
set_option Elab.async false
set_option linter.all false
set_option maxRecDepth 100000
/-! k21: standings on the way. -/
namespace LF
open PySem DL
open L2 (atI ixN)
/-! ### numbers with standings -/
/-! ### the standings found, ascending -/
theorem all3_at {i j k : Nat} {m1 m2 m3 : Fm → Option (B × Fm)} {ρ ρ1 ρ2 ρ3 : Fm} {b1 b2 b3 : B} (h1 : m1 ρ = some (b1, ρ1)) (h2 : m2 ρ1 = some (b2, ρ2)) (h3 : m3 ρ2 = some (b3, ρ3)) : sAll [i, j, k] (mCons m1 (mCons m2 (mCons m3 mNil))) ρ = some (.nx, ((ρ3.set i b1).set j b2).set k b3) := by
  unfold sAll mCons mNil
  rw [h1]
  simp only [Option.bind_some, h2, h3, Option.map_some]
  rfl
theorem gMax2_i (a b : Int) : gMax2 (.int a) (.int b) = some (.int (if b > a then b else a)) := rfl
theorem call4_at {g : List D → Option D} {f1 f2 f3 f4 : Fm → Option D} {ρ : Fm} {a b c d r : D} (h : f1 ρ = some a) (h2 : f2 ρ = some b) (h3 : f3 ρ = some c) (h4 : f4 ρ = some d) (h5 : g [a, b, c, d] = some r) : fCall g (fCons f1 (fCons f2 (fCons f3 (fCons f4 fNil)))) ρ = some r := by
  unfold fCall fCons fNil
  simp only [h, h2, h3, h4, Option.bind_some, Option.map_some]
  exact h5
/-- what the search from a standing has found -/
structure Srch (n : Nat) (A : List (Nat × Nat)) (P : List Nat) (F : List (List Nat × Nat)) : Prop where
  run : bfsB (nxN n A) wFuel [(P, 0)] [P] = some F
  nd : (keysB F).Nodup
  key : ∀ s, s ∈ keysB F ↔ Stn n s
  val : ∀ s, Stn n s → lookB F s = DfN n A P s
  len : F.length ≤ 512
theorem nil_stn {n : Nat} : Stn n [] := ⟨.nil, fun _ h => nomatch h⟩
section
variable {n : Nat} {A : List (Nat × Nat)} {P Q V : List Nat} {F G : List (List Nat × Nat)}
theorem Srch.ne (h : Srch n A P F) : keysB F ≠ [] := fun e => by
  have := (h.key []).mpr nil_stn
  rw [e] at this
  cases this
/-! ### the program -/
/-! ### the law -/
variable {s : D} {l : List D}
end
end LF
end
section
set_option Elab.async false
set_option linter.all false
set_option maxRecDepth 100000
/-! k20: distances. -/
namespace LF
open PySem DL
open L2 (atI ixN)
/-! ### the least standing of some -/
/-! ### the greatest number -/
section
variable {n : Nat} {A : List (Nat × Nat)} {P Q V : List Nat} {F G : List (List Nat × Nat)}
theorem Srch.ent (S : Srch n A P F) {s : List Nat} {v : Nat} (h : (s, v) ∈ F) : Stn n s ∧ DfN n A P s = v := by
  have hs := (S.key s).mp (mem_keysB h)
  exact ⟨hs, by rw [← S.val s hs]; exact lookB_mem S.nd h⟩
theorem Srch.at (S : Srch n A P F) {s : List Nat} (h : Stn n s) : (s, DfN n A P s) ∈ F := by
  obtain ⟨⟨s', v⟩, h1, h2⟩ := List.mem_map.mp ((S.key s).mpr h)
  have h2' : s' = s := h2
  subst h2'
  rw [(S.ent h1).2]
  exact h1
theorem gEq_iN {a b : Nat} : gEq (.int a) (.int b) = some (.bool (decide (a = b))) := by
  rw [gEq_i]
  congr 2
  by_cases h : a = b
  · subst h; simp
  · have : ¬ (a : Int) = b := by omega
    simp [h, this]
/-! ### the widest -/
/-! ### the law -/
variable {s : D} {l : List D}
end
end LF
end
section
set_option Elab.async false
set_option linter.all false
set_option maxRecDepth 100000
/-! Searches with a bound. -/
namespace LF
open PySem DL
open L2 (atI ixN)
/-! ### any search of finitely many ends -/
section
variable {α : Type} [DecidableEq α] {nx : α → List α} {s0 : α}
variable {D : α → Nat} {d N : Nat} {F : List (α × Nat)} {rows : List α}
end
section
variable {n : Nat} {A : List (Nat × Nat)} {P Q V : List Nat} {F G : List (List Nat × Nat)} {m : Nat}
/-- deeds that lead to at most m burning lamps -/
def nxM (n : Nat) (A : List (Nat × Nat)) (m : Nat) (b : List Nat) : List (List Nat) := (nxN n A b).filter fun t => decide (t.length ≤ m)
theorem len_tp (t : List Nat) : gLen (tpN t) = some (.int t.length) := by
  rw [show gLen (tpN t) = some (.int (nums t).length) from rfl, nums_len]
end
end LF
end
section
set_option Elab.async false
set_option linter.all false
set_option maxRecDepth 100000
/-! k41: peaks. -/
namespace LF
open PySem DL
open L2 (atI ixN)
section
variable {n : Nat} {A : List (Nat × Nat)} {P Q V : List Nat} {F G : List (List Nat × Nat)} {m : Nat}
open Classical in
noncomputable def pkB (n : Nat) (A : List (Nat × Nat)) (P Q : List Nat) (k : Nat) : Bool := decide (P.length ≤ k ∧ ∃ d, Pth (nxM n A k) P d Q)
open Classical in
end
end LF
end
section
set_option Elab.async false
set_option linter.all false
set_option maxRecDepth 100000
/-! k40: wishes. -/
namespace LF
open PySem DL
open L2 (atI ixN)
/-! ### the least of numbers with standings -/
/-! ### wishes -/
section
variable {n : Nat} {A : List (Nat × Nat)} {P Q V : List Nat} {F G : List (List Nat × Nat)} {m : Nat} {ws : List (Option Bool)}
end
end LF
end
section
set_option Elab.async false
set_option linter.all false
set_option maxRecDepth 100000
/-! k40: the law. -/
namespace LF
open PySem DL
open L2 (atI ixN)
section
variable {n : Nat} {A : List (Nat × Nat)} {P Q V : List Nat} {F G : List (List Nat × Nat)} {m : Nat} {ws : List (Option Bool)}
variable {s : D} {l : List D}
end
end LF
end
section
set_option Elab.async false
set_option linter.all false
set_option maxRecDepth 100000
/-! k38: held lamps, the ways. -/
namespace LF
open PySem DL
open L2 (atI ixN)
section
variable {n : Nat} {A : List (Nat × Nat)} {P Q H : List Nat}
end
end LF
end
section
set_option Elab.async false
set_option linter.all false
set_option maxRecDepth 100000
/-! k38: held lamps, the search. -/
namespace LF
open PySem DL
open L2 (atI ixN)
section
variable {n : Nat} {A : List (Nat × Nat)} {P Q V H : List Nat} {F G : List (List Nat × Nat)} {m : Nat}
end
end LF
end
section
set_option Elab.async false
set_option linter.all false
set_option maxRecDepth 100000
/-! k38: held lamps. -/
namespace LF
open PySem DL
open L2 (atI ixN)
/-! ### the greatest of (size, standing) -/
section
variable {n : Nat} {A : List (Nat × Nat)} {P Q V H : List Nat} {F G : List (List Nat × Nat)}
/-! ### the law -/
variable {s : D} {l : List D}
end
end LF
end
section
set_option Elab.async false
set_option linter.all false
set_option maxRecDepth 100000
/-! Deeds of shortest words, their pairs; arrows. -/
namespace LF
open PySem DL
open L2 (atI ixN)
theorem andv_at {f g : Fm → Option D} {ρ : Fm} {a b : Bool} (h : f ρ = some (.bool a)) (k : g ρ = some (.bool b)) : fAndV f g ρ = some (.bool (a && b)) := by
  unfold fAndV; rw [bl_at h, Option.bind_some, k]; cases a <;> rfl
theorem fnot_at {f : Fm → Option Bool} {ρ : Fm} {b : Bool} (h : f ρ = some b) : fNot f ρ = some (!b) := by
  unfold fNot; rw [h]; rfl
def dsN (n : Nat) (A : List (Nat × Nat)) (P Q : List Nat) : List (Bool × Nat) := (mgN n (frN P Q) (spF n A P Q)).map (fun k => (true, k)) ++ (mgN n (frN Q P) (spF n A P Q)).map fun k => (false, k)
def ruB (A : List (Nat × Nat)) (f s : Bool × Nat) : Bool := if (f.1 && !s.1) = true then decide (f.2 = s.2) || decide ((s.2, f.2) ∈ A) else (f.1 == s.1) && decide ((f.2, s.2) ∈ A)
section
variable {n : Nat} {A : List (Nat × Nat)} {P Q V : List Nat}
end
end LF
end
section
set_option Elab.async false
set_option linter.all false
set_option maxRecDepth 100000
/-! k55: costs of arrows. -/
namespace LF
open PySem DL
open L2 (atI ixN)
section
variable {n : Nat} {A : List (Nat × Nat)} {P Q V : List Nat} {p : Nat × Nat}
/-! ### fewer arrows, no more deeds -/
end
end LF
end
section
set_option Elab.async false
set_option linter.all false
set_option maxRecDepth 100000
/-! k55: the law. -/
namespace LF
open PySem DL
open L2 (atI ixN)
section
variable {n : Nat} {A : List (Nat × Nat)} {P Q V : List Nat} {p : Nat × Nat} {s : D} {l : List D}
end
end LF
end
section
set_option Elab.async false
set_option linter.all false
set_option maxRecDepth 100000
/-! Words of deeds: drawn ones, is_lamps, line_in. -/
namespace LF
open PySem DL
open L2 (atI ixN)
section
variable {n : Nat} {A : List (Nat × Nat)} {P Q b : List Nat}
end
end LF
end
section
set_option Elab.async false
set_option linter.all false
set_option maxRecDepth 100000
/-! Words of deeds: is_lamps, line_in, line_of. -/
namespace LF
open PySem DL
open L2 (atI ixN)
section
variable {n : Nat} {A : List (Nat × Nat)} {P Q b : List Nat}
end
end LF
end
section
set_option Elab.async false
set_option linter.all false
set_option maxRecDepth 100000
/-! Words of deeds that are handed in. -/
namespace LF
open PySem DL
open L2 (atI ixN)
section
variable {n : Nat} {A : List (Nat × Nat)} {P Q b : List Nat}
end
end LF
end
section
set_option Elab.async false
set_option linter.all false
set_option maxRecDepth 100000
/-! dict(after(..)): what can be done, with where it leads. -/
namespace LF
open PySem DL
open L2 (atI ixN)
section
variable {n : Nat} {A : List (Nat × Nat)} {P Q b : List Nat}
end
end LF
end
section
set_option Elab.async false
set_option linter.all false
set_option maxRecDepth 100000
/-! Words mended. -/
namespace LF
open PySem DL
open L2 (atI ixN)
section
variable {n : Nat} {A : List (Nat × Nat)} {P Q b : List Nat}
end
end LF
end
section
set_option Elab.async false
set_option linter.all false
set_option maxRecDepth 100000
/-! Standings behind and ahead of one deed. -/
namespace LF
open PySem DL
open L2 (atI ixN)
section
variable {n : Nat} {A : List (Nat × Nat)} {P Q b : List Nat}
end
end LF
end
section
set_option Elab.async false
set_option linter.all false
set_option maxRecDepth 100000
/-! Where a word leads, as the laws work it out: the loop. -/
namespace LF
open PySem DL
open L2 (atI ixN)
section
variable {n : Nat} {A : List (Nat × Nat)} {P Q b : List Nat}
def leadD : Option (List Nat) → D
  | none => .none
  | some c => tpN c
end
end LF
end
section
set_option Elab.async false
set_option linter.all false
set_option maxRecDepth 100000
/-! Where a word leads, as the laws work it out; words with two neighbours swapped. -/
namespace LF
open PySem DL
open L2 (atI ixN)
theorem cut_lo {L : List Nat} {i : Nat} (h : i ≤ L.length) : gSl (tpN L) none (some (i : Int)) = some (tpN (L.take i)) := by
  show some (PyData.tuple (cutD (nums L) none (some (i : Int)))) = _
  unfold cutD
  rw [HT.sIx_none, HT.sIx_nat, nums_len, Nat.min_eq_left h, Nat.sub_zero, List.drop_zero]
  unfold nums
  rw [← List.map_take]
  rfl
theorem cut_hi {L : List Nat} {i : Nat} (h : i ≤ L.length) : gSl (tpN L) (some (i : Int)) none = some (tpN (L.drop i)) := by
  show some (PyData.tuple (cutD (nums L) (some (i : Int)) none)) = _
  unfold cutD
  rw [HT.sIx_none, HT.sIx_nat, nums_len, Nat.min_eq_left h]
  unfold nums
  rw [← List.map_drop, List.take_of_length_le (by rw [List.length_map, List.length_drop]; exact Nat.le_refl _)]
  rfl
section
variable {n : Nat} {A : List (Nat × Nat)} {P Q b : List Nat}
end
end LF
end
section
set_option Elab.async false
set_option linter.all false
set_option maxRecDepth 100000
/-! The loops of the law of words mended. -/
namespace LF
open PySem DL
open L2 (atI ixN)
theorem fl_go {t : Tg} {f : Fm → Option (Fl × Fm)} {d : D} {ds : List D} {ρ ρ1 ρ2 : Fm} {r : Option (Fl × Fm)} (hs : setT t d ρ = some ρ1) (hf : f ρ1 = some (.nx, ρ2)) (k : forL t f ds ρ2 = r) : forL t f (d :: ds) ρ = r := by
  rw [forL, hs, Option.bind_some, hf, Option.bind_some]
  exact k
theorem fif_at {c : Fm → Option Bool} {f g : Fm → Option D} {ρ : Fm} {b : Bool} {r : Option D} (h : c ρ = some b) (k : (if b = true then f ρ else g ρ) = r) : fIf c f g ρ = r := by
  unfold fIf
  rw [h]
  exact k
section
variable {n : Nat} {A : List (Nat × Nat)} {P Q b : List Nat}
variable {s : D} {l : List D}
variable {b4 b5 b6 b7 b8 b9 b10 b11 b12 b13 b14 b15 b16 b17 b18 b19 : B}
end
end LF
end
section
set_option Elab.async false
set_option linter.all false
set_option maxRecDepth 100000
/-! The law of words mended: the parts. -/
namespace LF
open PySem DL
open L2 (atI ixN)
section
variable {n : Nat} {A : List (Nat × Nat)} {P Q b : List Nat}
theorem tgN_back (hP : Stn n P) {k : Nat} : tgN n (tgN n P k) k = P := by
  refine asc_same tgN_stn.asc hP.asc fun x => ?_
  rw [mem_tgN, mem_tgN]
  by_cases h : x = k
  · subst h
    rw [if_pos rfl, if_pos rfl]
    constructor
    · rintro ⟨h1, h2⟩
      exact Classical.byContradiction fun z => h2 ⟨h1, z⟩
    · intro h
      exact ⟨hP.lt x h, fun z => z.2 h⟩
  · rw [if_neg h, if_neg h]
    exact ⟨fun z => z.2.2, fun z => ⟨hP.lt x z, hP.lt x z, z⟩⟩
theorem few_len (hP : Stn n P) (hQ : Stn n Q) : DfN n A P Q = (mgN n (frN P Q) (spF n A P Q)).length + (mgN n (frN Q P) (spF n A P Q)).length := by
  unfold mgN
  rw [← sumN_len, ← sumN_len, ← sumN_add]
  unfold DfN
  refine sumN_eq fun x _ => ?_
  by_cases h1 : x ∈ spF n A P Q
  · have h2 := spF_dark h1
    simp [h1, mem_frN, dfN, h2.1, h2.2, b01]
  · by_cases h3 : x ∈ P <;> by_cases h4 : x ∈ Q <;> simp [h1, h3, h4, mem_frN, dfN, b01]
variable {s : D} {l : List D}
variable {b4 b5 b6 b7 b8 b9 b10 b11 b12 b13 b14 b15 b16 b17 b18 b19 : B}
end
end LF
end
section
set_option Elab.async false
set_option linter.all false
set_option maxRecDepth 100000
/-! The law of words mended. -/
namespace LF
open PySem DL
open L2 (atI ixN)
end LF
end
section
set_option Elab.async false
set_option linter.all false
set_option maxRecDepth 100000
/-! One deed of a shortest word: the deeds that are left. -/
namespace LF
open PySem DL
open L2 (atI ixN)
section
variable {n : Nat} {A : List (Nat × Nat)} {P Q b : List Nat}
theorem ru_tt {a b : Nat} : ruB A (true, a) (true, b) = decide ((a, b) ∈ A) := rfl
theorem ru_ff {a b : Nat} : ruB A (false, a) (false, b) = decide ((a, b) ∈ A) := rfl
theorem ru_tf {a b : Nat} : ruB A (true, a) (false, b) = (decide (a = b) || decide ((b, a) ∈ A)) := rfl
theorem ru_ft {a b : Nat} : ruB A (false, a) (true, b) = false := rfl
def Ltd (n : Nat) (A : List (Nat × Nat)) (P Q : List Nat) (k : Nat) : Prop := (k ∈ Q ∧ k ∉ P) ∨ k ∈ spF n A P Q
def Otd (n : Nat) (A : List (Nat × Nat)) (P Q : List Nat) (k : Nat) : Prop := (k ∈ P ∧ k ∉ Q) ∨ k ∈ spF n A P Q
theorem mem_ds_t (hQ : Stn n Q) {k : Nat} : (true, k) ∈ dsN n A P Q ↔ Ltd n A P Q k := by
  unfold dsN Ltd
  simp only [List.mem_append, List.mem_map, Prod.mk.injEq, mem_mgN, mem_frN]
  constructor
  · rintro (⟨x, h, _, rfl⟩ | ⟨x, _, h, _⟩)
    · exact h.2
    · cases h
  · intro h
    refine .inl ⟨k, ⟨?_, h⟩, trivial, rfl⟩
    rcases h with h | h
    · exact hQ.lt k h.1
    · exact spF_lt h
theorem mem_ds_f (hP : Stn n P) {k : Nat} : (false, k) ∈ dsN n A P Q ↔ Otd n A P Q k := by
  unfold dsN Otd
  simp only [List.mem_append, List.mem_map, Prod.mk.injEq, mem_mgN, mem_frN]
  constructor
  · rintro (⟨x, _, h, _⟩ | ⟨x, h, _, rfl⟩)
    · cases h
    · exact h.2
  · intro h
    refine .inr ⟨k, ⟨?_, h⟩, trivial, rfl⟩
    rcases h with h | h
    · exact hP.lt k h.1
    · exact spF_lt h
theorem ds_num (hP : Stn n P) (hQ : Stn n Q) : (dsN n A P Q).length = DfN n A P Q := by
  unfold dsN
  rw [List.length_append, List.length_map, List.length_map, ← few_len hP hQ]
theorem sp_dem (hQ : Stn n Q) (W : Web n A) {x j : Nat} (hx : x ∉ P) (hx2 : x ∉ Q) (h : (x, j) ∈ A) (hj : Ltd n A P Q j) : x ∈ spF n A P Q :=
  spF_closed (by have := W.ok _ h; simp only at this; omega) (ndB_iff.mpr ⟨⟨hx, hx2⟩, .inl ⟨j, h, hj.symm⟩⟩)
theorem sp_dem2 (W : Web n A) {x j : Nat} (hx : x ∉ P) (hx2 : x ∉ Q) (h : (j, x) ∈ A) (hj : Otd n A P Q j) : x ∈ spF n A P Q :=
  spF_closed (by have := W.ok _ h; simp only at this; omega) (ndB_iff.mpr ⟨⟨hx, hx2⟩, .inr ⟨j, h, hj.symm⟩⟩)
/-- nothing that is left to do must come before d -/
def Mnd (n : Nat) (A : List (Nat × Nat)) (P Q : List Nat) (d : Bool × Nat) : Prop := d ∈ dsN n A P Q ∧ ∀ f ∈ dsN n A P Q, ruB A f d = false
theorem can_up {k : Nat} (hk : k ∉ b) : canD A b k = true ↔ ∀ j, (j, k) ∈ A → j ∈ b := by
  unfold canD
  rw [if_neg hk, List.all_eq_true]
  exact ⟨fun h j hj => of_decide_eq_true (h j (mem_upN.mpr hj)), fun h j hj => decide_eq_true (h j (mem_upN.mp hj))⟩
theorem can_dn {k : Nat} (hk : k ∈ b) : canD A b k = true ↔ ∀ j, (k, j) ∈ A → j ∈ b := by
  unfold canD
  rw [if_pos hk, List.all_eq_true]
  exact ⟨fun h j hj => of_decide_eq_true (h j (mem_dnN.mpr hj)), fun h j hj => decide_eq_true (h j (mem_dnN.mp hj))⟩
theorem mnd_lit (W : Web n A) (hP : Stn n P) (hQ : Stn n Q) {k : Nat} (h : Mnd n A P Q (true, k)) : k < n ∧ k ∉ P ∧ ∀ j, (j, k) ∈ A → j ∈ P := by
  obtain ⟨h1, h2⟩ := h
  have hl := (mem_ds_t hQ).mp h1
  have hkP : k ∉ P := by
    rcases hl with z | z
    · exact z.2
    · exact (spF_dark z).1
  refine ⟨?_, hkP, fun j hj => Classical.byContradiction fun hjP => ?_⟩
  · rcases hl with z | z
    · exact hQ.lt k z.1
    · exact spF_lt z
  · have hjl : Ltd n A P Q j := by
      by_cases hjQ : j ∈ Q
      · exact .inl ⟨hjQ, hjP⟩
      · exact .inr (sp_dem hQ W hjP hjQ hj hl)
    have := h2 _ ((mem_ds_t hQ).mpr hjl)
    rw [ru_tt, decide_eq_false_iff_not] at this
    exact this hj
theorem mnd_out (W : Web n A) (hP : Stn n P) (hQ : Stn n Q) {k : Nat} (h : Mnd n A P Q (false, k)) : k < n ∧ k ∈ P ∧ k ∉ Q ∧ (∀ j, (k, j) ∈ A → j ∈ P ∧ ¬ Ltd n A P Q j) ∧ ∀ j, (j, k) ∈ A → ¬ Otd n A P Q j := by
  obtain ⟨h1, h2⟩ := h
  have hl := (mem_ds_f hP).mp h1
  have hns : k ∉ spF n A P Q := fun z => by
    have := h2 _ ((mem_ds_t hQ).mpr (.inr z))
    rw [ru_tf] at this
    simp at this
  have hk : k ∈ P ∧ k ∉ Q := by
    rcases hl with z | z
    · exact z
    · exact absurd z hns
  have hno : ∀ j, (k, j) ∈ A → ¬ Ltd n A P Q j := fun j hj z => by
    have := h2 _ ((mem_ds_t hQ).mpr z)
    rw [ru_tf, decide_eq_true hj, Bool.or_true] at this
    cases this
  refine ⟨hP.lt k hk.1, hk.1, hk.2, fun j hj => ⟨Classical.byContradiction fun hjP => hno j hj ?_, hno j hj⟩, fun j hj z => ?_⟩
  · by_cases hjQ : j ∈ Q
    · exact .inl ⟨hjQ, hjP⟩
    · exact .inr (sp_dem2 W hjP hjQ hj hl)
  · have := h2 _ ((mem_ds_f hP).mpr z)
    rw [ru_ff, decide_eq_false_iff_not] at this
    exact this hj
/-- a deed that comes before no other can be done -/
theorem stp_can (W : Web n A) (hP : Stn n P) (hQ : Stn n Q) {d : Bool × Nat} (h : Mnd n A P Q d) : d.2 ∈ doN n A P ∧ d.1 = !decide (d.2 ∈ P) := by
  obtain ⟨s, k⟩ := d
  cases s with
  | true =>
    obtain ⟨h1, h2, h3⟩ := mnd_lit W hP hQ h
    exact ⟨mem_doN.mpr ⟨h1, (can_up h2).mpr h3⟩, by rw [decide_eq_false h2]; rfl⟩
  | false =>
    obtain ⟨h1, h2, h3, h4, h5⟩ := mnd_out W hP hQ h
    exact ⟨mem_doN.mpr ⟨h1, (can_dn h2).mpr fun j hj => (h4 j hj).1⟩, by rw [decide_eq_true h2]; rfl⟩
theorem mem_tg_ne {k x : Nat} (h : x ≠ k) (hb : Stn n b) : x ∈ tgN n b k ↔ x ∈ b := by
  rw [mem_tgN, if_neg h]
  exact ⟨fun z => z.2, fun z => ⟨hb.lt x z, z⟩⟩
theorem mem_tg_eq {k : Nat} (hk : k < n) : k ∈ tgN n b k ↔ k ∉ b := by
  rw [mem_tgN, if_pos rfl]
  exact ⟨fun z => z.2, fun z => ⟨hk, z⟩⟩
theorem sp_lit (W : Web n A) (hP : Stn n P) (hQ : Stn n Q) {k : Nat} (h : Mnd n A P Q (true, k)) (x : Nat) : x ∈ spF n A (tgN n P k) Q ↔ x ∈ spF n A P Q ∧ x ≠ k := by
  obtain ⟨k1, k2, k3⟩ := mnd_lit W hP hQ h
  have hl := (mem_ds_t hQ).mp h.1
  have hkP' : k ∈ tgN n P k := (mem_tg_eq k1).mpr k2
  have hR : Stn n (tgN n P k) := tgN_stn
  constructor
  · intro hx
    have hx' : x ∈ (spF n A P Q).filter fun y => !decide (y = k) := by
      refine spF_least (A := A) (P := tgN n P k) (Q := Q) (fun y hy hd => ?_) x hx
      obtain ⟨⟨d1, d2⟩, d3⟩ := ndB_iff.mp hd
      have yk : y ≠ k := fun e => by subst e; exact d1 hkP'
      have yP : y ∉ P := fun z => d1 ((mem_tg_ne yk hP).mpr z)
      rw [List.mem_filter]
      refine ⟨?_, by rw [decide_eq_false yk]; rfl⟩
      rcases d3 with ⟨j, j1, j2⟩ | ⟨j, j1, j2⟩
      · refine sp_dem hQ W yP d2 j1 ?_
        rcases j2 with j2 | ⟨j2, j3⟩
        · exact .inr (List.mem_filter.mp j2).1
        · have jk : j ≠ k := fun e => by subst e; exact j3 hkP'
          exact .inl ⟨j2, fun z => j3 ((mem_tg_ne jk hP).mpr z)⟩
      · refine sp_dem2 W yP d2 j1 ?_
        rcases j2 with j2 | ⟨j2, j3⟩
        · exact .inr (List.mem_filter.mp j2).1
        · by_cases jk : j = k
          · subst jk
            rcases hl with z | z
            · exact absurd z.1 j3
            · exact .inr z
          · exact .inl ⟨(mem_tg_ne jk hP).mp j2, j3⟩
    rw [List.mem_filter] at hx'
    refine ⟨hx'.1, fun e => ?_⟩
    rw [decide_eq_true e] at hx'
    cases hx'.2
  · rintro ⟨hx, xk⟩
    have hx' : x ∈ (if k ∈ Q then spF n A (tgN n P k) Q else k :: spF n A (tgN n P k) Q) := by
      refine spF_least (A := A) (P := P) (Q := Q) (fun y hy hd => ?_) x hx
      obtain ⟨⟨d1, d2⟩, d3⟩ := ndB_iff.mp hd
      have up : y = k → k ∉ Q := fun e z => by subst e; exact d2 z
      have key : y ≠ k → y ∈ spF n A (tgN n P k) Q := fun yk => by
        have yP : y ∉ tgN n P k := fun z => d1 ((mem_tg_ne yk hP).mp z)
        rcases d3 with ⟨j, j1, j2⟩ | ⟨j, j1, j2⟩
        · by_cases jk : j = k
          · subst jk
            exact absurd (k3 y j1) d1
          · refine sp_dem hQ W yP d2 j1 ?_
            rcases j2 with j2 | ⟨j2, j3⟩
            · split at j2
              · exact .inr j2
              · rcases List.mem_cons.mp j2 with z | z
                · exact absurd z jk
                · exact .inr z
            · exact .inl ⟨j2, fun z => j3 ((mem_tg_ne jk hP).mp z)⟩
        · refine sp_dem2 W yP d2 j1 ?_
          rcases j2 with j2 | ⟨j2, j3⟩
          · split at j2
            · exact .inr j2
            · rename_i hkQ
              rcases List.mem_cons.mp j2 with z | z
              · subst z
                exact .inl ⟨hkP', hkQ⟩
              · exact .inr z
          · have jk : j ≠ k := fun e => by subst e; exact k2 j2
            exact .inl ⟨(mem_tg_ne jk hP).mpr j2, j3⟩
      by_cases yk : y = k
      · rw [if_neg (up yk), yk]
        exact List.mem_cons_self
      · split
        · exact key yk
        · exact List.mem_cons_of_mem _ (key yk)
    split at hx'
    · exact hx'
    · rcases List.mem_cons.mp hx' with z | z
      · exact absurd z xk
      · exact z
theorem sp_out (W : Web n A) (hP : Stn n P) (hQ : Stn n Q) {k : Nat} (h : Mnd n A P Q (false, k)) (x : Nat) : x ∈ spF n A (tgN n P k) Q ↔ x ∈ spF n A P Q := by
  obtain ⟨k1, k2, k3, k4, k5⟩ := mnd_out W hP hQ h
  have hkP' : k ∉ tgN n P k := fun z => (mem_tg_eq k1).mp z k2
  have hR : Stn n (tgN n P k) := tgN_stn
  constructor
  · refine spF_least (A := A) (P := tgN n P k) (Q := Q) (fun y hy hd => ?_) x
    obtain ⟨⟨d1, d2⟩, d3⟩ := ndB_iff.mp hd
    have lt : ∀ j, (j ∈ spF n A P Q ∨ (j ∈ Q ∧ j ∉ tgN n P k)) → Ltd n A P Q j := fun j hj => by
      rcases hj with hj | ⟨j2, j3⟩
      · exact .inr hj
      · have jk : j ≠ k := fun e => by subst e; exact k3 j2
        exact .inl ⟨j2, fun z => j3 ((mem_tg_ne jk hP).mpr z)⟩
    have ot : ∀ j, (j ∈ spF n A P Q ∨ (j ∈ tgN n P k ∧ j ∉ Q)) → Otd n A P Q j := fun j hj => by
      rcases hj with hj | ⟨j2, j3⟩
      · exact .inr hj
      · have jk : j ≠ k := fun e => by subst e; exact hkP' j2
        exact .inl ⟨(mem_tg_ne jk hP).mp j2, j3⟩
    by_cases yk : y = k
    · subst yk
      rcases d3 with ⟨j, j1, j2⟩ | ⟨j, j1, j2⟩
      · exact absurd (lt j j2) (k4 j j1).2
      · exact absurd (ot j j2) (k5 j j1)
    · have yP : y ∉ P := fun z => d1 ((mem_tg_ne yk hP).mpr z)
      rcases d3 with ⟨j, j1, j2⟩ | ⟨j, j1, j2⟩
      · exact sp_dem hQ W yP d2 j1 (lt j j2)
      · exact sp_dem2 W yP d2 j1 (ot j j2)
  · refine spF_least (A := A) (P := P) (Q := Q) (fun y hy hd => ?_) x
    obtain ⟨⟨d1, d2⟩, d3⟩ := ndB_iff.mp hd
    have yk : y ≠ k := fun e => by subst e; exact d1 k2
    have yP : y ∉ tgN n P k := fun z => d1 ((mem_tg_ne yk hP).mp z)
    rcases d3 with ⟨j, j1, j2⟩ | ⟨j, j1, j2⟩
    · refine sp_dem hQ W yP d2 j1 ?_
      rcases j2 with j2 | ⟨j2, j3⟩
      · exact .inr j2
      · have jk : j ≠ k := fun e => by subst e; exact j3 k2
        exact .inl ⟨j2, fun z => j3 ((mem_tg_ne jk hP).mp z)⟩
    · by_cases jk : j = k
      · subst jk
        exact absurd (k4 y j1).1 d1
      · refine sp_dem2 W yP d2 j1 ?_
        rcases j2 with j2 | ⟨j2, j3⟩
        · exact .inr j2
        · exact .inl ⟨(mem_tg_ne jk hP).mpr j2, j3⟩
def deLt (x y : Bool × Nat) : Prop := (x.1 = true ∧ y.1 = false) ∨ (x.1 = y.1 ∧ x.2 < y.2)
theorem deLt_irr (x : Bool × Nat) : ¬ deLt x x := fun h => by
  rcases h with h | h
  · rw [h.1] at h; cases h.2
  · exact Nat.lt_irrefl _ h.2
theorem deLt_asy (x y : Bool × Nat) (h : deLt x y) (h2 : deLt y x) : False := by
  rcases h with h | h <;> rcases h2 with g | g
  · rw [h.1] at g; cases g.2
  · rw [h.1, h.2] at g; cases g.1
  · rw [g.1, g.2] at h; cases h.1
  · omega
theorem ds_asc : (dsN n A P Q).Pairwise deLt := by
  unfold dsN
  refine List.pairwise_append.mpr ⟨?_, ?_, fun x hx y hy => ?_⟩
  · rw [List.pairwise_map]
    exact mgN_asc.imp fun h => .inr ⟨rfl, h⟩
  · rw [List.pairwise_map]
    exact mgN_asc.imp fun h => .inr ⟨rfl, h⟩
  · obtain ⟨_, _, rfl⟩ := List.mem_map.mp hx
    obtain ⟨_, _, rfl⟩ := List.mem_map.mp hy
    exact .inl ⟨rfl, rfl⟩
/-- after a deed that comes before no other the others are left -/
theorem stp_ds (W : Web n A) (hP : Stn n P) (hQ : Stn n Q) {d : Bool × Nat} (h : Mnd n A P Q d) : dsN n A (tgN n P d.2) Q = (dsN n A P Q).filter fun x => !decide (x = d) := by
  refine asc_ext deLt_irr deLt_asy ds_asc (ds_asc.filter _) fun x => ?_
  rw [List.mem_filter]
  have hR : Stn n (tgN n P d.2) := tgN_stn
  obtain ⟨s, k⟩ := d
  obtain ⟨t, x⟩ := x
  have hne : ((!decide ((t, x) = (s, k))) = true) ↔ ¬ (t = s ∧ x = k) := by
    rw [Bool.not_eq_true', decide_eq_false_iff_not, Prod.mk.injEq]
  rw [hne]
  cases s with
  | true =>
    obtain ⟨k1, k2, k3⟩ := mnd_lit W hP hQ h
    have hl := (mem_ds_t hQ).mp h.1
    have sp := sp_lit W hP hQ h
    have hkP' : k ∈ tgN n P k := (mem_tg_eq k1).mpr k2
    cases t with
    | true =>
      rw [mem_ds_t hQ, mem_ds_t hQ]
      unfold Ltd
      rw [sp]
      by_cases xk : x = k
      · subst xk
        simp [hkP']
      · show (x ∈ Q ∧ x ∉ tgN n P k) ∨ _ ↔ _
        rw [mem_tg_ne xk hP]
        simp [xk]
    | false =>
      rw [mem_ds_f hR, mem_ds_f hP]
      unfold Otd
      rw [sp]
      by_cases xk : x = k
      · subst xk
        have hnP := k2
        have : x ∉ Q ↔ x ∈ spF n A P Q := by
          rcases hl with z | z
          · exact ⟨fun y => absurd z.1 y, fun y => absurd z.1 (spF_dark y).2⟩
          · exact ⟨fun _ => z, fun y => (spF_dark y).2⟩
        simp [hkP', this, k2]
      · show (x ∈ tgN n P k ∧ _) ∨ _ ↔ _
        rw [mem_tg_ne xk hP]
        simp [xk]
  | false =>
    obtain ⟨k1, k2, k3, k4, k5⟩ := mnd_out W hP hQ h
    have sp := sp_out W hP hQ h
    have hkP' : k ∉ tgN n P k := fun z => (mem_tg_eq k1).mp z k2
    have hks : k ∉ spF n A P Q := fun z => (spF_dark z).1 k2
    cases t with
    | true =>
      rw [mem_ds_t hQ, mem_ds_t hQ]
      unfold Ltd
      rw [sp]
      by_cases xk : x = k
      · subst xk
        simp [k3, hks]
      · show (x ∈ Q ∧ x ∉ tgN n P k) ∨ _ ↔ _
        rw [mem_tg_ne xk hP]
        simp [xk]
    | false =>
      rw [mem_ds_f hR, mem_ds_f hP]
      unfold Otd
      rw [sp]
      by_cases xk : x = k
      · subst xk
        simp [hkP', hks]
      · show (x ∈ tgN n P k ∧ _) ∨ _ ↔ _
        rw [mem_tg_ne xk hP]
        simp [xk]
end
end LF
end
section
set_option Elab.async false
set_option linter.all false
set_option maxRecDepth 100000
/-! Shortest words are the orders of the deeds. -/
namespace LF
open PySem DL
open L2 (atI ixN)
theorem subd_len {L M : List (Bool × Nat)} (hL : L.Pairwise deLt) (hM : M.Pairwise deLt) (h : ∀ x ∈ L, x ∈ M) : L.length ≤ M.length := by
  have e : L = M.filter (fun x => decide (x ∈ L)) := asc_ext deLt_irr deLt_asy hL (hM.filter _) fun x => by
    rw [List.mem_filter, decide_eq_true_eq]
    exact ⟨fun z => ⟨h x z, z⟩, fun z => z.2⟩
  rw [e]
  exact List.length_filter_le _ _
theorem flt_len : ∀ {L : List (Bool × Nat)} {e : Bool × Nat}, L.Pairwise deLt → e ∈ L → (L.filter fun x => !decide (x = e)).length + 1 = L.length
  | [], e, _, h => nomatch h
  | a :: L, e, hL, h => by
    have hp := List.pairwise_cons.mp hL
    by_cases he : a = e
    · subst he
      have : L.filter (fun x => !decide (x = a)) = L := List.filter_eq_self.mpr fun x hx => by
        have : x ≠ a := fun z => deLt_irr a (by have := hp.1 x hx; rwa [z] at this)
        rw [decide_eq_false this]; rfl
      rw [List.filter_cons_of_neg (by simp), this, List.length_cons]
    · have he' : e ∈ L := by
        rcases List.mem_cons.mp h with z | z
        · exact absurd z.symm he
        · exact z
      rw [List.filter_cons_of_pos (by simp [he]), List.length_cons, flt_len hp.2 he', List.length_cons]
section
variable {n : Nat} {A : List (Nat × Nat)} {P Q b : List Nat}
theorem ds_more (hP : Stn n P) (hQ : Stn n Q) {k : Nat} {e : Bool × Nat} (h : ∀ x ∈ dsN n A P Q, x ∈ dsN n A (tgN n P k) Q) (h1 : e ∈ dsN n A (tgN n P k) Q) (h2 : e ∉ dsN n A P Q) : DfN n A P Q + 1 ≤ DfN n A (tgN n P k) Q := by
  rw [← ds_num hP hQ, ← ds_num tgN_stn hQ, ← flt_len ds_asc h1]
  refine Nat.succ_le_succ (subd_len ds_asc (ds_asc.filter _) fun x hx => List.mem_filter.mpr ⟨h x hx, ?_⟩)
  have : x ≠ e := fun z => h2 (z ▸ hx)
  rw [decide_eq_false this]; rfl
theorem sp_up1 (W : Web n A) (hP : Stn n P) (hQ : Stn n Q) {k : Nat} (hk : k < n) (h1 : k ∉ P) (h2 : k ∉ Q) (h3 : k ∉ spF n A P Q) (hc : ∀ j, (j, k) ∈ A → j ∈ P) : ∀ x ∈ spF n A P Q, x ∈ spF n A (tgN n P k) Q := by
  have hkP' : k ∈ tgN n P k := (mem_tg_eq hk).mpr h1
  have hR : Stn n (tgN n P k) := tgN_stn
  intro x hx
  have hx' : x ∈ k :: spF n A (tgN n P k) Q := by
    refine spF_least (A := A) (P := P) (Q := Q) (fun y hy hd => ?_) x hx
    obtain ⟨⟨d1, d2⟩, d3⟩ := ndB_iff.mp hd
    by_cases yk : y = k
    · rw [yk]; exact List.mem_cons_self
    · refine List.mem_cons_of_mem _ ?_
      have yP : y ∉ tgN n P k := fun z => d1 ((mem_tg_ne yk hP).mp z)
      rcases d3 with ⟨j, j1, j2⟩ | ⟨j, j1, j2⟩
      · by_cases jk : j = k
        · subst jk
          exact absurd (hc y j1) d1
        · refine sp_dem hQ W yP d2 j1 ?_
          rcases j2 with j2 | ⟨j2, j3⟩
          · rcases List.mem_cons.mp j2 with z | z
            · exact absurd z jk
            · exact .inr z
          · exact .inl ⟨j2, fun z => j3 ((mem_tg_ne jk hP).mp z)⟩
      · refine sp_dem2 W yP d2 j1 ?_
        rcases j2 with j2 | ⟨j2, j3⟩
        · rcases List.mem_cons.mp j2 with z | z
          · subst z
            exact .inl ⟨hkP', h2⟩
          · exact .inr z
        · have jk : j ≠ k := fun e => by subst e; exact h1 j2
          exact .inl ⟨(mem_tg_ne jk hP).mpr j2, j3⟩
  rcases List.mem_cons.mp hx' with z | z
  · exact absurd (z ▸ hx) h3
  · exact z
theorem sp_up2 (W : Web n A) (hP : Stn n P) (hQ : Stn n Q) {k : Nat} (hk : k < n) (h1 : k ∈ P) (hc : ∀ j, (k, j) ∈ A → j ∈ P) : ∀ x ∈ spF n A P Q, x ∈ spF n A (tgN n P k) Q := by
  have hkP' : k ∉ tgN n P k := fun z => (mem_tg_eq hk).mp z h1
  refine spF_least (A := A) (P := P) (Q := Q) (fun y hy hd => ?_)
  obtain ⟨⟨d1, d2⟩, d3⟩ := ndB_iff.mp hd
  have yk : y ≠ k := fun e => by subst e; exact d1 h1
  have yP : y ∉ tgN n P k := fun z => d1 ((mem_tg_ne yk hP).mp z)
  rcases d3 with ⟨j, j1, j2⟩ | ⟨j, j1, j2⟩
  · refine sp_dem hQ W yP d2 j1 ?_
    rcases j2 with j2 | ⟨j2, j3⟩
    · exact .inr j2
    · have jk : j ≠ k := fun e => by subst e; exact j3 h1
      exact .inl ⟨j2, fun z => j3 ((mem_tg_ne jk hP).mp z)⟩
  · by_cases jk : j = k
    · subst jk
      exact absurd (hc y j1) d1
    · refine sp_dem2 W yP d2 j1 ?_
      rcases j2 with j2 | ⟨j2, j3⟩
      · exact .inr j2
      · exact .inl ⟨(mem_tg_ne jk hP).mpr j2, j3⟩
/-- a deed that brings nearer is one that comes before no other -/
theorem stp_up (W : Web n A) (hP : Stn n P) (hQ : Stn n Q) {k : Nat} (hd : k ∈ doN n A P) (hf : DfN n A (tgN n P k) Q + 1 = DfN n A P Q) : Mnd n A P Q (!decide (k ∈ P), k) := by
  obtain ⟨hk, hc⟩ := mem_doN.mp hd
  have hR : Stn n (tgN n P k) := tgN_stn
  by_cases kP : k ∈ P
  · rw [decide_eq_true kP]
    have hc := (can_dn kP).mp hc
    have up := sp_up2 (Q := Q) W hP hQ hk kP hc
    have hkP' : k ∉ tgN n P k := fun z => (mem_tg_eq hk).mp z kP
    have hks : k ∉ spF n A P Q := fun z => (spF_dark z).1 kP
    have notd : (true, k) ∉ dsN n A P Q := fun z => by
      rcases (mem_ds_t hQ).mp z with y | y
      · exact y.2 kP
      · exact hks y
    have all : (∀ x, (false, x) ∈ dsN n A P Q → x = k → (false, x) ∈ dsN n A (tgN n P k) Q) → ∀ x ∈ dsN n A P Q, x ∈ dsN n A (tgN n P k) Q := fun hz x hx => by
      obtain ⟨t, x⟩ := x
      cases t with
      | true =>
        rw [mem_ds_t hQ] at hx ⊢
        rcases hx with y | y
        · have xk : x ≠ k := fun e => by subst e; exact y.2 kP
          exact .inl ⟨y.1, fun z => y.2 ((mem_tg_ne xk hP).mp z)⟩
        · exact .inr (up x y)
      | false =>
        by_cases xk : x = k
        · exact hz x hx xk
        · rw [mem_ds_f hP] at hx
          rw [mem_ds_f hR]
          rcases hx with y | y
          · exact .inl ⟨(mem_tg_ne xk hP).mpr y.1, y.2⟩
          · exact .inr (up x y)
    by_cases kQ : k ∈ Q
    · have := ds_more hP hQ (e := (true, k)) (k := k) (all fun x hx xk => by
        subst xk
        rcases (mem_ds_f hP).mp hx with y | y
        · exact absurd kQ y.2
        · exact absurd y hks) ((mem_ds_t hQ).mpr (.inl ⟨kQ, hkP'⟩)) notd
      omega
    · refine ⟨(mem_ds_f hP).mpr (.inl ⟨kP, kQ⟩), fun f hf' => ?_⟩
      rw [Bool.eq_false_iff]
      intro hr
      obtain ⟨t, j⟩ := f
      cases t with
      | true =>
        have hj := (mem_ds_t hQ).mp hf'
        have hjP : j ∉ P := by
          rcases hj with y | y
          · exact y.2
          · exact (spF_dark y).1
        rw [Bool.not_true, ru_tf, Bool.or_eq_true, decide_eq_true_eq, decide_eq_true_eq] at hr
        rcases hr with e | e
        · subst e; exact hjP kP
        · exact hjP (hc j e)
      | false =>
        have hj := (mem_ds_f hP).mp hf'
        rw [Bool.not_true, ru_ff, decide_eq_true_eq] at hr
        have jk : j ≠ k := fun e => by
          have := W.ok _ hr
          simp only at this
          omega
        have hks' : k ∈ spF n A (tgN n P k) Q := by
          refine sp_dem2 W hkP' kQ hr ?_
          rcases hj with y | y
          · exact .inl ⟨(mem_tg_ne jk hP).mpr y.1, y.2⟩
          · exact .inr (up j y)
        have := ds_more hP hQ (e := (true, k)) (k := k) (all fun x hx xk => by
          subst xk
          exact (mem_ds_f hR).mpr (.inr hks')) ((mem_ds_t hQ).mpr (.inr hks')) notd
        omega
  · rw [decide_eq_false kP]
    have hc := (can_up kP).mp hc
    have hkP' : k ∈ tgN n P k := (mem_tg_eq hk).mpr kP
    by_cases hl : Ltd n A P Q k
    · refine ⟨(mem_ds_t hQ).mpr hl, fun f hf' => ?_⟩
      rw [Bool.eq_false_iff]
      intro hr
      obtain ⟨t, j⟩ := f
      cases t with
      | true =>
        rw [Bool.not_false, ru_tt, decide_eq_true_eq] at hr
        have hjP := hc j hr
        rcases (mem_ds_t hQ).mp hf' with y | y
        · exact y.2 hjP
        · exact (spF_dark y).1 hjP
      | false =>
        rw [Bool.not_false, ru_ft] at hr
        cases hr
    · exfalso
      have kQ : k ∉ Q := fun z => hl (.inl ⟨z, kP⟩)
      have hks : k ∉ spF n A P Q := fun z => hl (.inr z)
      have up := sp_up1 W hP hQ hk kP kQ hks hc
      have := ds_more hP hQ (e := (false, k)) (k := k) (fun x hx => by
        obtain ⟨t, x⟩ := x
        cases t with
        | true =>
          rw [mem_ds_t hQ] at hx ⊢
          have xk : x ≠ k := fun e => by subst e; exact hl hx
          rcases hx with y | y
          · exact .inl ⟨y.1, fun z => y.2 ((mem_tg_ne xk hP).mp z)⟩
          · exact .inr (up x y)
        | false =>
          rw [mem_ds_f hP] at hx
          rw [mem_ds_f hR]
          rcases hx with y | y
          · have xk : x ≠ k := fun e => by subst e; exact kP y.1
            exact .inl ⟨(mem_tg_ne xk hP).mpr y.1, y.2⟩
          · exact .inr (up x y)) ((mem_ds_f hR).mpr (.inl ⟨hkP', kQ⟩)) (fun z => by
        rcases (mem_ds_f hP).mp z with y | y
        · exact kP y.1
        · exact hks y)
      omega
/-- the deeds by which one comes nearer to Q -/
def stN (n : Nat) (A : List (Nat × Nat)) (Q b : List Nat) : List Nat := (doN n A b).filter fun k => decide (DfN n A (tgN n b k) Q + 1 = DfN n A b Q)
theorem mnd_dec (W : Web n A) (hP : Stn n P) (hQ : Stn n Q) {d : Bool × Nat} (h : Mnd n A P Q d) : DfN n A (tgN n P d.2) Q + 1 = DfN n A P Q := by
  rw [← ds_num hP hQ, ← ds_num tgN_stn hQ, stp_ds W hP hQ h, flt_len ds_asc h.1]
theorem mem_stN (W : Web n A) (hP : Stn n P) (hQ : Stn n Q) {k : Nat} : k ∈ stN n A Q P ↔ Mnd n A P Q (!decide (k ∈ P), k) := by
  unfold stN
  rw [List.mem_filter, decide_eq_true_eq]
  constructor
  · exact fun h => stp_up W hP hQ h.1 h.2
  · intro h
    have h1 := (stp_can W hP hQ h).1
    have h2 := mnd_dec W hP hQ h
    dsimp only at h1 h2
    exact ⟨h1, h2⟩
theorem mnd_st (W : Web n A) (hP : Stn n P) (hQ : Stn n Q) {d : Bool × Nat} (h : Mnd n A P Q d) : d.2 ∈ stN n A Q P := by
  obtain ⟨s, k⟩ := d
  have := (stp_can W hP hQ h).2
  simp only at this
  rw [mem_stN W hP hQ, ← this]
  exact h
theorem stN_asc : (stN n A Q b).Pairwise (· < ·) := (doN_asc (n := n) (A := A) (b := b)).filter _
theorem df_zero (hP : Stn n P) (hQ : Stn n Q) (h : DfN n A P Q = 0) : P = Q := by
  rw [← ds_num hP hQ, List.length_eq_zero_iff] at h
  refine asc_same hP.asc hQ.asc fun x => ?_
  have h1 : ¬ Ltd n A P Q x := fun z => by
    have := (mem_ds_t hQ).mpr z
    rw [h] at this
    cases this
  have h2 : ¬ Otd n A P Q x := fun z => by
    have := (mem_ds_f hP).mpr z
    rw [h] at this
    cases this
  exact ⟨fun z => Classical.byContradiction fun y => h2 (.inl ⟨z, y⟩), fun z => Classical.byContradiction fun y => h1 (.inl ⟨z, y⟩)⟩
/-- is ks a shortest word from b to Q -/
def IsW (n : Nat) (A : List (Nat × Nat)) (Q : List Nat) : List Nat → List Nat → Prop
  | b, [] => b = Q
  | b, k :: ks => k ∈ stN n A Q b ∧ IsW n A Q (tgN n b k) ks
theorem isW_len (hQ : Stn n Q) : ∀ {ks : List Nat} {b : List Nat}, Stn n b → IsW n A Q b ks → ks.length = DfN n A b Q
  | [], b, hb, h => by
    have e : b = Q := h
    subst e
    have : (dsN n A b b) = [] := by
      refine List.eq_nil_iff_forall_not_mem.mpr fun x hx => ?_
      have hsp : ∀ y, y ∉ spF n A b b := fun y hy => by
        have := spF_least (n := n) (A := A) (P := b) (Q := b) (S := []) (fun z _ hz => by
          obtain ⟨_, d3⟩ := ndB_iff.mp hz
          rcases d3 with ⟨j, _, j2⟩ | ⟨j, _, j2⟩
          · rcases j2 with j2 | j2
            · cases j2
            · exact absurd j2.1 j2.2
          · rcases j2 with j2 | j2
            · cases j2
            · exact absurd j2.1 j2.2) y hy
        cases this
      obtain ⟨t, x⟩ := x
      cases t with
      | true =>
        rcases (mem_ds_t hb).mp hx with y | y
        · exact y.2 y.1
        · exact hsp x y
      | false =>
        rcases (mem_ds_f hb).mp hx with y | y
        · exact y.2 y.1
        · exact hsp x y
    rw [← ds_num hb hb, this]
    rfl
  | k :: ks, b, hb, h => by
    have h1 := (List.mem_filter.mp h.1).2
    rw [decide_eq_true_eq] at h1
    rw [List.length_cons, isW_len hQ tgN_stn h.2, h1]
/-- something can always be done next -/
theorem mnd_ex (W : Web n A) (hP : Stn n P) (hQ : Stn n Q) (h : P ≠ Q) : ∃ d, Mnd n A P Q d := by
  have hne : DfN n A P Q ≠ 0 := fun z => h (df_zero hP hQ z)
  have hw := high_way W.ok hP hQ
  generalize hm : DfN n A P Q = m at hw hne
  have gen : ∀ m s, Pth (nxN n A) P m s → Stn n s → m ≠ 0 → ∃ k ∈ doN n A P, DfN n A (tgN n P k) s + 1 ≤ m := by
    intro m s hs
    induction hs with
    | zero => intro _ h; exact absurd rfl h
    | @step m s t hs ht ih =>
      intro hst _
      have hss := (way_of hP hs).1
      cases m with
      | zero =>
        cases hs
        obtain ⟨k, h1, h2, rfl⟩ := mem_nxN.mp ht
        refine ⟨k, mem_doN.mpr ⟨h1, h2⟩, ?_⟩
        have : (tgN n P k) = tgN n P k := rfl
        have z := low_le (n := n) (A := A) (tgN_stn (n := n) (b := P) (k := k)) (Pth.zero (nx := nxN n A) (s0 := tgN n P k))
        omega
      | succ m =>
        obtain ⟨k, h1, h2⟩ := ih hss (by omega)
        refine ⟨k, h1, ?_⟩
        have hh := high_way (A := A) W.ok (tgN_stn (n := n) (b := P) (k := k)) hss
        have := low_le tgN_stn (hh.step ht)
        omega
  obtain ⟨k, h1, h2⟩ := gen m Q hw hQ hne
  have hh := high_way (A := A) W.ok (tgN_stn (n := n) (b := P) (k := k)) hQ
  have h3 : DfN n A P Q ≤ DfN n A (tgN n P k) Q + 1 := by
    have : ∀ m s, Pth (nxN n A) (tgN n P k) m s → ∃ j, j ≤ m + 1 ∧ Pth (nxN n A) P j s := by
      intro m s hs
      induction hs with
      | zero => exact ⟨1, by omega, Pth.step Pth.zero (mem_nxN.mpr ⟨k, (mem_doN.mp h1).1, (mem_doN.mp h1).2, rfl⟩)⟩
      | step hs ht ih =>
        obtain ⟨j, j1, j2⟩ := ih
        exact ⟨j + 1, by omega, j2.step ht⟩
    obtain ⟨j, j1, j2⟩ := this _ _ hh
    have := low_le hP j2
    omega
  exact ⟨_, stp_up W hP hQ h1 (by omega)⟩
end
end LF
end
section
set_option Elab.async false
set_option linter.all false
set_option maxRecDepth 100000
/-! All shortest words, as the laws work them out. -/
namespace LF
open PySem DL
open L2 (atI ixN)
abbrev RW : Type := List Nat × List Nat
section
variable {n : Nat} {A : List (Nat × Nat)} {P Q b : List Nat}
def rwS (n : Nat) (A : List (Nat × Nat)) (Q : List Nat) (x : RW) : List RW := (stN n A Q x.2).map fun k => (x.1 ++ [k], tgN n x.2 k)
def lvW (n : Nat) (A : List (Nat × Nat)) (Q : List Nat) : Nat → List RW → List RW
  | 0, r => r
  | t + 1, r => lvW n A Q t (r.flatMap (rwS n A Q))
def pthS (n : Nat) (A : List (Nat × Nat)) (Q : List Nat) : List Nat → List Nat → List Nat → Prop
  | b, [], c => c = b
  | b, k :: ks, c => k ∈ stN n A Q b ∧ pthS n A Q (tgN n b k) ks c
theorem mem_lvW {w c : List Nat} : ∀ (t : Nat) (r : List RW), (w, c) ∈ lvW n A Q t r ↔ ∃ x ∈ r, ∃ v : List Nat, v.length = t ∧ w = x.1 ++ v ∧ pthS n A Q x.2 v c
  | 0, r => by
    constructor
    · exact fun h => ⟨(w, c), h, [], rfl, (List.append_nil _).symm, rfl⟩
    · rintro ⟨x, hx, v, hv, rfl, h3⟩
      have : v = [] := List.length_eq_zero_iff.mp hv
      subst this
      have e : c = x.2 := h3
      subst e
      rw [List.append_nil]
      exact hx
  | t + 1, r => by
    show (w, c) ∈ lvW n A Q t (r.flatMap (rwS n A Q)) ↔ _
    rw [mem_lvW t]
    constructor
    · rintro ⟨y, hy, v, hv, rfl, h3⟩
      obtain ⟨x, hx, hyx⟩ := List.mem_flatMap.mp hy
      obtain ⟨k, hk, rfl⟩ := List.mem_map.mp hyx
      exact ⟨x, hx, k :: v, by rw [List.length_cons, hv], by rw [List.append_assoc]; rfl, hk, h3⟩
    · rintro ⟨x, hx, v, hv, rfl, h3⟩
      cases v with
      | nil => cases hv
      | cons k v =>
        refine ⟨(x.1 ++ [k], tgN n x.2 k), List.mem_flatMap.mpr ⟨x, hx, List.mem_map.mpr ⟨k, h3.1, rfl⟩⟩, v, by rw [List.length_cons] at hv; omega, by rw [List.append_assoc]; rfl, h3.2⟩
/-- all shortest words -/
def wdsN (n : Nat) (A : List (Nat × Nat)) (P Q : List Nat) : List (List Nat) := (lvW n A Q (DfN n A P Q) [([], P)]).map (·.1)
theorem pthS_end (hQ : Stn n Q) : ∀ (v b c : List Nat), Stn n b → pthS n A Q b v c → Stn n c ∧ DfN n A c Q + v.length = DfN n A b Q
  | [], b, c, hb, h => by
    have e : c = b := h
    subst e
    exact ⟨hb, rfl⟩
  | k :: v, b, c, hb, h => by
    have h1 := (List.mem_filter.mp h.1).2
    rw [decide_eq_true_eq] at h1
    obtain ⟨i1, i2⟩ := pthS_end hQ v _ c tgN_stn h.2
    exact ⟨i1, by rw [List.length_cons]; omega⟩
theorem pthS_isW : ∀ (v b : List Nat), pthS n A Q b v Q ↔ IsW n A Q b v
  | [], b => ⟨fun h => h.symm, fun h => h.symm⟩
  | k :: v, b => ⟨fun h => ⟨h.1, (pthS_isW v _).mp h.2⟩, fun h => ⟨h.1, (pthS_isW v _).mpr h.2⟩⟩
theorem mem_wds (hP : Stn n P) (hQ : Stn n Q) {w : List Nat} : w ∈ wdsN n A P Q ↔ IsW n A Q P w := by
  unfold wdsN
  rw [List.mem_map]
  constructor
  · rintro ⟨⟨w', c⟩, h, rfl⟩
    obtain ⟨x, hx, v, hv, h1, h2⟩ := (mem_lvW _ _).mp h
    rw [List.mem_singleton.mp hx] at h1 h2
    rw [List.nil_append] at h1
    subst h1
    obtain ⟨i1, i2⟩ := pthS_end hQ w' P c hP h2
    have : c = Q := df_zero (n := n) (A := A) i1 hQ (by omega)
    subst this
    exact (pthS_isW _ _).mp h2
  · intro h
    have hl := isW_len hQ hP h
    exact ⟨(w, Q), (mem_lvW _ _).mpr ⟨([], P), List.mem_singleton.mpr rfl, w, hl, rfl, (pthS_isW _ _).mpr h⟩, rfl⟩
variable {m : Nat} {b4 b5 b6 b7 b8 b9 b10 b11 : B}
def RwOk (n : Nat) (A : List (Nat × Nat)) (Q : List Nat) (L t : Nat) (rs : List RW) : Prop := ∀ x ∈ rs, Stn n x.2 ∧ DfN n A x.2 Q + t = L ∧ x.1.length ≤ t
theorem RwOk.step {L t : Nat} {rs : List RW} (h : RwOk n A Q L t rs) : RwOk n A Q L (t + 1) (rs.flatMap (rwS n A Q)) := fun y hy => by
  obtain ⟨x, hx, hyx⟩ := List.mem_flatMap.mp hy
  obtain ⟨k, hk, rfl⟩ := List.mem_map.mp hyx
  obtain ⟨h1, h2, h3⟩ := h x hx
  have h4 := (List.mem_filter.mp hk).2
  rw [decide_eq_true_eq] at h4
  refine ⟨tgN_stn, ?_, ?_⟩
  · show DfN n A (tgN n x.2 k) Q + (t + 1) = L
    omega
  · show (x.1 ++ [k]).length ≤ _
    rw [List.length_append]
    show _ + 1 ≤ _
    omega
end
end LF
end
section
set_option Elab.async false
set_option linter.all false
set_option maxRecDepth 100000
/-! First and last deeds of shortest words; the least word. -/
namespace LF
open PySem DL
open L2 (atI ixN)
section
variable {n : Nat} {A : List (Nat × Nat)} {P Q b : List Nat}
theorem isw_ex (W : Web n A) (hQ : Stn n Q) : ∀ (m : Nat) (b : List Nat), Stn n b → DfN n A b Q = m → ∃ w, IsW n A Q b w
  | 0, b, hb, h => ⟨[], df_zero hb hQ h⟩
  | m + 1, b, hb, h => by
    have hne : b ≠ Q := fun e => by
      subst e
      have := low_le (n := n) (A := A) hb (Pth.zero (nx := nxN n A) (s0 := b))
      omega
    obtain ⟨d, hd⟩ := mnd_ex W hb hQ hne
    have := mnd_dec W hb hQ hd
    obtain ⟨w, hw⟩ := isw_ex W hQ m (tgN n b d.2) tgN_stn (by omega)
    exact ⟨d.2 :: w, mnd_st W hb hQ hd, hw⟩
theorem df_self (hb : Stn n b) : DfN n A b b = 0 := by
  have := low_le (n := n) (A := A) hb (Pth.zero (nx := nxN n A) (s0 := b))
  omega
/-- the least shortest word -/
def grW (n : Nat) (A : List (Nat × Nat)) (Q : List Nat) : Nat → List Nat → List Nat
  | 0, _ => []
  | m + 1, b => match stN n A Q b with
    | [] => []
    | k :: _ => k :: grW n A Q m (tgN n b k)
theorem st_ne (W : Web n A) (hb : Stn n b) (hQ : Stn n Q) {m : Nat} (h : DfN n A b Q = m + 1) : ∃ k ks, stN n A Q b = k :: ks := by
  have hne : b ≠ Q := fun e => by
    subst e
    rw [df_self hb] at h
    cases h
  obtain ⟨d, hd⟩ := mnd_ex W hb hQ hne
  have := mnd_st W hb hQ hd
  cases h : stN n A Q b with
  | nil => rw [h] at this; cases this
  | cons k ks => exact ⟨k, ks, rfl⟩
theorem st_dec {k : Nat} (h : k ∈ stN n A Q b) : DfN n A (tgN n b k) Q + 1 = DfN n A b Q := by
  have := (List.mem_filter.mp h).2
  rwa [decide_eq_true_eq] at this
theorem grW_is (W : Web n A) (hQ : Stn n Q) : ∀ (m : Nat) (b : List Nat), Stn n b → DfN n A b Q = m → IsW n A Q b (grW n A Q m b)
  | 0, b, hb, h => df_zero hb hQ h
  | m + 1, b, hb, h => by
    obtain ⟨k, ks, e⟩ := st_ne W hb hQ h
    have hk : k ∈ stN n A Q b := by rw [e]; exact List.mem_cons_self
    have := st_dec hk
    unfold grW
    rw [e]
    exact ⟨hk, grW_is W hQ m _ tgN_stn (by omega)⟩
theorem grW_le (W : Web n A) (hQ : Stn n Q) : ∀ (m : Nat) (b w : List Nat), Stn n b → DfN n A b Q = m → IsW n A Q b w → castL (grW n A Q m b) ≤ castL w
  | 0, b, w, hb, h, hw => List.nil_le _
  | m + 1, b, w, hb, h, hw => by
    obtain ⟨k, ks, e⟩ := st_ne W hb hQ h
    have hk : k ∈ stN n A Q b := by rw [e]; exact List.mem_cons_self
    have hd := st_dec hk
    cases w with
    | nil =>
      have e : b = Q := hw
      subst e
      rw [df_self hb] at h
      cases h
    | cons j w =>
      unfold grW
      rw [e]
      have hj := hw.1
      have hjk : k ≤ j := by
        have ha := stN_asc (n := n) (A := A) (Q := Q) (b := b)
        rw [e] at ha hj
        rcases List.mem_cons.mp hj with z | z
        · omega
        · have := (List.pairwise_cons.mp ha).1 j z
          omega
      show ((k : Int) :: castL (grW n A Q m (tgN n b k))) ≤ ((j : Int) :: castL w)
      rw [List.cons_le_cons_iff]
      by_cases hjk' : k = j
      · subst hjk'
        exact .inr ⟨rfl, grW_le W hQ m _ w tgN_stn (by omega) hw.2⟩
      · exact .inl (by omega)
end
end LF
end
section
set_option Elab.async false
set_option linter.all false
set_option maxRecDepth 100000
/-! Deeds as values: next ones, the least word, first and last deeds. -/
namespace LF
open PySem DL
open L2 (atI ixN)
/-! the least of lamps with sorts -/
section
variable {n : Nat} {A : List (Nat × Nat)} {P Q b : List Nat}
end
end LF
end
section
set_option Elab.async false
set_option linter.all false
set_option maxRecDepth 100000
/-! The law of first and last deeds. -/
namespace LF
open PySem DL
open L2 (atI ixN)
theorem snoc_of {w : List Nat} (h : w ≠ []) : ∃ v k, w = v ++ [k] := ⟨w.dropLast, w.getLast h, (List.dropLast_concat_getLast h).symm⟩
section
variable {n : Nat} {A : List (Nat × Nat)} {P Q b : List Nat} {s : D} {l : List D}
variable {b5 b6 b7 b8 b9 b10 b11 : B}
end
end LF
end
section
set_option Elab.async false
set_option linter.all false
set_option maxRecDepth 100000
/-! Counting orders by sets of what is done. -/
namespace LF
open PySem DL
open L2 (atI ixN)
/-! ### dicts of numbers that are added up -/
abbrev FB : Type := List (List Nat × Nat)
def addB : FB → List Nat → Nat → FB
  | [], s, v => [(s, v)]
  | (k, c) :: F, s, v => if k = s then (k, c + v) :: F else (k, c) :: addB F s v
theorem mem_add {F : FB} {s x : List Nat} {v : Nat} : x ∈ keysB (addB F s v) ↔ x ∈ keysB F ∨ x = s := by
  induction F with
  | nil => show x ∈ [s] ↔ _; simp [keysB]
  | cons p F ih =>
    obtain ⟨k, c⟩ := p
    unfold addB
    split
    · rename_i h
      subst h
      show x ∈ k :: keysB F ↔ x ∈ k :: keysB F ∨ x = k
      rw [List.mem_cons]
      constructor
      · exact fun h => .inl h
      · rintro (h | h)
        · exact h
        · exact .inl h
    · show x ∈ k :: keysB (addB F s v) ↔ x ∈ k :: keysB F ∨ x = s
      rw [List.mem_cons, List.mem_cons, ih]
      constructor
      · rintro (h | h | h)
        · exact .inl (.inl h)
        · exact .inl (.inr h)
        · exact .inr h
      · rintro ((h | h) | h)
        · exact .inl h
        · exact .inr (.inl h)
        · exact .inr (.inr h)
theorem nd_add {F : FB} {s : List Nat} {v : Nat} (h : (keysB F).Nodup) : (keysB (addB F s v)).Nodup := by
  induction F with
  | nil => show ([s] : List (List Nat)).Nodup; simp
  | cons p F ih =>
    obtain ⟨k, c⟩ := p
    have hn := List.nodup_cons.mp h
    unfold addB
    split
    · exact h
    · rename_i hk
      show (k :: keysB (addB F s v)).Nodup
      refine List.nodup_cons.mpr ⟨fun z => ?_, ih hn.2⟩
      rcases mem_add.mp z with z | z
      · exact hn.1 z
      · exact hk z
theorem look_no {F : FB} {s : List Nat} (h : s ∉ keysB F) : lookB F s = 0 := by
  induction F with
  | nil => rfl
  | cons p F ih =>
    obtain ⟨k, c⟩ := p
    have h1 : ¬ k = s := fun e => h (by rw [← e]; exact List.mem_cons_self)
    show (if k = s then c else lookB F s) = 0
    rw [if_neg h1]
    exact ih fun z => h (List.mem_cons_of_mem _ z)
/-! ### orders of some things -/
section
variable {A : List (Nat × Nat)} {D' : List (Bool × Nat)}
end
end LF
end
section
set_option Elab.async false
set_option linter.all false
set_option maxRecDepth 100000
/-! The number of shortest words is the number of orders. -/
namespace LF
open PySem DL
open L2 (atI ixN)
section
variable {n : Nat} {A : List (Nat × Nat)} {P Q b : List Nat}
/-! ### rows of orders -/
end
end LF
end
section
set_option Elab.async false
set_option linter.all false
set_option maxRecDepth 100000
/-! counts_of: the number of orders. -/
namespace LF
open PySem DL
open L2 (atI ixN)
/-! dicts with numbers as keys -/
def dcI (g : Nat → D) (L : List Nat) : List (D × D) := L.map fun k : Nat => (.int (k : Int), g k)
theorem getE_I (g : Nat → D) (k : Nat) : ∀ L : List Nat, getE false (dcI g L) (.num k) = if k ∈ L then some (g k) else none
  | [] => rfl
  | j :: L => by
    have ih := getE_I g k L
    unfold getE at ih ⊢
    show (((PyData.int (j : Int), g j) :: dcI g L).find? (kEq false (.num k))).map (·.2) = _
    have hk : kEq false (.num k) (PyData.int (j : Int), g j) = decide (j = k) := by
      unfold kEq
      show decide (some (NestedKey.num (j : Int)) = some (NestedKey.num (k : Int))) = _
      rw [decide_eq_decide]
      simp
      omega
    rw [List.find?_cons, hk]
    by_cases h : j = k
    · subst h
      simp
    · simp only [h, decide_false]
      rw [ih]
      have : ¬ k = j := fun z => h z.symm
      simp [this]
theorem dGet_I (g : Nat → D) (L : List Nat) (k : Nat) : dGet (dcI g L) (.int k) = some (if k ∈ L then some (g k) else none) := by
  have hs : sameT (dcI g L) (.int k) = true := by cases L <;> rfl
  unfold dGet
  rw [if_pos hs]
  show some (getE false (dcI g L) (.num k)) = _
  rw [getE_I]
theorem dPut_I {g : Nat → D} {L : List Nat} {k : Nat} (h : k ∉ L) : dPut false (dcI g L) (.int k) (g k) = some (dcI g (L ++ [k])) := by
  show some (putE false (dcI g L) (.num k) (.int k) (g k)) = _
  unfold putE
  rw [getE_I, if_neg h, if_neg (by decide)]
  congr 1
  unfold dcI
  rw [List.map_append]
  rfl
section
variable {A : List (Nat × Nat)} {D' : List (Bool × Nat)}
end
section
variable {n : Nat} {A : List (Nat × Nat)} {P Q b : List Nat}
end
end LF
end
section
set_option Elab.async false
set_option linter.all false
set_option maxRecDepth 100000
/-! The law of orders of deeds. -/
namespace LF
open PySem DL
open L2 (atI ixN)
section
variable {n : Nat} {A : List (Nat × Nat)} {P Q b : List Nat} {m : Nat} {b4 b5 b6 b7 b8 b9 b10 b11 : B}
variable {s : D} {l : List D}
variable {b12 b13 b14 : B}
end
end LF
end
section
set_option Elab.async false
set_option linter.all false
set_option maxRecDepth 100000
/-! The law of orders of deeds: the end. -/
namespace LF
open PySem DL
open L2 (atI ixN)
section
variable {n : Nat} {A : List (Nat × Nat)} {P Q b : List Nat} {s : D} {l : List D} {b5 b6 b7 b8 b9 b10 b11 b12 b13 b14 : B}
end
end LF
end
section
set_option Elab.async false
set_option linter.all false
set_option maxRecDepth 100000
/-! Shortest words by their last deed. -/
namespace LF
open PySem DL
open L2 (atI ixN)
section
variable {n : Nat} {A : List (Nat × Nat)} {P Q b : List Nat}
theorem pth_app {α : Type} {nx : α → List α} {s0 s1 : α} {d : Nat} (h : Pth nx s0 d s1) : ∀ {e : Nat} {s2 : α}, Pth nx s1 e s2 → Pth nx s0 (d + e) s2 := fun {e s2} h2 => by
  induction h2 with
  | zero => exact h
  | step h3 h4 ih => exact ih.step h4
theorem df_tri (W : Web n A) {r s t : List Nat} (hr : Stn n r) (hs : Stn n s) (ht : Stn n t) : DfN n A r t ≤ DfN n A r s + DfN n A s t :=
  low_le hr (pth_app (high_way W.ok hr hs) (high_way W.ok hs ht))
theorem df_one (W : Web n A) (hb : Stn n b) {k : Nat} (hk : k ∈ doN n A b) : DfN n A b (tgN n b k) ≤ 1 :=
  low_le hb (Pth.step Pth.zero (mem_nxN.mpr ⟨k, (mem_doN.mp hk).1, (mem_doN.mp hk).2, rfl⟩))
theorem mem_st {k : Nat} : k ∈ stN n A Q b ↔ k ∈ doN n A b ∧ DfN n A (tgN n b k) Q + 1 = DfN n A b Q := by
  unfold stN
  rw [List.mem_filter, decide_eq_true_eq]
/-- the last deed of a shortest word -/
theorem snoc_dec (W : Web n A) (hQ : Stn n Q) {k : Nat} : ∀ (w b : List Nat), Stn n b → IsW n A Q b (w ++ [k]) → ∃ r, Stn n r ∧ IsW n A r b w ∧ k ∈ doN n A r ∧ tgN n r k = Q ∧ DfN n A b r + 1 = DfN n A b Q
  | [], b, hb, h => by
    have h1 : k ∈ stN n A Q b := h.1
    have h2 : tgN n b k = Q := h.2
    have h3 := mem_st.mp h1
    rw [h2, df_self hQ] at h3
    exact ⟨b, hb, rfl, h3.1, h2, by rw [df_self hb]; exact h3.2⟩
  | j :: w, b, hb, h => by
    have h1 := mem_st.mp h.1
    obtain ⟨r, r1, r2, r3, r4, r5⟩ := snoc_dec W hQ w (tgN n b j) tgN_stn h.2
    have t1 := df_tri W hb (tgN_stn (n := n) (b := b) (k := j)) r1
    have t2 := df_one W hb h1.1
    have t3 := df_tri W hb r1 hQ
    have t4 := df_one W r1 r3
    rw [r4] at t4
    refine ⟨r, r1, ⟨mem_st.mpr ⟨h1.1, by omega⟩, r2⟩, r3, r4, by omega⟩
theorem snoc_mk (W : Web n A) (hQ : Stn n Q) {k : Nat} {r : List Nat} (hr : Stn n r) (hk : k ∈ doN n A r) (he : tgN n r k = Q) : ∀ (w b : List Nat), Stn n b → IsW n A r b w → DfN n A b r + 1 = DfN n A b Q → IsW n A Q b (w ++ [k])
  | [], b, hb, h, hd => by
    have e : b = r := h
    subst e
    refine ⟨mem_st.mpr ⟨hk, ?_⟩, he⟩
    rw [he, df_self hQ, ← hd, df_self hb]
  | j :: w, b, hb, h, hd => by
    have h1 := mem_st.mp h.1
    have t1 := df_tri W (tgN_stn (n := n) (b := b) (k := j)) hr hQ
    have t2 := df_one W hr hk
    rw [he] at t2
    have t3 := df_tri W hb (tgN_stn (n := n) (b := b) (k := j)) hQ
    have t4 := df_one W hb h1.1
    refine ⟨mem_st.mpr ⟨h1.1, by omega⟩, snoc_mk W hQ hr hk he w (tgN n b j) tgN_stn h.2 (by omega)⟩
theorem isW_snoc (W : Web n A) (hP : Stn n P) (hQ : Stn n Q) (h : P ≠ Q) {w : List Nat} (hw : IsW n A Q P w) : ∃ v k, w = v ++ [k] := by
  refine snoc_of fun e => h ?_
  subst e
  exact hw
/-- the least shortest word -/
def lwN (n : Nat) (A : List (Nat × Nat)) (P s : List Nat) : List Nat := grW n A s (DfN n A P s) P
theorem lw_is (W : Web n A) (hP : Stn n P) {s : List Nat} (hs : Stn n s) : IsW n A s P (lwN n A P s) := grW_is W hs _ P hP rfl
theorem lw_le (W : Web n A) (hP : Stn n P) {s w : List Nat} (hs : Stn n s) (hw : IsW n A s P w) : castL (lwN n A P s) ≤ castL w := grW_le W hs _ P w hP rfl hw
theorem cast_snoc : ∀ {v w : List Nat} {k : Nat}, v.length = w.length → castL v ≤ castL w → castL (v ++ [k]) ≤ castL (w ++ [k])
  | [], [], k, _, _ => List.le_refl _
  | [], _ :: _, _, h, _ => by cases h
  | _ :: _, [], _, h, _ => by cases h
  | a :: v, c :: w, k, h, h2 => by
    have h2 : ((a : Int) :: castL v) ≤ ((c : Int) :: castL w) := h2
    rw [List.cons_le_cons_iff] at h2
    show ((a : Int) :: castL (v ++ [k])) ≤ ((c : Int) :: castL (w ++ [k]))
    rw [List.cons_le_cons_iff]
    rcases h2 with h2 | ⟨h2, h3⟩
    · exact .inl h2
    · exact .inr ⟨h2, cast_snoc (by simpa using h) h3⟩
/-- a step from the standings d deeds away to those d + 1 away -/
def CdN (n : Nat) (A : List (Nat × Nat)) (P : List Nat) (d : Nat) (c : List Nat × Nat) : Prop := Stn n c.1 ∧ DfN n A P c.1 = d ∧ c.2 ∈ doN n A c.1 ∧ DfN n A P (tgN n c.1 c.2) = d + 1
theorem cd_word (W : Web n A) (hP : Stn n P) {d : Nat} {c : List Nat × Nat} (h : CdN n A P d c) : IsW n A (tgN n c.1 c.2) P (lwN n A P c.1 ++ [c.2]) :=
  snoc_mk W tgN_stn h.1 h.2.2.1 rfl _ P hP (lw_is W hP h.1) (by rw [h.2.1, h.2.2.2])
theorem cd_ex (W : Web n A) (hP : Stn n P) {d : Nat} {s w : List Nat} (hs : Stn n s) (hd : DfN n A P s = d + 1) (hw : IsW n A s P w) : ∃ c v, CdN n A P d c ∧ tgN n c.1 c.2 = s ∧ w = v ++ [c.2] ∧ IsW n A c.1 P v := by
  have hne : P ≠ s := fun e => by
    subst e
    rw [df_self hP] at hd
    omega
  obtain ⟨v, k, rfl⟩ := isW_snoc W hP hs hne hw
  obtain ⟨r, r1, r2, r3, r4, r5⟩ := snoc_dec W hs v P hP hw
  exact ⟨(r, k), v, ⟨r1, by show DfN n A P r = d; omega, r3, by show DfN n A P (tgN n r k) = d + 1; rw [r4, hd]⟩, r4, rfl, r2⟩
/-- the least of the words by their last deeds is the least -/
theorem lw_of (W : Web n A) (hP : Stn n P) {d : Nat} {s x : List Nat} (hs : Stn n s) (hd : DfN n A P s = d + 1) (h1 : ∃ c, CdN n A P d c ∧ tgN n c.1 c.2 = s ∧ x = lwN n A P c.1 ++ [c.2]) (h2 : ∀ c, CdN n A P d c → tgN n c.1 c.2 = s → castL x ≤ castL (lwN n A P c.1 ++ [c.2])) : x = lwN n A P s := by
  obtain ⟨c, c1, c2, rfl⟩ := h1
  have w1 := cd_word W hP c1
  rw [c2] at w1
  have a := lw_le W hP hs w1
  obtain ⟨c', v, d1, d2, d3, d4⟩ := cd_ex W hP hs hd (lw_is W hP hs)
  have b := h2 c' d1 d2
  have e := cast_snoc (k := c'.2) (by rw [isW_len d1.1 hP (lw_is W hP d1.1), isW_len d1.1 hP d4]) (lw_le W hP d1.1 d4)
  rw [← d3] at e
  exact castL_inj (List.le_antisymm (List.le_trans b e) a)
theorem lv_nd (hQ : Stn n Q) : ∀ (t : Nat) (r : List RW), (r.map (·.1)).Nodup → ((lvW n A Q t r).map (·.1)).Nodup
  | 0, r, h => h
  | t + 1, r, h => by
    refine lv_nd hQ t _ ?_
    rw [List.map_flatMap]
    unfold List.Nodup
    rw [List.pairwise_flatMap]
    constructor
    · intro x _
      unfold rwS
      rw [List.map_map, List.pairwise_map]
      refine stN_asc.imp fun {i j} hij e => ?_
      have e : x.1 ++ [i] = x.1 ++ [j] := e
      have := List.append_cancel_left e
      injection this with h1
      omega
    · unfold List.Nodup at h
      rw [List.pairwise_map] at h
      refine h.imp fun {x y} hxy u hu v hv e => ?_
      obtain ⟨p, hp, rfl⟩ := List.mem_map.mp hu
      obtain ⟨q, hq, rfl⟩ := List.mem_map.mp hv
      obtain ⟨i, _, rfl⟩ := List.mem_map.mp hp
      obtain ⟨j, _, rfl⟩ := List.mem_map.mp hq
      exact hxy (List.append_inj' (show x.1 ++ [i] = y.1 ++ [j] from e) rfl).1
theorem wds_nd (hQ : Stn n Q) : (wdsN n A P Q).Nodup := lv_nd hQ _ _ (by simp)
/-- the number of shortest words, by their last deeds -/
theorem wds_sum (W : Web n A) (hP : Stn n P) {d : Nat} {s : List Nat} (hs : Stn n s) (hd : DfN n A P s = d + 1) {cs : List (List Nat × Nat)} (hn : cs.Nodup) (h : ∀ c, c ∈ cs ↔ CdN n A P d c ∧ tgN n c.1 c.2 = s) : (cs.map fun c => (wdsN n A P c.1).length).sum = (wdsN n A P s).length := by
  have e : (cs.flatMap fun c => (wdsN n A P c.1).map fun v => v ++ [c.2]).Perm (wdsN n A P s) := by
    refine (List.perm_ext_iff_of_nodup ?_ (wds_nd hs)).mpr fun w => ?_
    · unfold List.Nodup
      rw [List.pairwise_flatMap]
      constructor
      · intro c hc
        rw [List.pairwise_map]
        refine List.Pairwise.imp ?_ (wds_nd (A := A) (P := P) ((h c).mp hc).1.1)
        intro v v' hv e
        exact hv (List.append_cancel_right e)
      · refine List.Pairwise.imp_of_mem ?_ hn
        intro c c' hc hc' hne u hu v hv e
        obtain ⟨x, hx, rfl⟩ := List.mem_map.mp hu
        obtain ⟨y, hy, rfl⟩ := List.mem_map.mp hv
        have e2 := List.append_inj' e rfl
        have e3 : c.2 = c'.2 := by
          have := e2.2
          injection this
        have g1 := (h c).mp hc
        have g2 := (h c').mp hc'
        apply hne
        have e4 : c.1 = c'.1 := by
          have a1 := tgN_back (k := c.2) g1.1.1
          have a2 := tgN_back (k := c'.2) g2.1.1
          rw [← a1, ← a2, g1.2, g2.2, e3]
        obtain ⟨c1, c2⟩ := c
        obtain ⟨d1, d2⟩ := c'
        dsimp only at e3 e4
        rw [e3, e4]
    · rw [List.mem_flatMap, mem_wds hP hs]
      constructor
      · rintro ⟨c, hc, hw⟩
        obtain ⟨v, hv, rfl⟩ := List.mem_map.mp hw
        obtain ⟨g1, g2⟩ := (h c).mp hc
        have := snoc_mk W (tgN_stn (n := n) (b := c.1) (k := c.2)) g1.1 g1.2.2.1 rfl v P hP ((mem_wds hP g1.1).mp hv) (by rw [g1.2.1, g1.2.2.2])
        rw [g2] at this
        exact this
      · intro hw
        obtain ⟨c, v, c1, c2, c3, c4⟩ := cd_ex W hP hs hd hw
        exact ⟨c, (h c).mpr ⟨c1, c2⟩, List.mem_map.mpr ⟨v, (mem_wds hP c1.1).mpr c4, c3.symm⟩⟩
  rw [← e.length_eq, List.length_flatMap]
  congr 1
  refine List.map_congr_left fun c _ => ?_
  rw [List.length_map]
end
end LF
end
section
set_option Elab.async false
set_option linter.all false
set_option maxRecDepth 100000
/-! All shortest words at once: what the law of shortest words keeps. -/
namespace LF
open PySem DL
open L2 (atI ixN)
abbrev WB : Type := List (List Nat × List Nat)
def keysW (W : WB) : List (List Nat) := W.map (·.1)
def lookW : WB → List Nat → Option (List Nat)
  | [], _ => none
  | (k, v) :: F, s => if k = s then some v else lookW F s
def putW : WB → List Nat → List Nat → WB
  | [], s, x => [(s, x)]
  | (k, v) :: F, s, x => if k = s then (k, x) :: F else (k, v) :: putW F s x
theorem look_put : ∀ (F : WB) (s t x : List Nat), lookW (putW F s x) t = if t = s then some x else lookW F t
  | [], s, t, x => by
    show (if s = t then some x else none) = if t = s then some x else none
    by_cases h : s = t
    · rw [if_pos h, if_pos h.symm]
    · rw [if_neg h, if_neg fun z => h z.symm]
  | (k, v) :: F, s, t, x => by
    unfold putW
    by_cases hk : k = s
    · rw [if_pos hk]
      subst hk
      show (if k = t then some x else lookW F t) = if t = k then some x else (if k = t then some v else lookW F t)
      by_cases h : k = t
      · rw [if_pos h, if_pos h.symm]
      · rw [if_neg h, if_neg fun z => h z.symm, if_neg h]
    · rw [if_neg hk]
      show (if k = t then some v else lookW (putW F s x) t) = if t = s then some x else (if k = t then some v else lookW F t)
      rw [look_put F s t x]
      by_cases h : k = t
      · have : ¬ t = s := fun z => hk (h.trans z)
        rw [if_pos h, if_neg this, if_pos h]
      · rw [if_neg h, if_neg h]
theorem mem_putW {F : WB} {s t x : List Nat} : t ∈ keysW (putW F s x) ↔ t ∈ keysW F ∨ t = s := by
  induction F with
  | nil => show t ∈ [s] ↔ t ∈ [] ∨ t = s; simp
  | cons p F ih =>
    obtain ⟨k, v⟩ := p
    unfold putW
    by_cases hk : k = s
    · rw [if_pos hk]
      subst hk
      show t ∈ k :: keysW F ↔ t ∈ k :: keysW F ∨ t = k
      rw [List.mem_cons]
      constructor
      · exact fun h => .inl h
      · rintro (h | h)
        · exact h
        · exact .inl h
    · rw [if_neg hk]
      show t ∈ k :: keysW (putW F s x) ↔ t ∈ k :: keysW F ∨ t = s
      rw [List.mem_cons, List.mem_cons, ih]
      constructor
      · rintro (h | h | h)
        · exact .inl (.inl h)
        · exact .inl (.inr h)
        · exact .inr h
      · rintro ((h | h) | h)
        · exact .inl h
        · exact .inr (.inl h)
        · exact .inr (.inr h)
theorem nd_putW {F : WB} {s x : List Nat} (h : (keysW F).Nodup) : (keysW (putW F s x)).Nodup := by
  induction F with
  | nil => show ([s] : List (List Nat)).Nodup; simp
  | cons p F ih =>
    obtain ⟨k, v⟩ := p
    have hn := List.nodup_cons.mp h
    unfold putW
    by_cases hk : k = s
    · rw [if_pos hk]; exact h
    · rw [if_neg hk]
      show (k :: keysW (putW F s x)).Nodup
      refine List.nodup_cons.mpr ⟨fun z => ?_, ih hn.2⟩
      rcases mem_putW.mp z with z | z
      · exact hn.1 z
      · exact hk z
theorem look_iff {F : WB} {s : List Nat} : lookW F s = none ↔ s ∉ keysW F := by
  induction F with
  | nil => exact ⟨fun _ h => (by cases h), fun _ => rfl⟩
  | cons p F ih =>
    obtain ⟨k, v⟩ := p
    show (if k = s then some v else lookW F s) = none ↔ s ∉ k :: keysW F
    by_cases h : k = s
    · rw [if_pos h]
      subst h
      simp
    · rw [if_neg h, ih, List.mem_cons]
      have : ¬ s = k := fun z => h z.symm
      simp [this]
theorem lookB_add : ∀ (F : FB) (s t : List Nat) (v : Nat), lookB (addB F s v) t = if t = s then lookB F s + v else lookB F t
  | [], s, t, v => by
    show (if s = t then v else 0) = if t = s then 0 + v else 0
    by_cases h : s = t
    · rw [if_pos h, if_pos h.symm, Nat.zero_add]
    · rw [if_neg h, if_neg fun z => h z.symm]
  | (k, c) :: F, s, t, v => by
    unfold addB
    by_cases hk : k = s
    · rw [if_pos hk]
      subst hk
      show (if k = t then c + v else lookB F t) = if t = k then (if k = k then c else lookB F k) + v else (if k = t then c else lookB F t)
      rw [if_pos rfl]
      by_cases h : k = t
      · rw [if_pos h, if_pos h.symm]
      · rw [if_neg h, if_neg fun z => h z.symm, if_neg h]
    · rw [if_neg hk]
      show (if k = t then c else lookB (addB F s v) t) = if t = s then (if k = s then c else lookB F s) + v else (if k = t then c else lookB F t)
      rw [lookB_add F s t v, if_neg hk]
      by_cases h : k = t
      · have : ¬ t = s := fun z => hk (h.trans z)
        rw [if_pos h, if_neg this, if_pos h]
      · rw [if_neg h, if_neg h]
section
variable {n : Nat} {A : List (Nat × Nat)} {P Q b : List Nat} {d : Nat}
/-- what is kept while the standings d + 1 deeds away are looked for; cs: the steps looked at -/
structure Pd (n : Nat) (A : List (Nat × Nat)) (P : List Nat) (d : Nat) (cs : List (List Nat × Nat)) (W : WB) (C : FB) (more : List (List Nat)) : Prop where
  nw : (keysW W).Nodup
  nc : (keysB C).Nodup
  sw : ∀ s ∈ keysW W, Stn n s
  kc : ∀ s, s ∈ keysB C ↔ s ∈ keysW W
  wold : ∀ s, Stn n s → DfN n A P s ≤ d → lookW W s = some (lwN n A P s)
  wnew : ∀ s, Stn n s → DfN n A P s = d + 1 → (lookW W s = none ∧ ∀ c ∈ cs, tgN n c.1 c.2 ≠ s) ∨ ∃ x, lookW W s = some x ∧ (∃ c ∈ cs, tgN n c.1 c.2 = s ∧ x = lwN n A P c.1 ++ [c.2]) ∧ ∀ c ∈ cs, tgN n c.1 c.2 = s → castL x ≤ castL (lwN n A P c.1 ++ [c.2])
  wfar : ∀ s, Stn n s → d + 1 < DfN n A P s → s ∉ keysW W
  cold : ∀ s, Stn n s → DfN n A P s ≤ d → lookB C s = (wdsN n A P s).length
  cnew : ∀ s, Stn n s → DfN n A P s = d + 1 → lookB C s = ((cs.filter fun c => decide (tgN n c.1 c.2 = s)).map fun c => (wdsN n A P c.1).length).sum
  more_nd : more.Nodup
  more_mem : ∀ s, s ∈ more ↔ s ∈ keysW W ∧ DfN n A P s = d + 1
  cds : ∀ c ∈ cs, CdN n A P d c
def w8 (W : WB) (r : List Nat) (k : Nat) (t : List Nat) : WB := match lookW W t with
  | none => putW W t ((lookW W r).getD [] ++ [k])
  | some y => if castL ((lookW W r).getD [] ++ [k]) < castL y then putW W t ((lookW W r).getD [] ++ [k]) else W
def m8 (W : WB) (t : List Nat) (more : List (List Nat)) : List (List Nat) := if t ∈ keysW W then more else more ++ [t]
theorem Pd.step {cs : List (List Nat × Nat)} {W : WB} {C : FB} {more : List (List Nat)} (h : Pd n A P d cs W C more) {c : List Nat × Nat} (hc : CdN n A P d c) :
    Pd n A P d (cs ++ [c]) (w8 W c.1 c.2 (tgN n c.1 c.2)) (addB C (tgN n c.1 c.2) (lookB C c.1)) (m8 W (tgN n c.1 c.2) more) := by
  obtain ⟨r, k⟩ := c
  obtain ⟨c1, c2, c3, c4⟩ := hc
  dsimp only at c1 c2 c3 c4 ⊢
  have hts : Stn n (tgN n r k) := tgN_stn
  generalize ht : tgN n r k = t at c4 hts ⊢
  have hr := h.wold r c1 (by omega)
  have hx : (lookW W r).getD [] ++ [k] = lwN n A P r ++ [k] := by rw [hr]; rfl
  have hlk : ∀ u, lookW (w8 W r k t) u = if u = t then (match lookW W t with | none => some (lwN n A P r ++ [k]) | some y => if castL (lwN n A P r ++ [k]) < castL y then some (lwN n A P r ++ [k]) else some y) else lookW W u := fun u => by
    unfold w8
    rw [hx]
    cases e : lookW W t with
    | none =>
      simp only
      rw [look_put]
    | some y =>
      simp only
      by_cases hl : castL (lwN n A P r ++ [k]) < castL y
      · rw [if_pos hl, look_put, if_pos hl]
      · rw [if_neg hl, if_neg hl]
        by_cases hu : u = t
        · rw [if_pos hu, hu, e]
        · rw [if_neg hu]
  have hkey : ∀ u, u ∈ keysW (w8 W r k t) ↔ u ∈ keysW W ∨ u = t := fun u => by
    unfold w8
    cases e : lookW W t with
    | none => exact mem_putW
    | some y =>
      have hty : t ∈ keysW W := Classical.byContradiction fun z => by rw [look_iff.mpr z] at e; cases e
      simp only
      split
      · exact mem_putW
      · exact ⟨fun z => .inl z, fun z => z.elim id fun z => z ▸ hty⟩
  refine ⟨?_, nd_add h.nc, fun u hu => ?_, fun u => ?_, fun u hu hd => ?_, fun u hu hd => ?_, fun u hu hd hk => ?_, fun u hu hd => ?_, fun u hu hd => ?_, ?_, fun u => ?_, fun c' hc' => ?_⟩
  · unfold w8
    split
    · exact nd_putW h.nw
    · split
      · exact nd_putW h.nw
      · exact h.nw
  · rcases (hkey u).mp hu with z | z
    · exact h.sw u z
    · rw [z]; exact hts
  · rw [mem_add, hkey, h.kc]
  · have : ¬ u = t := fun z => by rw [z, c4] at hd; omega
    rw [hlk, if_neg this]
    exact h.wold u hu hd
  · by_cases hut : u = t
    · right
      subst hut
      rw [hlk, if_pos rfl]
      rcases h.wnew u hu hd with ⟨z1, z2⟩ | ⟨y, y1, ⟨c', y2, y3, y4⟩, y5⟩
      · rw [z1]
        refine ⟨_, rfl, ⟨(r, k), List.mem_append_right _ List.mem_cons_self, ht, rfl⟩, fun c' hc' he => ?_⟩
        rcases List.mem_append.mp hc' with z | z
        · exact absurd he (z2 c' z)
        · rw [List.mem_singleton.mp z]
          exact List.le_refl _
      · rw [y1]
        simp only
        by_cases hl : castL (lwN n A P r ++ [k]) < castL y
        · rw [if_pos hl]
          refine ⟨_, rfl, ⟨(r, k), List.mem_append_right _ List.mem_cons_self, ht, rfl⟩, fun c' hc' he => ?_⟩
          rcases List.mem_append.mp hc' with z | z
          · exact List.le_trans (List.le_of_lt hl) (y5 c' z he)
          · rw [List.mem_singleton.mp z]
            exact List.le_refl _
        · rw [if_neg hl]
          refine ⟨y, rfl, ⟨c', List.mem_append_left _ y2, y3, y4⟩, fun c' hc' he => ?_⟩
          rcases List.mem_append.mp hc' with z | z
          · exact y5 c' z he
          · rw [List.mem_singleton.mp z]
            exact hl
    · rw [hlk, if_neg hut]
      have hno : ∀ c' ∈ cs ++ [(r, k)], tgN n c'.1 c'.2 = u → c' ∈ cs := fun c' hc' he => by
        rcases List.mem_append.mp hc' with z | z
        · exact z
        · rw [List.mem_singleton.mp z] at he
          exact absurd (ht.symm.trans he).symm hut
      rcases h.wnew u hu hd with ⟨z1, z2⟩ | ⟨y, y1, ⟨c', y2, y3, y4⟩, y5⟩
      · exact .inl ⟨z1, fun c' hc' he => z2 c' (hno c' hc' he) he⟩
      · exact .inr ⟨y, y1, ⟨c', List.mem_append_left _ y2, y3, y4⟩, fun c' hc' he => y5 c' (hno c' hc' he) he⟩
  · rcases (hkey u).mp hk with z | z
    · exact h.wfar u hu hd z
    · rw [z, c4] at hd
      omega
  · have : ¬ u = t := fun z => by rw [z, c4] at hd; omega
    rw [lookB_add, if_neg this]
    exact h.cold u hu hd
  · rw [lookB_add, List.filter_append, List.map_append, List.sum_append_nat]
    by_cases hut : u = t
    · subst hut
      rw [if_pos rfl, h.cnew u hu hd, h.cold r c1 (by omega), List.filter_cons_of_pos (by exact decide_eq_true ht)]
      rfl
    · have hf : ([(r, k)] : List (List Nat × Nat)).filter (fun c => decide (tgN n c.1 c.2 = u)) = [] := by
        rw [List.filter_cons_of_neg (by
          show ¬ decide (tgN n r k = u) = true
          rw [decide_eq_true_eq, ht]
          exact fun z => hut z.symm)]
        rfl
      rw [if_neg hut, h.cnew u hu hd, hf]
      rfl
  · unfold m8
    split
    · exact h.more_nd
    · rename_i hn
      refine List.nodup_append.mpr ⟨h.more_nd, by simp, fun x hx y hy e => ?_⟩
      rw [List.mem_singleton.mp hy] at e
      subst e
      exact hn ((h.more_mem x).mp hx).1
  · rw [hkey]
    unfold m8
    by_cases htk : t ∈ keysW W
    · rw [if_pos htk, h.more_mem]
      constructor
      · exact fun z => ⟨.inl z.1, z.2⟩
      · rintro ⟨z | z, z2⟩
        · exact ⟨z, z2⟩
        · exact ⟨z ▸ htk, z2⟩
    · rw [if_neg htk, List.mem_append, List.mem_singleton, h.more_mem]
      constructor
      · rintro (z | z)
        · exact ⟨.inl z.1, z.2⟩
        · exact ⟨.inr z, by rw [z]; exact c4⟩
      · rintro ⟨z | z, z2⟩
        · exact .inl ⟨z, z2⟩
        · exact .inr z
  · rcases List.mem_append.mp hc' with z | z
    · exact h.cds c' z
    · rw [List.mem_singleton.mp z]
      exact ⟨c1, c2, c3, by show DfN n A P (tgN n r k) = d + 1; rw [ht]; exact c4⟩
/-- the next standings -/
theorem Pd.next (W0 : Web n A) (hP : Stn n P) {cs : List (List Nat × Nat)} {W : WB} {C : FB} {more : List (List Nat)} (h : Pd n A P d cs W C more) (hn : cs.Nodup) (hall : ∀ c, CdN n A P d c → c ∈ cs) :
    Pd n A P (d + 1) [] W C [] ∧ ∀ s, s ∈ more ↔ Stn n s ∧ DfN n A P s = d + 1 := by
  have hl : ∀ s, Stn n s → DfN n A P s = d + 1 → lookW W s = some (lwN n A P s) := fun s hs hd => by
    rcases h.wnew s hs hd with ⟨_, z2⟩ | ⟨x, x1, ⟨c, x2, x3, x4⟩, x5⟩
    · obtain ⟨w, hw⟩ := isw_ex W0 hs _ P hP rfl
      obtain ⟨c, v, c1, c2, _, _⟩ := cd_ex W0 hP hs hd hw
      exact absurd c2 (z2 c (hall c c1))
    · rw [x1, lw_of W0 hP hs hd ⟨c, h.cds c x2, x3, x4⟩ fun c' hc' he => x5 c' (hall c' hc') he]
  refine ⟨⟨h.nw, h.nc, h.sw, h.kc, fun s hs hd => ?_, fun s hs hd => .inl ⟨look_iff.mpr (h.wfar s hs (by omega)), fun _ z => (by cases z)⟩, fun s hs hd => h.wfar s hs (by omega), fun s hs hd => ?_, fun s hs hd => ?_, .nil, fun s => ⟨fun z => (by cases z), fun z => ?_⟩, fun _ z => (by cases z)⟩, fun s => ?_⟩
  · by_cases e : DfN n A P s = d + 1
    · exact hl s hs e
    · exact h.wold s hs (by omega)
  · by_cases e : DfN n A P s = d + 1
    · rw [h.cnew s hs e]
      exact wds_sum W0 hP hs e (hn.filter _) fun c => by
        rw [List.mem_filter, decide_eq_true_eq]
        exact ⟨fun z => ⟨h.cds c z.1, z.2⟩, fun z => ⟨hall c z.1, z.2⟩⟩
    · exact h.cold s hs (by omega)
  · show lookB C s = 0
    refine look_no fun z => h.wfar s hs (by omega) ((h.kc s).mp z)
  · exact absurd z.1 (h.wfar s (h.sw s z.1) (by omega))
  · rw [h.more_mem]
    constructor
    · exact fun z => ⟨h.sw s z.1, z.2⟩
    · intro z
      refine ⟨Classical.byContradiction fun y => ?_, z.2⟩
      have := hl s z.1 z.2
      rw [look_iff.mpr y] at this
      cases this
theorem wds_self (hP : Stn n P) : (wdsN n A P P).length = 1 := by
  unfold wdsN
  rw [df_self hP]
  rfl
theorem lw_self (hP : Stn n P) : lwN n A P P = [] := by
  unfold lwN
  rw [df_self hP]
  rfl
theorem Pd.first (hP : Stn n P) : Pd n A P 0 [] [(P, [])] [(P, 1)] [] := by
  have hz : ∀ s, Stn n s → DfN n A P s ≤ 0 → s = P := fun s hs h => (df_zero (n := n) (A := A) hP hs (by omega)).symm
  have hne : ∀ s, 0 < DfN n A P s → ¬ P = s := fun s h e => by
    subst e
    rw [df_self hP] at h
    omega
  refine ⟨by simp [keysW], by simp [keysB], fun s hs => ?_, fun s => Iff.rfl, fun s hs hd => ?_, fun s hs hd => .inl ⟨?_, fun _ z => (by cases z)⟩, fun s hs hd hk => ?_, fun s hs hd => ?_, fun s hs hd => ?_, .nil, fun s => ⟨fun z => (by cases z), fun z => ?_⟩, fun _ z => (by cases z)⟩
  · rw [show s = P from List.mem_singleton.mp hs]
    exact hP
  · rw [hz s hs hd, lw_self hP]
    show (if P = P then some [] else none) = _
    rw [if_pos rfl]
  · show (if P = s then some [] else none) = none
    rw [if_neg (hne s (by omega))]
  · exact hne s (by omega) (List.mem_singleton.mp hk).symm
  · rw [hz s hs hd, wds_self hP]
    show (if P = P then 1 else 0) = _
    rw [if_pos rfl]
  · show (if P = s then 1 else 0) = 0
    rw [if_neg (hne s (by omega))]
  · exfalso
    have := z.2
    rw [show s = P from List.mem_singleton.mp z.1, df_self hP] at this
    omega
end
end LF
end
section
set_option Elab.async false
set_option linter.all false
set_option maxRecDepth 100000
/-! The law of shortest words. -/
namespace LF
open PySem DL
open L2 (atI ixN)
section
variable {n : Nat} {A : List (Nat × Nat)} {P Q b : List Nat} {d : Nat} {s : D} {l : List D} {F : FB}
variable {b5 b6 b7 b8 b9 b10 b11 b12 b13 : B}
end
end LF
end
section
set_option Elab.async false
set_option linter.all false
set_option maxRecDepth 100000
/-! The law across held lamps. -/
namespace LF
open PySem DL
open L2 (atI ixN)
theorem ints_nums : ∀ L : List Nat, intsD (nums L) = some (L.map fun k : Nat => (k : Int))
  | [] => rfl
  | k :: L => by
    show (intsD (nums L)).map (fun r => (k : Int) :: r) = _
    rw [ints_nums L]
    rfl
theorem sum_cast : ∀ L : List Nat, (L.map fun k : Nat => (k : Int)).sum = ((L.sum : Nat) : Int)
  | [] => rfl
  | k :: L => by
    rw [List.map_cons, List.sum_cons, List.sum_cons, sum_cast L, Int.natCast_add]
theorem gSum_nums (L : List Nat) : gSum (.list (nums L)) = some (.int (L.sum : Nat)) := by
  show (intsD (nums L)).map (fun ns => PyData.int ns.sum) = _
  rw [ints_nums, Option.map_some, sum_cast]
theorem gNe_iN2 {a b : Nat} : gNe (.int a) (.int b) = some (.bool (!decide (a = b))) := by
  rw [gNe_i]
  congr 3
  rw [Bool.eq_iff_iff, beq_iff_eq, decide_eq_true_eq]
  omega
section
variable {n : Nat} {A : List (Nat × Nat)} {P Q H b : List Nat}
/-! prices -/
end
end LF
end
section
set_option Elab.async false
set_option linter.all false
set_option maxRecDepth 100000
/-! The law across held lamps: the end. -/
namespace LF
open PySem DL
open L2 (atI ixN)
section
variable {n : Nat} {A : List (Nat × Nat)} {P Q H L b : List Nat} {s : D} {l : List D} {z : Nat}
variable {b4 b5 b6 b7 b8 b9 b10 b11 : B}
end
end LF
end
section
set_option Elab.async false
set_option linter.all false
set_option maxRecDepth 100000
/-! shows_way: a shortest word or not, of any value. -/
namespace LF
open PySem DL
open L2 (atI ixN)
theorem gEq_lead {o : Option (List Nat)} {Q : List Nat} : gEq (leadD o) (tpN Q) = some (.bool (decide (o = some Q))) := by
  cases o with
  | none =>
    unfold gEq
    have h1 : okD (leadD none) = true := rfl
    simp only [h1, (Pl.tup (pl_nums Q)).okD (by omega), Bool.and_self, if_true]
    rfl
  | some c =>
    show gEq (tpN c) (tpN Q) = _
    unfold gEq
    simp only [(Pl.tup (pl_nums c)).okD (by omega), (Pl.tup (pl_nums Q)).okD (by omega), Bool.and_self, if_true]
    rw [eqv_tp]
    congr 2
    rw [decide_eq_decide]
    exact ⟨fun h => by rw [h], fun h => Option.some.inj h⟩
section
variable {n : Nat} {A : List (Nat × Nat)} {P Q b : List Nat}
end
end LF
end
section
set_option Elab.async false
set_option linter.all false
set_option maxRecDepth 100000
/-! The law of shortest words judged. -/
namespace LF
open PySem DL
open L2 (atI ixN)
section
variable {n : Nat} {A : List (Nat × Nat)} {P Q w : List Nat} {s : D} {l : List D} {f : Nat}
variable {b7 b8 b9 b10 b11 : B}
end
end LF
end
section
set_option Elab.async false
set_option linter.all false
set_option maxRecDepth 100000
/-! why_spare. -/
namespace LF
open PySem DL
open L2 (atI ixN)
section
variable {n : Nat} {A : List (Nat × Nat)} {P Q b : List Nat}
def F0 (P Q : List Nat) (x : Nat) : Prop := x ∈ frN P Q ∨ x ∈ frN Q P
variable {k : Nat} {b6 b7 b8 b9 b10 b11 : B}
end
end LF
end
section
set_option Elab.async false
set_option linter.all false
set_option maxRecDepth 100000
/-! why_spare: the whole; lamps far ahead. -/
namespace LF
open PySem DL
open L2 (atI ixN)
section
variable {n : Nat} {A : List (Nat × Nat)} {P Q b : List Nat} {k : Nat} {b6 b7 b8 b9 b10 b11 : B}
/-! ### far ahead -/
end
end LF
end
section
set_option Elab.async false
set_option linter.all false
set_option maxRecDepth 100000
/-! The law across spare lamps. -/
namespace LF
open PySem DL
open L2 (atI ixN)
section
variable {n : Nat} {A : List (Nat × Nat)} {P Q b : List Nat}
variable {s : D} {l : List D} {b8 b9 b10 b11 b12 b13 : B}
end
end LF
end
section
set_option Elab.async false
set_option linter.all false
set_option maxRecDepth 100000
/-! shows_why: a reason or not, of any value. -/
namespace LF
open PySem DL
open L2 (atI ixN)
section
variable {n : Nat} {A : List (Nat × Nat)} {P Q b : List Nat} {k : Nat}
/-! ### words of lamps -/
end
end LF
end
section
set_option Elab.async false
set_option linter.all false
set_option maxRecDepth 100000
/-! The law of reasons. -/
namespace LF
open PySem DL
open L2 (atI ixN)
section
variable {n : Nat} {A : List (Nat × Nat)} {P Q : List Nat} {k : Nat} {s : D} {l : List D} {b7 b8 b9 b10 b11 b12 : B}
/-! ### the law's loop -/
end
end LF
end
section
set_option Elab.async false
set_option linter.all false
set_option maxRecDepth 100000
/-! The law of reasons, joined. -/
namespace LF
open PySem DL
open L2 (atI ixN)
section
variable {n : Nat} {A : List (Nat × Nat)} {P Q : List Nat} {k : Nat}
end
end LF
end
section
set_option Elab.async false
set_option linter.all false
set_option maxRecDepth 100000
/-! Shares: gcd, reduced. -/
namespace LF
open PySem DL
open L2 (atI ixN)
end LF
end
section
set_option Elab.async false
set_option linter.all false
set_option maxRecDepth 100000
/-! Sums over all pairs of standings. -/
namespace LF
open PySem DL
open L2 (atI ixN)
section
variable {n : Nat} {A : List (Nat × Nat)} {P Q : List Nat}
theorem len_ls (L : List Nat) : gLen (lsN L) = some (.int ((L.length : Nat) : Int)) := by
  show some (PyData.int ((nums L).length : Nat)) = _
  rw [nums_len]
end
end LF
end
section
set_option Elab.async false
set_option linter.all false
set_option maxRecDepth 100000
/-! The law of drawn pairs. -/
namespace LF
open PySem DL
open L2 (atI ixN)
theorem all4_at {i j u v : Nat} {m1 m2 m3 m4 : Fm → Option (B × Fm)} {ρ ρ1 ρ2 ρ3 ρ4 : Fm} {b1 b2 b3 b4 : B} (h1 : m1 ρ = some (b1, ρ1)) (h2 : m2 ρ1 = some (b2, ρ2)) (h3 : m3 ρ2 = some (b3, ρ3)) (h4 : m4 ρ3 = some (b4, ρ4)) : sAll [i, j, u, v] (mCons m1 (mCons m2 (mCons m3 (mCons m4 mNil)))) ρ = some (.nx, (((ρ4.set i b1).set j b2).set u b3).set v b4) := by
  unfold sAll mCons mNil
  simp only [h1, h2, h3, h4, Option.bind_some, Option.map_some, putB]
section
variable {n : Nat} {A : List (Nat × Nat)} {P Q : List Nat} {k t : Nat} {s : D} {l : List D} {b7 b8 b9 : B} {SS : List (List Nat)}
end
end LF
end
section
set_option Elab.async false
set_option linter.all false
set_option maxRecDepth 100000
/-! Rows of standings with numbers: draws. -/
namespace LF
open PySem DL
open L2 (atI ixN)
section
variable {n : Nat} {A : List (Nat × Nat)} {P Q b : List Nat}
structure RwK (n : Nat) (F : FB) : Prop where
  nd : (keysB F).Nodup
  stn : ∀ S ∈ keysB F, Stn n S
/-! ### the program's rows -/
variable {t : Nat}
end
end LF
end
section
set_option Elab.async false
set_option linter.all false
set_option maxRecDepth 100000
/-! Chances after draws. -/
namespace LF
open PySem DL
open L2 (atI ixN)
section
variable {n : Nat} {A : List (Nat × Nat)} {P Q b : List Nat} {t : Nat}
end
end LF
end
section
set_option Elab.async false
set_option linter.all false
set_option maxRecDepth 100000
/-! The law of draws. -/
namespace LF
open PySem DL
open L2 (atI ixN)
section
variable {n : Nat} {A : List (Nat × Nat)} {P Q b : List Nat} {t k : Nat} {s : D} {l : List D} {E : List (List Nat)} {b7 b8 b9 b10 b11 : B}
end
end LF
end
section
set_option Elab.async false
set_option linter.all false
set_option maxRecDepth 100000
/-! Counting orders of any things with any rule. -/
namespace LF
open PySem DL
open L2 (atI ixN)
section
variable {N : Nat} {r : Nat → Nat → Bool} {s0 s1 : D}
/-! ### the program's rows -/
variable {e : Nat → D}
end
end LF
end
section
set_option Elab.async false
set_option linter.all false
set_option maxRecDepth 100000
/-! Lighting alone: who can be lit, in how many orders. -/
namespace LF
open PySem DL
open L2 (atI ixN)
section
variable {n : Nat} {A : List (Nat × Nat)} {P Q b : List Nat}
end
end LF
end
section
set_option Elab.async false
set_option linter.all false
set_option maxRecDepth 100000
/-! Words that light alone, counted. -/
namespace LF
open PySem DL
open L2 (atI ixN)
section
variable {n : Nat} {A : List (Nat × Nat)} {P Q b : List Nat}
end
end LF
end
section
set_option Elab.async false
set_option linter.all false
set_option maxRecDepth 100000
/-! The law's levels of lightings. -/
namespace LF
open PySem DL
open L2 (atI ixN)
section
variable {n : Nat} {A : List (Nat × Nat)} {P Q b : List Nat}
end
end LF
end
section
set_option Elab.async false
set_option linter.all false
set_option maxRecDepth 100000
/-! The law's levels, walked. -/
namespace LF
open PySem DL
open L2 (atI ixN)
section
variable {n : Nat} {A : List (Nat × Nat)} {P Q b : List Nat} {s : D} {l : List D} {x4 x5 x6 x7 x8 x9 : B}
end
end LF
end
section
set_option Elab.async false
set_option linter.all false
set_option maxRecDepth 100000
/-! The turns in which all lamps are lit. -/
namespace LF
open PySem DL
open L2 (atI ixN)
section
variable {n : Nat} {A : List (Nat × Nat)} {P Q b : List Nat}
/-! ### the program's -/
end
end LF
end
section
set_option Elab.async false
set_option linter.all false
set_option maxRecDepth 100000
/-! The law of lighting alone. -/
namespace LF
open PySem DL
open L2 (atI ixN)
section
variable {n : Nat} {A : List (Nat × Nat)} {P Q b : List Nat} {s : D} {l : List D} {x4 x5 x6 x7 x8 x9 x10 x11 x12 x13 : B}
end
end LF
end
section
set_option Elab.async false
set_option linter.all false
set_option maxRecDepth 100000
/-! The turned web. -/
namespace LF
open PySem DL
open L2 (atI ixN)
section
variable {n : Nat} {A : List (Nat × Nat)} {P Q b : List Nat}
end
end LF
end
section
set_option Elab.async false
set_option linter.all false
set_option maxRecDepth 100000
/-! Words that put out alone, counted. -/
namespace LF
open PySem DL
open L2 (atI ixN)
section
variable {n : Nat} {A : List (Nat × Nat)} {P Q b : List Nat}
end
end LF
end
section
set_option Elab.async false
set_option linter.all false
set_option maxRecDepth 100000
/-! The law's levels of puttings out. -/
namespace LF
open PySem DL
open L2 (atI ixN)
section
variable {n : Nat} {A : List (Nat × Nat)} {P Q b : List Nat}
end
end LF
end
section
set_option Elab.async false
set_option linter.all false
set_option maxRecDepth 100000
/-! The law's levels, walked. -/
namespace LF
open PySem DL
open L2 (atI ixN)
section
variable {n : Nat} {A : List (Nat × Nat)} {P Q b : List Nat} {s : D} {l : List D} {x4 x5 x6 x7 x8 x9 : B}
end
end LF
end
section
set_option Elab.async false
set_option linter.all false
set_option maxRecDepth 100000
/-! Searches by a stack: what can come by putting out alone. -/
namespace LF
open PySem DL
open L2 (atI ixN)
section
variable {n : Nat} {A : List (Nat × Nat)} {P Q b : List Nat}
/-! ### the number of standings -/
end
end LF
end
section
set_option Elab.async false
set_option linter.all false
set_option maxRecDepth 100000
/-! Where putting out alone ends; ways. -/
namespace LF
open PySem DL
open L2 (atI ixN)
section
variable {n : Nat} {A : List (Nat × Nat)} {P Q b : List Nat}
end
end LF
end
section
set_option Elab.async false
set_option linter.all false
set_option maxRecDepth 100000
/-! The law of putting out alone. -/
namespace LF
open PySem DL
open L2 (atI ixN)
section
variable {n : Nat} {A : List (Nat × Nat)} {P Q b : List Nat} {s : D} {l : List D} {x4 x5 x6 x7 x8 x9 x10 : B}
end
end LF
end
section
set_option Elab.async false
set_option linter.all false
set_option maxRecDepth 100000
/-! One sort alone: lightings are shortest words. -/
namespace LF
open PySem DL
open L2 (atI ixN)
section
variable {n : Nat} {A : List (Nat × Nat)} {P Q b : List Nat} {D' : List (Bool × Nat)}
end
end LF
end
section
set_option Elab.async false
set_option linter.all false
set_option maxRecDepth 100000
/-! Lightings read backward: puttings out in the turned web. -/
namespace LF
open PySem DL
open L2 (atI ixN)
section
variable {n : Nat} {A : List (Nat × Nat)} {P Q S b : List Nat}
end
end LF
end
section
set_option Elab.async false
set_option linter.all false
set_option maxRecDepth 100000
/-! Turns and ends, as the law across one sort asks. -/
namespace LF
open PySem DL
open L2 (atI ixN)
section
variable {n : Nat} {A : List (Nat × Nat)} {P Q S b : List Nat}
end
end LF
end
section
set_option Elab.async false
set_option linter.all false
set_option maxRecDepth 100000
/-! The law across one sort. -/
namespace LF
open PySem DL
open L2 (atI ixN)
section
variable {n : Nat} {A : List (Nat × Nat)} {P Q H b : List Nat} {s : D} {l : List D} {x4 x5 x6 x7 x8 x9 x10 x11 x12 x13 x14 x15 : B}
end
end LF
end
section
set_option Elab.async false
set_option linter.all false
set_option maxRecDepth 100000
/-! The law across one sort, joined. -/
namespace LF
open PySem DL
open L2 (atI ixN)
end LF
end
section
set_option Elab.async false
set_option linter.all false
set_option maxRecDepth 100000
/-! Lots of lamps, rounds. -/
namespace LF
open PySem DL
open L2 (atI ixN)
end LF
end
section
set_option Elab.async false
set_option linter.all false
set_option maxRecDepth 100000
/-! Lots of a round, told by the law and by the program; where a round leads. -/
namespace LF
open PySem DL
open L2 (atI ixN)
section
variable {n : Nat} {A : List (Nat × Nat)} {b M : List Nat}
/-- a lot of lamps that can be changed at once -/
structure Lot (n : Nat) (A : List (Nat × Nat)) (b M : List Nat) : Prop where
  ne : M ≠ []
  asc : M.Pairwise (· < ·)
  can : ∀ x ∈ M, x ∈ doN n A b
theorem Lot.lt (h : Lot n A b M) : ∀ x ∈ M, x < n := fun x hx => (mem_doN.mp (h.can x hx)).1
/-! ### the program's lots -/
/-! ### the law's lots -/
/-! ### where a round leads -/
end
end LF
end
section
set_option Elab.async false
set_option linter.all false
set_option maxRecDepth 100000
/-! Rounds: the searches of the law and of the program. -/
namespace LF
open PySem DL
open L2 (atI ixN)
section
variable {n : Nat} {A : List (Nat × Nat)} {P Q b : List Nat}
/-- what a search has found, in numbers -/
structure SrF (n : Nat) (f : List Nat → Nat) (F : List (List Nat × Nat)) : Prop where
  nd : (keysB F).Nodup
  key : ∀ s, s ∈ keysB F ↔ Stn n s
  val : ∀ s, Stn n s → lookB F s = f s
  len : F.length ≤ 512
/-! ### the walk -/
variable {nx : List Nat → List (List Nat)} {l2 : Fm → Option (Fl × Fm)}
end
end LF
end
section
set_option Elab.async false
set_option linter.all false
set_option maxRecDepth 100000
/-! Rounds: the program's answers. -/
namespace LF
open PySem DL
open L2 (atI ixN)
section
variable {n : Nat} {A : List (Nat × Nat)} {P Q b : List Nat} {f : List Nat → Nat} {F : List (List Nat × Nat)}
theorem SrF.ent (S : SrF n f F) {s : List Nat} {v : Nat} (h : (s, v) ∈ F) : Stn n s ∧ f s = v := by
  have hs := (S.key s).mp (mem_keysB h)
  exact ⟨hs, by rw [← S.val s hs]; exact lookB_mem S.nd h⟩
theorem SrF.at (S : SrF n f F) {s : List Nat} (h : Stn n s) : (s, f s) ∈ F := by
  obtain ⟨⟨s', v⟩, h1, h2⟩ := List.mem_map.mp ((S.key s).mpr h)
  have h2' : s' = s := h2
  subst h2'
  rw [(S.ent h1).2]
  exact h1
/-! ### fewest and most -/
/-! ### is_round -/
instance : Decidable (Lot n A P b) := decidable_of_iff (b ≠ [] ∧ b.Pairwise (· < ·) ∧ ∀ x ∈ b, x ∈ doN n A P) ⟨fun h => ⟨h.1, h.2.1, h.2.2⟩, fun h => ⟨h.ne, h.asc, h.can⟩⟩
theorem gNe_tpnil (L : List Nat) : gNe (tpN L) (.tuple []) = some (.bool (!L.isEmpty)) := by
  unfold gNe
  have h2 : okD (.tuple []) = true := rfl
  simp only [(Pl.tup (pl_nums L)).okD (by omega), h2, Bool.and_self, if_true]
  cases L <;> rfl
end
end LF
end
section
set_option Elab.async false
set_option linter.all false
set_option maxRecDepth 100000
/-! Rounds between two standings; rounds that are shown. -/
namespace LF
open PySem DL
open L2 (atI ixN)
section
variable {n : Nat} {A : List (Nat × Nat)} {P Q b : List Nat}
theorem Lot.len (h : Lot n A b P) : P.length ≤ n := (Stn.mk h.asc h.lt).len
theorem gNe_tpS (a c : List Nat) : gNe (tpN a) (tpN c) = some (.bool (!decide (a = c))) := by
  unfold gNe
  simp only [(Pl.tup (pl_nums a)).okD (by omega), (Pl.tup (pl_nums c)).okD (by omega), Bool.and_self, if_true]
  rw [eqv_tp]
/-! ### shows_rounds -/
end
end LF
end
section
set_option Elab.async false
set_option linter.all false
set_option maxRecDepth 100000
/-! The law of rounds. -/
namespace LF
open PySem DL
open L2 (atI ixN)
section
variable {n : Nat} {A : List (Nat × Nat)} {P Q b : List Nat} {s : D} {l : List D} {F : List (List Nat × Nat)} {m : Nat} {L : List Nat}
end
end LF
end
section
set_option Elab.async false
set_option linter.all false
set_option maxRecDepth 100000
/-! Rounds judged: any value. -/
namespace LF
open PySem DL
open L2 (atI ixN)
theorem gEq_tpS (a c : List Nat) : gEq (tpN a) (tpN c) = some (.bool (decide (a = c))) := by
  unfold gEq
  simp only [(Pl.tup (pl_nums a)).okD (by omega), (Pl.tup (pl_nums c)).okD (by omega), Bool.and_self, if_true]
  rw [eqv_tp]
section
variable {n : Nat} {A : List (Nat × Nat)} {P Q b : List Nat} {s : D} {l : List D} {f : Nat} {v6 : D} {b7 b8 b9 b10 b11 b12 b13 b14 b15 : B}
/-! ### the two loops -/
/-! ### a value -/
end
end LF
end
section
set_option Elab.async false
set_option linter.all false
set_option maxRecDepth 100000
/-! Rounds judged: the law. -/
namespace LF
open PySem DL
open L2 (atI ixN)
section
variable {n : Nat} {A : List (Nat × Nat)} {P Q b : List Nat} {s : D} {l : List D} {f : Nat} {v6 : D} {b7 b8 b9 b10 b11 b12 b13 b14 b15 : B}
theorem gAdd_T {xs ys : List D} (h : xs.length + ys.length ≤ 1000000) : gAdd (.tuple xs) (.tuple ys) = some (.tuple (xs ++ ys)) := if_pos h
end
end LF
end
section
set_option Elab.async false
set_option linter.all false
set_option maxRecDepth 100000
/-! Shares: any denominators below 2^63; sums and products. -/
namespace LF
open PySem DL
open L2 (atI ixN)
/-! ### equal shares -/
theorem smI_n {b : Nat} (h : b < 18446744073709551616) : smI (b : Int) = true := by
  unfold smI
  rw [decide_eq_true (by omega), decide_eq_true (by omega)]
  rfl
theorem gMul_n {a b : Nat} (h : b < 18446744073709551616) : gMulI (.int (a : Int)) (.int (b : Int)) = some (.int ((a * b : Nat) : Int)) := by
  rw [gMul_r _ _ (smI_n h), Int.natCast_mul]
theorem gAdd_n (a b : Nat) : gAdd (.int (a : Int)) (.int (b : Int)) = some (.int ((a + b : Nat) : Int)) := by
  rw [gAdd_i, Int.natCast_add]
section
variable {a b c d : Nat}
end
end LF
end
section
set_option Elab.async false
set_option linter.all false
set_option maxRecDepth 100000
/-! Draws: chances of more draws; sums of chances. -/
namespace LF
open PySem DL
open L2 (atI ixN)
section
variable {n t : Nat} {A : List (Nat × Nat)} {P Q b : List Nat}
/-! ### counting ends -/
/-! ### the other functions -/
end
end LF
end
section
set_option Elab.async false
set_option linter.all false
set_option maxRecDepth 100000
/-! The law across draws. -/
namespace LF
open PySem DL
open L2 (atI ixN)
section
variable {n t k : Nat} {A : List (Nat × Nat)} {P Q b : List Nat} {s : D} {l : List D}
variable {b8 b9 b10 b11 b12 b13 : B}
end
end LF
end
section
set_option Elab.async false
set_option linter.all false
set_option maxRecDepth 100000
/-! Words counted: counts_in; dicts of standings with any values. -/
namespace LF
open PySem DL
open L2 (atI ixN)
section
variable {en : Nat → D}
end
/-! ### counts_in -/
section
variable {n : Nat} {A : List (Nat × Nat)} {P Q b : List Nat} {t : Nat}
end
end LF
end
section
set_option Elab.async false
set_option linter.all false
set_option maxRecDepth 100000
/-! Chances behind drawn deeds. -/
namespace LF
open PySem DL
open L2 (atI ixN)
section
variable {en : Nat → D}
end
section
variable {n M b t : Nat} {A : List (Nat × Nat)} {P Q : List Nat}
/-! ### the program -/
/-! ### the mean -/
end
end LF
end
section
set_option Elab.async false
set_option linter.all false
set_option maxRecDepth 100000
/-! The law of words counted. -/
namespace LF
open PySem DL
open L2 (atI ixN)
section
variable {n M b t m : Nat} {A : List (Nat × Nat)} {P Q : List Nat} {s : D} {l : List D}
variable {b5 b6 b7 b8 b9 b10 b11 b12 b13 : B}
/-! ### one more deed -/
/-! ### the chances -/
/-! ### what is asked of a standing -/
end
end LF
end
section
set_option Elab.async false
set_option linter.all false
set_option maxRecDepth 100000
/-! Sorts told: words that fit are counted. -/
namespace LF
open PySem DL
open L2 (atI ixN)
section
variable {n : Nat} {A : List (Nat × Nat)} {P Q S : List Nat} {σ : Bool}
/-! ### the rows -/
/-! ### the walk -/
variable {σs : List Bool}
end
end LF
end
section
set_option Elab.async false
set_option linter.all false
set_option maxRecDepth 100000
/-! Words counted: by the first deed, by the last deed, in the turned web, by sorts. -/
namespace LF
open PySem DL
open L2 (atI ixN)
section
variable {n t : Nat} {A : List (Nat × Nat)} {P Q S T : List Nat}
/-! ### odd and even -/
/-! ### the turned web -/
/-! ### all lines of sorts -/
end
end LF
end
section
set_option Elab.async false
set_option linter.all false
set_option maxRecDepth 100000
/-! The law across words counted. -/
namespace LF
open PySem DL
open L2 (atI ixN)
section
variable {n t : Nat} {A : List (Nat × Nat)} {P Q : List Nat} {s : D} {l : List D}
theorem unp2_at {i j : Nat} {f : Fm → Option D} {ρ : Fm} {a b : D} (h : f ρ = some (.tuple [a, b])) : sUnp [i, j] (up f) ρ = some (.nx, (ρ.set i (.sh a)).set j (.sh b)) := by
  unfold sUnp
  rw [up_at h]
  rfl
theorem gNe_n (a b : Nat) : gNe (.int (a : Int)) (.int (b : Int)) = some (.bool (!decide (a = b))) := gNe_iN2
variable {b7 b8 b9 b10 b11 b12 b13 : B}
end
end LF
end
section
set_option Elab.async false
set_option linter.all false
set_option maxRecDepth 100000
/-! Sorts told: standings from which words fit; least word; sure deeds. -/
namespace LF
open PySem DL
open L2 (atI ixN)
section
variable {n : Nat} {A : List (Nat × Nat)} {P Q S : List Nat} {σ : Bool} {σs : List Bool}
theorem ixL_at {f g : Fm → Option D} {ρ : Fm} {xs : List D} {i : Nat} {d : D} (h : f ρ = some (.list xs)) (h2 : g ρ = some (.int (i : Int))) (h3 : xs[i]? = some d) : fOp2 gIx f g ρ = some d := (op2_at (g := gIx) h h2).trans ((gIxL _ _).trans (atI_at h3))
/-! ### good_from -/
theorem dwn_rev : ∀ m : Nat, dwnD ((m : Int) - 1) m = nums (List.range m).reverse
  | 0 => rfl
  | m + 1 => by
    have ih := dwn_rev m
    unfold dwnD nums at ih ⊢
    rw [List.range_succ, List.reverse_append, List.map_append (l₁ := [m].reverse)]
    rw [← ih, ← List.range_succ, List.range_succ_eq_map, List.map_cons, List.map_map]
    show _ :: _ = [PyData.int (m : Int)] ++ _
    congr 1
    · show PyData.int (((m + 1 : Nat) : Int) - 1 - ((0 : Nat) : Int)) = _
      congr 1
      omega
    · refine List.map_congr_left fun k _ => ?_
      show PyData.int (((m + 1 : Nat) : Int) - 1 - ((k + 1 : Nat) : Int)) = PyData.int ((m : Int) - 1 - (k : Nat))
      congr 1
      omega
end
end LF
end
section
set_option Elab.async false
set_option linter.all false
set_option maxRecDepth 100000
/-! Sorts told: the least word, sure deeds. -/
namespace LF
open PySem DL
open L2 (atI ixN)
section
variable {n : Nat} {A : List (Nat × Nat)} {P Q S : List Nat} {σ : Bool} {σs : List Bool}
/-! ### sure deeds -/
end
end LF
end
section
set_option Elab.async false
set_option linter.all false
set_option maxRecDepth 100000
/-! Sorts told: facts for the law across sorts told. -/
namespace LF
open PySem DL
open L2 (atI ixN)
section
variable {n : Nat} {A : List (Nat × Nat)} {P Q S c : List Nat} {σ : Bool} {σs : List Bool}
/-! ### sure deeds -/
/-! ### how many lamps burn -/
theorem stn_fil (hS : Stn n S) : (List.range n).filter (fun x => decide (x ∈ S)) = S := asc_same ((asc_range n).filter _) hS.asc fun x => by
  rw [List.mem_filter, List.mem_range, decide_eq_true_eq]
  exact ⟨fun h => h.2, fun h => ⟨hS.lt x h, h⟩⟩
end
end LF
end
section
set_option Elab.async false
set_option linter.all false
set_option maxRecDepth 100000
/-! The law across sorts told. -/
namespace LF
open PySem DL
open L2 (atI ixN)
theorem and_f0 {f g : Fm → Option Bool} {ρ : Fm} (h : f ρ = some false) : fAnd f g ρ = some false := by
  unfold fAnd
  rw [h]
  rfl
section
variable {n : Nat} {A : List (Nat × Nat)} {P Q S c : List Nat} {s : D} {l : List D}
variable {b8 b9 b10 b11 b12 b13 : B} {ks : List Nat}
end
end LF
end
section
set_option Elab.async false
set_option linter.all false
set_option maxRecDepth 100000
/-! Rows of lamps: spare lamps, a shortest word. -/
namespace LF
open PySem DL
open L2 (atI ixN)
theorem rneed_burning_ok {n : Nat} {P : List Nat} (h : Stn n P) : f_need_burning_3339 [.int (n : Int), tpN P] = some .none := by
  unfold f_need_burning_3339 b_need_burning_3339
  have hA : ndA (nums P) = true := nd_seq (pl_nums P)
  have i2 := isa_tup hA
  obtain ⟨ρ', e, x, y, rfl⟩ := forL_inv (t := .tup [.one 2, .one 3]) (f := b_need_burning_3339_l1) (fun i ρ => ∃ x y, ρ = [.sh (.int (n : Int)), .sh (tpN P), x, y]) (enumD 0 (nums P)) 0 [.sh (.int (n : Int)), .sh (tpN P), .no, .no] ⟨_, _, rfl⟩ fun i d ρ hd ⟨x, y, hρ⟩ => by
    subst hρ
    obtain ⟨z, hz, rfl⟩ := enumD_get _ _ _ _ hd
    rw [Nat.zero_add]
    obtain ⟨k, hk, rfl⟩ := nums_get hz
    have hn := h.lt k (List.mem_of_getElem? hk)
    refine ⟨[.sh (.int (n : Int)), .sh (tpN P), .sh (.int (i : Nat)), .sh (.int k)], [.sh (.int (n : Int)), .sh (tpN P), .sh (.int (i : Nat)), .sh (.int k)], rfl, ?_, ⟨_, _, rfl⟩⟩
    unfold b_need_burning_3339_l1
    have a1 := is_in_yes (v := (k : Int)) (lo := 0) (hi := (n : Int) - 1) (by omega) (by omega)
    cases i with
    | zero => simp only [sSeq, sIf, sAsg, sAll, sUnp, sRet, sDrop, sNext, sBreak, sFor, sForX, sApp, sPut, sAug, sFrz, sNever, frz1, putB, mSh, mOw, mNil, mCons, up, fBl, fNot, fAnd, fOr, fIf, fAndV, fOrV, fNotV, fOp1, fOp2, fOwn, fVar, fC, fNil, fCons, fTup, fLst, fCall, fYes, xBl, xNot, xAnd, xOr, xIf, xOp1, xOp2, xCons, xTup, xLst, xCall, xCallI, xPop, ownOf, ioOf, B.put, iSeq, iRg1, iRg2, iEn, seqD, itemsD, setT, setTs, wipeB, startB, startI, fChain, List.map_cons, List.map_nil, List.length_cons, List.length_nil, List.cons_append, List.nil_append, List.replicate_succ, List.replicate_zero, Nat.add_zero, Nat.zero_add, Nat.reduceAdd, Nat.reduceSub, Nat.sub_self, List.getElem?_cons_zero, List.getElem?_cons_succ, List.set_cons_zero, List.set_cons_succ, Option.bind_some, Option.bind_none, Option.map_some, Option.map_none, Bool.false_eq_true, if_true, if_false, if_pos, reduceIte, Bool.not_true, Bool.not_false, gIxL, gIxT, ix0, ix1, ix2, ix3, gLenL, gLenT, gInt_i, gTuple, gList, gAdd_i, gSub_i, gGt_i, gLt_i, gGe_i, gLe_i, gEq_i, gNe_i, ixn1, ixn2, ixn3, ixn0, a1]; rfl
    | succ i =>
      have h1 : ((0 : Int) < ((i + 1 : Nat) : Int)) = True := eq_true (by omega)
      have hi : i + 1 < P.length := (List.getElem?_eq_some_iff.mp hk).1
      have hq : P[i]? = some P[i] := List.getElem?_eq_getElem (by omega)
      have h2 : atI (nums P) (((i + 1 : Nat) : Int) - 1) = some (.int P[i]) := by
        rw [show ((i + 1 : Nat) : Int) - 1 = ((i : Nat) : Int) by omega]
        exact nums_at hq
      have h3 : ((k : Int) ≤ (P[i] : Int)) = False := eq_false (by
        have := List.pairwise_iff_getElem.mp h.asc i (i + 1) (by omega) hi (by omega)
        have e : P[i + 1] = k := (List.getElem?_eq_some_iff.mp hk).2
        omega)
      simp only [sSeq, sIf, sAsg, sAll, sUnp, sRet, sDrop, sNext, sBreak, sFor, sForX, sApp, sPut, sAug, sFrz, sNever, frz1, putB, mSh, mOw, mNil, mCons, up, fBl, fNot, fAnd, fOr, fIf, fAndV, fOrV, fNotV, fOp1, fOp2, fOwn, fVar, fC, fNil, fCons, fTup, fLst, fCall, fYes, xBl, xNot, xAnd, xOr, xIf, xOp1, xOp2, xCons, xTup, xLst, xCall, xCallI, xPop, ownOf, ioOf, B.put, iSeq, iRg1, iRg2, iEn, seqD, itemsD, setT, setTs, wipeB, startB, startI, fChain, List.map_cons, List.map_nil, List.length_cons, List.length_nil, List.cons_append, List.nil_append, List.replicate_succ, List.replicate_zero, Nat.add_zero, Nat.zero_add, Nat.reduceAdd, Nat.reduceSub, Nat.sub_self, List.getElem?_cons_zero, List.getElem?_cons_succ, List.set_cons_zero, List.set_cons_succ, Option.bind_some, Option.bind_none, Option.map_some, Option.map_none, Bool.false_eq_true, if_true, if_false, if_pos, reduceIte, Bool.not_true, Bool.not_false, gIxL, gIxT, ix0, ix1, ix2, ix3, gLenL, gLenT, gInt_i, gTuple, gList, gAdd_i, gSub_i, gGt_i, gLt_i, gGe_i, gLe_i, gEq_i, gNe_i, ixn1, ixn2, ixn3, ixn0, a1, h1, h2, h3, decide_true, decide_false]
  refine runP_nx (ρ' := [.sh (.int (n : Int)), .sh (tpN P), x, y]) (seq_go (ρ1 := [.sh (.int (n : Int)), .sh (tpN P), .no, .no]) (by simp only [sSeq, sIf, sAsg, sAll, sUnp, sRet, sDrop, sNext, sBreak, sFor, sForX, sApp, sPut, sAug, sFrz, sNever, frz1, putB, mSh, mOw, mNil, mCons, up, fBl, fNot, fAnd, fOr, fIf, fAndV, fOrV, fNotV, fOp1, fOp2, fOwn, fVar, fC, fNil, fCons, fTup, fLst, fCall, fYes, xBl, xNot, xAnd, xOr, xIf, xOp1, xOp2, xCons, xTup, xLst, xCall, xCallI, xPop, ownOf, ioOf, B.put, iSeq, iRg1, iRg2, iEn, seqD, itemsD, setT, setTs, wipeB, startB, startI, fChain, List.map_cons, List.map_nil, List.length_cons, List.length_nil, List.cons_append, List.nil_append, List.replicate_succ, List.replicate_zero, Nat.add_zero, Nat.zero_add, Nat.reduceAdd, Nat.reduceSub, Nat.sub_self, List.getElem?_cons_zero, List.getElem?_cons_succ, List.set_cons_zero, List.set_cons_succ, Option.bind_some, Option.bind_none, Option.map_some, Option.map_none, Bool.false_eq_true, if_true, if_false, if_pos, reduceIte, Bool.not_true, Bool.not_false, gIxL, gIxT, ix0, ix1, ix2, ix3, gLenL, gLenT, gInt_i, gTuple, gList, gAdd_i, gSub_i, gGt_i, gLt_i, gGe_i, gLe_i, gEq_i, gNe_i, ixn1, ixn2, ixn3, ixn0, i2]) ?_)
  exact for_go (by simp only [sSeq, sIf, sAsg, sAll, sUnp, sRet, sDrop, sNext, sBreak, sFor, sForX, sApp, sPut, sAug, sFrz, sNever, frz1, putB, mSh, mOw, mNil, mCons, up, fBl, fNot, fAnd, fOr, fIf, fAndV, fOrV, fNotV, fOp1, fOp2, fOwn, fVar, fC, fNil, fCons, fTup, fLst, fCall, fYes, xBl, xNot, xAnd, xOr, xIf, xOp1, xOp2, xCons, xTup, xLst, xCall, xCallI, xPop, ownOf, ioOf, B.put, iSeq, iRg1, iRg2, iEn, seqD, itemsD, setT, setTs, wipeB, startB, startI, fChain, List.map_cons, List.map_nil, List.length_cons, List.length_nil, List.cons_append, List.nil_append, List.replicate_succ, List.replicate_zero, Nat.add_zero, Nat.zero_add, Nat.reduceAdd, Nat.reduceSub, Nat.sub_self, List.getElem?_cons_zero, List.getElem?_cons_succ, List.set_cons_zero, List.set_cons_succ, Option.bind_some, Option.bind_none, Option.map_some, Option.map_none, Bool.false_eq_true, if_true, if_false, if_pos, reduceIte, Bool.not_true, Bool.not_false, gIxL, gIxT, ix0, ix1, ix2, ix3, gLenL, gLenT, gInt_i, gTuple, gList, gAdd_i, gSub_i, gGt_i, gLt_i, gGe_i, gLe_i, gEq_i, gNe_i, ixn1, ixn2, ixn3, ixn0]) e
theorem rburning_ok {ls : List D} (R : Row ls) {n : Nat} (hn : n ≤ 1000) : ∃ (P : List Nat) (ls' : List D), f_law_row_burning ls [.int n] = some (tpN P, ls') ∧ P.Pairwise (· < ·) ∧ (∀ x ∈ P, x < n) ∧ Row ls' := by
  obtain ⟨d, l1, e1, a1, R1⟩ := pick_ok R (xs := [.int 2, .int 3, .int 8]) (by simp) (by decide)
  obtain ⟨thin, rfl, t0, t1⟩ : ∃ t : Int, d = .int t ∧ 0 < t ∧ t < 9 := by
    simp only [List.mem_cons, List.not_mem_nil, or_false] at a1
    rcases a1 with rfl | rfl | rfl
    · exact ⟨2, rfl, by omega, by omega⟩
    · exact ⟨3, rfl, by omega, by omega⟩
    · exact ⟨8, rfl, by omega, by omega⟩
  obtain ⟨M, ρ', e2, s, l2, R2, rfl⟩ := xlc_some (vs := [3]) (t := .one 3) (fc := xBl (xOp2 gEq (xCallI 0 LF.f_law_taken (xCons (up (fVar 2)) (up fNil))) (up (fC (.int 0))))) (fe := up (fVar 3)) (fun ρ => ∃ l2, Row l2 ∧ ρ = [.io l2, .sh (.int n), .sh (.int thin), .no]) (List.range n) [.io l1, .sh (.int n), .sh (.int thin), .no] ⟨l1, R1, rfl⟩ fun k hk ρ ⟨l2, R2, hρ⟩ => by
    subst hρ
    obtain ⟨r, l3, e3, a3, b3, R3⟩ := taken_ok R2 t0 (by omega)
    refine ⟨_, r == 0, [.io l3, .sh (.int n), .sh (.int thin), .sh (.int k)], rfl, ?_, rfl, l3, R3, rfl⟩
    simp only [sSeq, sIf, sAsg, sAll, sUnp, sRet, sDrop, sNext, sBreak, sFor, sForX, sApp, sPut, sAug, sFrz, sNever, frz1, putB, mSh, mOw, mNil, mCons, up, fBl, fNot, fAnd, fOr, fIf, fAndV, fOrV, fNotV, fOp1, fOp2, fOwn, fVar, fC, fNil, fCons, fTup, fLst, fCall, fYes, xBl, xNot, xAnd, xOr, xIf, xOp1, xOp2, xCons, xTup, xLst, xCall, xCallI, xPop, ownOf, ioOf, B.put, iSeq, iRg1, iRg2, iEn, seqD, itemsD, setT, setTs, wipeB, startB, startI, fChain, List.map_cons, List.map_nil, List.length_cons, List.length_nil, List.cons_append, List.nil_append, List.replicate_succ, List.replicate_zero, Nat.add_zero, Nat.zero_add, Nat.reduceAdd, Nat.reduceSub, Nat.sub_self, List.getElem?_cons_zero, List.getElem?_cons_succ, List.set_cons_zero, List.set_cons_succ, Option.bind_some, Option.bind_none, Option.map_some, Option.map_none, Bool.false_eq_true, if_true, if_false, if_pos, reduceIte, Bool.not_true, Bool.not_false, gIxL, gIxT, ix0, ix1, ix2, ix3, gLenL, gLenT, gInt_i, gTuple, gList, gAdd_i, gSub_i, gGt_i, gLt_i, gGe_i, gLe_i, gEq_i, gNe_i, ixn1, ixn2, ixn3, ixn0, e3]
  refine ⟨M, l2, ?_, (asc_range n).sublist s, fun x hx => List.mem_range.mp (s.mem hx), R2⟩
  have z3 : ((3 : Nat) ≤ bigN) = True := eq_true (by decide)
  unfold f_law_row_burning b_law_row_burning
  refine runI_rt (ρ' := [.io l2, .sh (.int n), .sh (.int thin), .no]) ?_ rfl
  refine seq_go (ρ1 := [.io l1, .sh (.int n), .sh (.int thin), .no]) (by simp only [sSeq, sIf, sAsg, sAll, sUnp, sRet, sDrop, sNext, sBreak, sFor, sForX, sApp, sPut, sAug, sFrz, sNever, frz1, putB, mSh, mOw, mNil, mCons, up, fBl, fNot, fAnd, fOr, fIf, fAndV, fOrV, fNotV, fOp1, fOp2, fOwn, fVar, fC, fNil, fCons, fTup, fLst, fCall, fYes, xBl, xNot, xAnd, xOr, xIf, xOp1, xOp2, xCons, xTup, xLst, xCall, xCallI, xPop, ownOf, ioOf, B.put, iSeq, iRg1, iRg2, iEn, seqD, itemsD, setT, setTs, wipeB, startB, startI, fChain, List.map_cons, List.map_nil, List.length_cons, List.length_nil, List.cons_append, List.nil_append, List.replicate_succ, List.replicate_zero, Nat.add_zero, Nat.zero_add, Nat.reduceAdd, Nat.reduceSub, Nat.sub_self, List.getElem?_cons_zero, List.getElem?_cons_succ, List.set_cons_zero, List.set_cons_succ, Option.bind_some, Option.bind_none, Option.map_some, Option.map_none, Bool.false_eq_true, if_true, if_false, if_pos, reduceIte, Bool.not_true, Bool.not_false, gIxL, gIxT, ix0, ix1, ix2, ix3, gLenL, gLenT, gInt_i, gTuple, gList, gAdd_i, gSub_i, gGt_i, gLt_i, gGe_i, gLe_i, gEq_i, gNe_i, ixn1, ixn2, ixn3, ixn0, z3, e1]) ?_
  have hi : up (iRg1 (fVar 1)) [.io l1, .sh (.int (n : Int)), .sh (.int thin), .no] = some (nums (List.range n), [.io l1, .sh (.int n), .sh (.int thin), .no]) := by
    simp only [sSeq, sIf, sAsg, sAll, sUnp, sRet, sDrop, sNext, sBreak, sFor, sForX, sApp, sPut, sAug, sFrz, sNever, frz1, putB, mSh, mOw, mNil, mCons, up, fBl, fNot, fAnd, fOr, fIf, fAndV, fOrV, fNotV, fOp1, fOp2, fOwn, fVar, fC, fNil, fCons, fTup, fLst, fCall, fYes, xBl, xNot, xAnd, xOr, xIf, xOp1, xOp2, xCons, xTup, xLst, xCall, xCallI, xPop, ownOf, ioOf, B.put, iSeq, iRg1, iRg2, iEn, seqD, itemsD, setT, setTs, wipeB, startB, startI, fChain, List.map_cons, List.map_nil, List.length_cons, List.length_nil, List.cons_append, List.nil_append, List.replicate_succ, List.replicate_zero, Nat.add_zero, Nat.zero_add, Nat.reduceAdd, Nat.reduceSub, Nat.sub_self, List.getElem?_cons_zero, List.getElem?_cons_succ, List.set_cons_zero, List.set_cons_succ, Option.bind_some, Option.bind_none, Option.map_some, Option.map_none, Bool.false_eq_true, if_true, if_false, if_pos, reduceIte, Bool.not_true, Bool.not_false, gIxL, gIxT, ix0, ix1, ix2, ix3, gLenL, gLenT, gInt_i, gTuple, gList, gAdd_i, gSub_i, gGt_i, gLt_i, gGe_i, gLe_i, gEq_i, gNe_i, ixn1, ixn2, ixn3, ixn0, smR_of (i := (n : Int)) (by omega) (by omega), Int.toNat_natCast, rng_nums]
  unfold sRet xOp1 xLc
  rw [hi, Option.bind_some]
  simp only [nums_len, List.length_range]
  rw [if_pos (by unfold bigN; omega)]
  rw [show wipeB [B.io l1, .sh (.int (n : Int)), .sh (.int thin), .no] [3] = [.io l1, .sh (.int n), .sh (.int thin), .no] from rfl, e2]
  rfl
section
variable {n : Nat} {P Q S : List Nat}
/-! ### spare lamps -/
/-! ### a shortest word -/
end
end LF
end
section
set_option Elab.async false
set_option linter.all false
set_option maxRecDepth 100000
/-! Rows of lamps: the law's spare lamps, where words lead. -/
namespace LF
open PySem DL
open L2 (atI ixN)
section
variable {n : Nat} {P Q S : List Nat}
/-! ### the law's spare lamps -/
theorem cnt4 {a b c d : Nat → Bool} (h : ∀ k, (if a k = true then 1 else 0) + (if b k = true then 1 else 0) = (if c k = true then 1 else 0) + 2 * (if d k = true then 1 else 0)) : ∀ L : List Nat, (L.filter a).length + (L.filter b).length = (L.filter c).length + 2 * (L.filter d).length
  | [] => rfl
  | k :: L => by
    have ih := cnt4 h L
    have hk := h k
    rw [List.filter_cons, List.filter_cons, List.filter_cons, List.filter_cons]
    cases ha : a k <;> cases hb : b k <;> cases hc : c k <;> cases hd : d k <;> rw [ha, hb, hc, hd] at hk <;> simp at hk ⊢ <;> omega
end
end LF
end
section
set_option Elab.async false
set_option linter.all false
set_option maxRecDepth 100000
/-! Rows of lamps: where words lead. -/
namespace LF
open PySem DL
open L2 (atI ixN)
section
variable {n : Nat} {P Q S : List Nat} {v : D}
/-! ### the law -/
/-! ### the program -/
def buD (n : Nat) (S : List Nat) : List D := (List.range n).map fun j => PyData.bool (decide (j ∈ S))
theorem bu_at {k : Nat} (hk : k < n) : (buD n S)[k]? = some (.bool (decide (k ∈ S))) := by
  unfold buD
  rw [List.getElem?_map, List.getElem?_range hk]
  rfl
theorem bu_set (hS : Stn n S) {k : Nat} (hk : k < n) : (buD n S).set k (.bool (!decide (k ∈ S))) = buD n (tgN n S k) := by
  apply List.ext_getElem?
  intro i
  rw [List.getElem?_set]
  by_cases h : k = i
  · subst h
    rw [if_pos rfl, if_pos (by unfold buD; rw [List.length_map, List.length_range]; exact hk), bu_at hk]
    congr 2
    have : k ∈ tgN n S k ↔ k ∉ S := by
      rw [mem_tgN, if_pos rfl]
      exact ⟨fun h => h.2, fun h => ⟨hk, h⟩⟩
    by_cases z : k ∈ S <;> simp [this, z]
  · rw [if_neg h]
    by_cases hi : i < n
    · rw [bu_at hi, bu_at hi]
      congr 2
      rw [decide_eq_decide, mem_tgN, if_neg (fun z => h z.symm)]
      exact ⟨fun z => ⟨hi, z⟩, fun z => z.2⟩
    · have e : ∀ T : List Nat, (buD n T)[i]? = none := fun T => by
        rw [List.getElem?_eq_none]
        unfold buD
        rw [List.length_map, List.length_range]
        omega
      rw [e, e]
theorem buN_at {k : Nat} (hk : k < n) {f g : Fm → Option D} {ρ : Fm} (h : f ρ = some (.list (buD n S))) (h2 : g ρ = some (.int (k : Int))) : fOp2 gIx f g ρ = some (.bool (decide (k ∈ S))) := ixL_at h h2 (bu_at hk)
end
end LF
end
section
set_option Elab.async false
set_option linter.all false
set_option maxRecDepth 100000
/-! Long rows: the shortest word leads; the law. -/
namespace LF
open PySem DL
open L2 (atI ixN)
section
variable {n : Nat} {P Q S : List Nat}
theorem tg_step {T U : List Nat} {j : Nat} (hj : j < n) (hU : Stn n U) (h : ∀ x, x < n → (x ∈ U ↔ if x = j then x ∉ T else x ∈ T)) : tgN n T j = U := asc_same tgN_stn.asc hU.asc fun x => by
  rw [mem_tgN]
  exact ⟨fun z => (h x z.1).mpr z.2, fun z => ⟨hU.lt x z, (h x (hU.lt x z)).mp z⟩⟩
/-! ### values -/
variable {s : D} {l : List D} {f : Nat} {b7 b8 b9 b10 : B}
end
end LF
end
section
set_option Elab.async false
set_option linter.all false
set_option maxRecDepth 100000
/-! Prices of deeds: the least cost. -/
namespace LF
open PySem DL
open L2 (atI ixN)
section
variable {n : Nat} {A : List (Nat × Nat)} {P Q b : List Nat} {f : Nat → Nat × Nat}
def dpr (f : Nat → Nat × Nat) (d : Bool × Nat) : Nat := if d.1 = true then (f d.2).1 else (f d.2).2
def spr (f : Nat → Nat × Nat) (b : List Nat) (k : Nat) : Nat := if k ∈ b then (f k).2 else (f k).1
/-- the cost of the deeds of the shortest words -/
def ceN (f : Nat → Nat × Nat) (n : Nat) (A : List (Nat × Nat)) (P Q : List Nat) : Nat := ((dsN n A P Q).map (dpr f)).sum
end
end LF
end
section
set_option Elab.async false
set_option linter.all false
set_option maxRecDepth 100000
/-! The law's least costs: made better until nothing changes. -/
namespace LF
open PySem DL
open L2 (atI ixN)
section
variable {en : Nat → D}
end
section
variable {n : Nat} {A : List (Nat × Nat)} {P Q b : List Nat} {f : Nat → Nat × Nat}
structure Chg (F M F' M' : FB) : Prop where
  mono : ∀ x ∈ keysB F, x ∈ keysB F' ∧ lookB F' x ≤ lookB F x
  grow : ∀ x ∈ keysB M, x ∈ keysB M'
  same : ∀ x ∈ keysB F', x ∉ keysB M' → x ∈ keysB F ∧ lookB F' x = lookB F x
  new : ∀ x ∈ keysB M', x ∈ keysB M ∨ x ∉ keysB F ∨ lookB F' x < lookB F x
theorem Chg.trans {F M F' M' F2 M2 : FB} (a : Chg F M F' M') (b : Chg F' M' F2 M2) : Chg F M F2 M2 where
  mono := fun x h => ⟨(b.mono x (a.mono x h).1).1, Nat.le_trans (b.mono x (a.mono x h).1).2 (a.mono x h).2⟩
  grow := fun x h => b.grow x (a.grow x h)
  same := fun x h h2 => by
    obtain ⟨b1, b2⟩ := b.same x h h2
    obtain ⟨a1, a2⟩ := a.same x b1 fun z => h2 (b.grow x z)
    exact ⟨a1, b2.trans a2⟩
  new := fun x h => by
    rcases b.new x h with z | z | z
    · rcases a.new x z with y | y | y
      · exact .inl y
      · exact .inr (.inl y)
      · by_cases hx : x ∈ keysB F
        · exact .inr (.inr (Nat.lt_of_le_of_lt (b.mono x (a.mono x hx).1).2 y))
        · exact .inr (.inl hx)
    · exact .inr (.inl fun y => z (a.mono x y).1)
    · by_cases hx : x ∈ keysB F
      · exact .inr (.inr (Nat.lt_of_lt_of_le z (a.mono x hx).2))
      · exact .inr (.inl hx)
/-- an arrow of the search is kept -/
def Edg (f : Nat → Nat × Nat) (n : Nat) (F : FB) (c : Nat) (x : List Nat) (k : Nat) : Prop := tgN n x k ∈ keysB F ∧ lookB F (tgN n x k) ≤ c + spr f x k
theorem Edg.mono {F F' M M' : FB} {c : Nat} {x : List Nat} {k : Nat} (h : Edg f n F c x k) (C : Chg F M F' M') : Edg f n F' c x k :=
  ⟨(C.mono _ h.1).1, Nat.le_trans (C.mono _ h.1).2 h.2⟩
end
end LF
end
section
set_option Elab.async false
set_option linter.all false
set_option maxRecDepth 100000
/-! Prices: drawn, needed, cheapest, price_paper, dearest. -/
namespace LF
open PySem DL
open L2 (atI ixN)
section
variable {n : Nat} {A : List (Nat × Nat)} {P Q b : List Nat} {f : Nat → Nat × Nat}
/-- what the law's search found -/
structure Cst (f : Nat → Nat × Nat) (n : Nat) (A : List (Nat × Nat)) (P : List Nat) (F : FB) : Prop where
  rw : RwK n F
  all : ∀ x, Stn n x → x ∈ keysB F ∧ lookB F x = ceN f n A P x
/-! ### the program -/
end
end LF
end
section
set_option Elab.async false
set_option linter.all false
set_option maxRecDepth 100000
/-! shows_cheap; the law of prices. -/
namespace LF
open PySem DL
open L2 (atI ixN)
section
variable {n : Nat} {A : List (Nat × Nat)} {P Q b : List Nat} {f : Nat → Nat × Nat}
/-! ### the law's loops -/
variable {s best : D} {l : List D} {F : FB} {w : List Nat} {b9 b10 b11 b12 b13 b14 b15 : B}
variable {b7 b8 : B}
end
end LF
end
section
set_option Elab.async false
set_option linter.all false
set_option maxRecDepth 100000
/-! The law of prices. -/
namespace LF
open PySem DL
open L2 (atI ixN)
section
variable {n : Nat} {A : List (Nat × Nat)} {P Q b : List Nat} {f : Nat → Nat × Nat} {F : FB}
theorem Cst.key (C : Cst f n A P F) (x : List Nat) : x ∈ evS n ↔ x ∈ keysB F := by
  rw [mem_evS]
  exact ⟨fun h => (C.all x ⟨h.1, h.2⟩).1, fun h => ⟨(C.rw.stn x h).asc, (C.rw.stn x h).lt⟩⟩
end
end LF
end
section
set_option Elab.async false
set_option linter.all false
set_option maxRecDepth 100000
/-! Words of the least length; words through a standing; sums of counts. -/
namespace LF
open PySem DL
open L2 (atI ixN)
section
variable {n : Nat} {A : List (Nat × Nat)} {P Q V b : List Nat} {t : Nat}
/-! ### sums of counts -/
end
end LF
end
section
set_option Elab.async false
set_option linter.all false
set_option maxRecDepth 100000
/-! The law across distances. -/
namespace LF
open PySem DL
open L2 (atI ixN)
section
variable {n : Nat} {A : List (Nat × Nat)} {P Q V b : List Nat} {F : List (List Nat × Nat)} {s : D} {l : List D} {b7 b8 b9 b10 b11 b12 b13 : B}
end
end LF
end
section
set_option Elab.async false
set_option linter.all false
set_option maxRecDepth 100000
/-! Forests: arrows, what must burn for a time, the search for it. -/
namespace LF
open PySem DL
open L2 (atI ixN)
section
variable {n : Nat} {P Q S : List Nat} {pa : Nat → Option Nat}
/-- the parents of a forest -/
def Fst (pa : Nat → Option Nat) : Prop := ∀ k p, pa k = some p → p < k
/-- its arrows -/
def fsA (n : Nat) (pa : Nat → Option Nat) : List (Nat × Nat) := (List.range n).filterMap fun k => (pa k).map fun p => (p, k)
theorem mem_fsA {p k : Nat} : (p, k) ∈ fsA n pa ↔ k < n ∧ pa k = some p := by
  unfold fsA
  rw [List.mem_filterMap]
  constructor
  · rintro ⟨j, h1, h2⟩
    obtain ⟨q, h3, h4⟩ := Option.map_eq_some_iff.mp h2
    cases h4
    exact ⟨List.mem_range.mp h1, h3⟩
  · rintro ⟨h1, h2⟩
    exact ⟨k, List.mem_range.mpr h1, by rw [h2]; rfl⟩
abbrev foS (n : Nat) (pa : Nat → Option Nat) (P Q : List Nat) : List Nat := spF n (fsA n pa) P Q
def Lgt (n : Nat) (pa : Nat → Option Nat) (P Q : List Nat) (k : Nat) : Prop := (k ∈ Q ∧ k ∉ P) ∨ k ∈ foS n pa P Q
def Ogt (n : Nat) (pa : Nat → Option Nat) (P Q : List Nat) (k : Nat) : Prop := (k ∈ P ∧ k ∉ Q) ∨ k ∈ foS n pa P Q
theorem fs_up (F : Fst pa) {x k : Nat} (hk : k < n) (h : pa k = some x) (hx : x ∉ P) (hx2 : x ∉ Q) (hl : Lgt n pa P Q k) : x ∈ foS n pa P Q :=
  spF_closed (by have := F k x h; omega) (ndB_iff.mpr ⟨⟨hx, hx2⟩, .inl ⟨k, mem_fsA.mpr ⟨hk, h⟩, hl.symm⟩⟩)
theorem fs_dn {x k : Nat} (hx0 : x < n) (h : pa x = some k) (hx : x ∉ P) (hx2 : x ∉ Q) (hl : Ogt n pa P Q k) : x ∈ foS n pa P Q :=
  spF_closed hx0 (ndB_iff.mpr ⟨⟨hx, hx2⟩, .inr ⟨k, mem_fsA.mpr ⟨hx0, h⟩, hl.symm⟩⟩)
/-- the state of a search: what is found, of which the parents, of which the children are still to be looked at -/
structure FSt (n : Nat) (pa : Nat → Option Nat) (P Q found : List Nat) (U V : Nat → Prop) : Prop where
  nd : found.Nodup
  inn : ∀ x ∈ found, x ∈ foS n pa P Q
  up : ∀ k x, k < n → x ∉ P → x ∉ Q → pa k = some x → ((k ∈ Q ∧ k ∉ P) ∨ k ∈ found) → ¬ U k → x ∈ found
  dn : ∀ k x, x < n → x ∉ P → x ∉ Q → pa x = some k → ((k ∈ P ∧ k ∉ Q) ∨ k ∈ found) → ¬ V k → x ∈ found
  us : ∀ k, U k → (k ∈ Q ∧ k ∉ P) ∨ k ∈ found
  vs : ∀ k, V k → (k ∈ P ∧ k ∉ Q) ∨ k ∈ found
/-- what a round finds -/
structure FRd (n : Nat) (pa : Nat → Option Nat) (P Q found : List Nat) (U V : Nat → Prop) (more : List Nat) : Prop where
  nd : more.Nodup
  mem : ∀ x, x ∈ more ↔ x < n ∧ x ∉ P ∧ x ∉ Q ∧ x ∉ found ∧ ((∃ k, U k ∧ k < n ∧ pa k = some x) ∨ ∃ k, V k ∧ pa x = some k)
theorem FSt.lt {found : List Nat} {U V : Nat → Prop} (T : FSt n pa P Q found U V) : ∀ x ∈ found, x < n ∧ x ∉ P ∧ x ∉ Q := fun x hx => ⟨spF_lt (T.inn x hx), spF_dark (T.inn x hx)⟩
theorem FSt.first : FSt n pa P Q [] (fun k => k ∈ Q ∧ k ∉ P) (fun k => k ∈ P ∧ k ∉ Q) where
  nd := .nil
  inn := fun _ h => (by cases h)
  up := fun k x _ _ _ _ h hu => absurd (h.resolve_right fun z => (by cases z)) hu
  dn := fun k x _ _ _ _ h hv => absurd (h.resolve_right fun z => (by cases z)) hv
  us := fun _ h => .inl h
  vs := fun _ h => .inl h
theorem FSt.next (F : Fst pa) {found more : List Nat} {U V : Nat → Prop} (T : FSt n pa P Q found U V) (R : FRd n pa P Q found U V more) : FSt n pa P Q (found ++ more) (· ∈ more) (· ∈ more) where
  nd := List.nodup_append.mpr ⟨T.nd, R.nd, fun a ha b hb e => ((R.mem b).mp hb).2.2.2.1 (e ▸ ha)⟩
  inn := fun x hx => by
    rcases List.mem_append.mp hx with h | h
    · exact T.inn x h
    · obtain ⟨h1, h2, h3, _, h4⟩ := (R.mem x).mp h
      rcases h4 with ⟨k, hk, hn, e⟩ | ⟨k, hk, e⟩
      · exact fs_up F hn e h2 h3 ((T.us k hk).imp id (T.inn k))
      · exact fs_dn h1 e h2 h3 ((T.vs k hk).imp id (T.inn k))
  up := fun k x hk hx hx2 e h hu => by
    have hxn : x < n := by have := F k x e; omega
    by_cases hxf : x ∈ found
    · exact List.mem_append_left _ hxf
    have h' : (k ∈ Q ∧ k ∉ P) ∨ k ∈ found := h.imp id fun z => (List.mem_append.mp z).resolve_right hu
    by_cases hU : U k
    · exact List.mem_append_right _ ((R.mem x).mpr ⟨hxn, hx, hx2, hxf, .inl ⟨k, hU, hk, e⟩⟩)
    · exact absurd (T.up k x hk hx hx2 e h' hU) hxf
  dn := fun k x hxn hx hx2 e h hv => by
    by_cases hxf : x ∈ found
    · exact List.mem_append_left _ hxf
    have h' : (k ∈ P ∧ k ∉ Q) ∨ k ∈ found := h.imp id fun z => (List.mem_append.mp z).resolve_right hv
    by_cases hV : V k
    · exact List.mem_append_right _ ((R.mem x).mpr ⟨hxn, hx, hx2, hxf, .inr ⟨k, hV, e⟩⟩)
    · exact absurd (T.dn k x hxn hx hx2 e h' hV) hxf
  us := fun k h => .inr (List.mem_append_right _ h)
  vs := fun k h => .inr (List.mem_append_right _ h)
/-- the same state with other names for what is left -/
theorem FSt.ren {found : List Nat} {U V U' V' : Nat → Prop} (T : FSt n pa P Q found U V) (hu : ∀ k, U k ↔ U' k) (hv : ∀ k, V k ↔ V' k) : FSt n pa P Q found U' V' where
  nd := T.nd
  inn := T.inn
  up := fun k x a b c d e h => T.up k x a b c d e fun z => h ((hu k).mp z)
  dn := fun k x a b c d e h => T.dn k x a b c d e fun z => h ((hv k).mp z)
  us := fun k h => T.us k ((hu k).mpr h)
  vs := fun k h => T.vs k ((hv k).mpr h)
theorem FSt.fin {found : List Nat} {U V : Nat → Prop} (T : FSt n pa P Q found U V) (hu : ∀ k, ¬ U k) (hv : ∀ k, ¬ V k) (x : Nat) : x ∈ found ↔ x ∈ foS n pa P Q := by
  refine ⟨T.inn x, spF_least (fun y hy hd => ?_) x⟩
  obtain ⟨⟨d1, d2⟩, d3⟩ := ndB_iff.mp hd
  rcases d3 with ⟨j, j1, j2⟩ | ⟨j, j1, j2⟩
  · obtain ⟨h1, h2⟩ := mem_fsA.mp j1
    exact T.up j y h1 d1 d2 h2 j2.symm (hu j)
  · obtain ⟨h1, h2⟩ := mem_fsA.mp j1
    exact T.dn j y h1 d1 d2 h2 j2.symm (hv j)
theorem nd_lt {L : List Nat} (h : L.Nodup) (hl : ∀ x ∈ L, x < n) : L.length ≤ n := by
  have := sub_len (M := List.range n) h fun x hx => List.mem_range.mpr (hl x hx)
  rw [List.length_range] at this
  exact this
/-! ### the parents as data -/
def oD : Option Nat → D
  | none => .none
  | some p => .int (p : Int)
abbrev faD (n : Nat) (pa : Nat → Option Nat) : D := .tuple ((List.range n).map fun k => oD (pa k))
theorem oD_isn (o : Option Nat) : gIsN true (oD o) .none = some (.bool o.isSome) := by cases o <;> rfl
theorem oD_eq (o : Option Nat) (k : Nat) : gEq (oD o) (.int (k : Int)) = some (.bool (decide (o = some k))) := by
  cases o with
  | none => rfl
  | some p =>
    refine (gEq_iN (a := p) (b := k)).trans ?_
    congr 2
    rw [decide_eq_decide]
    exact ⟨fun h => by rw [h], fun h => Option.some.inj h⟩
theorem fa_ix {k : Nat} (hk : k < n) : gIx (faD n pa) (.int (k : Int)) = some (oD (pa k)) := by
  show atI ((List.range n).map fun k => oD (pa k)) (k : Int) = _
  refine atI_at ?_
  rw [List.getElem?_map, List.getElem?_range hk]
  rfl
theorem fa_len : gLen (faD n pa) = some (.int (n : Int)) := by
  rw [gLenT, List.length_map, List.length_range]
theorem pl_oD (o : Option Nat) (k : Nat) : Pl k (oD o) := by
  cases o with
  | none => exact .none k
  | some p => exact .int k _
theorem fa_isa : gIsa ["tuple"] (faD n pa) = some (.bool true) := isa_tup (nd_seq (k := 0) fun x hx => by
  obtain ⟨k, _, rfl⟩ := List.mem_map.mp hx
  exact pl_oD _ 0)
theorem fa_enum : ∀ (m j : Nat), enumD j ((List.range m).map fun k => oD (pa (j + k))) = (List.range m).map fun k => .tuple [.int ((j + k : Nat) : Int), oD (pa (j + k))]
  | 0, j => rfl
  | m + 1, j => by
    rw [List.range_succ_eq_map, List.map_cons, List.map_cons, List.map_map, List.map_map, enumD]
    congr 1
    have h := fa_enum m (j + 1)
    refine Eq.trans ?_ (h.trans ?_)
    · congr 1
      exact List.map_congr_left fun k _ => by show oD (pa (j + (k + 1))) = _; rw [show j + (k + 1) = j + 1 + k by omega]
    · exact List.map_congr_left fun k _ => by
        show _ = PyData.tuple [.int ((j + (k + 1) : Nat) : Int), oD (pa (j + (k + 1)))]
        rw [show j + (k + 1) = j + 1 + k by omega]
def enP (pa : Nat → Option Nat) (k : Nat) : D := .tuple [.int (k : Int), oD (pa k)]
theorem fa_en {f : Fm → Option D} {ρ : Fm} (h : f ρ = some (faD n pa)) : iEn f ρ = some ((List.range n).map (enP pa)) := by
  unfold iEn
  rw [h]
  have h2 := fa_enum (pa := pa) n 0
  show some (enumD 0 ((List.range n).map fun k => oD (pa k))) = _
  rw [show ((List.range n).map fun k => oD (pa k)) = (List.range n).map fun k => oD (pa (0 + k)) from List.map_congr_left fun k _ => by rw [Nat.zero_add], h2]
  congr 1
  exact List.map_congr_left fun k _ => by rw [Nat.zero_add]; rfl
/-- the children of a lamp -/
def fcL (n : Nat) (pa : Nat → Option Nat) (k : Nat) : List Nat := (List.range n).filter fun j => decide (pa j = some k)
theorem mem_ch {k j : Nat} : j ∈ fcL n pa k ↔ j < n ∧ pa j = some k := by
  unfold fcL
  rw [List.mem_filter, List.mem_range, decide_eq_true_eq]
theorem children_ok (h40 : n ≤ 40) {k : Nat} : f_children [faD n pa, .int (k : Int)] = some (lsN (fcL n pa k)) := by
  unfold f_children b_children
  refine runP_rt (ρ' := [.sh (faD n pa), .sh (.int (k : Int)), .no, .no]) (rt_at ?_)
  have lc := fLc_map (α := Nat) (enc := enP pa) (ρ := [.sh (faD n pa), .sh (.int (k : Int)), .no, .no]) (vs := [2, 3]) (t := .tup [.one 2, .one 3]) (fi := iEn (fVar 0)) (fc := fBl (fOp2 gEq (fVar 3) (fVar 1))) (fe := fVar 2) (fun j => decide (pa j = some k)) (fun j => .int (j : Int)) (xs := List.range n) (fa_en rfl) (by rw [List.length_range]; unfold bigN; omega) fun j _ => ⟨_, rfl, bl_at ((op2_at (g := gEq) (a := oD (pa j)) (b := .int (k : Int)) rfl rfl).trans (oD_eq _ _)), fun _ => rfl⟩
  exact lc
theorem need_parents_ok (F : Fst pa) (h1 : 1 ≤ n) (h40 : n ≤ 40) : f_need_parents [faD n pa] = some .none := by
  obtain ⟨ρ', e, x, y, rfl⟩ := forL_inv (t := .tup [.one 1, .one 2]) (f := b_need_parents_l1) (fun i ρ => ∃ x y, ρ = [.sh (faD n pa), x, y]) ((List.range n).map (enP pa)) 0 [.sh (faD n pa), .no, .no] ⟨_, _, rfl⟩ fun i d ρ hd ⟨x, y, hρ⟩ => by
    subst hρ
    obtain ⟨k, hk, rfl⟩ := List.mem_map.mp (List.mem_of_getElem? hd)
    refine ⟨[.sh (faD n pa), .sh (.int (k : Int)), .sh (oD (pa k))], [.sh (faD n pa), .sh (.int (k : Int)), .sh (oD (pa k))], rfl, ?_, _, _, rfl⟩
    unfold b_need_parents_l1
    have c1 : fBl (fOp2 (gIsN true) (fVar 2) (fC .none)) [.sh (faD n pa), .sh (.int (k : Int)), .sh (oD (pa k))] = some (pa k).isSome := bl_at ((op2_at (g := gIsN true) (a := oD (pa k)) (b := .none) rfl rfl).trans (oD_isn _))
    cases h : pa k with
    | none =>
      rw [h] at c1
      exact if_no (up_at (and_f0 c1))
    | some p =>
      rw [h] at c1
      have := F k p h
      refine if_no (up_at ((and_at (a := true) (b := false) c1 (fnot_at (b := true) (bl_at (call3_at (a := .int (p : Int)) (b := .int 0) (c := .int ((k : Int) - 1)) rfl rfl ((op2_at (g := gSub) (a := .int (k : Int)) (b := .int 1) rfl rfl).trans (gSub_i _ _)) (is_in_yes (by omega) (by omega)))))).trans rfl))
  unfold f_need_parents b_need_parents
  refine runP_nx (ρ' := [.sh (faD n pa), x, y]) (seq_go (ρ1 := [.sh (faD n pa), .no, .no]) (if_no (up_at (or_at (a := false) (b := false) (fnot_at (b := true) (bl_at ((op1_at (a := faD n pa) rfl).trans fa_isa))) (fnot_at (b := true) (bl_at ?_))))) (for_go (fa_en rfl) e))
  unfold fChain
  rw [show ∀ ρ : Fm, fC (.int 1) ρ = some (.int 1) from fun _ => rfl, Option.bind_some, (op1_at (g := gLen) (f := fVar 0) (a := faD n pa) rfl).trans fa_len, Option.bind_some, gLe_i, decide_eq_true (by omega), Option.bind_some]
  show (some (PyData.int 40)).bind _ = _
  rw [Option.bind_some, gLe_i, decide_eq_true (by omega)]
theorem fneed_two_ok (F : Fst pa) (h1 : 1 ≤ n) (h40 : n ≤ 40) (hP : Stn n P) (hQ : Stn n Q) : f_need_two_43b8 [faD n pa, tpN P, tpN Q] = some .none := by
  unfold f_need_two_43b8 b_need_two_43b8
  refine runP_nx (ρ' := [.sh (faD n pa), .sh (tpN P), .sh (tpN Q)]) ?_
  refine seq_go (dropv_at (d := .none) (call1_at (a := faD n pa) rfl (need_parents_ok F h1 h40))) ?_
  refine seq_go (dropv_at (d := .none) (call2_at (a := .int (n : Int)) (b := tpN P) ((op1_at (a := faD n pa) rfl).trans fa_len) rfl (rneed_burning_ok hP))) ?_
  exact dropv_at (d := .none) (call2_at (a := .int (n : Int)) (b := tpN Q) ((op1_at (a := faD n pa) rfl).trans fa_len) rfl (rneed_burning_ok hQ))
end
end LF
end
section
set_option Elab.async false
set_option linter.all false
set_option maxRecDepth 100000
/-! Forests: the program's and the law's search for what must burn for a time. -/
namespace LF
open PySem DL
open L2 (atI ixN)
section
variable {n : Nat} {P Q S : List Nat} {pa : Nat → Option Nat}
theorem asc_nd {L : List Nat} (h : L.Pairwise (· < ·)) : L.Nodup := h.imp fun h => by omega
/-- the children of some lamps are apart -/
theorem ch_nd : ∀ L : List Nat, L.Nodup → (L.flatMap (fcL n pa)).Nodup
  | [], _ => .nil
  | k :: L, hn => by
    have hn := List.nodup_cons.mp hn
    rw [List.flatMap_cons]
    refine List.nodup_append.mpr ⟨asc_nd ((asc_range n).filter _), ch_nd L hn.2, fun a ha b hb e => ?_⟩
    subst e
    obtain ⟨j, hj, hb⟩ := List.mem_flatMap.mp hb
    have h1 := (mem_ch.mp ha).2
    rw [(mem_ch.mp hb).2] at h1
    exact hn.1 (Option.some.inj h1 ▸ hj)
theorem pa_map : ∀ L : List Nat, ((L.filter fun k => (pa k).isSome).map fun k => oD (pa k)) = nums (L.filterMap pa)
  | [] => rfl
  | k :: L => by
    have ih := pa_map L
    rw [List.filter_cons, List.filterMap_cons]
    cases h : pa k with
    | none =>
      rw [if_neg (by decide)]
      exact ih
    | some p =>
      rw [if_pos (show (some p).isSome = true from rfl), List.map_cons, ih, h]
      rfl
abbrev spFr (n : Nat) (pa : Nat → Option Nat) (P Q : List Nat) (x3 x4 x5 x6 x7 x8 x9 : B) : Fm := [.sh (faD n pa), .sh (tpN P), .sh (tpN Q), x3, x4, x5, x6, x7, x8, x9]
variable {x3 x4 x8 x9 : B}
theorem fsp_for (h40 : n ≤ 40) {x5 x6 x7 : B} : ∀ (ks acc : List Nat) (x8 : B), acc.length + (ks.flatMap (fcL n pa)).length ≤ 1000 →
    ∃ y8, forL (.one 8) b_spare_of_l1 (nums ks) (spFr n pa P Q x3 x4 x5 x6 x7 x8 (.sh (lsN acc))) = some (.nx, spFr n pa P Q x3 x4 x5 x6 x7 y8 (.sh (lsN (acc ++ ks.flatMap (fcL n pa)))))
  | [], acc, x8, _ => ⟨x8, by rw [List.flatMap_nil, List.append_nil]; rfl⟩
  | k :: ks, acc, x8, hz => by
    rw [List.flatMap_cons, List.length_append] at hz
    obtain ⟨y8, e2⟩ := fsp_for h40 ks (acc ++ fcL n pa k) (.sh (.int (k : Int))) (by rw [List.length_append]; omega)
    refine ⟨y8, ?_⟩
    rw [List.flatMap_cons, ← List.append_assoc]
    refine fl_go rfl ?_ e2
    unfold b_spare_of_l1
    exact asg_at ((op2_at (g := gAdd) (a := lsN acc) (b := lsN (fcL n pa k)) rfl (call2_at (a := faD n pa) (b := .int (k : Int)) rfl rfl (children_ok h40))).trans (gAdd_nums (by omega))) rfl
/-- a round of the program -/
theorem fsp_l2 (h40 : n ≤ 40) (F : Fst pa) {found ups downs : List Nat} (T : FSt n pa P Q found (· ∈ ups) (· ∈ downs)) (hu : ∀ k ∈ ups, k < n) (hun : ups.Nodup) (hd : ∀ k ∈ downs, k < n) (hdn : downs.Nodup) :
    ∃ more y8 y9, FRd n pa P Q found (· ∈ ups) (· ∈ downs) more ∧ b_spare_of_l2 (spFr n pa P Q x3 x4 (.sh (lsN found)) (.sh (lsN ups)) (.sh (lsN downs)) x8 x9) = some (.nx, spFr n pa P Q x3 x4 (.sh (lsN (found ++ more))) (.sh (lsN more)) (.sh (lsN more)) y8 y9) := by
  have lf := nd_lt T.nd fun x hx => (T.lt x hx).1
  have lu := nd_lt hun hu
  have ld := nd_lt hdn hd
  have lc2 := nd_lt (n := n) (ch_nd (n := n) (pa := pa) downs hdn) fun x hx => by
    obtain ⟨k, _, h⟩ := List.mem_flatMap.mp hx
    exact (mem_ch.mp h).1
  have l1 := List.length_filterMap_le pa ups
  obtain ⟨y8, e8⟩ := fsp_for (P := P) (Q := Q) (x3 := x3) (x4 := x4) (x5 := .sh (lsN found)) (x6 := .sh (lsN ups)) (x7 := .sh (lsN downs)) h40 (pa := pa) downs (ups.filterMap pa) x8 (by omega)
  let W : List Nat := ups.filterMap pa ++ downs.flatMap (fcL n pa)
  let M : List Nat := (List.range n).filter fun x => decide (x ∈ W)
  let more : List Nat := M.filter fun x => !decide (x ∈ P) && (!decide (x ∈ Q) && !decide (x ∈ found))
  have hW : ∀ x, x ∈ M ↔ x ∈ W := fun x => by
    rw [List.mem_filter, List.mem_range, decide_eq_true_eq]
    refine ⟨fun h => h.2, fun h => ⟨?_, h⟩⟩
    rcases List.mem_append.mp h with h | h
    · obtain ⟨k, hk, e⟩ := List.mem_filterMap.mp h
      have := F k x e
      have := hu k hk
      omega
    · obtain ⟨k, _, h⟩ := List.mem_flatMap.mp h
      exact (mem_ch.mp h).1
  have hMl : M.length ≤ n := by
    have := List.length_filter_le (fun x => decide (x ∈ W)) (List.range n)
    rw [List.length_range] at this
    exact this
  have hml : more.length ≤ n := Nat.le_trans (List.length_filter_le _ _) hMl
  have hm : ∀ x, x ∈ more ↔ x < n ∧ x ∉ P ∧ x ∉ Q ∧ x ∉ found ∧ ((∃ k, k ∈ ups ∧ k < n ∧ pa k = some x) ∨ ∃ k, k ∈ downs ∧ pa x = some k) := fun x => by
    rw [List.mem_filter, Bool.and_eq_true, Bool.and_eq_true, Bool.not_eq_true', Bool.not_eq_true', Bool.not_eq_true', decide_eq_false_iff_not, decide_eq_false_iff_not, decide_eq_false_iff_not, hW]
    constructor
    · rintro ⟨h1, h2, h3, h4⟩
      have hxn := List.mem_range.mp (List.mem_filter.mp ((hW x).mpr h1)).1
      refine ⟨hxn, h2, h3, h4, ?_⟩
      rcases List.mem_append.mp h1 with h | h
      · obtain ⟨k, hk, e⟩ := List.mem_filterMap.mp h
        exact .inl ⟨k, hk, hu k hk, e⟩
      · obtain ⟨k, hk, h⟩ := List.mem_flatMap.mp h
        exact .inr ⟨k, hk, (mem_ch.mp h).2⟩
    · rintro ⟨h0, h2, h3, h4, h5⟩
      refine ⟨?_, h2, h3, h4⟩
      rcases h5 with ⟨k, hk, _, e⟩ | ⟨k, hk, e⟩
      · exact List.mem_append_left _ (List.mem_filterMap.mpr ⟨k, hk, e⟩)
      · exact List.mem_append_right _ (List.mem_flatMap.mpr ⟨k, hk, mem_ch.mpr ⟨h0, e⟩⟩)
  refine ⟨more, y8, .sh (lsN more), ⟨asc_nd (((asc_range n).filter _).filter _), hm⟩, ?_⟩
  unfold b_spare_of_l2
  refine seq_go (asg_at (d := lsN (ups.filterMap pa)) ?_ (ρ' := spFr n pa P Q x3 x4 (.sh (lsN found)) (.sh (lsN ups)) (.sh (lsN downs)) x8 (.sh (lsN (ups.filterMap pa)))) rfl) ?_
  · have lc := fLc_map (α := Nat) (enc := fun k : Nat => .int (k : Int)) (ρ := spFr n pa P Q x3 x4 (.sh (lsN found)) (.sh (lsN ups)) (.sh (lsN downs)) x8 x9) (vs := [8]) (t := .one 8) (fi := iSeq (fVar 6)) (fc := fBl (fOp2 (gIsN true) (fOp2 gIx (fVar 0) (fVar 8)) (fC .none))) (fe := fOp2 gIx (fVar 0) (fVar 8)) (fun k => (pa k).isSome) (fun k => oD (pa k)) (xs := ups) rfl (by unfold bigN; omega) fun k hk => ⟨_, rfl, bl_at ((op2_at (g := gIsN true) (a := oD (pa k)) (b := .none) ((op2_at (g := gIx) (a := faD n pa) (b := .int (k : Int)) rfl rfl).trans (fa_ix (hu k hk))) rfl).trans (oD_isn _)), fun _ => (op2_at (g := gIx) (a := faD n pa) (b := .int (k : Int)) rfl rfl).trans (fa_ix (hu k hk))⟩
    rw [pa_map] at lc
    exact lc
  refine seq_go (for_go rfl e8) ?_
  have hWl : W.length ≤ 100 := by
    show (ups.filterMap pa ++ downs.flatMap (fcL n pa)).length ≤ 100
    rw [List.length_append]
    omega
  refine seq_go (asg_at (d := lsN more) ?_ (ρ' := spFr n pa P Q x3 x4 (.sh (lsN found)) (.sh (lsN ups)) (.sh (lsN downs)) y8 (.sh (lsN more))) rfl) ?_
  · refine lc_nums (L := M) (fun x => !decide (x ∈ P) && (!decide (x ∈ Q) && !decide (x ∈ found))) ?_ (by omega) (fun _ => rfl) (by show 8 < 10; omega) fun x _ => ?_
    · unfold iSeq
      rw [(op1_at (g := gSS2) (f := fVar 9) (a := lsN W) rfl).trans (gSS2_nums (by omega) ((asc_range n).filter _) (Nat.lt_of_le_of_lt hMl (by omega)) hW)]
      rfl
    · exact and_at (bl_at ((op2_at (g := gIn true) (a := .int (x : Int)) (b := tpN P) rfl rfl).trans gNi_numsT)) (and_at (bl_at ((op2_at (g := gIn true) (a := .int (x : Int)) (b := tpN Q) rfl rfl).trans gNi_numsT)) (bl_at ((op2_at (g := gIn true) (a := .int (x : Int)) (b := lsN found) rfl rfl).trans gNi_numsL)))
  · exact all3_at (ρ1 := spFr n pa P Q x3 x4 (.sh (lsN found)) (.sh (lsN ups)) (.sh (lsN downs)) y8 (.sh (lsN more))) (ρ2 := spFr n pa P Q x3 x4 (.sh (lsN found)) (.sh (lsN ups)) (.sh (lsN downs)) y8 (.sh (lsN more))) (ρ3 := spFr n pa P Q x3 x4 (.sh (lsN found)) (.sh (lsN ups)) (.sh (lsN downs)) y8 (.sh (lsN more))) (b1 := .sh (lsN (found ++ more))) (b2 := .sh (lsN more)) (b3 := .sh (lsN more)) (sh_at (up_at ((op2_at (g := gAdd) (a := lsN found) (b := lsN more) rfl rfl).trans (gAdd_nums (by omega))))) rfl rfl
theorem fsp_while (h40 : n ≤ 40) (F : Fst pa) : ∀ (fuel : Nat) (found ups downs : List Nat) (x8 x9 : B), FSt n pa P Q found (· ∈ ups) (· ∈ downs) → (∀ k ∈ ups, k < n) → ups.Nodup → (∀ k ∈ downs, k < n) → downs.Nodup → n < found.length + fuel ∨ (ups = [] ∧ downs = []) →
    ∃ found' y6 y7 y8 y9, (∀ x, x ∈ found' ↔ x ∈ foS n pa P Q) ∧ found'.Nodup ∧ whL (up (fBl (fOp2 gNe (fOp2 gAdd (fVar 6) (fVar 7)) (fLst (fNil))))) b_spare_of_l2 (fuel + 1) (spFr n pa P Q x3 x4 (.sh (lsN found)) (.sh (lsN ups)) (.sh (lsN downs)) x8 x9) = some (.nx, spFr n pa P Q x3 x4 (.sh (lsN found')) y6 y7 y8 y9) := by
  have ex : ∀ (fuel : Nat) (found : List Nat) (x8 x9 : B), FSt n pa P Q found (· ∈ ([] : List Nat)) (· ∈ ([] : List Nat)) → ∃ found' y6 y7 y8 y9, (∀ x, x ∈ found' ↔ x ∈ foS n pa P Q) ∧ found'.Nodup ∧ whL (up (fBl (fOp2 gNe (fOp2 gAdd (fVar 6) (fVar 7)) (fLst (fNil))))) b_spare_of_l2 (fuel + 1) (spFr n pa P Q x3 x4 (.sh (lsN found)) (.sh (lsN [])) (.sh (lsN [])) x8 x9) = some (.nx, spFr n pa P Q x3 x4 (.sh (lsN found')) y6 y7 y8 y9) := fun fuel found x8 x9 T =>
    ⟨found, .sh (lsN []), .sh (lsN []), x8, x9, T.fin (fun _ h => (by cases h)) (fun _ h => (by cases h)), T.nd, rfl⟩
  intro fuel
  induction fuel with
  | zero =>
    intro found ups downs x8 x9 T hu hun hd hdn hf
    have lf := nd_lt T.nd fun x hx => (T.lt x hx).1
    obtain ⟨rfl, rfl⟩ := hf.resolve_left (by omega)
    exact ex 0 found x8 x9 T
  | succ fuel ih =>
    intro found ups downs x8 x9 T hu hun hd hdn hf
    have lf := nd_lt T.nd fun x hx => (T.lt x hx).1
    have lu := nd_lt hun hu
    have ld := nd_lt hdn hd
    have c : up (fBl (fOp2 gNe (fOp2 gAdd (fVar 6) (fVar 7)) (fLst (fNil)))) (spFr n pa P Q x3 x4 (.sh (lsN found)) (.sh (lsN ups)) (.sh (lsN downs)) x8 x9) = some (!(ups ++ downs).isEmpty, spFr n pa P Q x3 x4 (.sh (lsN found)) (.sh (lsN ups)) (.sh (lsN downs)) x8 x9) := up_at (bl_at ((op2_at (g := gNe) (a := lsN (ups ++ downs)) (b := .list []) ((op2_at (g := gAdd) (a := lsN ups) (b := lsN downs) rfl rfl).trans (gAdd_nums (by omega))) rfl).trans (gNe_nilL _)))
    by_cases he : ups ++ downs = []
    · obtain ⟨rfl, rfl⟩ := List.append_eq_nil_iff.mp he
      exact ex (fuel + 1) found x8 x9 T
    · have hne : (!(ups ++ downs).isEmpty) = true := by
        cases e : ups ++ downs with
        | nil => exact absurd e he
        | cons _ _ => rfl
      have hf : n < found.length + (fuel + 1) := hf.resolve_right fun z => he (by rw [z.1, z.2]; rfl)
      obtain ⟨more, y8, y9, R, e⟩ := fsp_l2 (x3 := x3) (x4 := x4) (x8 := x8) (x9 := x9) h40 F T hu hun hd hdn
      have T2 := T.next F R
      have hml : ∀ k ∈ more, k < n := fun k hk => ((R.mem k).mp hk).1
      obtain ⟨found', z6, z7, z8, z9, h1, h2, e2⟩ := ih (found ++ more) more more y8 y9 T2 hml R.nd hml R.nd (by
        cases more with
        | nil => exact .inr ⟨rfl, rfl⟩
        | cons a l => exact .inl (by rw [List.length_append, List.length_cons]; omega))
      refine ⟨found', z6, z7, z8, z9, h1, h2, ?_⟩
      rw [whL, c, hne, Option.bind_some]
      simp only [if_true, e, Option.bind_some]
      exact e2
end
end LF
end
section
set_option Elab.async false
set_option linter.all false
set_option maxRecDepth 100000
/-! Forests: what must burn for a time, shortest words; the law's search. -/
namespace LF
open PySem DL
open L2 (atI ixN)
section
variable {n : Nat} {P Q S : List Nat} {pa : Nat → Option Nat}
theorem fsides_ok (hP : Stn n P) (hQ : Stn n Q) (h40 : n ≤ 40) : f_sides [tpN P, tpN Q] = some (.tuple [lsN (Q.filter fun x => !decide (x ∈ P)), lsN (P.filter fun x => !decide (x ∈ Q))]) := by
  have lp := hP.len
  have lq := hQ.len
  unfold f_sides b_sides
  refine runP_rt (ρ' := [.sh (tpN P), .sh (tpN Q), .no]) (rt_at (tup2_at ?_ ?_))
  · exact lc_nums _ (L := Q) rfl (by omega) (fun _ => rfl) (by show 2 < 3; omega) fun x hx => bl_at ((op2_at (a := .int x) (b := tpN P) rfl rfl).trans gNi_numsT)
  · exact lc_nums _ (L := P) rfl (by omega) (fun _ => rfl) (by show 2 < 3; omega) fun x hx => bl_at ((op2_at (a := .int x) (b := tpN Q) rfl rfl).trans gNi_numsT)
theorem fspare_of_ok (F : Fst pa) (h40 : n ≤ 40) (hP : Stn n P) (hQ : Stn n Q) : f_spare_of [faD n pa, tpN P, tpN Q] = some (lsN (foS n pa P Q)) := by
  have m1 : ∀ x, x ∈ Q.filter (fun x => !decide (x ∈ P)) ↔ x ∈ Q ∧ x ∉ P := fun x => by
    rw [List.mem_filter, Bool.not_eq_true', decide_eq_false_iff_not]
  have m2 : ∀ x, x ∈ P.filter (fun x => !decide (x ∈ Q)) ↔ x ∈ P ∧ x ∉ Q := fun x => by
    rw [List.mem_filter, Bool.not_eq_true', decide_eq_false_iff_not]
  have T : FSt n pa P Q [] (· ∈ Q.filter fun x => !decide (x ∈ P)) (· ∈ P.filter fun x => !decide (x ∈ Q)) := FSt.first.ren (fun k => (m1 k).symm) fun k => (m2 k).symm
  obtain ⟨found, y6, y7, y8, y9, h1, h2, e⟩ := fsp_while (x3 := .sh (lsN (Q.filter fun x => !decide (x ∈ P)))) (x4 := .sh (lsN (P.filter fun x => !decide (x ∈ Q)))) h40 F 99999 [] _ _ .no .no T (fun k hk => hQ.lt k ((m1 k).mp hk).1) (asc_nd (hQ.asc.filter _)) (fun k hk => hP.lt k ((m2 k).mp hk).1) (asc_nd (hP.asc.filter _)) (.inl (by show n < 0 + 99999; omega))
  have hl := nd_lt (n := n) h2 fun x hx => spF_lt ((h1 x).mp hx)
  unfold f_spare_of b_spare_of
  refine runP_rt (ρ' := spFr n pa P Q (.sh (lsN (Q.filter fun x => !decide (x ∈ P)))) (.sh (lsN (P.filter fun x => !decide (x ∈ Q)))) (.sh (lsN found)) y6 y7 y8 y9) ?_
  refine seq_go (unp2_at (call2_at (a := tpN P) (b := tpN Q) rfl rfl (fsides_ok hP hQ h40))) ?_
  refine seq_go (ρ1 := spFr n pa P Q (.sh (lsN (Q.filter fun x => !decide (x ∈ P)))) (.sh (lsN (P.filter fun x => !decide (x ∈ Q)))) (.sh (lsN [])) (.sh (lsN (Q.filter fun x => !decide (x ∈ P)))) (.sh (lsN (P.filter fun x => !decide (x ∈ Q)))) .no .no) rfl ?_
  refine seq_go e (rt_at ((op1_at (g := gSorted) (a := lsN found) rfl).trans ?_))
  exact gSorted_nums h2 (by omega) spF_asc fun x => (h1 x).symm
theorem forest_spare_ok (F : Fst pa) (h1 : 1 ≤ n) (h40 : n ≤ 40) (hP : Stn n P) (hQ : Stn n Q) : f_forest_spare [faD n pa, tpN P, tpN Q] = some (tpN (foS n pa P Q)) := by
  unfold f_forest_spare b_forest_spare
  exact runP_rt (ρ' := [.sh (faD n pa), .sh (tpN P), .sh (tpN Q)]) (seq_go (dropv_at (d := .none) (call3_at (a := faD n pa) (b := tpN P) (c := tpN Q) rfl rfl rfl (fneed_two_ok F h1 h40 hP hQ))) (rt_at ((op1_at (g := gTuple) (a := lsN (foS n pa P Q)) (call3_at (a := faD n pa) (b := tpN P) (c := tpN Q) rfl rfl rfl (fspare_of_ok F h40 hP hQ))).trans rfl)))
/-- lit, put out on a shortest word -/
def flB (n : Nat) (pa : Nat → Option Nat) (P Q : List Nat) (k : Nat) : Bool := (decide (k ∈ Q) && !decide (k ∈ P)) || decide (k ∈ foS n pa P Q)
def fxB (n : Nat) (pa : Nat → Option Nat) (P Q : List Nat) (k : Nat) : Bool := (decide (k ∈ P) && !decide (k ∈ Q)) || decide (k ∈ foS n pa P Q)
def flN (n : Nat) (pa : Nat → Option Nat) (P Q : List Nat) : List Nat := (List.range n).filter (flB n pa P Q)
def fxN (n : Nat) (pa : Nat → Option Nat) (P Q : List Nat) : List Nat := (List.range n).filter (fxB n pa P Q)
def fwW (n : Nat) (pa : Nat → Option Nat) (P Q : List Nat) : List Nat := flN n pa P Q ++ fxN n pa P Q
theorem fwW_len : (fwW n pa P Q).length ≤ 2 * n := by
  have l4 := List.length_filter_le (flB n pa P Q) (List.range n)
  have l5 := List.length_filter_le (fxB n pa P Q) (List.range n)
  rw [List.length_range] at l4 l5
  unfold fwW flN fxN
  rw [List.length_append]
  omega
theorem fwW_lt : ∀ k ∈ fwW n pa P Q, k < n := fun k hk => by
  rcases List.mem_append.mp hk with h | h
  · exact List.mem_range.mp (List.mem_filter.mp h).1
  · exact List.mem_range.mp (List.mem_filter.mp h).1
theorem fword_of_ok (F : Fst pa) (h40 : n ≤ 40) (hP : Stn n P) (hQ : Stn n Q) : f_word_of [faD n pa, tpN P, tpN Q] = some (lsN (fwW n pa P Q)) := by
  have lp := hP.len
  have lq := hQ.len
  have l1 := List.length_filter_le (fun x => !decide (x ∈ P)) Q
  have l2 := List.length_filter_le (fun x => !decide (x ∈ Q)) P
  have l3 : (foS n pa P Q).length ≤ n := spF_len
  have l6 := fwW_len (n := n) (pa := pa) (P := P) (Q := Q)
  have nd1 : (Q.filter (fun x => !decide (x ∈ P)) ++ foS n pa P Q).Nodup := List.nodup_append.mpr ⟨asc_nd (hQ.asc.filter _), asc_nd spF_asc, fun a ha b hb e => (spF_dark hb).2 (e ▸ (List.mem_filter.mp ha).1)⟩
  have nd2 : (P.filter (fun x => !decide (x ∈ Q)) ++ foS n pa P Q).Nodup := List.nodup_append.mpr ⟨asc_nd (hP.asc.filter _), asc_nd spF_asc, fun a ha b hb e => (spF_dark hb).1 (e ▸ (List.mem_filter.mp ha).1)⟩
  unfold f_word_of b_word_of
  refine runP_rt (ρ' := [.sh (faD n pa), .sh (tpN P), .sh (tpN Q), .sh (lsN (Q.filter fun x => !decide (x ∈ P))), .sh (lsN (P.filter fun x => !decide (x ∈ Q))), .sh (lsN (foS n pa P Q))]) ?_
  refine seq_go (unp2_at (call2_at (a := tpN P) (b := tpN Q) rfl rfl (fsides_ok hP hQ h40))) ?_
  refine seq_go (asg_at (call3_at (a := faD n pa) (b := tpN P) (c := tpN Q) rfl rfl rfl (fspare_of_ok F h40 hP hQ)) rfl) (rt_at ?_)
  refine (op2_at (g := gAdd) (a := lsN (flN n pa P Q)) (b := lsN (fxN n pa P Q)) ((op1_at (g := gSorted) ((op2_at (g := gAdd) (a := lsN (Q.filter fun x => !decide (x ∈ P))) (b := lsN (foS n pa P Q)) rfl rfl).trans (gAdd_nums (by omega)))).trans (gSorted_nums nd1 (by rw [List.length_append]; omega) ((asc_range n).filter _) fun x => ?_)) ((op1_at (g := gSorted) ((op2_at (g := gAdd) (a := lsN (P.filter fun x => !decide (x ∈ Q))) (b := lsN (foS n pa P Q)) rfl rfl).trans (gAdd_nums (by omega)))).trans (gSorted_nums nd2 (by rw [List.length_append]; omega) ((asc_range n).filter _) fun x => ?_))).trans (gAdd_nums (by unfold fwW at l6; rw [List.length_append] at l6; omega))
  · show x ∈ flN n pa P Q ↔ _
    unfold flN flB
    rw [List.mem_append, List.mem_filter, List.mem_filter, List.mem_range, Bool.or_eq_true, Bool.and_eq_true, decide_eq_true_eq, decide_eq_true_eq]
    exact ⟨fun h => h.2, fun h => ⟨h.elim (fun z => hQ.lt x z.1) spF_lt, h⟩⟩
  · show x ∈ fxN n pa P Q ↔ _
    unfold fxN fxB
    rw [List.mem_append, List.mem_filter, List.mem_filter, List.mem_range, Bool.or_eq_true, Bool.and_eq_true, decide_eq_true_eq, decide_eq_true_eq]
    exact ⟨fun h => h.2, fun h => ⟨h.elim (fun z => hP.lt x z.1) spF_lt, h⟩⟩
theorem forest_fewest_ok (F : Fst pa) (h1 : 1 ≤ n) (h40 : n ≤ 40) (hP : Stn n P) (hQ : Stn n Q) : f_forest_fewest [faD n pa, tpN P, tpN Q] = some (.int ((fwW n pa P Q).length : Nat)) := by
  unfold f_forest_fewest b_forest_fewest
  exact runP_rt (ρ' := [.sh (faD n pa), .sh (tpN P), .sh (tpN Q)]) (seq_go (dropv_at (d := .none) (call3_at (a := faD n pa) (b := tpN P) (c := tpN Q) rfl rfl rfl (fneed_two_ok F h1 h40 hP hQ))) (rt_at ((op1_at (g := gLen) (a := lsN (fwW n pa P Q)) (call3_at (a := faD n pa) (b := tpN P) (c := tpN Q) rfl rfl rfl (fword_of_ok F h40 hP hQ))).trans (by rw [gLenL, nums_len]))))
theorem forest_word_ok (F : Fst pa) (h1 : 1 ≤ n) (h40 : n ≤ 40) (hP : Stn n P) (hQ : Stn n Q) : f_forest_word [faD n pa, tpN P, tpN Q] = some (tpN (fwW n pa P Q)) := by
  unfold f_forest_word b_forest_word
  exact runP_rt (ρ' := [.sh (faD n pa), .sh (tpN P), .sh (tpN Q)]) (seq_go (dropv_at (d := .none) (call3_at (a := faD n pa) (b := tpN P) (c := tpN Q) rfl rfl rfl (fneed_two_ok F h1 h40 hP hQ))) (rt_at ((op1_at (g := gTuple) (a := lsN (fwW n pa P Q)) (call3_at (a := faD n pa) (b := tpN P) (c := tpN Q) rfl rfl rfl (fword_of_ok F h40 hP hQ))).trans rfl)))
/-! ### the law's search -/
variable {x4 x5 x9 x10 x11 : B}
end
end LF
end
section
set_option Elab.async false
set_option linter.all false
set_option maxRecDepth 100000
/-! Forests: the law's search; where a word leads. -/
namespace LF
open PySem DL
open L2 (atI ixN)
section
variable {n : Nat} {P Q S : List Nat} {pa : Nat → Option Nat} {x4 x5 x9 x10 x11 : B}
/-! ### where a word leads -/
/-- may a lamp be changed -/
def fokB (n : Nat) (pa : Nat → Option Nat) (S : List Nat) (k : Nat) : Bool := if k ∈ S then ((fcL n pa k).filter fun j => !decide (j ∈ S)).isEmpty else match pa k with
  | none => true
  | some p => decide (p ∈ S)
def frun (n : Nat) (pa : Nat → Option Nat) : List Nat → List Nat → Option (List Nat)
  | [], S => some S
  | k :: ks, S => if fokB n pa S k = true then frun n pa ks (tgN n S k) else none
variable {v : D}
end
end LF
end
section
set_option Elab.async false
set_option linter.all false
set_option maxRecDepth 100000
/-! Forests: the program's leads_to; the shortest word leads. -/
namespace LF
open PySem DL
open L2 (atI ixN)
section
variable {n : Nat} {P Q S : List Nat} {pa : Nat → Option Nat} {v : D}
abbrev ppFr (n : Nat) (pa : Nat → Option Nat) (P : List Nat) (v : D) (S : List Nat) (x4 x5 : B) : Fm := [.sh (faD n pa), .sh (tpN P), .sh v, .ow (buD n S), x4, x5, .no]
theorem fa_cut {k : Nat} (hk : k < n) : gSl (faD n pa) (some (k : Int)) (some ((k : Int) + 1)) = some (.tuple [oD (pa k)]) := by
  show some (PyData.tuple (cutD ((List.range n).map fun k => oD (pa k)) (some (k : Int)) (some ((k : Int) + 1)))) = _
  unfold cutD
  rw [show ((k : Int) + 1) = ((k + 1 : Nat) : Int) by omega, HT.sIx_nat, HT.sIx_nat, List.length_map, List.length_range, Nat.min_eq_left (by omega), Nat.min_eq_left (by omega), show k + 1 - k = 1 by omega, List.drop_eq_getElem_cons (by rw [List.length_map, List.length_range]; exact hk), List.getElem_map, List.getElem_range]
  rfl
/-- what bars a deed -/
def brL (n : Nat) (pa : Nat → Option Nat) (S : List Nat) (k : Nat) : List Nat := if k ∈ S then (fcL n pa k).filter fun j => !decide (j ∈ S) else (pa k).toList.filter fun p => !decide (p ∈ S)
theorem br_ok {k : Nat} : (brL n pa S k).isEmpty = fokB n pa S k := by
  unfold brL fokB
  by_cases h : k ∈ S
  · rw [if_pos h, if_pos h]
  · rw [if_neg h, if_neg h]
    cases pa k with
    | none => rfl
    | some p =>
      show ([p].filter fun p => !decide (p ∈ S)).isEmpty = decide (p ∈ S)
      by_cases hp : p ∈ S <;> simp [hp]
theorem pp_l1 (F : Fst pa) (h1 : 1 ≤ n) (h40 : n ≤ 40) (hS : Stn n S) {k : Nat} (hk : k < n) {x5 : B} :
    (fokB n pa S k = false ∧ ∃ ρ', b_leads_to_l1 (ppFr n pa P v S (.sh (.int (k : Int))) x5) = some (.rt .none, ρ')) ∨
    (fokB n pa S k = true ∧ b_leads_to_l1 (ppFr n pa P v S (.sh (.int (k : Int))) x5) = some (.nx, ppFr n pa P v (tgN n S k) (.sh (.int (k : Int))) (.sh (lsN (brL n pa S k))))) := by
  have i1 : up (fNot (fBl (fCall LF.f_is_in (fCons (fVar 4) (fCons (fC (.int 0)) (fCons (fOp2 gSub (fOp1 gLen (fVar 0)) (fC (.int 1))) (fNil))))))) (ppFr n pa P v S (.sh (.int (k : Int))) x5) = some (false, ppFr n pa P v S (.sh (.int (k : Int))) x5) := not_at (b := true) (call3_at (a := .int (k : Int)) (b := .int 0) (c := .int ((n : Int) - 1)) rfl rfl ((op2_at (g := gSub) (a := .int (n : Int)) (b := .int 1) ((op1_at (g := gLen) (a := faD n pa) rfl).trans fa_len) rfl).trans (gSub_i _ _)) (is_in_yes (by omega) (by omega)))
  have cb : up (fBl (fOp2 gIx (fOwn 3) (fVar 4))) (ppFr n pa P v S (.sh (.int (k : Int))) x5) = some (decide (k ∈ S), ppFr n pa P v S (.sh (.int (k : Int))) x5) := up_at (bl_at (buN_at (S := S) hk rfl rfl))
  have lc0 := List.length_filter_le (fun j => decide (pa j = some k)) (List.range n)
  rw [List.length_range] at lc0
  have s2 : sIf (up (fBl (fOp2 gIx (fOwn 3) (fVar 4)))) (sAsg 5 (mSh (up (fLc [6] (.one 6) (iSeq (fCall LF.f_children (fCons (fVar 0) (fCons (fVar 4) (fNil))))) (fNot (fBl (fOp2 gIx (fOwn 3) (fVar 6)))) (fVar 6))))) (sAsg 5 (mSh (up (fLc [6] (.one 6) (iSeq (fSl (fVar 0) (fPart (fVar 4)) (fPart (fOp2 gAdd (fVar 4) (fC (.int 1)))))) (fAnd (fBl (fOp2 (gIsN true) (fVar 6) (fC .none))) (fNot (fBl (fOp2 gIx (fOwn 3) (fVar 6))))) (fVar 6))))) (ppFr n pa P v S (.sh (.int (k : Int))) x5) = some (.nx, ppFr n pa P v S (.sh (.int (k : Int))) (.sh (lsN (brL n pa S k)))) := by
    by_cases h : k ∈ S
    · refine if_go cb ((if_pos (decide_eq_true h)).trans (asg_at (d := lsN (brL n pa S k)) ?_ rfl))
      unfold brL
      rw [if_pos h]
      exact lc_nums (L := fcL n pa k) _ (by
        unfold iSeq
        rw [call2_at (a := faD n pa) (b := .int (k : Int)) rfl rfl (children_ok h40)]
        rfl) (by unfold fcL; omega) (fun _ => rfl) (by show 6 < 7; omega) fun j hj => fnot_at (bl_at (buN_at (S := S) (mem_ch.mp hj).1 rfl rfl))
    · refine if_go cb ((if_neg (by rw [decide_eq_true_eq]; exact h)).trans (asg_at (d := lsN (brL n pa S k)) ?_ rfl))
      unfold brL
      rw [if_neg h]
      have hi : iSeq (fSl (fVar 0) (fPart (fVar 4)) (fPart (fOp2 gAdd (fVar 4) (fC (.int 1))))) (ppFr n pa P v S (.sh (.int (k : Int))) x5) = some ([pa k].map oD) := by
        unfold iSeq fSl fPart
        rw [show fVar 0 (ppFr n pa P v S (.sh (.int (k : Int))) x5) = some (faD n pa) from rfl, Option.bind_some, show fVar 4 (ppFr n pa P v S (.sh (.int (k : Int))) x5) = some (.int (k : Int)) from rfl, (op2_at (g := gAdd) (f1 := fVar 4) (f2 := fC (.int 1)) (a := .int (k : Int)) (b := .int 1) rfl rfl).trans (gAdd_i _ _)]
        simp only [Option.bind_some]
        rw [fa_cut hk]
        rfl
      have lc := fLc_map (α := Option Nat) (enc := oD) (ρ := ppFr n pa P v S (.sh (.int (k : Int))) x5) (vs := [6]) (t := .one 6) (fi := iSeq (fSl (fVar 0) (fPart (fVar 4)) (fPart (fOp2 gAdd (fVar 4) (fC (.int 1)))))) (fc := fAnd (fBl (fOp2 (gIsN true) (fVar 6) (fC .none))) (fNot (fBl (fOp2 gIx (fOwn 3) (fVar 6))))) (fe := fVar 6) (fun o => match o with
        | none => false
        | some p => !decide (p ∈ S)) oD (xs := [pa k]) hi (by unfold bigN; show 1 ≤ _; omega) fun o ho => ⟨_, rfl, by
          have ho := List.mem_singleton.mp ho
          cases o with
          | none => exact and_f0 (bl_at ((op2_at (g := gIsN true) (a := .none) (b := .none) rfl rfl).trans (oD_isn none)))
          | some p =>
            have := F k p ho.symm
            exact (and_at (a := true) (bl_at ((op2_at (g := gIsN true) (a := .int (p : Int)) (b := .none) rfl rfl).trans (oD_isn (some p)))) (fnot_at (bl_at (buN_at (S := S) (k := p) (by omega) rfl rfl)))).trans (by rw [Bool.true_and]), fun _ => rfl⟩
      refine lc.trans ?_
      cases pa k with
      | none => rfl
      | some p =>
        show some (PyData.list (([some p].filter _).map oD)) = some (lsN ([p].filter _))
        by_cases hp : p ∈ S <;> simp [hp] <;> rfl
  have cnd : up (fBl (fOp2 gNe (fVar 5) (fLst (fNil)))) (ppFr n pa P v S (.sh (.int (k : Int))) (.sh (lsN (brL n pa S k)))) = some (!fokB n pa S k, ppFr n pa P v S (.sh (.int (k : Int))) (.sh (lsN (brL n pa S k)))) := by
    rw [← br_ok]
    exact up_at (bl_at ((op2_at (g := gNe) (a := lsN (brL n pa S k)) (b := .list []) rfl rfl).trans (gNe_nilL _)))
  unfold b_leads_to_l1
  cases hr : fokB n pa S k with
  | false =>
    rw [hr] at cnd
    exact .inl ⟨rfl, _, seq_go (if_no i1) (seq_go s2 (seq_rt (if_go cnd rfl)))⟩
  | true =>
    rw [hr] at cnd
    refine .inr ⟨rfl, ?_⟩
    refine seq_go (if_no i1) (seq_go s2 (seq_go (if_no cnd) ?_))
    have hv : fNotV (fOp2 gIx (fOwn 3) (fVar 4)) (ppFr n pa P v S (.sh (.int (k : Int))) (.sh (lsN (brL n pa S k)))) = some (.bool (!decide (k ∈ S))) := by
      unfold fNotV
      rw [bl_at (buN_at (S := S) hk (f := fOwn 3) (g := fVar 4) rfl rfl)]
      rfl
    unfold sPut
    rw [up_at hv]
    show (ixN (buD n S).length (k : Int)).map _ = _
    have hx : ixN (buD n S).length (k : Int) = some k := by
      unfold ixN buD
      rw [List.length_map, List.length_range, if_pos (by omega), if_pos (by omega)]
      rfl
    rw [hx]
    exact congrArg (fun z => some (Fl.nx, ([.sh (faD n pa), .sh (tpN P), .sh v, .ow z, .sh (.int (k : Int)), .sh (lsN (brL n pa S k)), .no] : Fm))) (bu_set hS hk)
theorem pp_for (F : Fst pa) (h1 : 1 ≤ n) (h40 : n ≤ 40) : ∀ (ks S : List Nat) (x4 x5 : B), Stn n S → (∀ k ∈ ks, k < n) →
    (frun n pa ks S = none ∧ ∃ ρ', forL (.one 4) b_leads_to_l1 (nums ks) (ppFr n pa P v S x4 x5) = some (.rt .none, ρ')) ∨
    (∃ T y4 y5, frun n pa ks S = some T ∧ Stn n T ∧ forL (.one 4) b_leads_to_l1 (nums ks) (ppFr n pa P v S x4 x5) = some (.nx, ppFr n pa P v T y4 y5))
  | [], S, x4, x5, hS, _ => .inr ⟨S, x4, x5, rfl, hS, rfl⟩
  | k :: ks, S, x4, x5, hS, hk => by
    have go : ∀ r, forL (.one 4) b_leads_to_l1 (nums (k :: ks)) (ppFr n pa P v S x4 x5) = r ↔ ((b_leads_to_l1 (ppFr n pa P v S (.sh (.int (k : Int))) x5)).bind fun x => match x.1 with
      | .nx => forL (.one 4) b_leads_to_l1 (nums ks) x.2
      | .bk => some (.nx, x.2)
      | .rt r => some (.rt r, x.2)) = r := fun r => Iff.rfl
    rcases pp_l1 (P := P) (v := v) (x5 := x5) F h1 h40 hS (hk k (.head _)) with ⟨h2, ρ', e⟩ | ⟨h2, e⟩
    · refine .inl ⟨?_, ρ', (go _).mpr ?_⟩
      · unfold frun
        rw [h2]
        rfl
      · rw [e]
        rfl
    · have er : frun n pa (k :: ks) S = frun n pa ks (tgN n S k) := by
        conv => lhs; unfold frun
        rw [h2]
        rfl
      rcases pp_for F h1 h40 ks (tgN n S k) (.sh (.int (k : Int))) (.sh (lsN (brL n pa S k))) tgN_stn (fun j hj => hk j (.tail _ hj)) with ⟨q1, ρ', q2⟩ | ⟨T, z4, z5, q1, q2, q3⟩
      · exact .inl ⟨by rw [er]; exact q1, ρ', (go _).mpr (by rw [e]; exact q2)⟩
      · exact .inr ⟨T, z4, z5, by rw [er]; exact q1, q2, (go _).mpr (by rw [e]; exact q3)⟩
theorem fa_rng {f : Fm → Option D} {ρ : Fm} (h40 : n ≤ 40) (h : f ρ = some (faD n pa)) : iRg1 (fOp1 gLen f) ρ = some (nums (List.range n)) := by
  unfold iRg1
  rw [(op1_at (g := gLen) h).trans fa_len]
  simp only
  rw [if_pos (smR_of (by omega) (by omega)), Int.toNat_natCast, rng_nums]
theorem pp_start (h40 : n ≤ 40) : sAsg 3 (mLc [6] (.one 6) (iRg1 (fOp1 gLen (fVar 0))) fYes (fOp2 (gIn false) (fVar 6) (fVar 1))) (startB 7 [faD n pa, tpN P, v]) = some (.nx, ppFr n pa P v P .no .no) := by
  have hl : lcP (.one 6) fYes (fOp2 (gIn false) (fVar 6) (fVar 1)) (wipeB (startB 7 [faD n pa, tpN P, v]) [6]) (nums (List.range n)) = some (buD n P) :=
    lcP_all (α := Nat) (enc := fun k : Nat => .int (k : Int)) (fun k => .bool (decide (k ∈ P))) fun k _ => ⟨_, rfl, (op2_at (g := gIn false) (a := .int (k : Int)) (b := tpN P) rfl rfl).trans gIn_numsT⟩
  refine asgx_at (b := .ow (buD n P)) (ρ1 := startB 7 [faD n pa, tpN P, v]) ?_
  unfold mLc
  rw [fa_rng (n := n) (pa := pa) (f := fVar 0) h40 rfl, Option.bind_some, if_pos (by rw [nums_len, List.length_range]; unfold bigN; omega), hl]
  rfl
theorem forest_leads_ok (F : Fst pa) (h1 : 1 ≤ n) (h40 : n ≤ 40) (hP : Stn n P) {ks : List Nat} (hk : ∀ k ∈ ks, k < n) : f_leads_to [faD n pa, tpN P, tpN ks] = some (leadD (frun n pa ks P)) := by
  unfold f_leads_to b_leads_to
  rcases pp_for (P := P) (v := tpN ks) F h1 h40 ks P .no .no hP hk with ⟨h2, ρ', e⟩ | ⟨T, y4, y5, h2, h3, e⟩
  · rw [h2]
    exact runP_rt (ρ' := ρ') (seq_go (pp_start h40) (seq_rt (for_go rfl e)))
  · rw [h2]
    refine runP_rt (ρ' := ppFr n pa P (tpN ks) T y4 y5) (seq_go (pp_start h40) (seq_go (for_go rfl e) (rt_at ((op1_at (g := gTuple) (a := lsN T) ?_).trans rfl))))
    have lc := lc_nums (vs := [6]) (v := 6) (fi := iRg1 (fOp1 gLen (fVar 0))) (fc := fBl (fOp2 gIx (fOwn 3) (fVar 6))) (ρ := ppFr n pa P (tpN ks) T y4 y5) (L := List.range n) (fun j => decide (j ∈ T)) (fa_rng (n := n) (pa := pa) (f := fVar 0) h40 rfl) (by rw [List.length_range]; omega) (fun _ => rfl) (by show 6 < 7; omega) fun j hj => bl_at (buN_at (S := T) (List.mem_range.mp hj) rfl rfl)
    rw [stn_fil h3] at lc
    exact lc
/-! ### the shortest word leads -/
theorem flit_before (F : Fst pa) {k p : Nat} (hk : k < n) (e : pa k = some p) (h : flB n pa P Q k = true) : p ∈ P ∨ flB n pa P Q p = true := by
  have hp := F k p e
  by_cases h1 : p ∈ P
  · exact .inl h1
  · refine .inr ?_
    unfold flB
    by_cases h2 : p ∈ Q
    · simp [h1, h2]
    · unfold flB at h
      rw [Bool.or_eq_true, Bool.and_eq_true, decide_eq_true_eq, decide_eq_true_eq, Bool.not_eq_true', decide_eq_false_iff_not] at h
      rw [decide_eq_true (fs_up F hk e h1 h2 h), Bool.or_true]
theorem fout_behind {k j : Nat} (hj : j < n) (e : pa j = some k) (h : fxB n pa P Q k = true) : j ∈ P ∨ flB n pa P Q j = true := by
  by_cases h1 : j ∈ P
  · exact .inl h1
  · refine .inr ?_
    unfold flB
    by_cases h2 : j ∈ Q
    · simp [h1, h2]
    · unfold fxB at h
      rw [Bool.or_eq_true, Bool.and_eq_true, decide_eq_true_eq, decide_eq_true_eq, Bool.not_eq_true', decide_eq_false_iff_not] at h
      rw [decide_eq_true (fs_dn hj e h1 h2 h), Bool.or_true]
def ftN (n : Nat) (pa : Nat → Option Nat) (P Q : List Nat) (j : Nat) : List Nat := (List.range n).filter fun k => decide (k ∈ P) || (decide (k < j) && flB n pa P Q k)
def fuN (n : Nat) (pa : Nat → Option Nat) (P Q : List Nat) (j : Nat) : List Nat := (List.range n).filter fun k => (decide (k ∈ P) || flB n pa P Q k) && !(decide (k < j) && fxB n pa P Q k)
theorem mem_ft {j x : Nat} : x ∈ ftN n pa P Q j ↔ x < n ∧ (x ∈ P ∨ (x < j ∧ flB n pa P Q x = true)) := by
  unfold ftN
  rw [List.mem_filter, List.mem_range, Bool.or_eq_true, Bool.and_eq_true, decide_eq_true_eq, decide_eq_true_eq]
theorem mem_fu {j x : Nat} : x ∈ fuN n pa P Q j ↔ x < n ∧ (x ∈ P ∨ flB n pa P Q x = true) ∧ ¬ (x < j ∧ fxB n pa P Q x = true) := by
  unfold fuN
  rw [List.mem_filter, List.mem_range, Bool.and_eq_true, Bool.or_eq_true, decide_eq_true_eq, Bool.not_eq_true', Bool.eq_false_iff, ne_eq, Bool.and_eq_true, decide_eq_true_eq]
theorem flit_no {k : Nat} (h : flB n pa P Q k = true) : k ∉ P := by
  unfold flB at h
  rw [Bool.or_eq_true, Bool.and_eq_true, decide_eq_true_eq, decide_eq_true_eq, Bool.not_eq_true', decide_eq_false_iff_not] at h
  rcases h with h | h
  · exact h.2
  · exact (spF_dark h).1
theorem fout_in {k : Nat} (h : fxB n pa P Q k = true) : k ∈ P ∨ flB n pa P Q k = true := by
  unfold fxB at h
  rw [Bool.or_eq_true, Bool.and_eq_true, decide_eq_true_eq, decide_eq_true_eq] at h
  rcases h with h | h
  · exact .inl h.1
  · refine .inr ?_
    unfold flB
    rw [decide_eq_true h, Bool.or_true]
theorem frun_lit (F : Fst pa) {R : List Nat} : ∀ (m j : Nat), j + m = n → frun n pa (((List.range m).map (j + ·)).filter (flB n pa P Q) ++ R) (ftN n pa P Q j) = frun n pa R (ftN n pa P Q n)
  | 0, j, h => by
    have : j = n := by omega
    subst this
    rfl
  | m + 1, j, h => by
    have eL : (List.range (m + 1)).map (j + ·) = j :: (List.range m).map (j + 1 + ·) := by
      rw [List.range_succ_eq_map, List.map_cons, List.map_map]
      congr 1
      exact List.map_congr_left fun x _ => by show j + (x + 1) = j + 1 + x; omega
    rw [eL, List.filter_cons]
    by_cases hl : flB n pa P Q j = true
    · rw [if_pos hl]
      have hno := flit_no hl
      have hjm : j ∉ ftN n pa P Q j := fun z => by
        rcases (mem_ft.mp z).2 with y | y
        · exact hno y
        · omega
      have hok : fokB n pa (ftN n pa P Q j) j = true := by
        unfold fokB
        rw [if_neg hjm]
        cases e : pa j with
        | none => rfl
        | some p =>
          have hp := F j p e
          show decide _ = true
          rw [decide_eq_true_eq, mem_ft]
          exact ⟨by omega, (flit_before F (by omega) e hl).imp id fun z => ⟨hp, z⟩⟩
      have htg : tgN n (ftN n pa P Q j) j = ftN n pa P Q (j + 1) := tg_step (by omega) ⟨(asc_range n).filter _, fun x hx => (mem_ft.mp hx).1⟩ fun x hx => by
        rw [mem_ft]
        by_cases e : x = j
        · subst e
          rw [if_pos rfl]
          exact ⟨fun _ => hjm, fun _ => ⟨hx, .inr ⟨by omega, hl⟩⟩⟩
        · rw [if_neg e, mem_ft]
          exact ⟨fun z => ⟨z.1, z.2.imp id fun y => ⟨by omega, y.2⟩⟩, fun z => ⟨z.1, z.2.imp id fun y => ⟨by omega, y.2⟩⟩⟩
      show (if fokB n pa (ftN n pa P Q j) j = true then frun n pa _ (tgN n (ftN n pa P Q j) j) else none) = _
      rw [hok, if_pos rfl, htg]
      exact frun_lit F m (j + 1) (by omega)
    · rw [if_neg hl]
      have hts : ftN n pa P Q j = ftN n pa P Q (j + 1) := asc_same ((asc_range n).filter _) ((asc_range n).filter _) fun x => by
        show x ∈ ftN n pa P Q j ↔ x ∈ ftN n pa P Q (j + 1)
        rw [mem_ft, mem_ft]
        constructor
        · exact fun z => ⟨z.1, z.2.imp id fun y => ⟨by omega, y.2⟩⟩
        · rintro ⟨a, b | ⟨c, d⟩⟩
          · exact ⟨a, .inl b⟩
          · refine ⟨a, .inr ⟨?_, d⟩⟩
            have : x ≠ j := fun e => hl (e ▸ d)
            omega
      rw [hts]
      exact frun_lit F m (j + 1) (by omega)
theorem frun_out (F : Fst pa) : ∀ (m j : Nat), j + m = n → frun n pa (((List.range m).map (j + ·)).filter (fxB n pa P Q)) (fuN n pa P Q j) = some (fuN n pa P Q n)
  | 0, j, h => by
    have : j = n := by omega
    subst this
    rfl
  | m + 1, j, h => by
    have eL : (List.range (m + 1)).map (j + ·) = j :: (List.range m).map (j + 1 + ·) := by
      rw [List.range_succ_eq_map, List.map_cons, List.map_map]
      congr 1
      exact List.map_congr_left fun x _ => by show j + (x + 1) = j + 1 + x; omega
    rw [eL, List.filter_cons]
    by_cases hl : fxB n pa P Q j = true
    · rw [if_pos hl]
      have hjm : j ∈ fuN n pa P Q j := mem_fu.mpr ⟨by omega, fout_in hl, fun z => by omega⟩
      have hok : fokB n pa (fuN n pa P Q j) j = true := by
        unfold fokB
        rw [if_pos hjm, List.isEmpty_iff, List.filter_eq_nil_iff]
        intro c hc z
        obtain ⟨c1, c2⟩ := mem_ch.mp hc
        have := F c j c2
        have hcin : c ∈ fuN n pa P Q j := mem_fu.mpr ⟨c1, fout_behind c1 c2 hl, fun z => by omega⟩
        rw [decide_eq_true hcin] at z
        cases z
      have htg : tgN n (fuN n pa P Q j) j = fuN n pa P Q (j + 1) := tg_step (by omega) ⟨(asc_range n).filter _, fun x hx => (mem_fu.mp hx).1⟩ fun x hx => by
        rw [mem_fu]
        by_cases e : x = j
        · subst e
          rw [if_pos rfl]
          exact ⟨fun z => absurd ⟨by omega, hl⟩ z.2.2, fun z => absurd hjm z⟩
        · rw [if_neg e, mem_fu]
          exact ⟨fun z => ⟨z.1, z.2.1, fun y => z.2.2 ⟨by omega, y.2⟩⟩, fun z => ⟨z.1, z.2.1, fun y => z.2.2 ⟨by omega, y.2⟩⟩⟩
      show (if fokB n pa (fuN n pa P Q j) j = true then frun n pa _ (tgN n (fuN n pa P Q j) j) else none) = _
      rw [hok, if_pos rfl, htg]
      exact frun_out F m (j + 1) (by omega)
    · rw [if_neg hl]
      have hts : fuN n pa P Q j = fuN n pa P Q (j + 1) := asc_same ((asc_range n).filter _) ((asc_range n).filter _) fun x => by
        show x ∈ fuN n pa P Q j ↔ x ∈ fuN n pa P Q (j + 1)
        rw [mem_fu, mem_fu]
        constructor
        · rintro ⟨a, b, c⟩
          refine ⟨a, b, fun y => c ⟨?_, y.2⟩⟩
          have : x ≠ j := fun e => hl (e ▸ y.2)
          omega
        · exact fun z => ⟨z.1, z.2.1, fun y => z.2.2 ⟨by omega, y.2⟩⟩
      rw [hts]
      exact frun_out F m (j + 1) (by omega)
theorem fword_leads (F : Fst pa) (hP : Stn n P) (hQ : Stn n Q) : frun n pa (fwW n pa P Q) P = some Q := by
  have er : (List.range n).map (0 + ·) = List.range n := by
    rw [List.map_congr_left (g := id) fun x _ => by show 0 + x = x; omega, List.map_id]
  have e1 := frun_lit (n := n) (P := P) (Q := Q) F (R := fxN n pa P Q) n 0 (by omega)
  have e2 := frun_out (n := n) (P := P) (Q := Q) (pa := pa) F n 0 (by omega)
  rw [er] at e1 e2
  have h0 : ftN n pa P Q 0 = P := asc_same ((asc_range n).filter _) hP.asc fun x => by
    show x ∈ ftN n pa P Q 0 ↔ _
    rw [mem_ft]
    exact ⟨fun z => z.2.resolve_right fun y => by omega, fun z => ⟨hP.lt x z, .inl z⟩⟩
  have h1 : ftN n pa P Q n = fuN n pa P Q 0 := asc_same ((asc_range n).filter _) ((asc_range n).filter _) fun x => by
    show x ∈ ftN n pa P Q n ↔ x ∈ fuN n pa P Q 0
    rw [mem_ft, mem_fu]
    exact ⟨fun z => ⟨z.1, z.2.imp id fun y => y.2, fun y => by omega⟩, fun z => ⟨z.1, z.2.1.imp id fun y => ⟨z.1, y⟩⟩⟩
  have h2 : fuN n pa P Q n = Q := asc_same ((asc_range n).filter _) hQ.asc fun x => by
    show x ∈ fuN n pa P Q n ↔ _
    rw [mem_fu]
    constructor
    · rintro ⟨a, b, c⟩
      have c : fxB n pa P Q x = false := by
        rw [Bool.eq_false_iff]
        exact fun z => c ⟨a, z⟩
      unfold fxB at c
      rw [Bool.or_eq_false_iff] at c
      rcases b with b | b
      · have := c.1
        simp [b] at this
        exact this
      · unfold flB at b
        rw [c.2, Bool.or_false, Bool.and_eq_true, decide_eq_true_eq] at b
        exact b.1
    · intro hx
      have hxn := hQ.lt x hx
      refine ⟨hxn, ?_, fun z => ?_⟩
      · by_cases h : x ∈ P
        · exact .inl h
        · refine .inr ?_
          unfold flB
          simp [h, hx]
      · have z := z.2
        unfold fxB at z
        rw [Bool.or_eq_true, decide_eq_true_eq] at z
        rcases z with z | z
        · simp [hx] at z
        · exact (spF_dark z).2 hx
  rw [h0] at e1
  show frun n pa (flN n pa P Q ++ fxN n pa P Q) P = _
  exact e1.trans (by rw [h1]; exact e2.trans (by rw [h2]))
end
end LF
end
section
set_option Elab.async false
set_option linter.all false
set_option maxRecDepth 100000
/-! Long forests: values judged. -/
namespace LF
open PySem DL
open L2 (atI ixN)
section
variable {n : Nat} {P Q S : List Nat} {pa : Nat → Option Nat} {s : D} {l : List D} {f : Nat} {b7 b8 b9 b10 : B}
theorem shows_forest_ok (F : Fst pa) (h1 : 1 ≤ n) (h40 : n ≤ 40) (hP : Stn n P) (hQ : Stn n Q) {ks : List Nat} (hk : ∀ k ∈ ks, k < n) : f_shows_forest_word [faD n pa, tpN P, tpN Q, tpN ks] = some (.bool (decide (ks.length = (fwW n pa P Q).length) && decide (frun n pa ks P = some Q))) := by
  have i2 : gIsa ["tuple"] (tpN ks) = some (.bool true) := isa_tup (nd_seq (pl_nums ks))
  have s1 : sDrop (up (fCall LF.f_need_two_43b8 (fCons (fVar 0) (fCons (fVar 1) (fCons (fVar 2) (fNil)))))) (startB 4 [faD n pa, tpN P, tpN Q, tpN ks]) = some (.nx, [.sh (faD n pa), .sh (tpN P), .sh (tpN Q), .sh (tpN ks)]) := dropv_at (d := .none) (call3_at (a := faD n pa) (b := tpN P) (c := tpN Q) rfl rfl rfl (fneed_two_ok F h1 h40 hP hQ))
  have cnd : up (fOr (fNot (fBl (fOp1 (gIsa ["tuple"]) (fVar 3)))) (fBl (fOp2 gNe (fOp1 gLen (fVar 3)) (fOp1 gLen (fCall LF.f_word_of (fCons (fVar 0) (fCons (fVar 1) (fCons (fVar 2) (fNil)))))))))  [.sh (faD n pa), .sh (tpN P), .sh (tpN Q), .sh (tpN ks)] = some (!decide (ks.length = (fwW n pa P Q).length), [.sh (faD n pa), .sh (tpN P), .sh (tpN Q), .sh (tpN ks)]) := by
    refine (up_at (or_at (a := false) (fnot_at (b := true) (bl_at ((op1_at (a := tpN ks) rfl).trans i2))) (bl_at ((op2_at (g := gNe) ((op1_at (g := gLen) (a := tpN ks) rfl).trans (len_tp ks)) ((op1_at (g := gLen) (a := lsN (fwW n pa P Q)) (call3_at (a := faD n pa) (b := tpN P) (c := tpN Q) rfl rfl rfl (fword_of_ok F h40 hP hQ))).trans (len_ls _))).trans (gNe_n _ _))))).trans ?_
    rw [Bool.false_or]
  unfold f_shows_forest_word b_shows_forest_word
  by_cases he : ks.length = (fwW n pa P Q).length
  · rw [decide_eq_true he] at cnd ⊢
    rw [Bool.true_and]
    exact runP_rt (ρ' := [.sh (faD n pa), .sh (tpN P), .sh (tpN Q), .sh (tpN ks)]) (seq_go s1 (seq_go (if_no cnd) (rt_at ((op2_at (g := gEq) (a := leadD (frun n pa ks P)) (b := tpN Q) (call3_at (a := faD n pa) (b := tpN P) (c := tpN ks) rfl rfl rfl (forest_leads_ok F h1 h40 hP hk)) rfl).trans gEq_lead))))
  · rw [decide_eq_false he] at cnd ⊢
    exact runP_rt (ρ' := [.sh (faD n pa), .sh (tpN P), .sh (tpN Q), .sh (tpN ks)]) (seq_go s1 (seq_rt (if_go cnd rfl)))
end
end LF
end
section
set_option Elab.async false
set_option linter.all false
set_option maxRecDepth 100000
/-! Long forests: parents drawn; the law. -/
namespace LF
open PySem DL
open L2 (atI ixN)
theorem xif_at {α : Type} {c : Fm → Option (Bool × Fm)} {f g : Fm → Option (D × Fm)} {ρ ρ1 : Fm} {b : Bool} {r : Option (D × Fm)} (h : c ρ = some (b, ρ1)) (k : (if b = true then f ρ1 else g ρ1) = r) : xIf c f g ρ = r := by
  unfold xIf
  rw [h]
  exact k
theorem xop2_at {g : D → D → Option D} {fa fb : Fm → Option (D × Fm)} {ρ ρ1 ρ2 : Fm} {x y z : D} (h1 : fa ρ = some (x, ρ1)) (h2 : fb ρ1 = some (y, ρ2)) (h3 : g x y = some z) : xOp2 g fa fb ρ = some (z, ρ2) := by
  unfold xOp2
  rw [h1, Option.bind_some, h2, Option.bind_some, h3]
  rfl
end LF
end
section
set_option Elab.async false
set_option linter.all false
set_option maxRecDepth 100000
/-! The law of long forests. -/
namespace LF
open PySem DL
open L2 (atI ixN)
end LF
end
section
set_option Elab.async false
set_option linter.all false
set_option maxRecDepth 100000
/-! Sums over all pairs: turned webs, webs beside one another. -/
namespace LF
open PySem DL
open L2 (atI ixN)
section
variable {n m : Nat} {A B : List (Nat × Nat)} {P Q S : List Nat}
/-! ### the turned web -/
/-! ### webs beside one another -/
def bsA (n : Nat) (A B : List (Nat × Nat)) : List (Nat × Nat) := A ++ B.map fun p => (p.1 + n, p.2 + n)
def joN (n : Nat) (P P' : List Nat) : List Nat := P ++ P'.map (· + n)
theorem mem_bs {p : Nat × Nat} : p ∈ bsA n A B ↔ p ∈ A ∨ (n ≤ p.1 ∧ n ≤ p.2 ∧ (p.1 - n, p.2 - n) ∈ B) := by
  unfold bsA
  rw [List.mem_append, List.mem_map]
  refine or_congr Iff.rfl ⟨?_, ?_⟩
  · rintro ⟨q, h1, rfl⟩
    refine ⟨by simp, by simp, ?_⟩
    simpa using h1
  · rintro ⟨h1, h2, h3⟩
    exact ⟨_, h3, by ext <;> simp <;> omega⟩
theorem mem_jo {P' : List Nat} {x : Nat} : x ∈ joN n P P' ↔ x ∈ P ∨ (n ≤ x ∧ x - n ∈ P') := by
  unfold joN
  rw [List.mem_append, List.mem_map]
  refine or_congr Iff.rfl ⟨?_, ?_⟩
  · rintro ⟨y, h1, rfl⟩
    exact ⟨by omega, by simpa using h1⟩
  · rintro ⟨h1, h2⟩
    exact ⟨_, h2, by omega⟩
theorem jo_lo (hP : Stn n P) {P' : List Nat} {x : Nat} (hx : x < n) : x ∈ joN n P P' ↔ x ∈ P := by
  rw [mem_jo]
  exact ⟨fun h => h.resolve_right fun z => by omega, .inl⟩
theorem jo_hi (hP : Stn n P) {P' : List Nat} {x : Nat} : x + n ∈ joN n P P' ↔ x ∈ P' := by
  rw [mem_jo]
  constructor
  · rintro (h | ⟨_, h⟩)
    · have := hP.lt _ h
      omega
    · simpa using h
  · intro h
    exact .inr ⟨by omega, by simpa using h⟩
theorem jo_stn {P' : List Nat} (hP : Stn n P) (hP' : Stn m P') : Stn (n + m) (joN n P P') := by
  refine ⟨?_, fun x hx => ?_⟩
  · unfold joN
    refine List.pairwise_append.mpr ⟨hP.asc, ?_, fun a ha b hb => ?_⟩
    · rw [List.pairwise_map]
      exact hP'.asc.imp fun h => by omega
    · obtain ⟨y, _, rfl⟩ := List.mem_map.mp hb
      have := hP.lt a ha
      omega
  · rcases mem_jo.mp hx with h | ⟨h1, h2⟩
    · have := hP.lt x h
      omega
    · have := hP'.lt _ h2
      omega
/-! ### sums over the standings of both -/
end
end LF
end
section
set_option Elab.async false
set_option linter.all false
set_option maxRecDepth 100000
/-! Sums of counts, widest pairs, two webs: facts. -/
namespace LF
open PySem DL
open L2 (atI ixN)
section
variable {n m : Nat} {A B : List (Nat × Nat)} {P Q S : List Nat}
/-! ### the sums -/
end
end LF
end
section
set_option Elab.async false
set_option linter.all false
set_option maxRecDepth 100000
/-! The law across drawn pairs. -/
namespace LF
open PySem DL
open L2 (atI ixN)
section
variable {n m : Nat} {A C : List (Nat × Nat)} {P Q S : List Nat} {s : D} {l : List D} {b4 b5 b6 b7 b8 b9 b10 : B}
end
end LF
end
section
set_option Elab.async false
set_option linter.all false
set_option maxRecDepth 100000
/-! Forests: branches, dicts of numbers, products. -/
namespace LF
open PySem DL
open L2 (atI ixN)
section
variable {n : Nat} {P Q S X : List Nat} {pa : Nat → Option Nat}
/-! ### the sizes of branches -/
/-- the size of a branch within some lamps -/
def szV (n : Nat) (pa : Nat → Option Nat) (X : List Nat) : Nat → Nat → Nat
  | 0, _ => 1
  | f + 1, k => 1 + (((fcL n pa k).filter fun j => decide (j ∈ X)).map (szV n pa X f)).sum
def hkN (n : Nat) (pa : Nat → Option Nat) (X : List Nat) (k : Nat) : Nat := szV n pa X n k
theorem ch_gt (F : Fst pa) {k j : Nat} (h : j ∈ fcL n pa k) : k < j ∧ j < n := ⟨F j k (mem_ch.mp h).2, (mem_ch.mp h).1⟩
theorem sz_stab (F : Fst pa) : ∀ (f f' k : Nat), k < n → n - k ≤ f → n - k ≤ f' → szV n pa X f k = szV n pa X f' k
  | 0, _, k, hk, h, _ => by omega
  | _ + 1, 0, k, hk, _, h => by omega
  | f + 1, f' + 1, k, hk, h, h' => by
    unfold szV
    congr 2
    refine List.map_congr_left fun j hj => ?_
    have := ch_gt F (List.mem_filter.mp hj).1
    exact sz_stab F f f' j this.2 (by omega) (by omega)
theorem hk_eq (F : Fst pa) {k : Nat} (hk : k < n) : hkN n pa X k = 1 + (((fcL n pa k).filter fun j => decide (j ∈ X)).map (hkN n pa X)).sum := by
  obtain ⟨m, rfl⟩ : ∃ m, n = m + 1 := ⟨n - 1, by omega⟩
  show 1 + _ = 1 + _
  congr 2
  refine List.map_congr_left fun j hj => ?_
  have := ch_gt F (List.mem_filter.mp hj).1
  exact sz_stab F m (m + 1) j this.2 (by omega) (by omega)
theorem hk_pos (F : Fst pa) {k : Nat} (hk : k < n) : 1 ≤ hkN n pa X k := by
  rw [hk_eq F hk]
  omega
/-- lamps of some whose parents are not among them -/
def rtX (pa : Nat → Option Nat) (X : List Nat) : List Nat := X.filter fun k => match pa k with
  | none => true
  | some p => !decide (p ∈ X)
theorem mem_rt {k : Nat} : k ∈ rtX pa X ↔ k ∈ X ∧ ∀ p, pa k = some p → p ∉ X := by
  unfold rtX
  rw [List.mem_filter]
  refine and_congr_right fun _ => ?_
  cases h : pa k with
  | none => exact ⟨fun _ p e => (by cases e), fun _ => rfl⟩
  | some p =>
    show (!decide (p ∈ X)) = true ↔ _
    rw [Bool.not_eq_true', decide_eq_false_iff_not]
    exact ⟨fun h q e => Option.some.inj e ▸ h, fun h => h p rfl⟩
theorem flt_sum3 {f g c : Nat → Bool} {h : Nat → Nat} : ∀ L : List Nat, (∀ j ∈ L, f j = (g j || c j) ∧ (g j && c j) = false) → ((L.filter f).map h).sum = ((L.filter g).map h).sum + ((L.filter c).map h).sum
  | [], _ => rfl
  | j :: L, hL => by
    have ih := flt_sum3 (h := h) L fun i hi => hL i (.tail _ hi)
    obtain ⟨e1, e2⟩ := hL j (.head _)
    rw [List.filter_cons, List.filter_cons, List.filter_cons, e1]
    cases hg : g j <;> cases hc : c j <;> rw [hg, hc] at e2
    · exact ih
    · show h j + _ = _ + (h j + _)
      rw [← Nat.add_assoc, Nat.add_comm _ (h j), Nat.add_assoc]
      exact congrArg (h j + ·) ih
    · show h j + _ = h j + _ + _
      rw [Nat.add_assoc]
      exact congrArg (h j + ·) ih
    · cases e2
/-- the branches of the first lamps are all -/
theorem hook_sum (F : Fst pa) {h : Nat → Nat} : ∀ X : List Nat, X.Pairwise (· < ·) → (∀ k ∈ X, h k = 1 + ((X.filter fun j => decide (pa j = some k)).map h).sum) → ((rtX pa X).map h).sum = X.length
  | [], _, _ => rfl
  | k :: X, ha, he => by
    have ha := List.pairwise_cons.mp ha
    have ih := hook_sum F X ha.2 fun j hj => by
      have e := he j (.tail _ hj)
      rw [List.filter_cons, if_neg (by
        rw [decide_eq_true_eq]
        intro z
        have := F k j z
        have := ha.1 j hj
        omega)] at e
      exact e
    have hno : ∀ j ∈ X, pa k ≠ some j := fun j hj z => by
      have := F k j z
      have := ha.1 j hj
      omega
    have e1 : rtX pa (k :: X) = k :: X.filter fun j => (match pa j with
        | none => true
        | some p => !decide (p ∈ k :: X)) := by
      show List.filter _ (k :: X) = _
      rw [List.filter_cons, if_pos]
      cases hp : pa k with
      | none => rfl
      | some p =>
        show (!decide (p ∈ k :: X)) = true
        rw [Bool.not_eq_true', decide_eq_false_iff_not, List.mem_cons]
        rintro (z | z)
        · have := F k p hp
          omega
        · exact hno p z hp
    have e2 : ((rtX pa X).map h).sum = ((X.filter fun j => (match pa j with
        | none => true
        | some p => !decide (p ∈ k :: X))).map h).sum + ((X.filter fun j => decide (pa j = some k)).map h).sum := by
      refine flt_sum3 X fun j hj => ?_
      cases hp : pa j with
      | none => exact ⟨rfl, rfl⟩
      | some p =>
        by_cases h1 : p = k
        · subst h1
          have hpX : p ∉ X := fun z => by
            have := ha.1 p z
            omega
          simp [hpX]
        · simp [h1]
    have e3 := he k (.head _)
    rw [List.filter_cons, if_neg (by
      rw [decide_eq_true_eq]
      intro z
      have := F k k z
      omega)] at e3
    rw [e1, List.map_cons, List.sum_cons, List.length_cons, e3]
    rw [e2] at ih
    omega
theorem flt_swap (hX : Stn n X) {k : Nat} : (fcL n pa k).filter (fun j => decide (j ∈ X)) = X.filter fun j => decide (pa j = some k) := by
  refine asc_same (((asc_range n).filter _).filter _) (hX.asc.filter _) fun x => ?_
  rw [List.mem_filter, mem_ch, List.mem_filter, decide_eq_true_eq, decide_eq_true_eq]
  exact ⟨fun h => ⟨h.2, h.1.2⟩, fun h => ⟨⟨hX.lt x h.1, h.2⟩, h.1⟩⟩
theorem hk_sum (F : Fst pa) (hX : Stn n X) : ((rtX pa X).map (hkN n pa X)).sum = X.length := hook_sum F X hX.asc fun k hk => by
  rw [hk_eq F (hX.lt k hk), flt_swap hX]
theorem sum_ge {f : Nat → Nat} {k : Nat} : ∀ L : List Nat, k ∈ L → f k ≤ (L.map f).sum
  | [], h => nomatch h
  | j :: L, h => by
    rw [List.map_cons, List.sum_cons]
    rcases List.mem_cons.mp h with rfl | h
    · omega
    · have := sum_ge (f := f) L h
      omega
/-- a branch is no larger than all -/
theorem hk_le (F : Fst pa) (hX : Stn n X) {k : Nat} (hk : k ∈ X) : hkN n pa X k ≤ X.length := by
  have hs : ∀ L : List Nat, L.Pairwise (· < ·) → (∀ j ∈ L, hkN n pa X j = 1 + ((L.filter fun i => decide (pa i = some j)).map (hkN n pa X)).sum) → ∀ k ∈ L, hkN n pa X k ≤ L.length := by
    intro L
    induction L with
    | nil => intro _ _ k h; cases h
    | cons a L ih =>
      intro ha he k hk
      have ha' := List.pairwise_cons.mp ha
      rcases List.mem_cons.mp hk with rfl | hk
      · have h := hook_sum F (k :: L) ha he
        have hr : k ∈ rtX pa (k :: L) := mem_rt.mpr ⟨.head _, fun p e z => by
          have h1 := F k p e
          rcases List.mem_cons.mp z with rfl | z
          · omega
          · have := ha'.1 p z
            omega⟩
        have := sum_ge (f := hkN n pa X) _ hr
        omega
      · have := ih ha'.2 (fun j hj => by
          have e := he j (.tail _ hj)
          rw [List.filter_cons, if_neg (by
            rw [decide_eq_true_eq]
            intro z
            have := F a j z
            have := ha'.1 j hj
            omega)] at e
          exact e) k hk
        rw [List.length_cons]
        omega
  exact hs X hX.asc (fun j hj => by rw [hk_eq F (hX.lt j hj), flt_swap hX]) k hk
/-! ### products -/
def prodN (f : Nat → Nat) : List Nat → Nat
  | [] => 1
  | k :: ks => f k * prodN f ks
theorem prod_congr {f g : Nat → Nat} : ∀ L : List Nat, (∀ k ∈ L, f k = g k) → prodN f L = prodN g L
  | [], _ => rfl
  | k :: L, h => by
    unfold prodN
    rw [h k (.head _), prod_congr L fun j hj => h j (.tail _ hj)]
theorem prod_pow {f e : Nat → Nat} : ∀ L : List Nat, (∀ k ∈ L, f k ≤ 2 ^ e k) → prodN f L ≤ 2 ^ (L.map e).sum
  | [], _ => Nat.le_refl _
  | k :: L, h => by
    have h1 := h k (.head _)
    have h2 := prod_pow L fun j hj => h j (.tail _ hj)
    unfold prodN
    rw [List.map_cons, List.sum_cons, Nat.pow_add]
    exact Nat.mul_le_mul h1 h2
theorem prod_app {f : Nat → Nat} : ∀ L M : List Nat, prodN f (L ++ M) = prodN f L * prodN f M
  | [], M => (Nat.one_mul _).symm
  | k :: L, M => by
    show f k * prodN f (L ++ M) = f k * prodN f L * prodN f M
    rw [prod_app L M, Nat.mul_assoc]
/-! ### states by branches: with the first lamp burning, dark at last -/
def ldV (n : Nat) (pa : Nat → Option Nat) (P : List Nat) : Nat → Nat → Nat × Nat
  | 0, _ => (1, 1)
  | f + 1, k => (prodN (fun c => (ldV n pa P f c).1 + if c ∈ P then 0 else (ldV n pa P f c).2) (fcL n pa k), prodN (fun c => if c ∈ P then (ldV n pa P f c).1 else (ldV n pa P f c).2) (fcL n pa k))
def liV (n : Nat) (pa : Nat → Option Nat) (P : List Nat) (k : Nat) : Nat := (ldV n pa P n k).1
def daV (n : Nat) (pa : Nat → Option Nat) (P : List Nat) (k : Nat) : Nat := (ldV n pa P n k).2
/-- what a child gives its parent that burns, that is dark -/
def upV (n : Nat) (pa : Nat → Option Nat) (P : List Nat) (c : Nat) : Nat := liV n pa P c + if c ∈ P then 0 else daV n pa P c
def dkV (n : Nat) (pa : Nat → Option Nat) (P : List Nat) (c : Nat) : Nat := if c ∈ P then liV n pa P c else daV n pa P c
theorem ld_stab (F : Fst pa) : ∀ (f f' k : Nat), k < n → n - k ≤ f → n - k ≤ f' → ldV n pa P f k = ldV n pa P f' k
  | 0, _, k, hk, h, _ => by omega
  | _ + 1, 0, k, hk, _, h => by omega
  | f + 1, f' + 1, k, hk, h, h' => by
    unfold ldV
    refine Prod.ext (prod_congr _ fun j hj => ?_) (prod_congr _ fun j hj => ?_)
    all_goals
      have := ch_gt F hj
      rw [ld_stab F f f' j this.2 (by omega) (by omega)]
theorem li_eq (F : Fst pa) {k : Nat} (hk : k < n) : liV n pa P k = prodN (upV n pa P) (fcL n pa k) := by
  obtain ⟨m, rfl⟩ : ∃ m, n = m + 1 := ⟨n - 1, by omega⟩
  show prodN _ _ = _
  refine prod_congr _ fun j hj => ?_
  have := ch_gt F hj
  unfold upV liV daV
  rw [ld_stab F m (m + 1) j this.2 (by omega) (by omega)]
theorem da_eq (F : Fst pa) {k : Nat} (hk : k < n) : daV n pa P k = prodN (dkV n pa P) (fcL n pa k) := by
  obtain ⟨m, rfl⟩ : ∃ m, n = m + 1 := ⟨n - 1, by omega⟩
  show prodN _ _ = _
  refine prod_congr _ fun j hj => ?_
  have := ch_gt F hj
  unfold dkV liV daV
  rw [ld_stab F m (m + 1) j this.2 (by omega) (by omega)]
theorem rng_stn : Stn n (List.range n) := ⟨asc_range n, fun x h => List.mem_range.mp h⟩
theorem fil_all {k : Nat} : (fcL n pa k).filter (fun j => decide (j ∈ List.range n)) = fcL n pa k := List.filter_eq_self.mpr fun j hj => decide_eq_true (List.mem_range.mpr (mem_ch.mp hj).1)
abbrev hkA (n : Nat) (pa : Nat → Option Nat) (k : Nat) : Nat := hkN n pa (List.range n) k
theorem hkA_eq (F : Fst pa) {k : Nat} (hk : k < n) : hkA n pa k = 1 + ((fcL n pa k).map (hkA n pa)).sum := by
  have h := hk_eq (X := List.range n) F hk
  rw [fil_all] at h
  exact h
theorem hkA_le (F : Fst pa) {k : Nat} (hk : k < n) : hkA n pa k ≤ n := by
  have := hk_le F (rng_stn (n := n)) (List.mem_range.mpr hk)
  rw [List.length_range] at this
  exact this
theorem ld_bound (F : Fst pa) : ∀ (f k : Nat), n - k ≤ f → k < n → liV n pa P k ≤ 2 ^ (hkA n pa k - 1) ∧ daV n pa P k ≤ 2 ^ (hkA n pa k - 1) ∧ upV n pa P k ≤ 2 ^ hkA n pa k ∧ dkV n pa P k ≤ 2 ^ hkA n pa k
  | 0, k, h, hk => by omega
  | f + 1, k, h, hk => by
    have ih : ∀ j ∈ fcL n pa k, upV n pa P j ≤ 2 ^ hkA n pa j ∧ dkV n pa P j ≤ 2 ^ hkA n pa j := fun j hj => by
      have := ch_gt F hj
      exact (ld_bound F f j (by omega) this.2).2.2
    have e := hkA_eq F hk
    have e1 : hkA n pa k - 1 = ((fcL n pa k).map (hkA n pa)).sum := by omega
    have a1 := prod_pow (f := upV n pa P) (e := hkA n pa) (fcL n pa k) fun j hj => (ih j hj).1
    have a2 := prod_pow (f := dkV n pa P) (e := hkA n pa) (fcL n pa k) fun j hj => (ih j hj).2
    rw [← li_eq F hk, ← e1] at a1
    rw [← da_eq F hk, ← e1] at a2
    have e2 : 2 ^ hkA n pa k = 2 * 2 ^ (hkA n pa k - 1) := by
      rw [show hkA n pa k = (hkA n pa k - 1) + 1 by omega, Nat.pow_succ, Nat.mul_comm]
      rfl
    refine ⟨a1, a2, ?_, ?_⟩
    · unfold upV
      rw [e2]
      split <;> omega
    · unfold dkV
      rw [e2]
      split <;> omega
theorem up_small (F : Fst pa) (h40 : n ≤ 40) {k : Nat} (hk : k < n) : upV n pa P k < 18446744073709551616 ∧ dkV n pa P k < 18446744073709551616 := by
  have h := (ld_bound (P := P) F n k (by omega) hk).2.2
  have h1 := hkA_le F hk
  have h2 : 2 ^ hkA n pa k ≤ 2 ^ 40 := Nat.pow_le_pow_right (by omega) (by omega)
  have e : (2 : Nat) ^ 40 = 1099511627776 := by decide
  omega
/-! ### dicts from numbers to numbers -/
abbrev dcQ (g : Nat → Nat) (L : List Nat) : List (D × D) := dcI (fun k => PyData.int ((g k : Nat) : Int)) L
def upQ (g : Nat → Nat) (k v : Nat) : Nat → Nat := fun j => if j = k then v else g j
theorem dcQ_congr {g h : Nat → Nat} {L : List Nat} (e : ∀ k ∈ L, g k = h k) : dcQ g L = dcQ h L := List.map_congr_left fun k hk => by
  show (PyData.int (k : Int), PyData.int ((g k : Nat) : Int)) = (PyData.int (k : Int), PyData.int ((h k : Nat) : Int))
  rw [e k hk]
theorem dPutQ_new {g : Nat → Nat} {L : List Nat} {k v : Nat} (h : k ∉ L) : dPut false (dcQ g L) (.int (k : Int)) (.int (v : Int)) = some (dcQ (upQ g k v) (L ++ [k])) := by
  have e : dcQ g L = dcQ (upQ g k v) L := dcQ_congr fun j hj => by
    unfold upQ
    rw [if_neg (fun (z : j = k) => h (by rw [← z]; exact hj))]
  have := dPut_I (g := fun j => PyData.int ((upQ g k v j : Nat) : Int)) h
  rw [show upQ g k v k = v from if_pos rfl] at this
  rw [e]
  exact this
theorem dPutQ_old {g : Nat → Nat} {L : List Nat} {k v : Nat} (h : k ∈ L) : dPut false (dcQ g L) (.int (k : Int)) (.int (v : Int)) = some (dcQ (upQ g k v) L) := by
  show some (putE false (dcQ g L) (.num k) (.int (k : Int)) (.int (v : Int))) = _
  unfold putE
  rw [getE_I, if_pos h]
  simp only [Option.isSome_some, if_true]
  congr 1
  unfold dcQ dcI
  rw [List.map_map]
  refine List.map_congr_left fun j _ => ?_
  have hk : kEq false (.num k) (PyData.int (j : Int), PyData.int ((g j : Nat) : Int)) = decide (j = k) := by
    unfold kEq
    show decide (some (NestedKey.num (j : Int)) = some (NestedKey.num (k : Int))) = _
    rw [decide_eq_decide]
    simp
    omega
  show (if kEq false (.num k) (PyData.int (j : Int), PyData.int ((g j : Nat) : Int)) = true then _ else _) = _
  rw [hk]
  by_cases e : j = k
  · rw [if_pos (decide_eq_true e)]
    show _ = (PyData.int (j : Int), PyData.int ((upQ g k v j : Nat) : Int))
    unfold upQ
    rw [if_pos e]
  · rw [if_neg (by rw [decide_eq_true_eq]; exact e)]
    show _ = (PyData.int (j : Int), PyData.int ((upQ g k v j : Nat) : Int))
    unfold upQ
    rw [if_neg e]
theorem ixQ_at {g : Nat → Nat} {L : List Nat} {k : Nat} {f h : Fm → Option D} {ρ : Fm} (h1 : f ρ = some (.dict (dcQ g L))) (h2 : h ρ = some (.int (k : Int))) (hk : k ∈ L) : fOp2 gIxD f h ρ = some (.int (g k : Nat)) := by
  refine (op2_at h1 h2).trans ?_
  show (dGet (dcQ g L) (.int (k : Int))).bind id = _
  rw [dGet_I, if_pos hk]
  rfl
end
end LF
end
section
set_option Elab.async false
set_option linter.all false
set_option maxRecDepth 100000
/-! forest_light_states, forest_light_ways, forest_quench_ways. -/
namespace LF
open PySem DL
open L2 (atI ixN)
theorem daug_at {i : Nat} {ρ : Fm} {g : Nat → Nat} {L : List Nat} {k v : Nat} {fk f : Fm → Option D} (h : ρ[i]? = some (.od false (dcQ g L))) (hk : fk ρ = some (.int (k : Int))) (hm : k ∈ L) (hf : f ρ = some (.int (v : Int))) (hv : v < 18446744073709551616) (hz : L.length ≤ 1000) : sDaug i gMulI fk f ρ = some (.nx, ρ.set i (.od false (dcQ (upQ g k (g k * v)) L))) := by
  unfold sDaug
  rw [h]
  show ((fk ρ).bind _) = _
  rw [hk, Option.bind_some, dGet_I, if_pos hm, Option.bind_some]
  show ((f ρ).bind fun v => (gMulI (.int ((g k : Nat) : Int)) v).bind _) = _
  rw [hf, Option.bind_some, gMul_n hv, Option.bind_some, if_pos (by unfold dcQ dcI; rw [List.length_map]; unfold bigN; omega), dPutQ_old hm]
  rfl
theorem upQ_up {g : Nat → Nat} {k a b : Nat} : upQ (upQ g k a) k b = upQ g k b := by
  funext j
  unfold upQ
  by_cases e : j = k
  · rw [if_pos e, if_pos e]
  · rw [if_neg e, if_neg e, if_neg e]
theorem upQ_at {g : Nat → Nat} {k a : Nat} : upQ g k a k = a := if_pos rfl
theorem upQ_ne {g : Nat → Nat} {k a j : Nat} (h : j ≠ k) : upQ g k a j = g j := if_neg h
section
variable {n : Nat} {P Q S X : List Nat} {pa : Nat → Option Nat} {x4 x5 x6 : B}
abbrev lsFr (n : Nat) (pa : Nat → Option Nat) (P : List Nat) (g h : Nat → Nat) (L : List Nat) (x4 x5 x6 : B) : Fm := [.sh (faD n pa), .sh (tpN P), .od false (dcQ g L), .od false (dcQ h L), x4, x5, x6]
theorem ls_l1 (F : Fst pa) (h40 : n ≤ 40) {g h : Nat → Nat} {L : List Nat} {k c : Nat} (hz : L.length ≤ 1000) (hk : k ∈ L) (hc : c ∈ L) (hne : c ≠ k) (hcn : c < n) (e1 : g c = liV n pa P c) (e2 : h c = daV n pa P c) :
    b_forest_light_states_l1 (lsFr n pa P g h L (.sh (.int (k : Int))) (.sh (.int (c : Int))) x6) = some (.nx, lsFr n pa P (upQ g k (g k * upV n pa P c)) (upQ h k (h k * dkV n pa P c)) L (.sh (.int (k : Int))) (.sh (.int (c : Int))) x6) := by
  have us := up_small (P := P) F h40 hcn
  unfold b_forest_light_states_l1
  refine seq_go (daug_at (i := 2) (g := g) (L := L) (k := k) (v := upV n pa P c) rfl rfl hk ?_ us.1 hz) (daug_at (i := 3) (g := h) (L := L) (k := k) (v := dkV n pa P c) rfl rfl hk ?_ us.2 hz)
  · refine (op2_at (g := gAdd) (a := .int (g c : Nat)) (b := .int ((if c ∈ P then 0 else daV n pa P c : Nat) : Int)) (ixQ_at (g := g) (L := L) (k := c) rfl rfl hc) (fif_at (bl_at ((op2_at (g := gIn false) (a := .int (c : Int)) (b := tpN P) rfl rfl).trans gIn_numsT)) ?_)).trans ?_
    · by_cases hp : c ∈ P
      · rw [if_pos (decide_eq_true hp), if_pos hp]
        rfl
      · rw [if_neg (by rw [decide_eq_true_eq]; exact hp), if_neg hp, ← e2]
        exact ixQ_at (g := h) (L := L) (k := c) rfl rfl hc
    · rw [gAdd_n, e1]
      rfl
  · refine fif_at (bl_at ((op2_at (g := gIn false) (a := .int (c : Int)) (b := tpN P) rfl rfl).trans gIn_numsT)) ?_
    unfold dkV
    by_cases hp : c ∈ P
    · rw [if_pos (decide_eq_true hp), if_pos hp, ← e1, ← upQ_ne (g := g) (a := g k * upV n pa P c) hne]
      exact ixQ_at (g := upQ g k (g k * upV n pa P c)) (L := L) (k := c) rfl rfl hc
    · rw [if_neg (by rw [decide_eq_true_eq]; exact hp), if_neg hp, ← e2]
      exact ixQ_at (g := h) (L := L) (k := c) rfl rfl hc
theorem ls_for (F : Fst pa) (h40 : n ≤ 40) {L : List Nat} {k : Nat} (hz : L.length ≤ 1000) (hk : k ∈ L) : ∀ (cs : List Nat) (g h : Nat → Nat) (x5 : B), (∀ c ∈ cs, c ∈ L ∧ c ≠ k ∧ c < n ∧ g c = liV n pa P c ∧ h c = daV n pa P c) →
    ∃ y5, forL (.one 5) b_forest_light_states_l1 (nums cs) (lsFr n pa P g h L (.sh (.int (k : Int))) x5 x6) = some (.nx, lsFr n pa P (upQ g k (g k * prodN (upV n pa P) cs)) (upQ h k (h k * prodN (dkV n pa P) cs)) L (.sh (.int (k : Int))) y5 x6)
  | [], g, h, x5, _ => ⟨x5, by
      have e1 : ∀ g : Nat → Nat, upQ g k (g k * 1) = g := fun g => by
        funext j
        unfold upQ
        by_cases e : j = k
        · rw [if_pos e, Nat.mul_one, e]
        · rw [if_neg e]
      show some (Fl.nx, _) = some (Fl.nx, lsFr n pa P (upQ g k (g k * 1)) (upQ h k (h k * 1)) L _ _ _)
      rw [e1, e1]⟩
  | c :: cs, g, h, x5, hc => by
    obtain ⟨c1, c2, c3, c4, c5⟩ := hc c (.head _)
    have e1 := ls_l1 (x6 := x6) F h40 hz hk c1 c2 c3 c4 c5
    obtain ⟨y5, e2⟩ := ls_for F h40 hz hk cs (upQ g k (g k * upV n pa P c)) (upQ h k (h k * dkV n pa P c)) (.sh (.int (c : Int))) fun j hj => by
      obtain ⟨d1, d2, d3, d4, d5⟩ := hc j (.tail _ hj)
      exact ⟨d1, d2, d3, by rw [upQ_ne d2, d4], by rw [upQ_ne d2, d5]⟩
    refine ⟨y5, fl_go rfl e1 (e2.trans ?_)⟩
    rw [upQ_up, upQ_up, upQ_at, upQ_at, Nat.mul_assoc, Nat.mul_assoc]
    rfl
theorem ls_l2 (F : Fst pa) (h40 : n ≤ 40) {L : List Nat} {k : Nat} {x5 x6 : B} (hk : k < n) (hL : ∀ j, j ∈ L ↔ k < j ∧ j < n) (hz : L.length ≤ 100) :
    ∃ y5, b_forest_light_states_l2 (lsFr n pa P (liV n pa P) (daV n pa P) L (.sh (.int (k : Int))) x5 x6) = some (.nx, lsFr n pa P (liV n pa P) (daV n pa P) (L ++ [k]) (.sh (.int (k : Int))) y5 x6) := by
  have hkL : k ∉ L := fun z => by have := ((hL k).mp z).1; omega
  have hz2 : (L ++ [k]).length ≤ 1000 := by rw [List.length_append, List.length_singleton]; omega
  obtain ⟨y5, e⟩ := ls_for (P := P) (x6 := x6) F h40 (L := L ++ [k]) (k := k) hz2 (List.mem_append_right _ (.head _)) (fcL n pa k) (upQ (liV n pa P) k 1) (upQ (daV n pa P) k 1) x5 fun c hc => by
    have h := ch_gt F hc
    have hne : c ≠ k := by omega
    exact ⟨List.mem_append_left _ ((hL c).mpr h), hne, h.2, upQ_ne hne, upQ_ne hne⟩
  refine ⟨y5, ?_⟩
  unfold b_forest_light_states_l2
  refine seq_go (ρ1 := lsFr n pa P (upQ (liV n pa P) k 1) (upQ (daV n pa P) k 1) (L ++ [k]) (.sh (.int (k : Int))) x5 x6) ?_ (for_go (ds := nums (fcL n pa k)) ?_ (e.trans ?_))
  · have hb : ∀ g : Nat → Nat, (dcQ g L).length < bigN := fun g => by
      unfold dcQ dcI
      rw [List.length_map]
      unfold bigN
      omega
    have p2 : putOd 2 (.int (k : Int)) (.int 1) (lsFr n pa P (liV n pa P) (daV n pa P) L (.sh (.int (k : Int))) x5 x6) = some [.sh (faD n pa), .sh (tpN P), .od false (dcQ (upQ (liV n pa P) k 1) (L ++ [k])), .od false (dcQ (daV n pa P) L), .sh (.int (k : Int)), x5, x6] := by
      show (if (dcQ (liV n pa P) L).length < bigN then (dPut false (dcQ (liV n pa P) L) (.int (k : Int)) (.int ((1 : Nat) : Int))).map _ else none) = _
      rw [if_pos (hb _), dPutQ_new hkL]
      rfl
    have p3 : putOd 3 (.int (k : Int)) (.int 1) [.sh (faD n pa), .sh (tpN P), .od false (dcQ (upQ (liV n pa P) k 1) (L ++ [k])), .od false (dcQ (daV n pa P) L), .sh (.int (k : Int)), x5, x6] = some (lsFr n pa P (upQ (liV n pa P) k 1) (upQ (daV n pa P) k 1) (L ++ [k]) (.sh (.int (k : Int))) x5 x6) := by
      show (if (dcQ (daV n pa P) L).length < bigN then (dPut false (dcQ (daV n pa P) L) (.int (k : Int)) (.int ((1 : Nat) : Int))).map _ else none) = _
      rw [if_pos (hb _), dPutQ_new hkL]
      rfl
    show ((some (PyData.int (k : Int))).bind fun k1 => (putOd 2 k1 (.int 1) (lsFr n pa P (liV n pa P) (daV n pa P) L (.sh (.int (k : Int))) x5 x6)).bind fun ρ1 => (fVar 4 ρ1).bind fun k2 => (putOd 3 k2 (.int 1) ρ1).map fun ρ2 => (Fl.nx, ρ2)) = _
    rw [Option.bind_some, p2, Option.bind_some]
    show ((some (PyData.int (k : Int))).bind fun k2 => (putOd 3 k2 (.int 1) _).map fun ρ2 => (Fl.nx, ρ2)) = _
    rw [Option.bind_some, p3]
    rfl
  · unfold iSeq
    rw [call2_at (a := faD n pa) (b := .int (k : Int)) rfl rfl (children_ok h40)]
    rfl
  · rw [upQ_up, upQ_up, upQ_at, upQ_at, Nat.one_mul, Nat.one_mul, ← li_eq F hk, ← da_eq F hk]
    have e1 : ∀ g : Nat → Nat, upQ g k (g k) = g := fun g => by
      funext j
      unfold upQ
      by_cases e : j = k
      · rw [if_pos e, e]
      · rw [if_neg e]
    rw [e1, e1]
theorem ls_out (F : Fst pa) (h40 : n ≤ 40) : ∀ (m : Nat) (L : List Nat) (x4 x5 : B), m ≤ n → (∀ j, j ∈ L ↔ m ≤ j ∧ j < n) → L.length + m ≤ 40 →
    ∃ L' y4 y5, (∀ j, j ∈ L' ↔ j < n) ∧ L'.length ≤ 40 ∧ forL (.one 4) b_forest_light_states_l2 (nums (List.range m).reverse) (lsFr n pa P (liV n pa P) (daV n pa P) L x4 x5 x6) = some (.nx, lsFr n pa P (liV n pa P) (daV n pa P) L' y4 y5 x6)
  | 0, L, x4, x5, _, hL, hz => ⟨L, x4, x5, fun j => by rw [hL]; omega, by omega, rfl⟩
  | m + 1, L, x4, x5, hm, hL, hz => by
    obtain ⟨y5, e1⟩ := ls_l2 (P := P) (x5 := x5) (x6 := x6) F h40 (L := L) (k := m) (by omega) (fun j => by rw [hL]; omega) (by omega)
    obtain ⟨L', z4, z5, h1, h2, e2⟩ := ls_out F h40 m (L ++ [m]) (.sh (.int (m : Int))) y5 (by omega) (fun j => by
      rw [List.mem_append, hL, List.mem_singleton]
      omega) (by rw [List.length_append, List.length_singleton]; omega)
    refine ⟨L', z4, z5, h1, h2, ?_⟩
    rw [List.range_succ, List.reverse_append, List.reverse_singleton]
    exact fl_go rfl e1 e2
theorem ls_fin (F : Fst pa) (h40 : n ≤ 40) {L : List Nat} (hL : ∀ j, j ∈ L ↔ j < n) : ∀ (rs : List Nat) (z : Nat) (x4 : B), (∀ r ∈ rs, r < n) →
    ∃ y4, forL (.one 4) b_forest_light_states_l3 (nums rs) (lsFr n pa P (liV n pa P) (daV n pa P) L x4 x5 (.sh (.int (z : Int)))) = some (.nx, lsFr n pa P (liV n pa P) (daV n pa P) L y4 x5 (.sh (.int ((z * prodN (upV n pa P) rs : Nat) : Int))))
  | [], z, x4, _ => ⟨x4, by rw [show prodN (upV n pa P) [] = 1 from rfl, Nat.mul_one]; rfl⟩
  | r :: rs, z, x4, hr => by
    have hrn := hr r (.head _)
    have us := up_small (P := P) F h40 hrn
    have e1 : b_forest_light_states_l3 (lsFr n pa P (liV n pa P) (daV n pa P) L (.sh (.int (r : Int))) x5 (.sh (.int (z : Int)))) = some (.nx, lsFr n pa P (liV n pa P) (daV n pa P) L (.sh (.int (r : Int))) x5 (.sh (.int ((z * upV n pa P r : Nat) : Int)))) := by
      have hv : fOp2 gAdd (fOp2 gIxD (fOwn 2) (fVar 4)) (fIf (fBl (fOp2 (gIn false) (fVar 4) (fVar 1))) (fC (.int 0)) (fOp2 gIxD (fOwn 3) (fVar 4))) (lsFr n pa P (liV n pa P) (daV n pa P) L (.sh (.int (r : Int))) x5 (.sh (.int (z : Int)))) = some (.int (upV n pa P r : Nat)) := by
        refine (op2_at (g := gAdd) (a := .int (liV n pa P r : Nat)) (b := .int ((if r ∈ P then 0 else daV n pa P r : Nat) : Int)) (ixQ_at (g := liV n pa P) (L := L) (k := r) rfl rfl ((hL r).mpr hrn)) (fif_at (bl_at ((op2_at (g := gIn false) (a := .int (r : Int)) (b := tpN P) rfl rfl).trans gIn_numsT)) ?_)).trans (gAdd_n _ _)
        by_cases hp : r ∈ P
        · rw [if_pos (decide_eq_true hp), if_pos hp]
          rfl
        · rw [if_neg (by rw [decide_eq_true_eq]; exact hp), if_neg hp]
          exact ixQ_at (g := daV n pa P) (L := L) (k := r) rfl rfl ((hL r).mpr hrn)
      unfold b_forest_light_states_l3 sAug
      show ((some (PyData.int (z : Int))).bind _) = _
      rw [Option.bind_some, hv, Option.bind_some, gMul_n us.1]
      rfl
    obtain ⟨y4, e2⟩ := ls_fin F h40 hL rs (z * upV n pa P r) (.sh (.int (r : Int))) fun j hj => hr j (.tail _ hj)
    refine ⟨y4, fl_go rfl e1 (e2.trans ?_)⟩
    rw [Nat.mul_assoc]
    rfl
/-- the first lamps -/
def rtA (n : Nat) (pa : Nat → Option Nat) : List Nat := (List.range n).filter fun j => decide (pa j = none)
theorem roots_ok (h40 : n ≤ 40) : f_children [faD n pa, .none] = some (lsN (rtA n pa)) := by
  unfold f_children b_children
  refine runP_rt (ρ' := [.sh (faD n pa), .sh .none, .no, .no]) (rt_at ?_)
  have lc := fLc_map (α := Nat) (enc := enP pa) (ρ := [.sh (faD n pa), .sh .none, .no, .no]) (vs := [2, 3]) (t := .tup [.one 2, .one 3]) (fi := iEn (fVar 0)) (fc := fBl (fOp2 gEq (fVar 3) (fVar 1))) (fe := fVar 2) (fun j => decide (pa j = none)) (fun j => .int (j : Int)) (xs := List.range n) (fa_en rfl) (by rw [List.length_range]; unfold bigN; omega) fun j _ => ⟨_, rfl, bl_at ((op2_at (g := gEq) (a := oD (pa j)) (b := .none) rfl rfl).trans (by cases pa j <;> rfl)), fun _ => rfl⟩
  exact lc
theorem forest_light_states_ok (F : Fst pa) (h1 : 1 ≤ n) (h40 : n ≤ 40) (hP : Stn n P) : f_forest_light_states [faD n pa, tpN P] = some (.int (prodN (upV n pa P) (rtA n pa) : Nat)) := by
  obtain ⟨L, y4, y5, hL, hz, e1⟩ := ls_out (P := P) (x6 := .no) F h40 n [] .no .no (Nat.le_refl _) (fun j => ⟨fun h => (by cases h), fun h => by omega⟩) (by rw [List.length_nil]; omega)
  obtain ⟨z4, e2⟩ := ls_fin (P := P) (x5 := y5) F h40 hL (rtA n pa) 1 y4 fun r hr => List.mem_range.mp (List.mem_filter.mp hr).1
  rw [Nat.one_mul] at e2
  unfold f_forest_light_states b_forest_light_states
  refine runP_rt (ρ' := lsFr n pa P (liV n pa P) (daV n pa P) L z4 y5 (.sh (.int (prodN (upV n pa P) (rtA n pa) : Nat)))) ?_
  refine seq_go (dropv_at (d := .none) (call1_at (a := faD n pa) rfl (need_parents_ok F h1 h40))) ?_
  refine seq_go (dropv_at (d := .none) (call2_at (a := .int (n : Int)) (b := tpN P) ((op1_at (a := faD n pa) rfl).trans fa_len) rfl (rneed_burning_ok hP))) ?_
  refine seq_go (ρ1 := lsFr n pa P (liV n pa P) (daV n pa P) [] .no .no .no) rfl ?_
  refine seq_go (for_go ?_ e1) ?_
  · unfold iRgD
    have e5 : fOp2 gSub (fOp1 gLen (fVar 0)) (fC (.int 1)) (lsFr n pa P (liV n pa P) (daV n pa P) [] .no .no .no) = some (.int ((n : Int) - 1)) := (op2_at (g := gSub) (a := .int (n : Int)) (b := .int 1) ((op1_at (g := gLen) (a := faD n pa) rfl).trans fa_len) rfl).trans (gSub_i _ _)
    rw [e5, show fOp1 gNeg (fC (.int 1)) (lsFr n pa P (liV n pa P) (daV n pa P) [] .no .no .no) = some (.int (-1)) from rfl]
    simp only
    rw [if_pos (by
      rw [smR_of (by omega) (by omega), smR_of (by omega) (by omega)]
      rfl), show ((n : Int) - 1 - -1).toNat = n by omega, dwn_rev]
  refine seq_go (asg_at (d := .int ((1 : Nat) : Int)) rfl (ρ' := lsFr n pa P (liV n pa P) (daV n pa P) L y4 y5 (.sh (.int ((1 : Nat) : Int)))) rfl) ?_
  refine seq_go (for_go (ds := nums (rtA n pa)) ?_ e2) rfl
  unfold iSeq
  rw [call2_at (a := faD n pa) (b := .none) rfl rfl (roots_ok h40)]
  rfl
/-! ### the orders of some lamps -/
/-- all orders, divided by the sizes of the branches -/
def dvN (h : Nat → Nat) : List Nat → Nat → Nat
  | [], z => z
  | k :: ks, z => dvN h ks (z / h k)
def facN : Nat → Nat → Nat → Nat
  | 0, _, z => z
  | m + 1, j, z => facN m (j + 1) (z * (j + 1))
/-- how many orders -/
def orN (n : Nat) (pa : Nat → Option Nat) (X : List Nat) : Nat := dvN (hkN n pa X) X (facN X.length 0 1)
end
end LF
end
section
set_option Elab.async false
set_option linter.all false
set_option maxRecDepth 100000
/-! forest_light_ways, forest_quench_ways, the law's orders. -/
namespace LF
open PySem DL
open L2 (atI ixN)
section
variable {n : Nat} {P Q S X : List Nat} {pa : Nat → Option Nat} {x4 x5 x6 x8 x9 : B} {p1 p2 u v : D}
theorem inQ_at {g : Nat → Nat} {L : List Nat} {k : Nat} {f h : Fm → Option D} {ρ : Fm} (h1 : f ρ = some (.int (k : Int))) (h2 : h ρ = some (.dict (dcQ g L))) : fOp2 (gInD false) f h ρ = some (.bool (decide (k ∈ L))) := by
  refine (op2_at h1 h2).trans ?_
  show (dGet (dcQ g L) (.int (k : Int))).map _ = _
  rw [dGet_I]
  by_cases hk : k ∈ L
  · rw [if_pos hk, decide_eq_true hk]
    rfl
  · rw [if_neg hk, decide_eq_false hk]
    rfl
theorem dsetQ_at {i : Nat} {ρ : Fm} {g : Nat → Nat} {L : List Nat} {k v : Nat} {fk f : Fm → Option D} (h : ρ[i]? = some (.od false (dcQ g L))) (hk : fk ρ = some (.int (k : Int))) (hf : f ρ = some (.int (v : Int))) (hm : k ∉ L) (hv : g k = v) (hz : L.length ≤ 1000) : sDset i fk (up f) ρ = some (.nx, ρ.set i (.od false (dcQ g (L ++ [k])))) := by
  unfold sDset
  rw [up_at hf, Option.bind_some]
  show (match ρ[i]? with
    | some (.od t ds) => (fk ρ).bind fun kd => if ds.length < bigN then (dPut t ds kd _).map fun ds' => (Fl.nx, ρ.set i (.od t ds')) else none
    | _ => none) = _
  rw [h]
  show ((fk ρ).bind _) = _
  rw [hk, Option.bind_some, if_pos (by unfold dcQ dcI; rw [List.length_map]; unfold bigN; omega), dPutQ_new hm]
  have e : upQ g k v = g := by
    funext j
    unfold upQ
    by_cases e : j = k
    · rw [if_pos e, e, hv]
    · rw [if_neg e]
  rw [e]
  rfl
theorem nums_map {α : Type} (f : α → Nat) (L : List α) : nums (L.map f) = L.map fun x => PyData.int ((f x : Nat) : Int) := by
  unfold nums
  rw [List.map_map]
  rfl
abbrev fwFr (n : Nat) (pa : Nat → Option Nat) (p1 p2 u v : D) (x5 : B) (z : Nat) (g : Nat → Nat) (L : List Nat) (x8 x9 : B) : Fm := [.sh (faD n pa), .sh p1, .sh p2, .sh u, .sh v, x5, .sh (.int (z : Int)), .od false (dcQ g L), x8, x9]
theorem wy_l1 (F : Fst pa) (h40 : n ≤ 40) (hX : Stn n X) {L : List Nat} {k z : Nat} (hk : k ∈ X) (hL : ∀ j, j ∈ L ↔ j ∈ X ∧ k < j) (hz : L.length ≤ 100) :
    b_forest_light_ways_l1 (fwFr n pa p1 p2 u v (.sh (.int (k : Int))) z (hkN n pa X) L x8 x9) = some (.nx, fwFr n pa p1 p2 u v (.sh (.int (k : Int))) z (hkN n pa X) (L ++ [k]) x8 x9) := by
  have hkn := hX.lt k hk
  unfold b_forest_light_ways_l1
  refine (dsetQ_at (i := 7) (g := hkN n pa X) (L := L) (k := k) (v := hkN n pa X k) rfl rfl ?_ (fun h => by have := ((hL k).mp h).2; omega) rfl (by omega)).trans rfl
  have lc := fLc_map (α := Nat) (enc := fun j : Nat => .int (j : Int)) (ρ := fwFr n pa p1 p2 u v (.sh (.int (k : Int))) z (hkN n pa X) L x8 x9) (vs := [9]) (t := .one 9) (fi := iSeq (fCall LF.f_children (fCons (fVar 0) (fCons (fVar 5) (fNil))))) (fc := fBl (fOp2 (gInD false) (fVar 9) (fOwn 7))) (fe := fOp2 gIxD (fOwn 7) (fVar 9)) (fun j => decide (j ∈ L)) (fun j => .int (hkN n pa X j : Nat)) (xs := fcL n pa k) (by
    unfold iSeq
    rw [call2_at (a := faD n pa) (b := .int (k : Int)) rfl rfl (children_ok h40)]
    rfl) (by
    have := List.length_filter_le (fun j => decide (pa j = some k)) (List.range n)
    rw [List.length_range] at this
    unfold fcL bigN
    omega) fun j _ => ⟨_, rfl, bl_at (inQ_at (g := hkN n pa X) (L := L) (k := j) rfl rfl), fun hj => ixQ_at (g := hkN n pa X) (L := L) (k := j) rfl rfl (of_decide_eq_true hj)⟩
  have e1 : (fcL n pa k).filter (fun j => decide (j ∈ L)) = (fcL n pa k).filter fun j => decide (j ∈ X) := List.filter_congr fun j hj => by
    rw [decide_eq_decide, hL]
    exact ⟨fun h => h.1, fun h => ⟨h, (ch_gt F hj).1⟩⟩
  rw [e1, ← nums_map] at lc
  refine (op2_at (g := gAdd) (a := .int ((1 : Nat) : Int)) rfl ((op1_at (g := gSum) lc).trans (gSum_nums _))).trans ((gAdd_n _ _).trans ?_)
  rw [← hk_eq F hkn]
theorem wy_for1 (F : Fst pa) (h40 : n ≤ 40) (hX : Stn n X) {z : Nat} : ∀ (R T : List Nat) (x5 : B), R.reverse ++ T = X →
    ∃ y5, forL (.one 5) b_forest_light_ways_l1 (nums R) (fwFr n pa p1 p2 u v x5 z (hkN n pa X) T.reverse x8 x9) = some (.nx, fwFr n pa p1 p2 u v y5 z (hkN n pa X) X.reverse x8 x9)
  | [], T, x5, e => ⟨x5, by
      rw [List.reverse_nil, List.nil_append] at e
      subst e
      rfl⟩
  | k :: R, T, x5, e => by
    rw [List.reverse_cons, List.append_assoc, List.singleton_append] at e
    have ha := hX.asc
    rw [← e, List.pairwise_append] at ha
    obtain ⟨a1, a2, a3⟩ := ha
    have a2 := List.pairwise_cons.mp a2
    have hl := hX.len
    rw [← e, List.length_append, List.length_cons] at hl
    have e1 := wy_l1 (p1 := p1) (p2 := p2) (u := u) (v := v) (x8 := x8) (x9 := x9) F h40 hX (L := T.reverse) (k := k) (z := z) (by rw [← e]; exact List.mem_append_right _ (.head _)) (fun j => by
      rw [List.mem_reverse, ← e, List.mem_append, List.mem_cons]
      constructor
      · exact fun h => ⟨.inr (.inr h), a2.1 j h⟩
      · rintro ⟨h | h | h, h2⟩
        · have := a3 j h k (.head _)
          omega
        · omega
        · exact h) (by rw [List.length_reverse]; omega)
    obtain ⟨y5, e2⟩ := wy_for1 F h40 hX R (k :: T) (.sh (.int (k : Int))) e
    rw [List.reverse_cons] at e2
    exact ⟨y5, fl_go rfl e1 e2⟩
theorem wy_for2 {g : Nat → Nat} {L : List Nat} : ∀ (ks : List Nat) (j z : Nat) (x5 x8 : B), j + ks.length ≤ 1000 →
    ∃ y5 y8, forL (.tup [.one 8, .one 5]) b_forest_light_ways_l2 (enumD j (nums ks)) (fwFr n pa p1 p2 u v x5 z g L x8 x9) = some (.nx, fwFr n pa p1 p2 u v y5 (facN ks.length j z) g L y8 x9)
  | [], j, z, x5, x8, _ => ⟨x5, x8, rfl⟩
  | k :: ks, j, z, x5, x8, h => by
    rw [List.length_cons] at h
    have e1 : b_forest_light_ways_l2 (fwFr n pa p1 p2 u v (.sh (.int (k : Int))) z g L (.sh (.int (j : Int))) x9) = some (.nx, fwFr n pa p1 p2 u v (.sh (.int (k : Int))) (z * (j + 1)) g L (.sh (.int (j : Int))) x9) := by
      unfold b_forest_light_ways_l2 sAug
      show ((some (PyData.int (z : Int))).bind _) = _
      have hv : fOp2 gAdd (fVar 8) (fC (.int 1)) (fwFr n pa p1 p2 u v (.sh (.int (k : Int))) z g L (.sh (.int (j : Int))) x9) = some (.int ((j + 1 : Nat) : Int)) := (op2_at (g := gAdd) (a := .int (j : Int)) (b := .int ((1 : Nat) : Int)) rfl rfl).trans (gAdd_n _ _)
      rw [Option.bind_some, hv, Option.bind_some, gMul_n (by omega)]
      rfl
    obtain ⟨y5, y8, e2⟩ := wy_for2 ks (j + 1) (z * (j + 1)) (.sh (.int (k : Int))) (.sh (.int (j : Int))) (by omega)
    exact ⟨y5, y8, fl_go rfl e1 e2⟩
theorem wy_for3 {g : Nat → Nat} {L : List Nat} : ∀ (ks : List Nat) (z : Nat) (x5 : B), (∀ k ∈ ks, k ∈ L ∧ 0 < g k ∧ g k ≤ 1000) →
    ∃ y5, forL (.one 5) b_forest_light_ways_l3 (nums ks) (fwFr n pa p1 p2 u v x5 z g L x8 x9) = some (.nx, fwFr n pa p1 p2 u v y5 (dvN g ks z) g L x8 x9)
  | [], z, x5, _ => ⟨x5, rfl⟩
  | k :: ks, z, x5, h => by
    obtain ⟨h1, h2, h3⟩ := h k (.head _)
    have e1 : b_forest_light_ways_l3 (fwFr n pa p1 p2 u v (.sh (.int (k : Int))) z g L x8 x9) = some (.nx, fwFr n pa p1 p2 u v (.sh (.int (k : Int))) (z / g k) g L x8 x9) := by
      unfold b_forest_light_ways_l3 sAug
      show ((some (PyData.int (z : Int))).bind _) = _
      have hv : fOp2 gIxD (fOwn 7) (fVar 5) (fwFr n pa p1 p2 u v (.sh (.int (k : Int))) z g L x8 x9) = some (.int ((g k : Nat) : Int)) := ixQ_at (g := g) (L := L) (k := k) rfl rfl h1
      have hd : gDivS (.int (z : Int)) (.int ((g k : Nat) : Int)) = some (.int ((z / g k : Nat) : Int)) := by
        unfold gDivS gI2
        show (if (decide ((0 : Int) < (g k : Nat)) && decide (((g k : Nat) : Int) < 1073741824)) = true then some (PyData.int ((z : Int) / ((g k : Nat) : Int))) else none) = _
        rw [if_pos (by rw [Bool.and_eq_true, decide_eq_true_eq, decide_eq_true_eq]; omega), Int.natCast_ediv]
      rw [Option.bind_some, hv, Option.bind_some, hd]
      rfl
    obtain ⟨y5, e2⟩ := wy_for3 ks (z / g k) (.sh (.int (k : Int))) fun j hj => h j (.tail _ hj)
    exact ⟨y5, fl_go rfl e1 e2⟩
theorem hk_div (F : Fst pa) (h40 : n ≤ 40) (hX : Stn n X) {k : Nat} (hk : k ∈ X) : k ∈ X.reverse ∧ 0 < hkN n pa X k ∧ hkN n pa X k ≤ 1000 := by
  have h1 := hk_pos (X := X) F (hX.lt k hk)
  have h2 := hk_le F hX hk
  have h3 := hX.len
  exact ⟨List.mem_reverse.mpr hk, h1, by omega⟩
/-- lamps that burn at last, whose parents are dark -/
def dkP (pa : Nat → Option Nat) (Q : List Nat) (k : Nat) : Bool := match pa k with
  | none => false
  | some p => !decide (p ∈ Q)
theorem dkp_at {f g : Fm → Option D} {ρ : Fm} {k : Nat} (h1 : f ρ = some (oD (pa k))) (h2 : g ρ = some (tpN Q)) : fAnd (fBl (fOp2 (gIsN true) f (fC .none))) (fBl (fOp2 (gIn true) f g)) ρ = some (dkP pa Q k) := by
  have c1 : fBl (fOp2 (gIsN true) f (fC .none)) ρ = some (pa k).isSome := bl_at ((op2_at (g := gIsN true) (a := oD (pa k)) (b := .none) h1 rfl).trans (oD_isn _))
  unfold dkP
  cases h : pa k with
  | none =>
    rw [h] at c1
    exact and_f0 c1
  | some p =>
    rw [h] at c1 h1
    exact (and_at (a := true) c1 (bl_at ((op2_at (g := gIn true) (a := .int (p : Int)) (b := tpN Q) h1 h2).trans gNi_numsT))).trans rfl
abbrev mnS (P Q : List Nat) : List Nat := Q.filter fun x => !decide (x ∈ P)
theorem mn_stn (hQ : Stn n Q) : Stn n (mnS P Q) := ⟨hQ.asc.filter _, fun x h => hQ.lt x (List.mem_filter.mp h).1⟩
/-- words of lightings alone -/
def flwN (n : Nat) (pa : Nat → Option Nat) (P Q : List Nat) : Nat := if (mnS Q P).isEmpty = true ∧ ((mnS P Q).filter (dkP pa Q)).isEmpty = true then orN n pa (mnS P Q) else 0
theorem wy_all (F : Fst pa) (h40 : n ≤ 40) (hX : Stn n X) {p1 p2 u v : D} {fx : Fm → Option D} (hf : ∀ x5 z g L x8 x9, fx (fwFr n pa p1 p2 u v x5 z g L x8 x9) = some (lsN X)) :
    ∃ ρ', sSeq (sAll [6, 7] (mCons (mSh (up (fC (.int 1)))) (mCons (mNewD false) (mNil))))
    (sSeq (sFor (.one 5) (iSeq (fOp1 gRev fx)) (LF.b_forest_light_ways_l1))
    (sSeq (sFor (.tup [.one 8, .one 5]) (iEn fx) (LF.b_forest_light_ways_l2))
    (sSeq (sFor (.one 5) (iSeq fx) (LF.b_forest_light_ways_l3))
    (sRet (up (fVar 6)))))) [.sh (faD n pa), .sh p1, .sh p2, .sh u, .sh v, .no, .no, .no, .no, .no] = some (.rt (.int (orN n pa X : Nat)), ρ') := by
  obtain ⟨y5, e1⟩ := wy_for1 (p1 := p1) (p2 := p2) (u := u) (v := v) (x8 := .no) (x9 := .no) F h40 hX (z := 1) X.reverse [] .no (by rw [List.reverse_reverse, List.append_nil])
  obtain ⟨z5, z8, e2⟩ := wy_for2 (n := n) (pa := pa) (p1 := p1) (p2 := p2) (u := u) (v := v) (x9 := .no) (g := hkN n pa X) (L := X.reverse) X 0 1 y5 .no (by have := hX.len; omega)
  obtain ⟨w5, e3⟩ := wy_for3 (n := n) (pa := pa) (p1 := p1) (p2 := p2) (u := u) (v := v) (x8 := z8) (x9 := .no) (g := hkN n pa X) (L := X.reverse) X (facN X.length 0 1) z5 fun k hk => hk_div F h40 hX hk
  refine ⟨_, seq_go (ρ1 := fwFr n pa p1 p2 u v .no 1 (hkN n pa X) [] .no .no) rfl (seq_go (for_go (ds := nums X.reverse) ?_ e1) (seq_go (for_go (ds := enumD 0 (nums X)) ?_ e2) (seq_go (for_go (ds := nums X) ?_ e3) rfl)))⟩
  · unfold iSeq
    rw [op1_at (g := gRev) (hf ..)]
    show some (nums X).reverse = some (nums X.reverse)
    unfold nums
    rw [List.map_reverse]
  · unfold iEn
    rw [hf]
    rfl
  · unfold iSeq
    rw [hf]
    rfl
end
end LF
end
section
set_option Elab.async false
set_option linter.all false
set_option maxRecDepth 100000
/-! forest_light_ways, forest_quench_ways whole; the law's orders. -/
namespace LF
open PySem DL
open L2 (atI ixN)
section
variable {n : Nat} {P Q S X : List Nat} {pa : Nat → Option Nat} {x4 x5 x6 x8 x9 : B} {p1 p2 u v : D}
theorem forest_light_ways_ok (F : Fst pa) (h1 : 1 ≤ n) (h40 : n ≤ 40) (hP : Stn n P) (hQ : Stn n Q) : f_forest_light_ways [faD n pa, tpN P, tpN Q] = some (.int (flwN n pa P Q : Nat)) := by
  have hX : Stn n (mnS P Q) := mn_stn hQ
  have hl := hX.len
  let ρ0 : Fm := [.sh (faD n pa), .sh (tpN P), .sh (tpN Q), .sh (lsN (mnS P Q)), .sh (lsN (mnS Q P)), .no, .no, .no, .no, .no]
  have s1 : sDrop (up (fCall LF.f_need_two_43b8 (fCons (fVar 0) (fCons (fVar 1) (fCons (fVar 2) (fNil)))))) (startB 10 [faD n pa, tpN P, tpN Q]) = some (.nx, [.sh (faD n pa), .sh (tpN P), .sh (tpN Q), .no, .no, .no, .no, .no, .no, .no]) := dropv_at (d := .none) (call3_at (a := faD n pa) (b := tpN P) (c := tpN Q) rfl rfl rfl (fneed_two_ok F h1 h40 hP hQ))
  have s2 : sUnp [3, 4] (up (fCall LF.f_sides (fCons (fVar 1) (fCons (fVar 2) (fNil))))) [.sh (faD n pa), .sh (tpN P), .sh (tpN Q), .no, .no, .no, .no, .no, .no, .no] = some (.nx, ρ0) := unp2_at (call2_at (a := tpN P) (b := tpN Q) rfl rfl (fsides_ok hP hQ h40))
  have cnd : up (fOr (fBl (fOp2 gNe (fVar 4) (fLst (fNil)))) (fBl (fOp2 gNe (fLc [5] (.one 5) (iSeq (fVar 3)) (fAnd (fBl (fOp2 (gIsN true) (fOp2 gIx (fVar 0) (fVar 5)) (fC .none))) (fBl (fOp2 (gIn true) (fOp2 gIx (fVar 0) (fVar 5)) (fVar 2)))) (fVar 5)) (fLst (fNil))))) ρ0 = some (!(mnS Q P).isEmpty || !((mnS P Q).filter (dkP pa Q)).isEmpty, ρ0) := by
    have lc := lc_nums (vs := [5]) (v := 5) (fi := iSeq (fVar 3)) (fc := fAnd (fBl (fOp2 (gIsN true) (fOp2 gIx (fVar 0) (fVar 5)) (fC .none))) (fBl (fOp2 (gIn true) (fOp2 gIx (fVar 0) (fVar 5)) (fVar 2)))) (ρ := ρ0) (L := mnS P Q) (dkP pa Q) rfl (by omega) (fun _ => rfl) (by show 5 < 10; omega) fun k hk => dkp_at (pa := pa) (k := k) ((op2_at (g := gIx) (a := faD n pa) (b := .int (k : Int)) rfl rfl).trans (fa_ix (hX.lt k hk))) rfl
    exact up_at (or_at (bl_at ((op2_at (g := gNe) (a := lsN (mnS Q P)) (b := .list []) rfl rfl).trans (gNe_nilL _))) (bl_at ((op2_at (g := gNe) lc (b := .list []) rfl).trans (gNe_nilL _))))
  unfold f_forest_light_ways b_forest_light_ways flwN
  by_cases hb : (mnS Q P).isEmpty = true ∧ ((mnS P Q).filter (dkP pa Q)).isEmpty = true
  · rw [hb.1, hb.2] at cnd
    rw [if_pos hb]
    obtain ⟨ρ', e⟩ := wy_all F h40 hX (p1 := tpN P) (p2 := tpN Q) (u := lsN (mnS P Q)) (v := lsN (mnS Q P)) (fx := fVar 3) fun _ _ _ _ _ _ => rfl
    exact runP_rt (seq_go s1 (seq_go s2 (seq_go (if_no cnd) e)))
  · rw [if_neg hb]
    have hc : (!(mnS Q P).isEmpty || !((mnS P Q).filter (dkP pa Q)).isEmpty) = true := by
      cases h1 : (mnS Q P).isEmpty <;> cases h2 : ((mnS P Q).filter (dkP pa Q)).isEmpty <;> first | rfl | exact absurd ⟨h1, h2⟩ hb
    rw [hc] at cnd
    exact runP_rt (ρ' := ρ0) (seq_go s1 (seq_go s2 (seq_rt (if_go cnd rfl))))
/-! ### the law's orders -/
end
end LF
end
section
set_option Elab.async false
set_option linter.all false
set_option maxRecDepth 100000
/-! The law's states; the draws of the law of lightings in long forests. -/
namespace LF
open PySem DL
open L2 (atI ixN)
section
variable {n : Nat} {P Q S X : List Nat} {pa : Nat → Option Nat} {x4 x5 x6 x7 x8 x9 : B} {p1 p2 u v s : D}
/-! ### the draws of k33 -/
end
end LF
end
section
set_option Elab.async false
set_option linter.all false
set_option maxRecDepth 100000
/-! The law of lightings in long forests. -/
namespace LF
open PySem DL
open L2 (atI ixN)
section
variable {n : Nat} {P Q S X : List Nat} {pa : Nat → Option Nat} {s : D} {l : List D}
theorem rt_lt : ∀ k ∈ rtA n pa, k < n := fun k h => List.mem_range.mp (List.mem_filter.mp h).1
theorem rgT_at {f : Fm → Option D} {ρ : Fm} (h : f ρ = some (.int (n : Int))) (hn : n ≤ 1000) : fOp1 gRgT f ρ = some (tpN (List.range n)) := by
  refine (op1_at (g := gRgT) h).trans ?_
  show (if rgOk (n : Int) = true then some (PyData.tuple (rngD 0 (n : Int).toNat)) else none) = _
  rw [if_pos (by unfold rgOk; rw [decide_eq_true (by omega), decide_eq_true (by omega)]; rfl), Int.toNat_natCast, rng_nums]
theorem mn_nil (h : ∀ x ∈ Q, x ∈ P) : mnS P Q = [] := List.filter_eq_nil_iff.mpr fun x hx => by
  rw [Bool.not_eq_true, Bool.not_eq_false', decide_eq_true_eq]
  exact h x hx
theorem mem_mn {x : Nat} : x ∈ mnS P Q ↔ x ∈ Q ∧ x ∉ P := by
  rw [List.mem_filter, Bool.not_eq_true', decide_eq_false_iff_not]
theorem flw_ok (hs : ∀ x ∈ P, x ∈ Q) (hd : ∀ x ∈ Q, x ∈ P ∨ dkP pa Q x = false) : flwN n pa P Q = orN n pa (mnS P Q) := by
  unfold flwN
  refine if_pos ⟨by rw [mn_nil hs]; rfl, ?_⟩
  rw [List.isEmpty_iff, List.filter_eq_nil_iff]
  intro x hx
  have h := mem_mn.mp hx
  rw [(hd x h.1).resolve_left h.2]
  decide
end
end LF
end
section
set_option Elab.async false
set_option linter.all false
set_option maxRecDepth 100000
/-! Two forests beside one another. -/
namespace LF
open PySem DL
open L2 (atI ixN)
section
variable {n m : Nat} {A B : List (Nat × Nat)} {P Q S P' Q' S' : List Nat} {pa qa : Nat → Option Nat}
theorem sp_bsF (W : ∀ p ∈ A, p.1 < p.2 ∧ p.2 < n) (W' : ∀ p ∈ B, p.1 < p.2 ∧ p.2 < m) {P Q P' Q' : List Nat} (hP : Stn n P) (hQ : Stn n Q) (hP' : Stn m P') (hQ' : Stn m Q') : spF (n + m) (bsA n A B) (joN n P P') (joN n Q Q') = joN n (spF n A P Q) (spF m B P' Q') := by
  have hS : Stn n (spF n A P Q) := ⟨spF_asc, fun x h => spF_lt h⟩
  have hS' : Stn m (spF m B P' Q') := ⟨spF_asc, fun x h => spF_lt h⟩
  refine asc_same spF_asc (jo_stn hS hS').asc fun x => ⟨fun hx => ?_, fun hx => ?_⟩
  · refine spF_least (A := bsA n A B) (P := joN n P P') (Q := joN n Q Q') (S := joN n (spF n A P Q) (spF m B P' Q')) (fun y hy hd => ?_) x hx
    obtain ⟨⟨d1, d2⟩, d3⟩ := ndB_iff.mp hd
    by_cases hyn : y < n
    · rw [jo_lo hP hyn] at d1
      rw [jo_lo hQ hyn] at d2
      refine (jo_lo hS hyn).mpr (spF_closed hyn (ndB_iff.mpr ⟨⟨d1, d2⟩, ?_⟩))
      rcases d3 with ⟨j, j1, j2⟩ | ⟨j, j1, j2⟩
      · have j1 : (y, j) ∈ A := (mem_bs.mp j1).resolve_right fun z => by simp only at z; omega
        have hj : j < n := (W _ j1).2
        rw [jo_lo hS hj, jo_lo hP hj, jo_lo hQ hj] at j2
        exact .inl ⟨j, j1, j2⟩
      · have j1 : (j, y) ∈ A := (mem_bs.mp j1).resolve_right fun z => by simp only at z; omega
        have hj : j < n := by have := W _ j1; simp only at this; omega
        rw [jo_lo hS hj, jo_lo hP hj, jo_lo hQ hj] at j2
        exact .inr ⟨j, j1, j2⟩
    · obtain ⟨z, rfl⟩ : ∃ z, y = z + n := ⟨y - n, by omega⟩
      rw [jo_hi hP] at d1
      rw [jo_hi hQ] at d2
      refine (jo_hi hS).mpr (spF_closed (by omega) (ndB_iff.mpr ⟨⟨d1, d2⟩, ?_⟩))
      rcases d3 with ⟨j, j1, j2⟩ | ⟨j, j1, j2⟩
      · have j1 := (mem_bs.mp j1).resolve_left fun h => by have := W _ h; simp only at this; omega
        simp only at j1
        obtain ⟨i, rfl⟩ : ∃ i, j = i + n := ⟨j - n, by omega⟩
        rw [Nat.add_sub_cancel, Nat.add_sub_cancel] at j1
        rw [jo_hi hS, jo_hi hP, jo_hi hQ] at j2
        exact .inl ⟨i, j1.2.2, j2⟩
      · have j1 := (mem_bs.mp j1).resolve_left fun h => by have := W _ h; simp only at this; omega
        simp only at j1
        obtain ⟨i, rfl⟩ : ∃ i, j = i + n := ⟨j - n, by omega⟩
        rw [Nat.add_sub_cancel, Nat.add_sub_cancel] at j1
        rw [jo_hi hS, jo_hi hP, jo_hi hQ] at j2
        exact .inr ⟨i, j1.2.2, j2⟩
  · have k1 : ∀ z ∈ spF n A P Q, z ∈ spF (n + m) (bsA n A B) (joN n P P') (joN n Q Q') := by
      have h := spF_least (A := A) (P := P) (Q := Q) (S := (List.range n).filter fun z => decide (z ∈ spF (n + m) (bsA n A B) (joN n P P') (joN n Q Q'))) (n := n) (fun y hy hd => ?_)
      · exact fun z hz => of_decide_eq_true (List.mem_filter.mp (h z hz)).2
      obtain ⟨⟨d1, d2⟩, d3⟩ := ndB_iff.mp hd
      have cv : ∀ {j : Nat}, j ∈ (List.range n).filter (fun z => decide (z ∈ spF (n + m) (bsA n A B) (joN n P P') (joN n Q Q'))) → j ∈ spF (n + m) (bsA n A B) (joN n P P') (joN n Q Q') := fun z => of_decide_eq_true (List.mem_filter.mp z).2
      refine List.mem_filter.mpr ⟨List.mem_range.mpr hy, decide_eq_true (spF_closed (by omega) (ndB_iff.mpr ⟨⟨fun z => d1 ((jo_lo hP hy).mp z), fun z => d2 ((jo_lo hQ hy).mp z)⟩, ?_⟩))⟩
      rcases d3 with ⟨j, j1, j2⟩ | ⟨j, j1, j2⟩
      · have hj : j < n := (W _ j1).2
        exact .inl ⟨j, mem_bs.mpr (.inl j1), j2.imp cv fun z => ⟨(jo_lo hQ hj).mpr z.1, fun y => z.2 ((jo_lo hP hj).mp y)⟩⟩
      · have hj : j < n := by have := W _ j1; simp only at this; omega
        exact .inr ⟨j, mem_bs.mpr (.inl j1), j2.imp cv fun z => ⟨(jo_lo hP hj).mpr z.1, fun y => z.2 ((jo_lo hQ hj).mp y)⟩⟩
    have k2 : ∀ z ∈ spF m B P' Q', z + n ∈ spF (n + m) (bsA n A B) (joN n P P') (joN n Q Q') := by
      have h := spF_least (A := B) (P := P') (Q := Q') (S := (List.range m).filter fun z => decide (z + n ∈ spF (n + m) (bsA n A B) (joN n P P') (joN n Q Q'))) (n := m) (fun y hy hd => ?_)
      · exact fun z hz => of_decide_eq_true (List.mem_filter.mp (h z hz)).2
      obtain ⟨⟨d1, d2⟩, d3⟩ := ndB_iff.mp hd
      have cv : ∀ {j : Nat}, j ∈ (List.range m).filter (fun z => decide (z + n ∈ spF (n + m) (bsA n A B) (joN n P P') (joN n Q Q'))) → j + n ∈ spF (n + m) (bsA n A B) (joN n P P') (joN n Q Q') := fun z => of_decide_eq_true (List.mem_filter.mp z).2
      refine List.mem_filter.mpr ⟨List.mem_range.mpr hy, decide_eq_true (spF_closed (by omega) (ndB_iff.mpr ⟨⟨fun z => d1 ((jo_hi hP).mp z), fun z => d2 ((jo_hi hQ).mp z)⟩, ?_⟩))⟩
      rcases d3 with ⟨j, j1, j2⟩ | ⟨j, j1, j2⟩
      · exact .inl ⟨j + n, mem_bs.mpr (.inr ⟨by simp, by simp, by simpa using j1⟩), j2.imp cv fun z => ⟨(jo_hi hQ).mpr z.1, fun y => z.2 ((jo_hi hP).mp y)⟩⟩
      · exact .inr ⟨j + n, mem_bs.mpr (.inr ⟨by simp, by simp, by simpa using j1⟩), j2.imp cv fun z => ⟨(jo_hi hP).mpr z.1, fun y => z.2 ((jo_hi hQ).mp y)⟩⟩
    rcases mem_jo.mp hx with h | ⟨h1, h2⟩
    · exact k1 x h
    · have := k2 _ h2
      rwa [Nat.sub_add_cancel h1] at this
/-- two forests beside one another -/
def joF (n : Nat) (pa qa : Nat → Option Nat) (k : Nat) : Option Nat := if k < n then pa k else (qa (k - n)).map (· + n)
theorem joF_lo {k : Nat} (h : k < n) : joF n pa qa k = pa k := if_pos h
theorem joF_hi {k : Nat} : joF n pa qa (k + n) = (qa k).map (· + n) := by
  unfold joF
  rw [if_neg (by omega), Nat.add_sub_cancel]
theorem joF_fst (F : Fst pa) (G : Fst qa) : Fst (joF n pa qa) := fun k p h => by
  by_cases hk : k < n
  · rw [joF_lo hk] at h
    exact F k p h
  · obtain ⟨j, rfl⟩ : ∃ j, k = j + n := ⟨k - n, by omega⟩
    rw [joF_hi] at h
    obtain ⟨q, h1, rfl⟩ := Option.map_eq_some_iff.mp h
    have := G j q h1
    omega
theorem rng_add : List.range (n + m) = List.range n ++ (List.range m).map (· + n) := by
  rw [List.range_add]
  congr 1
  exact List.map_congr_left fun x _ => Nat.add_comm _ _
theorem fil_jo {f g h : Nat → Bool} (e1 : ∀ k, k < n → f k = g k) (e2 : ∀ k, k < m → f (k + n) = h k) : (List.range (n + m)).filter f = joN n ((List.range n).filter g) ((List.range m).filter h) := by
  rw [rng_add, List.filter_append, List.filter_map]
  unfold joN
  congr 1
  · exact List.filter_congr fun k hk => e1 k (List.mem_range.mp hk)
  · congr 1
    exact List.filter_congr fun k hk => e2 k (List.mem_range.mp hk)
theorem ok_fsA (F : Fst pa) : ∀ p ∈ fsA n pa, p.1 < p.2 ∧ p.2 < n := fun p hp => by
  obtain ⟨a, b⟩ := p
  have h := mem_fsA.mp hp
  exact ⟨F b a h.2, h.1⟩
theorem fmap_congr {α β : Type} {f g : α → Option β} : ∀ L : List α, (∀ x ∈ L, f x = g x) → L.filterMap f = L.filterMap g
  | [], _ => rfl
  | x :: L, h => by
    rw [List.filterMap_cons, List.filterMap_cons, h x (.head _), fmap_congr L fun y hy => h y (.tail _ hy)]
theorem fsA_jo : fsA (n + m) (joF n pa qa) = bsA n (fsA n pa) (fsA m qa) := by
  unfold fsA bsA
  rw [rng_add, List.filterMap_append, List.filterMap_map, List.map_filterMap]
  congr 1
  · exact fmap_congr _ fun k hk => by rw [joF_lo (List.mem_range.mp hk)]
  · refine fmap_congr _ fun k _ => ?_
    show (joF n pa qa (k + n)).map (fun p => (p, k + n)) = ((qa k).map fun p => (p, k)).map fun p => (p.1 + n, p.2 + n)
    rw [joF_hi]
    cases qa k <;> rfl
theorem foS_jo (F : Fst pa) (G : Fst qa) (hP : Stn n P) (hQ : Stn n Q) (hP' : Stn m P') (hQ' : Stn m Q') : foS (n + m) (joF n pa qa) (joN n P P') (joN n Q Q') = joN n (foS n pa P Q) (foS m qa P' Q') := by
  unfold foS
  rw [fsA_jo]
  exact sp_bsF (ok_fsA F) (ok_fsA G) hP hQ hP' hQ'
theorem flB_lo (F : Fst pa) (G : Fst qa) (hP : Stn n P) (hQ : Stn n Q) (hP' : Stn m P') (hQ' : Stn m Q') {k : Nat} (hk : k < n) : flB (n + m) (joF n pa qa) (joN n P P') (joN n Q Q') k = flB n pa P Q k := by
  unfold flB
  rw [foS_jo F G hP hQ hP' hQ', decide_eq_decide.mpr (jo_lo hQ hk), decide_eq_decide.mpr (jo_lo hP hk), decide_eq_decide.mpr (jo_lo (spF_stn (n := n) (A := fsA n pa)) hk)]
theorem flB_hi (F : Fst pa) (G : Fst qa) (hP : Stn n P) (hQ : Stn n Q) (hP' : Stn m P') (hQ' : Stn m Q') {k : Nat} : flB (n + m) (joF n pa qa) (joN n P P') (joN n Q Q') (k + n) = flB m qa P' Q' k := by
  unfold flB
  rw [foS_jo F G hP hQ hP' hQ', decide_eq_decide.mpr (jo_hi hQ), decide_eq_decide.mpr (jo_hi hP), decide_eq_decide.mpr (jo_hi (spF_stn (n := n) (A := fsA n pa)))]
theorem fxB_lo (F : Fst pa) (G : Fst qa) (hP : Stn n P) (hQ : Stn n Q) (hP' : Stn m P') (hQ' : Stn m Q') {k : Nat} (hk : k < n) : fxB (n + m) (joF n pa qa) (joN n P P') (joN n Q Q') k = fxB n pa P Q k := by
  unfold fxB
  rw [foS_jo F G hP hQ hP' hQ', decide_eq_decide.mpr (jo_lo hQ hk), decide_eq_decide.mpr (jo_lo hP hk), decide_eq_decide.mpr (jo_lo (spF_stn (n := n) (A := fsA n pa)) hk)]
theorem fxB_hi (F : Fst pa) (G : Fst qa) (hP : Stn n P) (hQ : Stn n Q) (hP' : Stn m P') (hQ' : Stn m Q') {k : Nat} : fxB (n + m) (joF n pa qa) (joN n P P') (joN n Q Q') (k + n) = fxB m qa P' Q' k := by
  unfold fxB
  rw [foS_jo F G hP hQ hP' hQ', decide_eq_decide.mpr (jo_hi hQ), decide_eq_decide.mpr (jo_hi hP), decide_eq_decide.mpr (jo_hi (spF_stn (n := n) (A := fsA n pa)))]
theorem fw_jo (F : Fst pa) (G : Fst qa) (hP : Stn n P) (hQ : Stn n Q) (hP' : Stn m P') (hQ' : Stn m Q') : (fwW (n + m) (joF n pa qa) (joN n P P') (joN n Q Q')).length = (fwW n pa P Q).length + (fwW m qa P' Q').length := by
  unfold fwW flN fxN
  rw [fil_jo (g := flB n pa P Q) (h := flB m qa P' Q') (fun k hk => flB_lo F G hP hQ hP' hQ' hk) fun k _ => flB_hi F G hP hQ hP' hQ', fil_jo (g := fxB n pa P Q) (h := fxB m qa P' Q') (fun k hk => fxB_lo F G hP hQ hP' hQ' hk) fun k _ => fxB_hi F G hP hQ hP' hQ']
  unfold joN
  rw [List.length_append, List.length_append, List.length_append, List.length_append, List.length_append, List.length_map, List.length_map]
  omega
/-! ### words of both -/
theorem fil_no (L : List Nat) : L.filter (fun _ => false) = [] := List.filter_eq_nil_iff.mpr fun _ _ => Bool.false_ne_true
theorem fc_lo {k : Nat} (hk : k < n) : fcL (n + m) (joF n pa qa) k = fcL n pa k := by
  unfold fcL
  rw [fil_jo (g := fun j => decide (pa j = some k)) (h := fun _ => false) (fun j hj => by rw [joF_lo hj]) fun j _ => ?_]
  · unfold joN
    rw [fil_no (List.range m), List.map_nil, List.append_nil]
  · rw [joF_hi, decide_eq_false_iff_not]
    intro e
    obtain ⟨q, _, e⟩ := Option.map_eq_some_iff.mp e
    omega
theorem fc_hi (F : Fst pa) {k : Nat} : fcL (n + m) (joF n pa qa) (k + n) = (fcL m qa k).map (· + n) := by
  unfold fcL
  rw [fil_jo (g := fun _ => false) (h := fun j => decide (qa j = some k)) (fun j hj => ?_) fun j _ => ?_]
  · unfold joN
    rw [fil_no (List.range n), List.nil_append]
  · rw [joF_lo hj, decide_eq_false_iff_not]
    intro e
    have := F j _ e
    omega
  · rw [joF_hi, decide_eq_decide]
    constructor
    · intro e
      obtain ⟨q, h, e⟩ := Option.map_eq_some_iff.mp e
      rw [h, show q = k by omega]
    · intro e
      rw [e]
      rfl
theorem fok_lo (hS : Stn n S) {k : Nat} (hk : k < n) : fokB (n + m) (joF n pa qa) (joN n S S') k = fokB n pa S k ∨ ¬ Fst pa := by
  by_cases F : Fst pa
  · left
    unfold fokB
    rw [fc_lo hk, joF_lo hk]
    by_cases h : k ∈ S
    · rw [if_pos ((jo_lo hS hk).mpr h), if_pos h]
      congr 1
      exact List.filter_congr fun j hj => by rw [decide_eq_decide.mpr (jo_lo hS (mem_ch.mp hj).1)]
    · rw [if_neg fun z => h ((jo_lo hS hk).mp z), if_neg h]
      cases e : pa k with
      | none => rfl
      | some p =>
        show decide (p ∈ joN n S S') = decide (p ∈ S)
        have := F k p e
        rw [decide_eq_decide.mpr (jo_lo hS (by omega))]
  · exact .inr F
theorem fok_hi (F : Fst pa) (hS : Stn n S) {k : Nat} : fokB (n + m) (joF n pa qa) (joN n S S') (k + n) = fokB m qa S' k := by
  unfold fokB
  rw [fc_hi F, joF_hi]
  by_cases h : k ∈ S'
  · rw [if_pos ((jo_hi hS).mpr h), if_pos h, List.filter_map]
    rw [List.isEmpty_map]
    congr 1
    exact List.filter_congr fun j hj => by
      show (!decide (j + n ∈ joN n S S')) = _
      rw [decide_eq_decide.mpr (jo_hi hS)]
  · rw [if_neg fun z => h ((jo_hi hS).mp z), if_neg h]
    cases e : qa k with
    | none => rfl
    | some p =>
      show decide (p + n ∈ joN n S S') = decide (p ∈ S')
      rw [decide_eq_decide.mpr (jo_hi hS)]
theorem tg_lo (hS : Stn n S) (hS' : Stn m S') {k : Nat} (hk : k < n) : tgN (n + m) (joN n S S') k = joN n (tgN n S k) S' := by
  unfold tgN
  rw [fil_jo (g := fun x => decide (x ∈ S) != decide (x = k)) (h := fun x => decide (x ∈ S')) (fun x hx => by rw [decide_eq_decide.mpr (jo_lo hS hx)]) fun x _ => by
    rw [decide_eq_decide.mpr (jo_hi hS), decide_eq_false (show ¬ x + n = k by omega)]
    cases decide (x ∈ S') <;> rfl]
  congr 1
  exact asc_same ((asc_range m).filter _) hS'.asc fun x => by
    rw [List.mem_filter, List.mem_range, decide_eq_true_eq]
    exact ⟨fun h => h.2, fun h => ⟨hS'.lt x h, h⟩⟩
theorem tg_hi (hS : Stn n S) {k : Nat} : tgN (n + m) (joN n S S') (k + n) = joN n S (tgN m S' k) := by
  unfold tgN
  rw [fil_jo (g := fun x => decide (x ∈ S)) (h := fun x => decide (x ∈ S') != decide (x = k)) (fun x hx => by
    rw [decide_eq_decide.mpr (jo_lo hS hx), decide_eq_false (show ¬ x = k + n by omega)]
    cases decide (x ∈ S) <;> rfl) fun x _ => by
    rw [decide_eq_decide.mpr (jo_hi hS), decide_eq_decide.mpr (show x + n = k + n ↔ x = k by omega)]]
  congr 1
  exact asc_same ((asc_range n).filter _) hS.asc fun x => by
    rw [List.mem_filter, List.mem_range, decide_eq_true_eq]
    exact ⟨fun h => h.2, fun h => ⟨hS.lt x h, h⟩⟩
theorem run_lo (F : Fst pa) (hS' : Stn m S') {R : List Nat} : ∀ (w : List Nat) (S T : List Nat), Stn n S → (∀ k ∈ w, k < n) → frun n pa w S = some T → frun (n + m) (joF n pa qa) (w ++ R) (joN n S S') = frun (n + m) (joF n pa qa) R (joN n T S')
  | [], S, T, _, _, h => by
    cases h
    rfl
  | k :: w, S, T, hS, hk, h => by
    have hkn := hk k (.head _)
    unfold frun at h
    show (if fokB (n + m) (joF n pa qa) (joN n S S') k = true then frun (n + m) (joF n pa qa) (w ++ R) (tgN (n + m) (joN n S S') k) else none) = _
    rw [(fok_lo hS hkn).resolve_right fun z => z F, tg_lo hS hS' hkn]
    by_cases h1 : fokB n pa S k = true
    · rw [if_pos h1] at h ⊢
      exact run_lo F hS' w _ T tgN_stn (fun j hj => hk j (.tail _ hj)) h
    · rw [if_neg h1] at h
      cases h
theorem run_hi (F : Fst pa) (hS : Stn n S) : ∀ (w : List Nat) (S' T' : List Nat), frun m qa w S' = some T' → frun (n + m) (joF n pa qa) (w.map (· + n)) (joN n S S') = some (joN n S T')
  | [], S', T', h => by
    cases h
    rfl
  | k :: w, S', T', h => by
    unfold frun at h
    show (if fokB (n + m) (joF n pa qa) (joN n S S') (k + n) = true then frun (n + m) (joF n pa qa) (w.map (· + n)) (tgN (n + m) (joN n S S') (k + n)) else none) = _
    rw [fok_hi F hS, tg_hi hS]
    by_cases h1 : fokB m qa S' k = true
    · rw [if_pos h1] at h ⊢
      exact run_hi F hS w _ T' h
    · rw [if_neg h1] at h
      cases h
theorem run_jo (F : Fst pa) (G : Fst qa) (hP : Stn n P) (hQ : Stn n Q) (hP' : Stn m P') (hQ' : Stn m Q') : frun (n + m) (joF n pa qa) (joN n (fwW n pa P Q) (fwW m qa P' Q')) (joN n P P') = some (joN n Q Q') := by
  unfold joN
  have h1 := run_lo (qa := qa) F hP' (R := (fwW m qa P' Q').map (· + n)) (fwW n pa P Q) P Q hP fwW_lt (fword_leads F hP hQ)
  have h2 := run_hi (qa := qa) F hQ (fwW m qa P' Q') P' Q' (fword_leads G hP' hQ')
  unfold joN at h1 h2
  exact h1.trans h2
/-! ### states of both -/
theorem prod_map {f : Nat → Nat} {g : Nat → Nat} : ∀ L : List Nat, prodN f (L.map g) = prodN (fun k => f (g k)) L
  | [] => rfl
  | k :: L => by
    show f (g k) * _ = f (g k) * _
    rw [prod_map L]
theorem ld_lo (F : Fst pa) (G : Fst qa) (hP : Stn n P) : ∀ (f k : Nat), n - k ≤ f → k < n → liV (n + m) (joF n pa qa) (joN n P P') k = liV n pa P k ∧ daV (n + m) (joF n pa qa) (joN n P P') k = daV n pa P k
  | 0, k, h, hk => by omega
  | f + 1, k, h, hk => by
    have ih : ∀ c ∈ fcL n pa k, liV (n + m) (joF n pa qa) (joN n P P') c = liV n pa P c ∧ daV (n + m) (joF n pa qa) (joN n P P') c = daV n pa P c ∧ (c ∈ joN n P P' ↔ c ∈ P) := fun c hc => by
      have h2 := ch_gt F hc
      have h3 := ld_lo F G hP f c (by omega) h2.2
      exact ⟨h3.1, h3.2, jo_lo hP h2.2⟩
    rw [li_eq (joF_fst F G) (by omega), da_eq (joF_fst F G) (by omega), li_eq F hk, da_eq F hk, fc_lo hk]
    refine ⟨prod_congr _ fun c hc => ?_, prod_congr _ fun c hc => ?_⟩
    · obtain ⟨h1, h2, h3⟩ := ih c hc
      unfold upV
      simp only [h1, h2, h3]
    · obtain ⟨h1, h2, h3⟩ := ih c hc
      unfold dkV
      simp only [h1, h2, h3]
theorem ld_hi (F : Fst pa) (G : Fst qa) (hP : Stn n P) : ∀ (f k : Nat), m - k ≤ f → k < m → liV (n + m) (joF n pa qa) (joN n P P') (k + n) = liV m qa P' k ∧ daV (n + m) (joF n pa qa) (joN n P P') (k + n) = daV m qa P' k
  | 0, k, h, hk => by omega
  | f + 1, k, h, hk => by
    have ih : ∀ c ∈ fcL m qa k, liV (n + m) (joF n pa qa) (joN n P P') (c + n) = liV m qa P' c ∧ daV (n + m) (joF n pa qa) (joN n P P') (c + n) = daV m qa P' c ∧ (c + n ∈ joN n P P' ↔ c ∈ P') := fun c hc => by
      have h2 := ch_gt G hc
      have h3 := ld_hi F G hP f c (by omega) h2.2
      exact ⟨h3.1, h3.2, jo_hi hP⟩
    rw [li_eq (joF_fst F G) (by omega), da_eq (joF_fst F G) (by omega), li_eq G hk, da_eq G hk, fc_hi F, prod_map, prod_map]
    refine ⟨prod_congr _ fun c hc => ?_, prod_congr _ fun c hc => ?_⟩
    · obtain ⟨h1, h2, h3⟩ := ih c hc
      unfold upV
      simp only [h1, h2, h3]
    · obtain ⟨h1, h2, h3⟩ := ih c hc
      unfold dkV
      simp only [h1, h2, h3]
theorem rt_jo : rtA (n + m) (joF n pa qa) = joN n (rtA n pa) (rtA m qa) := by
  unfold rtA
  refine fil_jo (fun k hk => by rw [joF_lo hk]) fun k _ => ?_
  rw [joF_hi, decide_eq_decide]
  exact Option.map_eq_none_iff
theorem states_jo (F : Fst pa) (G : Fst qa) (hP : Stn n P) : prodN (upV (n + m) (joF n pa qa) (joN n P P')) (rtA (n + m) (joF n pa qa)) = prodN (upV n pa P) (rtA n pa) * prodN (upV m qa P') (rtA m qa) := by
  rw [rt_jo]
  unfold joN
  rw [prod_app, prod_map]
  congr 1
  · refine prod_congr _ fun k hk => ?_
    have h := rt_lt k hk
    have h2 := ld_lo (m := m) (P' := P') F G hP n k (by omega) h
    have h3 := jo_lo (P' := P') hP h
    unfold joN at h2 h3
    unfold upV
    simp only [h2.1, h2.2, h3]
  · refine prod_congr _ fun k hk => ?_
    have h := rt_lt k hk
    have h2 := ld_hi (m := m) (P' := P') F G hP m k (by omega) h
    have h3 := jo_hi (P' := P') (x := k) hP
    unfold joN at h2 h3
    unfold upV
    simp only [h2.1, h2.2, h3]
theorem hkA_sum (F : Fst pa) : ((rtA n pa).map (hkA n pa)).sum = n := by
  have h := hk_sum F (rng_stn (n := n))
  rw [List.length_range] at h
  have e : rtX pa (List.range n) = rtA n pa := by
    unfold rtX rtA
    refine List.filter_congr fun k hk => ?_
    cases e : pa k with
    | none => rfl
    | some p =>
      have := F k p e
      have hk := List.mem_range.mp hk
      show (!decide (p ∈ List.range n)) = decide (some p = none)
      rw [decide_eq_true (List.mem_range.mpr (show p < n by omega))]
      rfl
  rw [e] at h
  exact h
theorem states_small (F : Fst pa) (h40 : n ≤ 40) : prodN (upV n pa P) (rtA n pa) < 18446744073709551616 := by
  have h := prod_pow (f := upV n pa P) (e := hkA n pa) (rtA n pa) fun k hk => (ld_bound (P := P) F n k (by omega) (rt_lt k hk)).2.2.1
  rw [hkA_sum F] at h
  have h2 : 2 ^ n ≤ 2 ^ 40 := Nat.pow_le_pow_right (by omega) h40
  have e : (2 : Nat) ^ 40 = 1099511627776 := by decide
  omega
end
end LF
end
section
set_option Elab.async false
set_option linter.all false
set_option maxRecDepth 100000
/-! A forest under one lamp; three standings. -/
namespace LF
open PySem DL
open L2 (atI ixN)
section
variable {n m : Nat} {A : List (Nat × Nat)} {P Q S R : List Nat} {pa : Nat → Option Nat}
/-- a forest under one lamp -/
def unF (pa : Nat → Option Nat) : Nat → Option Nat
  | 0 => none
  | k + 1 => some (match pa k with
    | none => 0
    | some p => p + 1)
theorem un_none {k : Nat} (h : pa k = none) : unF pa (k + 1) = some 0 := by
  show some (match pa k with
    | none => 0
    | some p => p + 1) = some 0
  rw [h]
theorem un_some {k p : Nat} (h : pa k = some p) : unF pa (k + 1) = some (p + 1) := by
  show some (match pa k with
    | none => 0
    | some p => p + 1) = some (p + 1)
  rw [h]
theorem unF_fst (F : Fst pa) : Fst (unF pa) := fun k p h => by
  cases k with
  | zero => cases h
  | succ k =>
    cases e : pa k with
    | none =>
      rw [un_none e] at h
      cases h
      omega
    | some q =>
      rw [un_some e] at h
      cases h
      have := F k q e
      omega
theorem un_up {k p : Nat} : unF pa (k + 1) = some (p + 1) ↔ pa k = some p := by
  cases e : pa k with
  | none =>
    rw [un_none e]
    exact ⟨fun h => (by cases h), fun h => (by cases h)⟩
  | some q =>
    rw [un_some e]
    exact ⟨fun h => (by cases h; rfl), fun h => (by cases h; rfl)⟩
theorem un_rt {k : Nat} : unF pa (k + 1) = some 0 ↔ pa k = none := by
  cases e : pa k with
  | none => exact ⟨fun _ => rfl, fun _ => un_none e⟩
  | some q =>
    rw [un_some e]
    exact ⟨fun h => (by cases h), fun h => (by cases h)⟩
abbrev shS (P : List Nat) : List Nat := P.map (· + 1)
abbrev unS (P : List Nat) : List Nat := 0 :: shS P
theorem mem_sh {k : Nat} : k + 1 ∈ shS P ↔ k ∈ P := by
  rw [List.mem_map]
  exact ⟨fun ⟨y, h, e⟩ => by rw [← show y = k by omega]; exact h, fun h => ⟨k, h, rfl⟩⟩
theorem sh_no : 0 ∉ shS P := fun h => by
  obtain ⟨y, _, e⟩ := List.mem_map.mp h
  omega
theorem mem_un {k : Nat} : k + 1 ∈ unS P ↔ k ∈ P := by
  rw [List.mem_cons, mem_sh]
  exact ⟨fun h => h.resolve_left fun z => by omega, .inr⟩
theorem sh_stn (hP : Stn n P) : Stn (n + 1) (shS P) := ⟨by
  rw [List.pairwise_map]
  exact hP.asc.imp fun h => by omega, fun x h => by
  obtain ⟨y, h1, rfl⟩ := List.mem_map.mp h
  have := hP.lt y h1
  omega⟩
theorem un_stn (hP : Stn n P) : Stn (n + 1) (unS P) := ⟨List.pairwise_cons.mpr ⟨fun x h => by
  obtain ⟨y, _, rfl⟩ := List.mem_map.mp h
  omega, (sh_stn hP).asc⟩, fun x h => by
  rcases List.mem_cons.mp h with rfl | h
  · omega
  · exact (sh_stn hP).lt x h⟩
theorem rng_sh : List.range (n + 1) = unS (List.range n) := List.range_succ_eq_map
theorem foS_un (F : Fst pa) : foS (n + 1) (unF pa) (unS P) (unS Q) = shS (foS n pa P Q) := by
  refine asc_same spF_asc (sh_stn spF_stn).asc fun x => ⟨fun hx => ?_, fun hx => ?_⟩
  · refine spF_least (A := fsA (n + 1) (unF pa)) (P := unS P) (Q := unS Q) (S := shS (foS n pa P Q)) (fun y hy hd => ?_) x hx
    obtain ⟨⟨d1, d2⟩, d3⟩ := ndB_iff.mp hd
    cases y with
    | zero => exact absurd (.head _) d1
    | succ y =>
      rw [mem_un] at d1 d2
      refine mem_sh.mpr (spF_closed (by omega) (ndB_iff.mpr ⟨⟨d1, d2⟩, ?_⟩))
      rcases d3 with ⟨j, j1, j2⟩ | ⟨j, j1, j2⟩
      · obtain ⟨j3, j4⟩ := mem_fsA.mp j1
        cases j with
        | zero => cases j4
        | succ j =>
          rw [mem_sh, mem_un, mem_un] at j2
          exact .inl ⟨j, mem_fsA.mpr ⟨by omega, un_up.mp j4⟩, j2⟩
      · obtain ⟨j3, j4⟩ := mem_fsA.mp j1
        cases j with
        | zero =>
          rcases j2 with h | h
          · exact absurd h sh_no
          · exact absurd (.head _) h.2
        | succ j =>
          rw [mem_sh, mem_un, mem_un] at j2
          exact .inr ⟨j, mem_fsA.mpr ⟨by omega, un_up.mp j4⟩, j2⟩
  · obtain ⟨z, hz, rfl⟩ := List.mem_map.mp hx
    have h := spF_least (A := fsA n pa) (P := P) (Q := Q) (S := (List.range n).filter fun z => decide (z + 1 ∈ foS (n + 1) (unF pa) (unS P) (unS Q))) (n := n) (fun y hy hd => ?_)
    · exact of_decide_eq_true (List.mem_filter.mp (h z hz)).2
    obtain ⟨⟨d1, d2⟩, d3⟩ := ndB_iff.mp hd
    have cv : ∀ {j : Nat}, j ∈ (List.range n).filter (fun z => decide (z + 1 ∈ foS (n + 1) (unF pa) (unS P) (unS Q))) → j + 1 ∈ foS (n + 1) (unF pa) (unS P) (unS Q) := fun z => of_decide_eq_true (List.mem_filter.mp z).2
    refine List.mem_filter.mpr ⟨List.mem_range.mpr hy, decide_eq_true (spF_closed (by omega) (ndB_iff.mpr ⟨⟨fun z => d1 (mem_un.mp z), fun z => d2 (mem_un.mp z)⟩, ?_⟩))⟩
    rcases d3 with ⟨j, j1, j2⟩ | ⟨j, j1, j2⟩
    · obtain ⟨j3, j4⟩ := mem_fsA.mp j1
      exact .inl ⟨j + 1, mem_fsA.mpr ⟨by omega, un_up.mpr j4⟩, j2.imp cv fun z => ⟨mem_un.mpr z.1, fun y => z.2 (mem_un.mp y)⟩⟩
    · obtain ⟨j3, j4⟩ := mem_fsA.mp j1
      exact .inr ⟨j + 1, mem_fsA.mpr ⟨by omega, un_up.mpr j4⟩, j2.imp cv fun z => ⟨mem_un.mpr z.1, fun y => z.2 (mem_un.mp y)⟩⟩
theorem fil_un {f g : Nat → Bool} (h0 : f 0 = false) (h : ∀ k, f (k + 1) = g k) : ((List.range (n + 1)).filter f).length = ((List.range n).filter g).length := by
  rw [List.range_succ_eq_map, List.filter_cons, if_neg (by rw [h0]; decide), List.filter_map, List.length_map]
  congr 1
  exact List.filter_congr fun k _ => h k
theorem fw_un (F : Fst pa) : (fwW (n + 1) (unF pa) (unS P) (unS Q)).length = (fwW n pa P Q).length := by
  have e0 : decide (0 ∈ foS (n + 1) (unF pa) (unS P) (unS Q)) = false := by
    rw [foS_un F]
    exact decide_eq_false sh_no
  have e1 : ∀ k, decide (k + 1 ∈ foS (n + 1) (unF pa) (unS P) (unS Q)) = decide (k ∈ foS n pa P Q) := fun k => by
    rw [foS_un F]
    exact decide_eq_decide.mpr mem_sh
  have t0 : ∀ L : List Nat, decide (0 ∈ unS L) = true := fun L => decide_eq_true (.head _)
  have t1 : ∀ (L : List Nat) (k : Nat), decide (k + 1 ∈ unS L) = decide (k ∈ L) := fun L k => decide_eq_decide.mpr mem_un
  unfold fwW flN fxN
  rw [List.length_append, List.length_append, fil_un (g := flB n pa P Q) (by unfold flB; rw [e0, t0, t0]; rfl) fun k => by unfold flB; rw [e1, t1, t1], fil_un (g := fxB n pa P Q) (by unfold fxB; rw [e0, t0, t0]; rfl) fun k => by unfold fxB; rw [e1, t1, t1]]
/-! ### all lit -/
theorem fac_last : ∀ (m j z : Nat), facN (m + 1) j z = facN m j z * (j + m + 1)
  | 0, j, z => rfl
  | m + 1, j, z => by
    show facN (m + 1) (j + 1) (z * (j + 1)) = facN m (j + 1) (z * (j + 1)) * _
    rw [fac_last m (j + 1) (z * (j + 1))]
    congr 1
    omega
theorem fc_un {k : Nat} : fcL (n + 1) (unF pa) (k + 1) = shS (fcL n pa k) := by
  unfold fcL
  rw [List.range_succ_eq_map, List.filter_cons, if_neg (by rw [decide_eq_true_eq]; intro h; cases h), List.filter_map]
  show List.map (· + 1) _ = _
  congr 1
  exact List.filter_congr fun j _ => decide_eq_decide.mpr un_up
theorem fc_un0 : fcL (n + 1) (unF pa) 0 = shS (rtA n pa) := by
  unfold fcL rtA
  rw [List.range_succ_eq_map, List.filter_cons, if_neg (by rw [decide_eq_true_eq]; intro h; cases h), List.filter_map]
  show List.map (· + 1) _ = _
  congr 1
  exact List.filter_congr fun j _ => decide_eq_decide.mpr un_rt
theorem hk_un (F : Fst pa) : ∀ (f k : Nat), n - k ≤ f → k < n → hkA (n + 1) (unF pa) (k + 1) = hkA n pa k
  | 0, k, h, hk => by omega
  | f + 1, k, h, hk => by
    rw [hkA_eq (unF_fst F) (by omega), hkA_eq F hk, fc_un, List.map_map]
    congr 2
    refine List.map_congr_left fun j hj => ?_
    have h2 := ch_gt F hj
    exact hk_un F f j (by omega) h2.2
theorem hk_un0 (F : Fst pa) : hkA (n + 1) (unF pa) 0 = n + 1 := by
  rw [hkA_eq (unF_fst F) (by omega), fc_un0, List.map_map]
  have e : (rtA n pa).map (hkA (n + 1) (unF pa) ∘ (· + 1)) = (rtA n pa).map (hkA n pa) := List.map_congr_left fun k hk => hk_un F n k (by omega) (rt_lt k hk)
  rw [e, hkA_sum F]
  omega
theorem dv_map {h g : Nat → Nat} : ∀ (L : List Nat) (z : Nat), (∀ k ∈ L, h (k + 1) = g k) → dvN h (shS L) z = dvN g L z
  | [], _, _ => rfl
  | k :: L, z, e => by
    show dvN h (shS L) (z / h (k + 1)) = dvN g L (z / g k)
    rw [e k (.head _)]
    exact dv_map L _ fun j hj => e j (.tail _ hj)
theorem or_un (F : Fst pa) : orN (n + 1) (unF pa) (List.range (n + 1)) = orN n pa (List.range n) := by
  unfold orN
  rw [List.length_range, List.length_range]
  show dvN (hkA (n + 1) (unF pa)) (List.range (n + 1)) _ = dvN (hkA n pa) _ _
  rw [rng_sh (n := n)]
  show dvN (hkA (n + 1) (unF pa)) (shS (List.range n)) (facN (n + 1) 0 1 / hkA (n + 1) (unF pa) 0) = _
  rw [hk_un0 F, fac_last, show 0 + n + 1 = n + 1 by omega, Nat.mul_div_cancel _ (by omega)]
  exact dv_map _ _ fun k hk => hk_un F n k (by omega) (List.mem_range.mp hk)
theorem flw_all (F : Fst pa) : flwN n pa [] (List.range n) = orN n pa (List.range n) := by
  rw [flw_ok (fun x h => by cases h) fun x hx => .inr ?_]
  · congr 1
    exact List.filter_eq_self.mpr fun x _ => rfl
  · unfold dkP
    cases e : pa x with
    | none => rfl
    | some p =>
      have := F x p e
      have := List.mem_range.mp hx
      show (!decide (p ∈ List.range n)) = false
      rw [decide_eq_true (List.mem_range.mpr (show p < n by omega))]
      rfl
/-! ### the root must burn for a time -/
theorem rt_need (F : Fst pa) (hQ : Stn n Q) : ∀ (f k : Nat), k ≤ f → k < n → (k ∈ Q ∨ k + 1 ∈ foS (n + 1) (unF pa) [] (shS Q)) → 0 ∈ foS (n + 1) (unF pa) [] (shS Q)
  | f, k, hf, hk, h => by
    have hl : Lgt (n + 1) (unF pa) [] (shS Q) (k + 1) := h.imp (fun z => ⟨mem_sh.mpr z, fun y => by cases y⟩) id
    cases e : pa k with
    | none => exact fs_up (unF_fst F) (by omega) (un_none e) (fun y => by cases y) sh_no hl
    | some p =>
      have hp := F k p e
      cases f with
      | zero => omega
      | succ f =>
        refine rt_need F hQ f p (by omega) (by omega) ?_
        by_cases hq : p ∈ Q
        · exact .inl hq
        · exact .inr (fs_up (unF_fst F) (by omega) (un_some e) (fun y => by cases y) (fun y => hq (mem_sh.mp y)) hl)
theorem asc_hd0 {L : List Nat} (h : L.Pairwise (· < ·)) (h0 : 0 ∈ L) : ∃ t, L = 0 :: t := by
  cases L with
  | nil => cases h0
  | cons a t =>
    rcases List.mem_cons.mp h0 with e | e
    · exact ⟨t, by rw [← e]⟩
    · have := (List.pairwise_cons.mp h).1 0 e
      omega
/-! ### three standings -/
theorem df_triA : DfN n A P R ≤ DfN n A P Q + DfN n A Q R := by
  have T : ∀ x ∈ spF n A P R, x ∈ spF n A P Q ∨ x ∈ spF n A Q R ∨ (x ∈ Q ∧ x ∉ P ∧ x ∉ R) := by
    intro x hx
    have h := spF_least (A := A) (P := P) (Q := R) (n := n) (S := (List.range n).filter fun x => decide (x ∈ spF n A P Q) || (decide (x ∈ spF n A Q R) || (decide (x ∈ Q) && (!decide (x ∈ P) && !decide (x ∈ R))))) (fun y hy hd => ?_) x hx
    · have h := (List.mem_filter.mp h).2
      simp only [Bool.or_eq_true, Bool.and_eq_true, decide_eq_true_eq, Bool.not_eq_true', decide_eq_false_iff_not] at h
      exact h
    obtain ⟨⟨d1, d2⟩, d3⟩ := ndB_iff.mp hd
    refine List.mem_filter.mpr ⟨List.mem_range.mpr hy, ?_⟩
    simp only [Bool.or_eq_true, Bool.and_eq_true, decide_eq_true_eq, Bool.not_eq_true', decide_eq_false_iff_not]
    by_cases hq : y ∈ Q
    · exact .inr (.inr ⟨hq, d1, d2⟩)
    rcases d3 with ⟨j, j1, j2⟩ | ⟨j, j1, j2⟩
    · have a1 : (j ∈ spF n A P Q ∨ (j ∈ Q ∧ j ∉ P)) → y ∈ spF n A P Q := fun h => spF_closed hy (ndB_iff.mpr ⟨⟨d1, hq⟩, .inl ⟨j, j1, h⟩⟩)
      have a2 : (j ∈ spF n A Q R ∨ (j ∈ R ∧ j ∉ Q)) → y ∈ spF n A Q R := fun h => spF_closed hy (ndB_iff.mpr ⟨⟨hq, d2⟩, .inl ⟨j, j1, h⟩⟩)
      rcases j2 with h | ⟨h1, h2⟩
      · have h := (List.mem_filter.mp h).2
        simp only [Bool.or_eq_true, Bool.and_eq_true, decide_eq_true_eq, Bool.not_eq_true', decide_eq_false_iff_not] at h
        rcases h with h | h | ⟨h1, h2, _⟩
        · exact .inl (a1 (.inl h))
        · exact .inr (.inl (a2 (.inl h)))
        · exact .inl (a1 (.inr ⟨h1, h2⟩))
      · by_cases hj : j ∈ Q
        · exact .inl (a1 (.inr ⟨hj, h2⟩))
        · exact .inr (.inl (a2 (.inr ⟨h1, hj⟩)))
    · have a1 : (j ∈ spF n A P Q ∨ (j ∈ P ∧ j ∉ Q)) → y ∈ spF n A P Q := fun h => spF_closed hy (ndB_iff.mpr ⟨⟨d1, hq⟩, .inr ⟨j, j1, h⟩⟩)
      have a2 : (j ∈ spF n A Q R ∨ (j ∈ Q ∧ j ∉ R)) → y ∈ spF n A Q R := fun h => spF_closed hy (ndB_iff.mpr ⟨⟨hq, d2⟩, .inr ⟨j, j1, h⟩⟩)
      rcases j2 with h | ⟨h1, h2⟩
      · have h := (List.mem_filter.mp h).2
        simp only [Bool.or_eq_true, Bool.and_eq_true, decide_eq_true_eq, Bool.not_eq_true', decide_eq_false_iff_not] at h
        rcases h with h | h | ⟨h1, _, h2⟩
        · exact .inl (a1 (.inl h))
        · exact .inr (.inl (a2 (.inl h)))
        · exact .inr (.inl (a2 (.inr ⟨h1, h2⟩)))
      · by_cases hj : j ∈ Q
        · exact .inr (.inl (a2 (.inr ⟨hj, h2⟩)))
        · exact .inl (a1 (.inr ⟨h1, hj⟩))
  unfold DfN
  rw [← sumN_add]
  refine sumN_le fun x hx => ?_
  have t := T x
  unfold dfN b01
  by_cases h1 : x ∈ spF n A P R
  · have hd := spF_dark h1
    rcases t h1 with h | h | ⟨h, _, _⟩
    · have hq := (spF_dark h).2
      simp [h, h1, hd.1, hd.2, hq]
    · have hq := (spF_dark h).1
      simp [h, h1, hd.1, hd.2, hq]
    · have e1 : x ∉ spF n A P Q := fun z => (spF_dark z).2 h
      have e2 : x ∉ spF n A Q R := fun z => (spF_dark z).1 h
      simp [h, h1, hd.1, hd.2, e1, e2]
  · by_cases hp : x ∈ P <;> by_cases hq : x ∈ Q <;> by_cases hr : x ∈ R <;> simp [h1, hp, hq, hr] <;> omega
theorem fw_df : (fwW n pa P Q).length = DfN n (fsA n pa) P Q := by
  rw [DfN_eq]
  have e : foS n pa P Q = (List.range n).filter fun x => decide (x ∈ foS n pa P Q) := asc_same spF_asc ((asc_range n).filter _) fun x => by
    rw [List.mem_filter, List.mem_range, decide_eq_true_eq]
    exact ⟨fun h => ⟨spF_lt h, h⟩, fun h => h.2⟩
  have h := cnt4 (a := flB n pa P Q) (b := fxB n pa P Q) (c := dfN P Q) (d := fun x => decide (x ∈ foS n pa P Q)) (fun k => by
    unfold flB fxB dfN
    by_cases hs : k ∈ foS n pa P Q
    · have := spF_dark hs
      simp [hs, this.1, this.2]
    · by_cases hp : k ∈ P <;> by_cases hq : k ∈ Q <;> simp [hs, hp, hq]) (List.range n)
  rw [← e] at h
  unfold fwW flN fxN
  rw [List.length_append]
  show _ = _ + 2 * (foS n pa P Q).length
  omega
theorem fw_tri : (fwW n pa P R).length ≤ (fwW n pa P Q).length + (fwW n pa Q R).length := by
  rw [fw_df, fw_df, fw_df]
  exact df_triA
end
end LF
end
section
set_option Elab.async false
set_option linter.all false
set_option maxRecDepth 100000
/-! Values put together by themselves; parents drawn of so many lamps at most. -/
namespace LF
open PySem DL
open L2 (atI ixN)
theorem fVar_at {i : Nat} {ρ : Fm} {d : D} (h : ρ[i]? = some (.sh d)) : fVar i ρ = some d := by
  unfold fVar
  rw [h]
theorem fOwn_sh {i : Nat} {ρ : Fm} {d : D} (h : ρ[i]? = some (.sh d)) : fOwn i ρ = some d := by
  unfold fOwn
  rw [h]
theorem fOwn_ow {i : Nat} {ρ : Fm} {ds : List D} (h : ρ[i]? = some (.ow ds)) : fOwn i ρ = some (.list ds) := by
  unfold fOwn
  rw [h]
theorem fC_at {ρ : Fm} {d : D} : fC d ρ = some d := rfl
theorem cons_at {f : Fm → Option D} {g : Fm → Option (List D)} {ρ : Fm} {d : D} {ds : List D} (h : f ρ = some d) (h2 : g ρ = some ds) : fCons f g ρ = some (d :: ds) := by
  unfold fCons
  rw [h, h2]
  rfl
theorem nil_at {ρ : Fm} : fNil ρ = some [] := rfl
theorem tup_at {fs : Fm → Option (List D)} {ρ : Fm} {ds : List D} (h : fs ρ = some ds) (hz : ds.length ≤ 1000000) : fTup fs ρ = some (.tuple ds) := by
  unfold fTup
  rw [h]
  exact if_pos hz
theorem lst_at {fs : Fm → Option (List D)} {ρ : Fm} {ds : List D} (h : fs ρ = some ds) (hz : ds.length ≤ 1000000) : fLst fs ρ = some (.list ds) := by
  unfold fLst
  rw [h]
  exact if_pos hz
theorem sl_at {f : Fm → Option D} {fl fh : Fm → Option (Option Int)} {ρ : Fm} {d r : D} {a b : Option Int} (h : f ρ = some d) (h1 : fl ρ = some a) (h2 : fh ρ = some b) (h3 : gSl d a b = some r) : fSl f fl fh ρ = some r := by
  unfold fSl
  rw [h, Option.bind_some, h1, Option.bind_some, h2, Option.bind_some]
  exact h3
theorem part_at {f : Fm → Option D} {ρ : Fm} {i : Int} (h : f ρ = some (.int i)) : fPart f ρ = some (some i) := by
  unfold fPart
  rw [h]
theorem nop_at {ρ : Fm} : fNoP ρ = some none := rfl
theorem neI_no {a b : Nat} (h : a = b) : gNe (.int (a : Int)) (.int (b : Int)) = some (.bool false) := by
  rw [gNe_iN2, decide_eq_true h]
  rfl
theorem neT_no {L M : List Nat} (h : L = M) : gNe (tpN L) (tpN M) = some (.bool false) := by
  rw [gNe_tpS, decide_eq_true h]
  rfl
theorem neB_no {a b : Bool} (h : a = b) : gNe (.bool a) (.bool b) = some (.bool false) := by
  subst h
  cases a <;> rfl
theorem neL_no {L M : List Nat} (h : L = M) : gNe (lsN L) (lsN M) = some (.bool false) := by
  rw [gNe_nums, decide_eq_true h]
  rfl
theorem orF_at {f g : Fm → Option Bool} {ρ : Fm} (h : f ρ = some false) (k : g ρ = some false) : fOr f g ρ = some false := or_at h k
theorem notF_at {f : Fm → Option Bool} {ρ : Fm} (h : f ρ = some true) : fNot f ρ = some false := fnot_at h
theorem andT_at {f g : Fm → Option D} {ρ : Fm} (h : f ρ = some (.bool true)) (k : g ρ = some (.bool true)) : fAndV f g ρ = some (.bool true) := andv_at h k
theorem ix_fst {x : D} {xs : List D} : gIx (.tuple (x :: xs)) (.int 0) = some x := ix0 x xs
theorem ix_snd {x y : D} {xs : List D} : gIx (.tuple (x :: y :: xs)) (.int 1) = some y := ix1 x y xs
theorem tuple_ls {xs : List D} : gTuple (.list xs) = some (.tuple xs) := rfl
abbrev lqFr (mm : Nat) (l : List D) (n way : Int) (L : List (Option Nat)) (x5 x6 : B) : Fm := [.io l, .sh (.int (mm : Int)), .sh (.int n), .sh (.int way), .ow (L.map oD), x5, x6]
theorem lq_l1 {mm : Nat} {l : List D} (R : Row l) {n way : Int} {L : List (Option Nat)} {x6 : B} (hl : 1 ≤ L.length) (hz : L.length ≤ 100) :
    ∃ (l2 : List D) (o : Option Nat) (y6 : B), Row l2 ∧ (∀ p, o = some p → p < L.length) ∧ b_law_parents_l1 (lqFr mm l n way L (.sh (.int (L.length : Nat))) x6) = some (.nx, lqFr mm l2 n way (L ++ [o]) (.sh (.int (L.length : Nat))) y6) := by
  have s1 : ∃ (l1 : List D) (p : Nat), Row l1 ∧ p < L.length ∧ sAsg 6 (mSh (xIf (up (fBl (fOp2 gEq (fVar 3) (fC (.int 0))))) (up (fOp2 gSub (fVar 5) (fC (.int 1)))) (xIf (up (fBl (fOp2 gLt (fVar 3) (fC (.int 3))))) (xCallI 0 LF.f_law_taken (xCons (up (fVar 5)) (up fNil))) (xOp2 gMax2 (up (fC (.int 0))) (xOp2 gSub (up (fOp2 gSub (fVar 5) (fC (.int 1)))) (xCallI 0 LF.f_law_taken (xCons (up (fC (.int 3))) (up fNil)))))))) (lqFr mm l n way L (.sh (.int (L.length : Nat))) x6) = some (.nx, lqFr mm l1 n way L (.sh (.int (L.length : Nat))) (.sh (.int (p : Int)))) := by
    have c0 : up (fBl (fOp2 gEq (fVar 3) (fC (.int 0)))) (lqFr mm l n way L (.sh (.int (L.length : Nat))) x6) = some (way == 0, lqFr mm l n way L (.sh (.int (L.length : Nat))) x6) := up_at (bl_at ((op2_at (g := gEq) (a := .int way) (b := .int 0) rfl rfl).trans (gEq_i _ _)))
    have sb : up (fOp2 gSub (fVar 5) (fC (.int 1))) (lqFr mm l n way L (.sh (.int (L.length : Nat))) x6) = some (.int ((L.length - 1 : Nat) : Int), lqFr mm l n way L (.sh (.int (L.length : Nat))) x6) := up_at ((op2_at (g := gSub) (a := .int (L.length : Nat)) (b := .int 1) rfl rfl).trans (by rw [gSub_i, show ((L.length : Nat) : Int) - 1 = ((L.length - 1 : Nat) : Int) by omega]))
    by_cases h0 : (way == 0) = true
    · rw [h0] at c0
      refine ⟨l, L.length - 1, R, by omega, asgx_at (ρ1 := lqFr mm l n way L (.sh (.int (L.length : Nat))) x6) (sh_at (xif_at (α := D) c0 ((if_pos rfl).trans sb)))⟩
    · rw [Bool.not_eq_true] at h0
      rw [h0] at c0
      have c1 : up (fBl (fOp2 gLt (fVar 3) (fC (.int 3)))) (lqFr mm l n way L (.sh (.int (L.length : Nat))) x6) = some (decide (way < 3), lqFr mm l n way L (.sh (.int (L.length : Nat))) x6) := up_at (bl_at ((op2_at (g := gLt) (a := .int way) (b := .int 3) rfl rfl).trans (gLt_i _ _)))
      by_cases h3 : way < 3
      · rw [decide_eq_true h3] at c1
        obtain ⟨r, l1, e, r0, r1, R1⟩ := taken_ok R (m := (L.length : Int)) (by omega) (by omega)
        obtain ⟨u, rfl⟩ : ∃ u : Nat, r = (u : Int) := ⟨r.toNat, by omega⟩
        refine ⟨l1, u, R1, by omega, asgx_at (ρ1 := lqFr mm l1 n way L (.sh (.int (L.length : Nat))) x6) (sh_at (xif_at (α := D) c0 ((if_neg (by decide)).trans (xif_at (α := D) c1 ((if_pos rfl).trans ?_)))))⟩
        exact xcall1_at (i := 0) (g := LF.f_law_taken) (f := fVar 5) (ρ := lqFr mm l n way L (.sh (.int (L.length : Nat))) x6) (b := .io l) rfl rfl rfl e
      · rw [decide_eq_false h3] at c1
        obtain ⟨r, l1, e, r0, r1, R1⟩ := taken_ok R (m := 3) (by omega) (by omega)
        have e2 : xOp2 gMax2 (up (fC (.int 0))) (xOp2 gSub (up (fOp2 gSub (fVar 5) (fC (.int 1)))) (xCallI 0 LF.f_law_taken (xCons (up (fC (.int 3))) (up fNil)))) (lqFr mm l n way L (.sh (.int (L.length : Nat))) x6) = some (.int (if ((L.length - 1 : Nat) : Int) - r > 0 then ((L.length - 1 : Nat) : Int) - r else 0), lqFr mm l1 n way L (.sh (.int (L.length : Nat))) x6) :=
          xop2_at (up_at (a := .int 0) rfl) (xop2_at sb (xcall1_at (i := 0) (g := LF.f_law_taken) (f := fC (.int 3)) (ρ := lqFr mm l n way L (.sh (.int (L.length : Nat))) x6) (b := .io l) rfl rfl rfl e) (gSub_i _ _)) (gMax2_i _ _)
        refine ⟨l1, (if ((L.length - 1 : Nat) : Int) - r > 0 then ((L.length - 1 : Nat) : Int) - r else 0).toNat, R1, by split <;> omega, asgx_at (ρ1 := lqFr mm l1 n way L (.sh (.int (L.length : Nat))) x6) (sh_at (xif_at (α := D) c0 ((if_neg (by decide)).trans (xif_at (α := D) c1 ((if_neg (by decide)).trans (e2.trans ?_))))))⟩
        rw [Int.toNat_of_nonneg (by split <;> omega)]
  obtain ⟨l1, p, R1, hp, e1⟩ := s1
  obtain ⟨r, l2, e, r0, r1, R2⟩ := taken_ok R1 (m := 6) (by omega) (by omega)
  have cb : xBl (xOp2 gEq (xCallI 0 LF.f_law_taken (xCons (up (fC (.int 6))) (up fNil))) (up (fC (.int 0)))) (lqFr mm l1 n way L (.sh (.int (L.length : Nat))) (.sh (.int (p : Int)))) = some (r == 0, lqFr mm l2 n way L (.sh (.int (L.length : Nat))) (.sh (.int (p : Int)))) := by
    simp only [sSeq, sIf, sAsg, sAll, sUnp, sRet, sDrop, sNext, sBreak, sFor, sForX, sApp, sPut, sAug, sFrz, sNever, frz1, putB, mSh, mOw, mNil, mCons, up, fBl, fNot, fAnd, fOr, fIf, fAndV, fOrV, fNotV, fOp1, fOp2, fOwn, fVar, fC, fNil, fCons, fTup, fLst, fCall, fYes, xBl, xNot, xAnd, xOr, xIf, xOp1, xOp2, xCons, xTup, xLst, xCall, xCallI, xPop, ownOf, ioOf, B.put, iSeq, iRg1, iRg2, iEn, seqD, itemsD, setT, setTs, wipeB, startB, startI, fChain, List.map_cons, List.map_nil, List.length_cons, List.length_nil, List.cons_append, List.nil_append, List.replicate_succ, List.replicate_zero, Nat.add_zero, Nat.zero_add, Nat.reduceAdd, Nat.reduceSub, Nat.sub_self, List.getElem?_cons_zero, List.getElem?_cons_succ, List.set_cons_zero, List.set_cons_succ, Option.bind_some, Option.bind_none, Option.map_some, Option.map_none, Bool.false_eq_true, if_true, if_false, if_pos, reduceIte, Bool.not_true, Bool.not_false, gIxL, gIxT, ix0, ix1, ix2, ix3, gLenL, gLenT, gInt_i, gTuple, gList, gAdd_i, gSub_i, gGt_i, gLt_i, gGe_i, gLe_i, gEq_i, gNe_i, ixn1, ixn2, ixn3, ixn0, e]
  refine ⟨l2, if (r == 0) = true then none else some p, .sh (.int (p : Int)), R2, fun q hq => ?_, ?_⟩
  · split at hq
    · cases hq
    · cases hq
      exact hp
  unfold b_law_parents_l1
  refine seq_go e1 ?_
  unfold sApp
  have ex : xIf (xBl (xOp2 gEq (xCallI 0 LF.f_law_taken (xCons (up (fC (.int 6))) (up fNil))) (up (fC (.int 0))))) (up (fC .none)) (up (fVar 6)) (lqFr mm l1 n way L (.sh (.int (L.length : Nat))) (.sh (.int (p : Int)))) = some (oD (if (r == 0) = true then none else some p), lqFr mm l2 n way L (.sh (.int (L.length : Nat))) (.sh (.int (p : Int)))) := by
    refine xif_at (α := D) cb ?_
    by_cases h : (r == 0) = true
    · rw [if_pos h, if_pos h]
      rfl
    · rw [if_neg h, if_neg h]
      rfl
  show (xIf (xBl (xOp2 gEq (xCallI 0 LF.f_law_taken (xCons (up (fC (.int 6))) (up fNil))) (up (fC (.int 0))))) (up (fC .none)) (up (fVar 6)) (lqFr mm l1 n way L (.sh (.int (L.length : Nat))) (.sh (.int (p : Int))))).bind _ = _
  rw [ex, Option.bind_some]
  show (if (L.map oD).length < bigN then some (Fl.nx, _) else none) = _
  rw [if_pos (by rw [List.length_map]; unfold bigN; omega)]
  show some (Fl.nx, _) = some (Fl.nx, lqFr mm l2 n way (L ++ [_]) _ _)
  unfold lqFr
  rw [List.map_append]
  rfl
theorem law_parents_any {l : List D} (R : Row l) {mm : Nat} (hm : 1 ≤ mm) (hm40 : mm ≤ 40) : ∃ (n : Nat) (pa : Nat → Option Nat) (l2 : List D), f_law_parents l [.int (mm : Int)] = some (faD n pa, l2) ∧ Fst pa ∧ 1 ≤ n ∧ n ≤ mm ∧ Row l2 := by
  obtain ⟨t', l1, et, t0, t1, R1⟩ := taken_ok R (m := (mm : Int)) (by omega) (by omega)
  obtain ⟨t, rfl⟩ : ∃ t : Nat, t' = (t : Int) := ⟨t'.toNat, by omega⟩
  obtain ⟨way, l2, ew, w0, w1, R2⟩ := taken_ok R1 (m := 4) (by omega) (by omega)
  obtain ⟨ρ', e, l3, L, y5, y6, R3, hlen, hL, rfl⟩ := forL_inv (t := .one 5) (f := b_law_parents_l1) (fun i ρ => ∃ (l3 : List D) (L : List (Option Nat)) (y5 y6 : B), Row l3 ∧ L.length = i + 1 ∧ (∀ (j p : Nat), L[j]? = some (some p) → p < j) ∧ ρ = lqFr mm l3 ((t + 1 : Nat) : Int) way L y5 y6) (rngD 1 t) 0 (lqFr mm l2 ((t + 1 : Nat) : Int) way [none] .no .no) ⟨l2, [none], .no, .no, R2, rfl, fun j p h => by
      cases j with
      | zero => cases h
      | succ j => simp at h, rfl⟩ fun i d ρ hd ⟨l3, L, y5, y6, R3, hlen, hL, hρ⟩ => by
    subst hρ
    obtain ⟨hi, rfl⟩ := rng_at hd
    obtain ⟨l4, o, z6, R4, ho, e⟩ := lq_l1 R3 (n := ((t + 1 : Nat) : Int)) (way := way) (L := L) (x6 := y6) (by omega) (by omega)
    rw [show (1 : Int) + (i : Int) = (L.length : Nat) by omega]
    refine ⟨_, _, rfl, e, l4, L ++ [o], _, _, R4, by rw [List.length_append, List.length_singleton]; omega, fun j p h => ?_, rfl⟩
    by_cases hj : j < L.length
    · rw [List.getElem?_append_left hj] at h
      exact hL j p h
    · rw [List.getElem?_append_right (by omega)] at h
      have hj2 : j = L.length := by
        have := (List.getElem?_eq_some_iff.mp h).1
        rw [List.length_singleton] at this
        omega
      subst hj2
      rw [Nat.sub_self] at h
      exact ho p (Option.some.inj h)
  rw [rng_len, Nat.zero_add] at hlen
  have eL : L.map oD = (List.range (t + 1)).map fun k => oD (L.getD k none) := by
    refine List.ext_getElem? fun i => ?_
    rw [List.getElem?_map, List.getElem?_map]
    by_cases hi : i < L.length
    · rw [List.getElem?_range (by omega), Option.map_some, List.getD_eq_getElem?_getD, List.getElem?_eq_getElem hi]
      rfl
    · rw [List.getElem?_eq_none (by omega), List.getElem?_eq_none (by rw [List.length_range]; omega)]
      rfl
  refine ⟨t + 1, fun k => L.getD k none, l3, ?_, fun k p h => ?_, by omega, by omega, R3⟩
  · unfold f_law_parents b_law_parents
    refine runI_rt (ρ' := lqFr mm l3 ((t + 1 : Nat) : Int) way L y5 y6) ?_ rfl
    have x0 : mSh (xOp2 gAdd (up (fC (.int 1))) (xCallI 0 LF.f_law_taken (xCons (up (fVar 1)) (up fNil)))) [.io l, .sh (.int (mm : Int)), .no, .no, .no, .no, .no] = some (.sh (.int ((t + 1 : Nat) : Int)), [.io l1, .sh (.int (mm : Int)), .no, .no, .no, .no, .no]) := sh_at (xop2_at (up_at (a := .int 1) rfl) (xcall1_at (i := 0) (g := LF.f_law_taken) (f := fVar 1) (ρ := [.io l, .sh (.int (mm : Int)), .no, .no, .no, .no, .no]) (b := .io l) rfl rfl rfl et) (by rw [gAdd_i, show (1 : Int) + (t : Int) = ((t + 1 : Nat) : Int) by omega]))
    have x1 : mSh (xCallI 0 LF.f_law_taken (xCons (up (fC (.int 4))) (up fNil))) [.io l1, .sh (.int (mm : Int)), .no, .no, .no, .no, .no] = some (.sh (.int way), [.io l2, .sh (.int (mm : Int)), .no, .no, .no, .no, .no]) := sh_at (xcall1_at (i := 0) (g := LF.f_law_taken) (f := fC (.int 4)) (ρ := [.io l1, .sh (.int (mm : Int)), .no, .no, .no, .no, .no]) (b := .io l1) rfl rfl rfl ew)
    refine seq_go (ρ1 := [.io l2, .sh (.int (mm : Int)), .sh (.int ((t + 1 : Nat) : Int)), .sh (.int way), .no, .no, .no]) (all2_at (ρ1 := [.io l1, .sh (.int (mm : Int)), .no, .no, .no, .no, .no]) (ρ2 := [.io l2, .sh (.int (mm : Int)), .no, .no, .no, .no, .no]) (b1 := .sh (.int ((t + 1 : Nat) : Int))) (b2 := .sh (.int way)) x0 x1) ?_
    refine seq_go (ρ1 := lqFr mm l2 ((t + 1 : Nat) : Int) way [none] .no .no) rfl ?_
    refine seq_go (for_go (ds := rngD 1 t) ?_ e) (rt_at ?_)
    · show (if (smR 1 && smR ((t + 1 : Nat) : Int)) = true then some (rngD 1 (((t + 1 : Nat) : Int) - 1).toNat) else none) = _
      rw [show smR 1 = true from rfl, smR_of (by omega) (by omega), Bool.and_self, if_pos rfl, show (((t + 1 : Nat) : Int) - 1).toNat = t by omega]
    · refine (op1_at (g := gTuple) (a := .list (L.map oD)) rfl).trans ?_
      rw [eL]
      rfl
  · by_cases hk : k < L.length
    · have h : L.getD k none = some p := h
      rw [List.getD_eq_getElem?_getD, List.getElem?_eq_getElem hk] at h
      exact hL k p (by rw [List.getElem?_eq_getElem hk]; exact congrArg some h)
    · have h : L.getD k none = some p := h
      rw [List.getD_eq_getElem?_getD, List.getElem?_eq_none (by omega)] at h
      cases h
end LF
end
section
set_option Elab.async false
set_option linter.all false
set_option maxRecDepth 100000
/-! The law across long forests. -/
namespace LF
open PySem DL
open L2 (atI ixN)
theorem fand_f {f g : Fm → Option Bool} {ρ : Fm} (h : f ρ = some false) : fAnd f g ρ = some false := by
  unfold fAnd
  rw [h]
  rfl
theorem fand_t {f g : Fm → Option Bool} {ρ : Fm} {r : Option Bool} (h : f ρ = some true) (k : g ρ = r) : fAnd f g ρ = r := by
  unfold fAnd
  rw [h]
  exact k
abbrev k74Fr (s : D) (l : List D) (b2 b3 b4 b5 b6 b7 b8 b9 b10 b11 b12 b13 b14 b15 b16 b17 b18 b19 : B) : Fm := [.sh s, .ow l, b2, b3, b4, b5, b6, b7, b8, b9, b10, b11, b12, b13, b14, b15, b16, b17, b18, b19]
section
variable {s : D} {l : List D} {b2 b3 b4 b5 b6 b7 b8 b9 b10 b11 b12 b13 b14 b15 b16 b17 b18 b19 : B} {n m : Nat} {pa qa : Nat → Option Nat} {P Q : List Nat}
theorem k74_shf {f g : Fm → Option D} {L : List Nat} {c : Nat} (h1 : f (k74Fr s l b2 b3 b4 b5 b6 b7 b8 b9 b10 b11 b12 b13 b14 b15 b16 b17 b18 b19) = some (tpN L)) (hl : L.length ≤ 1000) (h2 : ∀ k : Nat, g (k74Fr s l b2 b3 b4 b5 b6 b7 b8 b9 b10 b11 b12 b13 b14 b15 b16 b17 b18 (.sh (.int (k : Int)))) = some (.int (c : Int))) :
    fOp1 gTuple (fLc [19] (.one 19) (iSeq f) fYes (fOp2 gAdd (fVar 19) g)) (k74Fr s l b2 b3 b4 b5 b6 b7 b8 b9 b10 b11 b12 b13 b14 b15 b16 b17 b18 b19) = some (tpN (L.map (· + c))) := by
  have lc := fLc_all (α := Nat) (enc := fun k : Nat => .int (k : Int)) (ρ := k74Fr s l b2 b3 b4 b5 b6 b7 b8 b9 b10 b11 b12 b13 b14 b15 b16 b17 b18 b19) (vs := [19]) (t := .one 19) (fi := iSeq f) (fe := fOp2 gAdd (fVar 19) g) (fun k : Nat => .int ((k + c : Nat) : Int)) (xs := L) (by
    unfold iSeq
    rw [h1]
    rfl) (by unfold bigN; omega) fun k _ => ⟨_, rfl, (op2_at (g := gAdd) (a := .int (k : Int)) rfl (h2 k)).trans (gAdd_n _ _)⟩
  refine (op1_at lc).trans ?_
  show some (PyData.tuple _) = some (PyData.tuple (nums (L.map (· + c))))
  unfold nums
  rw [List.map_map]
  rfl
theorem k74_both (h : n + m ≤ 1000) (h2 : b2 = .sh (faD n pa)) (h3 : b3 = .sh (faD m qa)) (h4 : b4 = .sh (.int (n : Int))) :
    fOp2 gAdd (fVar 2) (fOp1 gTuple (fLc [19] (.one 19) (iSeq (fVar 3)) fYes (fIf (fBl (fOp2 (gIsN false) (fVar 19) (fC .none))) (fC .none) (fOp2 gAdd (fVar 19) (fVar 4))))) (k74Fr s l b2 b3 b4 b5 b6 b7 b8 b9 b10 b11 b12 b13 b14 b15 b16 b17 b18 b19) = some (faD (n + m) (joF n pa qa)) := by
  subst h2 h3 h4
  have lc := fLc_all (α := Nat) (enc := fun k : Nat => oD (qa k)) (ρ := k74Fr s l (.sh (faD n pa)) (.sh (faD m qa)) (.sh (.int (n : Int))) b5 b6 b7 b8 b9 b10 b11 b12 b13 b14 b15 b16 b17 b18 b19) (vs := [19]) (t := .one 19) (fi := iSeq (fVar 3)) (fe := fIf (fBl (fOp2 (gIsN false) (fVar 19) (fC .none))) (fC .none) (fOp2 gAdd (fVar 19) (fVar 4))) (fun k : Nat => oD ((qa k).map (· + n))) (xs := List.range m) rfl (by rw [List.length_range]; unfold bigN; omega) fun k _ => ⟨_, rfl, by
    cases qa k with
    | none => rfl
    | some p => exact (fif_at (b := false) rfl rfl).trans ((if_neg (by decide)).trans ((op2_at (g := gAdd) (a := .int (p : Int)) (b := .int (n : Int)) rfl rfl).trans (gAdd_n _ _)))⟩
  refine (op2_at (g := gAdd) (a := faD n pa) (b := .tuple ((List.range m).map fun k : Nat => oD ((qa k).map (· + n)))) rfl ((op1_at lc).trans rfl)).trans ?_
  refine (gAdd_T (by rw [List.length_map, List.length_range, List.length_map, List.length_range]; omega)).trans ?_
  show some (PyData.tuple _) = some (PyData.tuple _)
  rw [rng_add, List.map_append, List.map_map]
  have g1 : (List.range n).map (fun k => oD (pa k)) = (List.range n).map fun k => oD (joF n pa qa k) := List.map_congr_left fun k hk => by rw [joF_lo (List.mem_range.mp hk)]
  have g2 : (List.range m).map (fun k => oD ((qa k).map (· + n))) = (List.range m).map ((fun k => oD (joF n pa qa k)) ∘ (· + n)) := List.map_congr_left fun k _ => by
    show _ = oD (joF n pa qa (k + n))
    rw [joF_hi]
  rw [g1, g2]
theorem k74_under (h : n ≤ 1000) (h2 : b2 = .sh (faD n pa)) :
    fOp2 gAdd (fTup (fCons (fC .none) (fNil))) (fOp1 gTuple (fLc [19] (.one 19) (iSeq (fVar 2)) fYes (fIf (fBl (fOp2 (gIsN false) (fVar 19) (fC .none))) (fC (.int 0)) (fOp2 gAdd (fVar 19) (fC (.int 1)))))) (k74Fr s l b2 b3 b4 b5 b6 b7 b8 b9 b10 b11 b12 b13 b14 b15 b16 b17 b18 b19) = some (faD (n + 1) (unF pa)) := by
  subst h2
  have lc := fLc_all (α := Nat) (enc := fun k : Nat => oD (pa k)) (ρ := k74Fr s l (.sh (faD n pa)) b3 b4 b5 b6 b7 b8 b9 b10 b11 b12 b13 b14 b15 b16 b17 b18 b19) (vs := [19]) (t := .one 19) (fi := iSeq (fVar 2)) (fe := fIf (fBl (fOp2 (gIsN false) (fVar 19) (fC .none))) (fC (.int 0)) (fOp2 gAdd (fVar 19) (fC (.int 1)))) (fun k : Nat => oD (unF pa (k + 1))) (xs := List.range n) rfl (by rw [List.length_range]; unfold bigN; omega) fun k _ => ⟨_, rfl, by
    show fIf _ _ _ _ = some (oD (some _))
    cases pa k with
    | none => rfl
    | some p => exact (fif_at (b := false) rfl rfl).trans ((if_neg (by decide)).trans ((op2_at (g := gAdd) (a := .int (p : Int)) (b := .int ((1 : Nat) : Int)) rfl rfl).trans (gAdd_n _ _)))⟩
  refine (op2_at (g := gAdd) (a := .tuple [.none]) (b := .tuple ((List.range n).map fun k : Nat => oD (unF pa (k + 1)))) rfl ((op1_at lc).trans rfl)).trans ?_
  refine (gAdd_T (by rw [List.length_map, List.length_range]; show 1 + n ≤ _; omega)).trans ?_
  show some (PyData.tuple _) = some (PyData.tuple _)
  rw [List.range_succ_eq_map, List.map_cons, List.map_map]
  rfl
end
theorem true_k74 : ∀ ns : List Int, ns.length ≤ 63 → LF.f_k74 [.list (ns.map .int)] = some (.bool true) := fun ns hns => by
  have R0 : Row [.list (ns.map .int), .int 0, .int 9674, .int 0] := ⟨ns, 0, 9674, 0, rfl⟩
  obtain ⟨n, pa, l1, e1, F, n1, n20, R1⟩ := law_parents_any R0 (mm := 20) (by omega) (by omega)
  obtain ⟨m, qa, l2, e2, G, m1, m20, R2⟩ := law_parents_any R1 (mm := 20) (by omega) (by omega)
  obtain ⟨P, l3, e3, c3, d3, R3⟩ := rburning_ok R2 (n := n) (by omega)
  obtain ⟨P', l4, e4, c4, d4, R4⟩ := rburning_ok R3 (n := m) (by omega)
  obtain ⟨Q, l5, e5, c5, d5, R5⟩ := rburning_ok R4 (n := n) (by omega)
  obtain ⟨Q', l6, e6, c6, d6, R6⟩ := rburning_ok R5 (n := m) (by omega)
  obtain ⟨T, l7, e7, c7, d7, R7⟩ := rburning_ok R6 (n := n) (by omega)
  have hP : Stn n P := ⟨c3, d3⟩
  have hP' : Stn m P' := ⟨c4, d4⟩
  have hQ : Stn n Q := ⟨c5, d5⟩
  have hQ' : Stn m Q' := ⟨c6, d6⟩
  have hT : Stn n T := ⟨c7, d7⟩
  have p1 := hP.len
  have p2 := hP'.len
  have p3 := hQ.len
  have p4 := hQ'.len
  have H := joF_fst F G (n := n)
  have U := unF_fst F
  have hJ := jo_stn hP hP'
  have hK := jo_stn hQ hQ'
  have hU := un_stn hP
  have hV := un_stn hQ
  have hS := sh_stn hP
  have hZ := sh_stn hQ
  have s1 : (foS n pa P Q).length ≤ n := spF_len
  have s2 : (foS m qa P' Q').length ≤ m := spF_len
  have w1 := fwW_len (n := n) (pa := pa) (P := P) (Q := Q)
  have w2 := fwW_len (n := m) (pa := qa) (P := P') (Q := Q')
  have z4 : ((4 : Nat) ≤ bigN) = True := eq_true (by decide)
  have wl : (joN n (fwW n pa P Q) (fwW m qa P' Q')).length = (fwW (n + m) (joF n pa qa) (joN n P P') (joN n Q Q')).length := by
    rw [fw_jo F G hP hQ hP' hQ']
    unfold joN
    rw [List.length_append, List.length_map]
  have wb : ∀ k ∈ joN n (fwW n pa P Q) (fwW m qa P' Q'), k < n + m := fun k hk => by
    rcases mem_jo.mp hk with h | ⟨h1, h2⟩
    · have := fwW_lt k h
      omega
    · have := fwW_lt _ h2
      omega
  generalize hs : PyData.list (ns.map .int) = s at e1
  have a1 : ∀ {L M : List Nat}, L.length ≤ 400 → M.length ≤ 400 → gAdd (tpN L) (tpN (M.map (· + n))) = some (tpN (joN n L M)) := fun h1 h2 => gAdd_numsT (by rw [List.length_map]; omega)
  let x2 : B := .sh (faD n pa)
  let x3 : B := .sh (faD m qa)
  let x4 : B := .sh (.int (n : Int))
  let x5 : B := .sh (.int (m : Int))
  let x6 : B := .sh (faD (n + m) (joF n pa qa))
  let x11 : B := .sh (tpN (joN n P P'))
  let x12 : B := .sh (tpN (joN n Q Q'))
  let x13 : B := .sh (tpN (joN n (fwW n pa P Q) (fwW m qa P' Q')))
  let x14 : B := .sh (faD (n + 1) (unF pa))
  let x15 : B := .sh (tpN (shS P))
  let x16 : B := .sh (tpN (shS Q))
  let x17 : B := .sh (lsN (mnS P Q))
  let ρ1 : Fm := k74Fr s l6 x2 x3 x4 x5 x6 (.sh (tpN P)) (.sh (tpN P')) (.sh (tpN Q)) (.sh (tpN Q')) .no .no .no .no .no .no .no .no .no
  let ρ2 : Fm := k74Fr s l6 x2 x3 x4 x5 x6 (.sh (tpN P)) (.sh (tpN P')) (.sh (tpN Q)) (.sh (tpN Q')) x11 x12 .no .no .no .no .no .no .no
  let ρ3 : Fm := k74Fr s l6 x2 x3 x4 x5 x6 (.sh (tpN P)) (.sh (tpN P')) (.sh (tpN Q)) (.sh (tpN Q')) x11 x12 x13 .no .no .no .no .no .no
  let ρ4 : Fm := k74Fr s l6 x2 x3 x4 x5 x6 (.sh (tpN P)) (.sh (tpN P')) (.sh (tpN Q)) (.sh (tpN Q')) x11 x12 x13 x14 .no .no .no .no .no
  let ρ5 : Fm := k74Fr s l6 x2 x3 x4 x5 x6 (.sh (tpN P)) (.sh (tpN P')) (.sh (tpN Q)) (.sh (tpN Q')) x11 x12 x13 x14 x15 x16 .no .no .no
  let ρ6 : Fm := k74Fr s l6 x2 x3 x4 x5 x6 (.sh (tpN P)) (.sh (tpN P')) (.sh (tpN Q)) (.sh (tpN Q')) x11 x12 x13 x14 x15 x16 x17 .no .no
  let ρ7 : Fm := k74Fr s l7 x2 x3 x4 x5 x6 (.sh (tpN P)) (.sh (tpN P')) (.sh (tpN Q)) (.sh (tpN Q')) x11 x12 x13 x14 x15 x16 x17 (.sh (tpN T)) .no
  unfold f_k74 b_k74
  refine runP_rt (ρ' := ρ7) ?_
  refine seq_go (ρ1 := k74Fr s [s, .int 0, .int 9674, .int 0] .no .no .no .no .no .no .no .no .no .no .no .no .no .no .no .no .no .no) (by simp only [sSeq, sIf, sAsg, sAll, sUnp, sRet, sDrop, sNext, sBreak, sFor, sForX, sApp, sPut, sAug, sFrz, sNever, frz1, putB, mSh, mOw, mNil, mCons, up, fBl, fNot, fAnd, fOr, fIf, fAndV, fOrV, fNotV, fOp1, fOp2, fOwn, fVar, fC, fNil, fCons, fTup, fLst, fCall, fYes, xBl, xNot, xAnd, xOr, xIf, xOp1, xOp2, xCons, xTup, xLst, xCall, xCallI, xPop, ownOf, ioOf, B.put, iSeq, iRg1, iRg2, iEn, seqD, itemsD, setT, setTs, wipeB, startB, startI, fChain, List.map_cons, List.map_nil, List.length_cons, List.length_nil, List.cons_append, List.nil_append, List.replicate_succ, List.replicate_zero, Nat.add_zero, Nat.zero_add, Nat.reduceAdd, Nat.reduceSub, Nat.sub_self, List.getElem?_cons_zero, List.getElem?_cons_succ, List.set_cons_zero, List.set_cons_succ, Option.bind_some, Option.bind_none, Option.map_some, Option.map_none, Bool.false_eq_true, if_true, if_false, if_pos, reduceIte, Bool.not_true, Bool.not_false, gIxL, gIxT, ix0, ix1, ix2, ix3, gLenL, gLenT, gInt_i, gTuple, gList, gAdd_i, gSub_i, gGt_i, gLt_i, gGe_i, gLe_i, gEq_i, gNe_i, ixn1, ixn2, ixn3, ixn0, z4]) ?_
  refine seq_go (ρ1 := k74Fr s l2 x2 x3 .no .no .no .no .no .no .no .no .no .no .no .no .no .no .no .no) (all2_at (sh_at (xcall1_at (b := .ow [s, .int 0, .int 9674, .int 0]) (f := fC (.int 20)) rfl rfl rfl e1)) (sh_at (xcall1_at (b := .ow l1) (f := fC (.int 20)) rfl rfl rfl e2))) ?_
  refine seq_go (ρ1 := k74Fr s l2 x2 x3 x4 x5 .no .no .no .no .no .no .no .no .no .no .no .no .no .no) (all2_at (sh_at (up_at ((op1_at (g := gLen) (a := faD n pa) rfl).trans fa_len))) (sh_at (up_at ((op1_at (g := gLen) (a := faD m qa) rfl).trans fa_len)))) ?_
  refine seq_go (asg_at (d := faD (n + m) (joF n pa qa)) (k74_both (by omega) rfl rfl rfl) (ρ' := k74Fr s l2 x2 x3 x4 x5 x6 .no .no .no .no .no .no .no .no .no .no .no .no .no) rfl) ?_
  refine seq_go (ρ1 := ρ1) (all4_at (sh_at (xcall1_at (b := .ow l2) (f := fVar 4) rfl rfl rfl e3)) (sh_at (xcall1_at (b := .ow l3) (f := fVar 5) rfl rfl rfl e4)) (sh_at (xcall1_at (b := .ow l4) (f := fVar 4) rfl rfl rfl e5)) (sh_at (xcall1_at (b := .ow l5) (f := fVar 5) rfl rfl rfl e6))) ?_
  have q1 : fOp2 gAdd (fVar 7) (fOp1 gTuple (fLc [19] (.one 19) (iSeq (fVar 8)) fYes (fOp2 gAdd (fVar 19) (fVar 4)))) ρ1 = some (tpN (joN n P P')) := (op2_at (g := gAdd) (a := tpN P) rfl (k74_shf rfl (by omega) fun _ => rfl)).trans (a1 (by omega) (by omega))
  have q2 : fOp2 gAdd (fVar 9) (fOp1 gTuple (fLc [19] (.one 19) (iSeq (fVar 10)) fYes (fOp2 gAdd (fVar 19) (fVar 4)))) ρ1 = some (tpN (joN n Q Q')) := (op2_at (g := gAdd) (a := tpN Q) rfl (k74_shf rfl (by omega) fun _ => rfl)).trans (a1 (by omega) (by omega))
  refine seq_go (ρ1 := ρ2) (all2_at (sh_at (up_at q1)) (sh_at (up_at q2))) ?_
  refine seq_go (if_no (by
    refine up_at (bl_at ((op2_at (call3_at rfl rfl rfl (forest_spare_ok H (by omega) (by omega) hJ hK)) ((op2_at (call3_at rfl rfl rfl (forest_spare_ok F n1 (by omega) hP hQ)) (k74_shf (call3_at rfl rfl rfl (forest_spare_ok G m1 (by omega) hP' hQ')) (by omega) fun _ => rfl)).trans (a1 (by omega) (by omega)))).trans (neT_no (foS_jo F G hP hQ hP' hQ')))))) ?_
  refine seq_go (if_no (by
    repeat' (first | with_reducible exact forest_fewest_ok H (by omega) (by omega) hJ hK | with_reducible exact forest_fewest_ok F n1 (by omega) hP hQ | with_reducible exact forest_fewest_ok G m1 (by omega) hP' hQ' | with_reducible refine' up_at ?_ | with_reducible refine' bl_at ?_ | with_reducible refine' call1_at ?_ ?_ | with_reducible refine' call2_at ?_ ?_ ?_ | with_reducible refine' call3_at ?_ ?_ ?_ ?_ | with_reducible refine' call4_at ?_ ?_ ?_ ?_ ?_ | with_reducible refine' (op1_at ?_).trans ?_ | with_reducible refine' (op2_at ?_ ?_).trans ?_ | with_reducible refine' notF_at ?_ | with_reducible refine' orF_at ?_ ?_ | with_reducible refine' andT_at ?_ ?_ | with_reducible refine' sl_at ?_ ?_ ?_ ?_ | with_reducible refine' part_at ?_ | with_reducible exact nop_at | with_reducible refine' tup_at ?_ ?_ | with_reducible refine' lst_at ?_ ?_ | with_reducible refine' cons_at ?_ ?_ | with_reducible exact nil_at | with_reducible exact fC_at | ((with_reducible refine' fVar_at ?_) <;> (try exact rfl)) | ((with_reducible refine' fOwn_sh ?_) <;> (try exact rfl)) | ((with_reducible refine' fOwn_ow ?_) <;> (try exact rfl)) | with_reducible exact gSub_i _ _ | with_reducible exact gAdd_n _ _ | with_reducible exact len_tp _ | with_reducible exact len_ls _ | with_reducible exact webD0 _ _ | with_reducible exact webD1 _ _ | with_reducible exact ix_fst | with_reducible exact ix_snd | with_reducible exact tuple_ls | with_reducible exact alike_int _ _ | with_reducible exact alike_bool _ _ | ((with_reducible refine' neI_no ?_) <;> try exact rfl) | ((with_reducible refine' neT_no ?_) <;> try exact rfl) | ((with_reducible refine' neL_no ?_) <;> try exact rfl) | ((with_reducible refine' neB_no ?_) <;> try exact rfl) | (with_reducible show List.length _ ≤ 1000000; exact Nat.le_of_ble_eq_true rfl) | with_reducible exact gNe_tpnil _ | with_reducible exact gEq_nilL _ | with_reducible exact gNe_nilL _)
    exact fw_jo F G hP hQ hP' hQ')) ?_
  refine seq_go (asg_at (d := tpN (joN n (fwW n pa P Q) (fwW m qa P' Q'))) ((op2_at (call3_at rfl rfl rfl (forest_word_ok F n1 (by omega) hP hQ)) (k74_shf (call3_at rfl rfl rfl (forest_word_ok G m1 (by omega) hP' hQ')) (by omega) fun _ => rfl)).trans (a1 (by omega) (by omega))) (ρ' := ρ3) rfl) ?_
  refine seq_go (if_no (up_at (notF_at (bl_at (call4_at rfl rfl rfl rfl ((shows_forest_ok H (by omega) (by omega) hJ hK wb).trans (by rw [decide_eq_true wl, decide_eq_true (run_jo F G hP hQ hP' hQ')]; rfl))))))) ?_
  refine seq_go (if_no (up_at ?_)) ?_
  · by_cases h0 : joN n (fwW n pa P Q) (fwW m qa P' Q') = []
    · exact fand_f (bl_at ((op2_at (g := gNe) (a := tpN (joN n (fwW n pa P Q) (fwW m qa P' Q'))) (b := .tuple []) rfl rfl).trans ((gNe_tpnil _).trans (by rw [h0]; rfl))))
    · have hp := List.length_pos_iff.mpr h0
      refine fand_t (bl_at ((op2_at (g := gNe) (a := tpN (joN n (fwW n pa P Q) (fwW m qa P' Q'))) (b := .tuple []) rfl rfl).trans ((gNe_tpnil _).trans (by rw [show (joN n (fwW n pa P Q) (fwW m qa P' Q')).isEmpty = false from by cases h : joN n (fwW n pa P Q) (fwW m qa P' Q') with | nil => exact absurd h h0 | cons => rfl]; rfl)))) ?_
      refine bl_at (call4_at rfl rfl rfl (sl_at (d := tpN (joN n (fwW n pa P Q) (fwW m qa P' Q'))) (a := some ((1 : Nat) : Int)) rfl rfl rfl (cut_hi (by omega))) ((shows_forest_ok H (by omega) (by omega) hJ hK fun k hk => wb k (List.mem_of_mem_drop hk)).trans ?_))
      rw [decide_eq_false (by rw [List.length_drop]; omega)]
      rfl
  refine seq_go (if_no (by
    repeat' (first | with_reducible exact forest_light_states_ok H (by omega) (by omega) hJ | with_reducible exact forest_light_states_ok F n1 (by omega) hP | with_reducible exact forest_light_states_ok G m1 (by omega) hP' | with_reducible exact gMul_n (states_small G (by omega)) | with_reducible refine' up_at ?_ | with_reducible refine' bl_at ?_ | with_reducible refine' call1_at ?_ ?_ | with_reducible refine' call2_at ?_ ?_ ?_ | with_reducible refine' call3_at ?_ ?_ ?_ ?_ | with_reducible refine' call4_at ?_ ?_ ?_ ?_ ?_ | with_reducible refine' (op1_at ?_).trans ?_ | with_reducible refine' (op2_at ?_ ?_).trans ?_ | with_reducible refine' notF_at ?_ | with_reducible refine' orF_at ?_ ?_ | with_reducible refine' andT_at ?_ ?_ | with_reducible refine' sl_at ?_ ?_ ?_ ?_ | with_reducible refine' part_at ?_ | with_reducible exact nop_at | with_reducible refine' tup_at ?_ ?_ | with_reducible refine' lst_at ?_ ?_ | with_reducible refine' cons_at ?_ ?_ | with_reducible exact nil_at | with_reducible exact fC_at | ((with_reducible refine' fVar_at ?_) <;> (try exact rfl)) | ((with_reducible refine' fOwn_sh ?_) <;> (try exact rfl)) | ((with_reducible refine' fOwn_ow ?_) <;> (try exact rfl)) | with_reducible exact gSub_i _ _ | with_reducible exact gAdd_n _ _ | with_reducible exact len_tp _ | with_reducible exact len_ls _ | with_reducible exact webD0 _ _ | with_reducible exact webD1 _ _ | with_reducible exact ix_fst | with_reducible exact ix_snd | with_reducible exact tuple_ls | with_reducible exact alike_int _ _ | with_reducible exact alike_bool _ _ | ((with_reducible refine' neI_no ?_) <;> try exact rfl) | ((with_reducible refine' neT_no ?_) <;> try exact rfl) | ((with_reducible refine' neL_no ?_) <;> try exact rfl) | ((with_reducible refine' neB_no ?_) <;> try exact rfl) | (with_reducible show List.length _ ≤ 1000000; exact Nat.le_of_ble_eq_true rfl) | with_reducible exact gNe_tpnil _ | with_reducible exact gEq_nilL _ | with_reducible exact gNe_nilL _)
    exact states_jo F G hP)) ?_
  refine seq_go (asg_at (d := faD (n + 1) (unF pa)) (k74_under (by omega) rfl) (ρ' := ρ4) rfl) ?_
  refine seq_go (ρ1 := ρ5) (all2_at (sh_at (up_at (k74_shf (c := 1) rfl (by omega) fun _ => rfl))) (sh_at (up_at (k74_shf (c := 1) rfl (by omega) fun _ => rfl)))) ?_
  have a0 : ∀ {L : List Nat}, L.length ≤ 400 → gAdd (.tuple [.int 0]) (tpN (shS L)) = some (tpN (unS L)) := fun h => (gAdd_T (by rw [nums_len, List.length_map]; show 1 + _ ≤ _; omega)).trans rfl
  have q3 : fOp2 gAdd (fTup (fCons (fC (.int 0)) (fNil))) (fVar 15) ρ5 = some (tpN (unS P)) := (op2_at (g := gAdd) (a := .tuple [.int 0]) (b := tpN (shS P)) rfl rfl).trans (a0 (by omega))
  have q4 : fOp2 gAdd (fTup (fCons (fC (.int 0)) (fNil))) (fVar 16) ρ5 = some (tpN (unS Q)) := (op2_at (g := gAdd) (a := .tuple [.int 0]) (b := tpN (shS Q)) rfl rfl).trans (a0 (by omega))
  refine seq_go (if_no (by
    repeat' (first | with_reducible exact q3 | with_reducible exact q4 | with_reducible exact forest_fewest_ok U (by omega) (by omega) hU hV | with_reducible exact forest_fewest_ok F n1 (by omega) hP hQ | with_reducible refine' up_at ?_ | with_reducible refine' bl_at ?_ | with_reducible refine' call1_at ?_ ?_ | with_reducible refine' call2_at ?_ ?_ ?_ | with_reducible refine' call3_at ?_ ?_ ?_ ?_ | with_reducible refine' call4_at ?_ ?_ ?_ ?_ ?_ | with_reducible refine' (op1_at ?_).trans ?_ | with_reducible refine' (op2_at ?_ ?_).trans ?_ | with_reducible refine' notF_at ?_ | with_reducible refine' orF_at ?_ ?_ | with_reducible refine' andT_at ?_ ?_ | with_reducible refine' sl_at ?_ ?_ ?_ ?_ | with_reducible refine' part_at ?_ | with_reducible exact nop_at | with_reducible refine' tup_at ?_ ?_ | with_reducible refine' lst_at ?_ ?_ | with_reducible refine' cons_at ?_ ?_ | with_reducible exact nil_at | with_reducible exact fC_at | ((with_reducible refine' fVar_at ?_) <;> (try exact rfl)) | ((with_reducible refine' fOwn_sh ?_) <;> (try exact rfl)) | ((with_reducible refine' fOwn_ow ?_) <;> (try exact rfl)) | with_reducible exact gSub_i _ _ | with_reducible exact gAdd_n _ _ | with_reducible exact len_tp _ | with_reducible exact len_ls _ | with_reducible exact webD0 _ _ | with_reducible exact webD1 _ _ | with_reducible exact ix_fst | with_reducible exact ix_snd | with_reducible exact tuple_ls | with_reducible exact alike_int _ _ | with_reducible exact alike_bool _ _ | ((with_reducible refine' neI_no ?_) <;> try exact rfl) | ((with_reducible refine' neT_no ?_) <;> try exact rfl) | ((with_reducible refine' neL_no ?_) <;> try exact rfl) | ((with_reducible refine' neB_no ?_) <;> try exact rfl) | (with_reducible show List.length _ ≤ 1000000; exact Nat.le_of_ble_eq_true rfl) | with_reducible exact gNe_tpnil _ | with_reducible exact gEq_nilL _ | with_reducible exact gNe_nilL _)
    exact fw_un F)) ?_
  have n0 : ∀ k : Nat, Stn k [] := fun k => ⟨.nil, fun x h => by cases h⟩
  refine seq_go (if_no (by
    repeat' (first | with_reducible exact (show fTup fNil ρ5 = some (tpN []) from rfl) | with_reducible exact rgT_at (n := n + 1) ((op2_at (g := gAdd) (a := .int (n : Int)) (b := .int ((1 : Nat) : Int)) rfl rfl).trans (gAdd_n _ _)) (by omega) | with_reducible exact rgT_at (n := n) rfl (by omega) | with_reducible exact forest_light_ways_ok U (by omega) (by omega) (n0 _) rng_stn | with_reducible exact forest_light_ways_ok F n1 (by omega) (n0 _) rng_stn | with_reducible refine' up_at ?_ | with_reducible refine' bl_at ?_ | with_reducible refine' call1_at ?_ ?_ | with_reducible refine' call2_at ?_ ?_ ?_ | with_reducible refine' call3_at ?_ ?_ ?_ ?_ | with_reducible refine' call4_at ?_ ?_ ?_ ?_ ?_ | with_reducible refine' (op1_at ?_).trans ?_ | with_reducible refine' (op2_at ?_ ?_).trans ?_ | with_reducible refine' notF_at ?_ | with_reducible refine' orF_at ?_ ?_ | with_reducible refine' andT_at ?_ ?_ | with_reducible refine' sl_at ?_ ?_ ?_ ?_ | with_reducible refine' part_at ?_ | with_reducible exact nop_at | with_reducible refine' tup_at ?_ ?_ | with_reducible refine' lst_at ?_ ?_ | with_reducible refine' cons_at ?_ ?_ | with_reducible exact nil_at | with_reducible exact fC_at | ((with_reducible refine' fVar_at ?_) <;> (try exact rfl)) | ((with_reducible refine' fOwn_sh ?_) <;> (try exact rfl)) | ((with_reducible refine' fOwn_ow ?_) <;> (try exact rfl)) | with_reducible exact gSub_i _ _ | with_reducible exact gAdd_n _ _ | with_reducible exact len_tp _ | with_reducible exact len_ls _ | with_reducible exact webD0 _ _ | with_reducible exact webD1 _ _ | with_reducible exact ix_fst | with_reducible exact ix_snd | with_reducible exact tuple_ls | with_reducible exact alike_int _ _ | with_reducible exact alike_bool _ _ | ((with_reducible refine' neI_no ?_) <;> try exact rfl) | ((with_reducible refine' neT_no ?_) <;> try exact rfl) | ((with_reducible refine' neL_no ?_) <;> try exact rfl) | ((with_reducible refine' neB_no ?_) <;> try exact rfl) | (with_reducible show List.length _ ≤ 1000000; exact Nat.le_of_ble_eq_true rfl) | with_reducible exact gNe_tpnil _ | with_reducible exact gEq_nilL _ | with_reducible exact gNe_nilL _)
    rw [flw_all U, flw_all F, or_un F])) ?_
  have n19 : ∀ b : B, k74Fr s l6 x2 x3 x4 x5 x6 (.sh (tpN P)) (.sh (tpN P')) (.sh (tpN Q)) (.sh (tpN Q')) x11 x12 x13 x14 x15 x16 .no .no b = ρ5.set 19 b := fun _ => rfl
  have q5 := lc_nums (vs := [19]) (v := 19) (fi := iSeq (fVar 9)) (fc := fBl (fOp2 (gIn true) (fVar 19) (fVar 7))) (ρ := ρ5) (L := Q) (fun x => !decide (x ∈ P)) rfl (by omega) (fun _ => rfl) (by show 19 < 20; omega) fun k _ => bl_at ((op2_at (g := gIn true) (a := .int (k : Int)) (b := tpN P) rfl rfl).trans gNi_numsT)
  refine seq_go (asg_at (d := lsN (mnS P Q)) q5 (ρ' := ρ6) rfl) ?_
  refine seq_go (if_no (up_at ?_)) ?_
  · by_cases h0 : mnS P Q = []
    · exact fand_f (bl_at ((op2_at (g := gNe) (a := lsN (mnS P Q)) (b := .list []) rfl rfl).trans ((gNe_nilL _).trans (by rw [h0]; rfl))))
    · refine fand_t (bl_at ((op2_at (g := gNe) (a := lsN (mnS P Q)) (b := .list []) rfl rfl).trans ((gNe_nilL _).trans (by rw [show (mnS P Q).isEmpty = false from by cases h : mnS P Q with | nil => exact absurd h h0 | cons => rfl]; rfl)))) ?_
      by_cases hp : P = []
      · subst hp
        refine fand_t (bl_at ((op2_at (g := gEq) (a := tpN []) (b := .tuple []) rfl rfl).trans rfl)) (bl_at ?_)
        obtain ⟨k, hk⟩ := List.exists_mem_of_ne_nil _ h0
        have hk := (List.mem_filter.mp hk).1
        have h := rt_need F hQ k k (Nat.le_refl _) (hQ.lt k hk) (.inl hk)
        obtain ⟨t, ht⟩ := asc_hd0 spF_asc h
        refine (op2_at (g := gNe) (a := tpN [0]) (b := .tuple [.int 0]) (sl_at (d := tpN (0 :: t)) (a := none) (b := some ((1 : Nat) : Int)) ?_ rfl rfl (cut_lo (by rw [List.length_cons]; omega))) rfl).trans (neT_no (L := [0]) (M := [0]) rfl)
        have := forest_spare_ok U (by omega) (by omega) (P := []) (Q := shS Q) (n0 _) hZ
        rw [show foS (n + 1) (unF pa) [] (shS Q) = 0 :: t from ht] at this
        exact call3_at rfl rfl rfl this
      · exact fand_f (bl_at ((op2_at (g := gEq) (a := tpN P) (b := .tuple []) rfl rfl).trans ((gEq_tpS P []).trans (by rw [decide_eq_false hp]))))
  refine seq_go (asgx_at (ρ1 := k74Fr s l7 x2 x3 x4 x5 x6 (.sh (tpN P)) (.sh (tpN P')) (.sh (tpN Q)) (.sh (tpN Q')) x11 x12 x13 x14 x15 x16 x17 .no .no) (sh_at (xcall1_at (b := .ow l6) (f := fVar 4) rfl rfl rfl e7))) ?_
  refine rt_at (d := .bool true) ?_
  repeat' (first | with_reducible exact forest_fewest_ok F n1 (by omega) hP hT | with_reducible exact forest_fewest_ok F n1 (by omega) hP hQ | with_reducible exact forest_fewest_ok F n1 (by omega) hQ hT | with_reducible refine' up_at ?_ | with_reducible refine' bl_at ?_ | with_reducible refine' call1_at ?_ ?_ | with_reducible refine' call2_at ?_ ?_ ?_ | with_reducible refine' call3_at ?_ ?_ ?_ ?_ | with_reducible refine' call4_at ?_ ?_ ?_ ?_ ?_ | with_reducible refine' (op1_at ?_).trans ?_ | with_reducible refine' (op2_at ?_ ?_).trans ?_ | with_reducible refine' notF_at ?_ | with_reducible refine' orF_at ?_ ?_ | with_reducible refine' andT_at ?_ ?_ | with_reducible refine' sl_at ?_ ?_ ?_ ?_ | with_reducible refine' part_at ?_ | with_reducible exact nop_at | with_reducible refine' tup_at ?_ ?_ | with_reducible refine' lst_at ?_ ?_ | with_reducible refine' cons_at ?_ ?_ | with_reducible exact nil_at | with_reducible exact fC_at | ((with_reducible refine' fVar_at ?_) <;> (try exact rfl)) | ((with_reducible refine' fOwn_sh ?_) <;> (try exact rfl)) | ((with_reducible refine' fOwn_ow ?_) <;> (try exact rfl)) | with_reducible exact gSub_i _ _ | with_reducible exact gAdd_n _ _ | with_reducible exact len_tp _ | with_reducible exact len_ls _ | with_reducible exact webD0 _ _ | with_reducible exact webD1 _ _ | with_reducible exact ix_fst | with_reducible exact ix_snd | with_reducible exact tuple_ls | with_reducible exact alike_int _ _ | with_reducible exact alike_bool _ _ | ((with_reducible refine' neI_no ?_) <;> try exact rfl) | ((with_reducible refine' neT_no ?_) <;> try exact rfl) | ((with_reducible refine' neL_no ?_) <;> try exact rfl) | ((with_reducible refine' neB_no ?_) <;> try exact rfl) | (with_reducible show List.length _ ≤ 1000000; exact Nat.le_of_ble_eq_true rfl) | with_reducible exact gNe_tpnil _ | with_reducible exact gEq_nilL _ | with_reducible exact gNe_nilL _)
  rw [gLe_i, decide_eq_true (by have := fw_tri (n := n) (pa := pa) (P := P) (Q := Q) (R := T); omega)]
end LF
end
section
set_option Elab.async false
set_option linter.all false
set_option maxRecDepth 100000
set_option maxHeartbeats 4000000
namespace W74
open PySem PySem.Spec PyProof.Rows L2 DL
def topS (i : Nat) : Stmt := PySem.Challenge.pw_handons_k74_across_long_forests.main.body.getD i (.Pass ⟨0, 0, 0, 0⟩)
abbrev s_is_in : Stmt := topS 5
abbrev N_is_in : List Str := ["value", "least", "most"]
theorem sc_is_in : FnScope N_is_in ["value", "least", "most"] (defScope s_is_in) := ⟨rfl, rfl, rfl, by decide +kernel, rfl, by decide +kernel, by decide +kernel⟩
abbrev s_sides : Stmt := topS 7
abbrev N_sides : List Str := ["one", "other", "k"]
theorem sc_sides : FnScope N_sides ["one", "other"] (defScope s_sides) := ⟨rfl, rfl, rfl, by decide +kernel, rfl, by decide +kernel, by decide +kernel⟩
abbrev s_need_burning : Stmt := topS 10
abbrev N_need_burning : List Str := ["many", "burning", "index", "one"]
theorem sc_need_burning : FnScope N_need_burning ["many", "burning"] (defScope s_need_burning) := ⟨rfl, rfl, rfl, by decide +kernel, rfl, by decide +kernel, by decide +kernel⟩
abbrev s_need_parents : Stmt := topS 12
abbrev N_need_parents : List Str := ["parents", "index", "one"]
theorem sc_need_parents : FnScope N_need_parents ["parents"] (defScope s_need_parents) := ⟨rfl, rfl, rfl, by decide +kernel, rfl, by decide +kernel, by decide +kernel⟩
abbrev s_children : Stmt := topS 13
abbrev N_children : List Str := ["parents", "lamp", "k", "one"]
theorem sc_children : FnScope N_children ["parents", "lamp"] (defScope s_children) := ⟨rfl, rfl, rfl, by decide +kernel, rfl, by decide +kernel, by decide +kernel⟩
abbrev s_need_two : Stmt := topS 14
abbrev N_need_two : List Str := ["parents", "one", "other"]
theorem sc_need_two : FnScope N_need_two ["parents", "one", "other"] (defScope s_need_two) := ⟨rfl, rfl, rfl, by decide +kernel, rfl, by decide +kernel, by decide +kernel⟩
abbrev s_spare_of : Stmt := topS 15
abbrev N_spare_of : List Str := ["parents", "one", "other", "fresh", "old", "found", "ups", "downs", "k", "more"]
theorem sc_spare_of : FnScope N_spare_of ["parents", "one", "other"] (defScope s_spare_of) := ⟨rfl, rfl, rfl, by decide +kernel, rfl, by decide +kernel, by decide +kernel⟩
abbrev s_forest_spare : Stmt := topS 16
abbrev N_forest_spare : List Str := ["parents", "one", "other"]
theorem sc_forest_spare : FnScope N_forest_spare ["parents", "one", "other"] (defScope s_forest_spare) := ⟨rfl, rfl, rfl, by decide +kernel, rfl, by decide +kernel, by decide +kernel⟩
abbrev s_word_of : Stmt := topS 17
abbrev N_word_of : List Str := ["parents", "one", "other", "fresh", "old", "some"]
theorem sc_word_of : FnScope N_word_of ["parents", "one", "other"] (defScope s_word_of) := ⟨rfl, rfl, rfl, by decide +kernel, rfl, by decide +kernel, by decide +kernel⟩
abbrev s_forest_fewest : Stmt := topS 18
abbrev N_forest_fewest : List Str := ["parents", "one", "other"]
theorem sc_forest_fewest : FnScope N_forest_fewest ["parents", "one", "other"] (defScope s_forest_fewest) := ⟨rfl, rfl, rfl, by decide +kernel, rfl, by decide +kernel, by decide +kernel⟩
abbrev s_forest_word : Stmt := topS 19
abbrev N_forest_word : List Str := ["parents", "one", "other"]
theorem sc_forest_word : FnScope N_forest_word ["parents", "one", "other"] (defScope s_forest_word) := ⟨rfl, rfl, rfl, by decide +kernel, rfl, by decide +kernel, by decide +kernel⟩
abbrev s_leads_to : Stmt := topS 20
abbrev N_leads_to : List Str := ["parents", "one", "value", "burns", "lamp", "barred", "k"]
theorem sc_leads_to : FnScope N_leads_to ["parents", "one", "value"] (defScope s_leads_to) := ⟨rfl, rfl, rfl, by decide +kernel, rfl, by decide +kernel, by decide +kernel⟩
abbrev s_shows_forest_word : Stmt := topS 21
abbrev N_shows_forest_word : List Str := ["parents", "one", "other", "value"]
theorem sc_shows_forest_word : FnScope N_shows_forest_word ["parents", "one", "other", "value"] (defScope s_shows_forest_word) := ⟨rfl, rfl, rfl, by decide +kernel, rfl, by decide +kernel, by decide +kernel⟩
abbrev s_forest_light_ways : Stmt := topS 22
abbrev N_forest_light_ways : List Str := ["parents", "one", "other", "fresh", "old", "k", "found", "sizes", "turn", "j"]
theorem sc_forest_light_ways : FnScope N_forest_light_ways ["parents", "one", "other"] (defScope s_forest_light_ways) := ⟨rfl, rfl, rfl, by decide +kernel, rfl, by decide +kernel, by decide +kernel⟩
abbrev s_forest_light_states : Stmt := topS 23
abbrev N_forest_light_states : List Str := ["parents", "burning", "lit", "dark", "lamp", "child", "found"]
theorem sc_forest_light_states : FnScope N_forest_light_states ["parents", "burning"] (defScope s_forest_light_states) := ⟨rfl, rfl, rfl, by decide +kernel, rfl, by decide +kernel, by decide +kernel⟩
abbrev s_law_taken : Stmt := topS 25
abbrev N_law_taken : List Str := ["_law_row", "_law_many", "_law_found", "_law_cell"]
theorem sc_law_taken : FnScope N_law_taken ["_law_row", "_law_many"] (defScope s_law_taken) := ⟨rfl, rfl, rfl, by decide +kernel, rfl, by decide +kernel, by decide +kernel⟩
abbrev s_law_parents : Stmt := topS 26
abbrev N_law_parents : List Str := ["_law_row", "_law_most", "_law_many", "_law_way", "_law_found", "_law_k", "_law_near"]
theorem sc_law_parents : FnScope N_law_parents ["_law_row", "_law_most"] (defScope s_law_parents) := ⟨rfl, rfl, rfl, by decide +kernel, rfl, by decide +kernel, by decide +kernel⟩
abbrev s_law_pick : Stmt := topS 27
abbrev N_law_pick : List Str := ["_law_row", "_law_things"]
theorem sc_law_pick : FnScope N_law_pick ["_law_row", "_law_things"] (defScope s_law_pick) := ⟨rfl, rfl, rfl, by decide +kernel, rfl, by decide +kernel, by decide +kernel⟩
abbrev s_law_row_burning : Stmt := topS 28
abbrev N_law_row_burning : List Str := ["_law_row", "_law_many", "_law_thin", "_law_k"]
theorem sc_law_row_burning : FnScope N_law_row_burning ["_law_row", "_law_many"] (defScope s_law_row_burning) := ⟨rfl, rfl, rfl, by decide +kernel, rfl, by decide +kernel, by decide +kernel⟩
abbrev s_law : Stmt := topS 29
abbrev N_law : List Str := ["_law_script", "_law_row", "_law_one", "_law_two", "_law_many", "_law_size", "_law_both", "_law_first", "_law_second", "_law_there", "_law_shows", "_law_here", "_law_then", "_law_word", "_law_under", "_law_low", "_law_high", "_law_lit", "_law_third", "_law_k"]
theorem sc_law : FnScope N_law ["_law_script"] (defScope s_law) := ⟨rfl, rfl, rfl, by decide +kernel, rfl, by decide +kernel, by decide +kernel⟩
/-- where the defs stand -/
structure Tx (K : PySem.W.Frag) (mg : Str → Option Value) where
  bt : Bt mg
  t_MOST_ROW : Tok
  c_MOST_ROW : mg "MOST_ROW" = some (.int 40 t_MOST_ROW)
  is_in : DefAt K mg "is_in" "is_in" s_is_in ["value", "least", "most"]
  sides : DefAt K mg "sides" "sides" s_sides ["one", "other"]
  need_burning : DefAt K mg "need_burning" "need_burning" s_need_burning ["many", "burning"]
  need_parents : DefAt K mg "need_parents" "need_parents" s_need_parents ["parents"]
  children : DefAt K mg "children" "children" s_children ["parents", "lamp"]
  need_two : DefAt K mg "need_two" "need_two" s_need_two ["parents", "one", "other"]
  spare_of : DefAt K mg "spare_of" "spare_of" s_spare_of ["parents", "one", "other"]
  forest_spare : DefAt K mg "forest_spare" "forest_spare" s_forest_spare ["parents", "one", "other"]
  word_of : DefAt K mg "word_of" "word_of" s_word_of ["parents", "one", "other"]
  forest_fewest : DefAt K mg "forest_fewest" "forest_fewest" s_forest_fewest ["parents", "one", "other"]
  forest_word : DefAt K mg "forest_word" "forest_word" s_forest_word ["parents", "one", "other"]
  leads_to : DefAt K mg "leads_to" "leads_to" s_leads_to ["parents", "one", "value"]
  shows_forest_word : DefAt K mg "shows_forest_word" "shows_forest_word" s_shows_forest_word ["parents", "one", "other", "value"]
  forest_light_ways : DefAt K mg "forest_light_ways" "forest_light_ways" s_forest_light_ways ["parents", "one", "other"]
  forest_light_states : DefAt K mg "forest_light_states" "forest_light_states" s_forest_light_states ["parents", "burning"]
  law_taken : DefAt K mg "_law_taken" "_law_taken" s_law_taken ["_law_row", "_law_many"]
  law_parents : DefAt K mg "_law_parents" "_law_parents" s_law_parents ["_law_row", "_law_most"]
  law_pick : DefAt K mg "_law_pick" "_law_pick" s_law_pick ["_law_row", "_law_things"]
  law_row_burning : DefAt K mg "_law_row_burning" "_law_row_burning" s_law_row_burning ["_law_row", "_law_many"]
  law : DefAt K mg "law" "law" s_law ["_law_script"]
section
variable {P : Program} {w : World} {K : PySem.W.Frag} {mg : Str → Option Value} {base : Heap}
theorem ok_is_in (T : Tx K mg) : FnOk P w K mg base CX0 1 T.is_in.a T.is_in.fd ["value", "least", "most"] (spP K LF.f_is_in 3) := by
  have scnd := (sc_is_in).nd
  refine def_P T.is_in.F sc_is_in rfl fun cdv A outer s H E hr => ?_
  exact b_one (s_ret (PP.xe (d_and (d_isa (id := "int") (by decide) boot_int T.bt T.bt.int (PP.pv (d_var 0))) (d_and (d_not (d_isa (id := "bool") (by decide) boot_bool T.bt T.bt.bool (PP.pv (d_var 0)))) (d_one (d_chain (o_le hr) (o_le hr) (PP.pv (d_var 1)) (PP.pv (d_var 0)) (PP.pv (d_var 2))))))))
theorem ok_sides (T : Tx K mg) : FnOk P w K mg base CX0 1 T.sides.a T.sides.fd ["one", "other"] (spP K LF.f_sides 2) := by
  have scnd := (sc_sides).nd
  refine def_P T.sides.F sc_sides rfl fun cdv A outer s H E hr => ?_
  exact b_one (s_ret (PP.xe (d_tup (as_cons (d_lc1 (own := [("k", 2)]) rfl scnd (i_seq (d_var 1)) (blkOk_by (N := N_sides) (sc := defScope s_sides) (by decide +kernel)) (fun _ => g_one 2 scnd) (fun _ => t_cmp (c_ni hr (PP.pv (d_var 2)) (PP.pv (d_var 0)))) (fun _ => d_var 2) (by decide)) (as_cons (d_lc1 (own := [("k", 2)]) rfl scnd (i_seq (d_var 0)) (blkOk_by (N := N_sides) (sc := defScope s_sides) (by decide +kernel)) (fun _ => g_one 2 scnd) (fun _ => t_cmp (c_ni hr (PP.pv (d_var 2)) (PP.pv (d_var 1)))) (fun _ => d_var 2) (by decide)) (as_nil))))))
theorem ok_need_burning (T : Tx K mg) : FnOk P w K mg base CX0 2 T.need_burning.a T.need_burning.fd ["many", "burning"] (spP K LF.f_need_burning_3339 2) := by
  have scnd := (sc_need_burning).nd
  refine def_P T.need_burning.F sc_need_burning rfl fun cdv A outer s H E hr => ?_
  exact b_cons (s_if (PB.xb (t_not (t_val (d_isa (id := "tuple") (by decide) boot_tuple T.bt T.bt.tuple (PP.pv (d_var 1)))))) (b_one (s_never)) (b_nil))
      (b_one (s_for PassesOwn.never rfl (i_enum T.bt (d_var 1)) (g_tup rfl (gs_cons (g_one 2 scnd) (gs_cons (g_one 3 scnd) (gs_nil)))) (b_one (s_if (PB.xb (PWb.pb (w_or (t_not (t_val (d_call (ok_is_in T) (hr.mono (by decide)) T.is_in.m T.is_in.F.kp T.is_in.b (as_cons (d_var 3) (as_cons (d_int) (as_cons (d_sub (PP.pv (d_var 0)) (PP.pv (d_int))) (as_nil))))))) (w_or1 (PWb.pb (w_and (t_cmp (c_gt hr (PP.pv (d_var 2)) (PP.pv (d_int)))) (w_and1 (t_cmp (c_le hr (PP.pv (d_var 3)) (PP.pv (d_ix (PP.pv (d_var 1)) (PP.pv (d_sub (PP.pv (d_var 2)) (PP.pv (d_int))))))))))))))) (b_one (s_never)) (b_nil)))))
theorem ok_need_parents (T : Tx K mg) : FnOk P w K mg base CX0 2 T.need_parents.a T.need_parents.fd ["parents"] (spP K LF.f_need_parents 1) := by
  have scnd := (sc_need_parents).nd
  refine def_P T.need_parents.F sc_need_parents rfl fun cdv A outer s H E hr => ?_
  exact b_cons (s_if (PB.xb (PWb.pb (w_or (t_not (t_val (d_isa (id := "tuple") (by decide) boot_tuple T.bt T.bt.tuple (PP.pv (d_var 0))))) (w_or1 (t_not (t_chain (o_le hr) (o_le hr) (PP.pv (d_int)) (PP.pv (d_len T.bt (PP.pv (d_var 0)))) (PP.pv (d_gint (by rfl) T.c_MOST_ROW)))))))) (b_one (s_never)) (b_nil))
      (b_one (s_for PassesOwn.never rfl (i_enum T.bt (d_var 0)) (g_tup rfl (gs_cons (g_one 1 scnd) (gs_cons (g_one 2 scnd) (gs_nil)))) (b_one (s_if (PB.xb (PWb.pb (w_and (t_cmp (c_isn (PP.pv (d_var 2)) (PP.pv (d_non)))) (w_and1 (t_not (t_val (d_call (ok_is_in T) (hr.mono (by decide)) T.is_in.m T.is_in.F.kp T.is_in.b (as_cons (d_var 2) (as_cons (d_int) (as_cons (d_sub (PP.pv (d_var 1)) (PP.pv (d_int))) (as_nil))))))))))) (b_one (s_never)) (b_nil)))))
theorem ok_children (T : Tx K mg) : FnOk P w K mg base CX0 1 T.children.a T.children.fd ["parents", "lamp"] (spP K LF.f_children 2) := by
  have scnd := (sc_children).nd
  refine def_P T.children.F sc_children rfl fun cdv A outer s H E hr => ?_
  exact b_one (s_ret (PP.xe (d_lc1 (own := [("k", 2), ("one", 3)]) rfl scnd (i_enum T.bt (d_var 0)) (blkOk_by (N := N_children) (sc := defScope s_children) (by decide +kernel)) (fun _ => g_tup rfl (gs_cons (g_one 2 scnd) (gs_cons (g_one 3 scnd) (gs_nil)))) (fun _ => t_cmp (c_eq hr (PP.pv (d_var 3)) (PP.pv (d_var 1)))) (fun _ => d_var 2) (by decide))))
theorem ok_need_two (T : Tx K mg) : FnOk P w K mg base CX0 3 T.need_two.a T.need_two.fd ["parents", "one", "other"] (spP K LF.f_need_two_43b8 3) := by
  have scnd := (sc_need_two).nd
  refine def_P T.need_two.F sc_need_two rfl fun cdv A outer s H E hr => ?_
  exact b_cons (s_expr (PP.xe (d_call (ok_need_parents T) (hr.mono (by decide)) T.need_parents.m T.need_parents.F.kp T.need_parents.b (as_cons (d_var 0) (as_nil)))))
      (b_cons (s_expr (PP.xe (d_call (ok_need_burning T) (hr.mono (by decide)) T.need_burning.m T.need_burning.F.kp T.need_burning.b (as_cons (d_len T.bt (PP.pv (d_var 0))) (as_cons (d_var 1) (as_nil))))))
      (b_one (s_expr (PP.xe (d_call (ok_need_burning T) (hr.mono (by decide)) T.need_burning.m T.need_burning.F.kp T.need_burning.b (as_cons (d_len T.bt (PP.pv (d_var 0))) (as_cons (d_var 2) (as_nil))))))))
theorem ok_spare_of (T : Tx K mg) : FnOk P w K mg base CX0 2 T.spare_of.a T.spare_of.fd ["parents", "one", "other"] (spP K LF.f_spare_of 3) := by
  have scnd := (sc_spare_of).nd
  refine def_P T.spare_of.F sc_spare_of rfl fun cdv A outer s H E hr => ?_
  exact b_cons (s_unp rfl (n_cons 3 scnd (n_cons 4 scnd (n_nil))) (PP.xe (d_call (ok_sides T) (hr.mono (by decide)) T.sides.m T.sides.F.kp T.sides.b (as_cons (d_var 1) (as_cons (d_var 2) (as_nil))))))
      (b_cons (s_tup rfl (n_cons 5 scnd (n_cons 6 scnd (n_cons 7 scnd (n_nil)))) (ma_cons (XE.xm (PP.xe (d_lst (as_nil)))) (ma_cons (XE.xm (PP.xe (d_list T.bt (PP.pv (d_var 3))))) (ma_cons (XE.xm (PP.xe (d_list T.bt (PP.pv (d_var 4))))) (ma_nil)))))
      (b_cons (s_while LF.wFuel PassesOwn.never (PB.xb (t_cmp (c_ne hr (PP.pv (d_add (PP.pv (d_var 6)) (PP.pv (d_var 7)))) (PP.pv (d_lst (as_nil)))))) (b_cons (s_lc1 (own := [("k", 8)]) 9 rfl scnd (i_seq (d_var 6)) (blkOk_by (N := N_spare_of) (sc := defScope s_spare_of) (by decide +kernel)) (fun _ => g_one 8 scnd) (fun _ => t_cmp (c_isn (PP.pv (d_ix (PP.pv (d_var 0)) (PP.pv (d_var 8)))) (PP.pv (d_non)))) (fun _ => d_ix (PP.pv (d_var 0)) (PP.pv (d_var 8))) (by decide) (sw_true rfl rfl rfl (by decide +kernel)))
      (b_cons (s_for PassesOwn.never rfl (i_seq (d_var 7)) (g_one 8 scnd) (b_one (s_set 9 (XE.xm (PP.xe (d_add (PP.pv (d_var 9)) (PP.pv (d_call (ok_children T) (hr.mono (by decide)) T.children.m T.children.F.kp T.children.b (as_cons (d_var 0) (as_cons (d_var 8) (as_nil)))))))) scnd)))
      (b_cons (s_lc1 (own := [("k", 8)]) 9 rfl scnd (i_seq (d_ss2 rfl hr T.bt (PP.pv (d_var 9)))) (blkOk_by (N := N_spare_of) (sc := defScope s_spare_of) (by decide +kernel)) (fun _ => g_one 8 scnd) (fun _ => PWb.pb (w_and (t_cmp (c_ni hr (PP.pv (d_var 8)) (PP.pv (d_var 1)))) (w_and (t_cmp (c_ni hr (PP.pv (d_var 8)) (PP.pv (d_var 2)))) (w_and1 (t_cmp (c_ni hr (PP.pv (d_var 8)) (PP.pv (d_var 5)))))))) (fun _ => d_var 8) (by decide) (sw_true rfl rfl rfl (by decide +kernel)))
      (b_one (s_tup rfl (n_cons 5 scnd (n_cons 6 scnd (n_cons 7 scnd (n_nil)))) (ma_cons (XE.xm (PP.xe (d_add (PP.pv (d_var 5)) (PP.pv (d_var 9))))) (ma_cons (XE.xm (PP.xe (d_var 9))) (ma_cons (XE.xm (PP.xe (d_var 9))) (ma_nil))))))))))
      (b_one (s_ret (PP.xe (d_sorted hr T.bt (PP.pv (d_var 5))))))))
theorem ok_forest_spare (T : Tx K mg) : FnOk P w K mg base CX0 4 T.forest_spare.a T.forest_spare.fd ["parents", "one", "other"] (spP K LF.f_forest_spare 3) := by
  have scnd := (sc_forest_spare).nd
  refine def_P T.forest_spare.F sc_forest_spare rfl fun cdv A outer s H E hr => ?_
  exact b_cons (s_expr (PP.xe (d_call (ok_need_two T) (hr.mono (by decide)) T.need_two.m T.need_two.F.kp T.need_two.b (as_cons (d_var 0) (as_cons (d_var 1) (as_cons (d_var 2) (as_nil)))))))
      (b_one (s_ret (PP.xe (d_tuple T.bt (PP.pv (d_call (ok_spare_of T) (hr.mono (by decide)) T.spare_of.m T.spare_of.F.kp T.spare_of.b (as_cons (d_var 0) (as_cons (d_var 1) (as_cons (d_var 2) (as_nil))))))))))
theorem ok_word_of (T : Tx K mg) : FnOk P w K mg base CX0 3 T.word_of.a T.word_of.fd ["parents", "one", "other"] (spP K LF.f_word_of 3) := by
  have scnd := (sc_word_of).nd
  refine def_P T.word_of.F sc_word_of rfl fun cdv A outer s H E hr => ?_
  exact b_cons (s_unp rfl (n_cons 3 scnd (n_cons 4 scnd (n_nil))) (PP.xe (d_call (ok_sides T) (hr.mono (by decide)) T.sides.m T.sides.F.kp T.sides.b (as_cons (d_var 1) (as_cons (d_var 2) (as_nil))))))
      (b_cons (s_set 5 (XE.xm (PP.xe (d_call (ok_spare_of T) (hr.mono (by decide)) T.spare_of.m T.spare_of.F.kp T.spare_of.b (as_cons (d_var 0) (as_cons (d_var 1) (as_cons (d_var 2) (as_nil))))))) scnd)
      (b_one (s_ret (PP.xe (d_add (PP.pv (d_sorted hr T.bt (PP.pv (d_add (PP.pv (d_var 3)) (PP.pv (d_var 5)))))) (PP.pv (d_sorted hr T.bt (PP.pv (d_add (PP.pv (d_var 4)) (PP.pv (d_var 5)))))))))))
theorem ok_forest_fewest (T : Tx K mg) : FnOk P w K mg base CX0 4 T.forest_fewest.a T.forest_fewest.fd ["parents", "one", "other"] (spP K LF.f_forest_fewest 3) := by
  have scnd := (sc_forest_fewest).nd
  refine def_P T.forest_fewest.F sc_forest_fewest rfl fun cdv A outer s H E hr => ?_
  exact b_cons (s_expr (PP.xe (d_call (ok_need_two T) (hr.mono (by decide)) T.need_two.m T.need_two.F.kp T.need_two.b (as_cons (d_var 0) (as_cons (d_var 1) (as_cons (d_var 2) (as_nil)))))))
      (b_one (s_ret (PP.xe (d_len T.bt (PP.pv (d_call (ok_word_of T) (hr.mono (by decide)) T.word_of.m T.word_of.F.kp T.word_of.b (as_cons (d_var 0) (as_cons (d_var 1) (as_cons (d_var 2) (as_nil))))))))))
theorem ok_forest_word (T : Tx K mg) : FnOk P w K mg base CX0 4 T.forest_word.a T.forest_word.fd ["parents", "one", "other"] (spP K LF.f_forest_word 3) := by
  have scnd := (sc_forest_word).nd
  refine def_P T.forest_word.F sc_forest_word rfl fun cdv A outer s H E hr => ?_
  exact b_cons (s_expr (PP.xe (d_call (ok_need_two T) (hr.mono (by decide)) T.need_two.m T.need_two.F.kp T.need_two.b (as_cons (d_var 0) (as_cons (d_var 1) (as_cons (d_var 2) (as_nil)))))))
      (b_one (s_ret (PP.xe (d_tuple T.bt (PP.pv (d_call (ok_word_of T) (hr.mono (by decide)) T.word_of.m T.word_of.F.kp T.word_of.b (as_cons (d_var 0) (as_cons (d_var 1) (as_cons (d_var 2) (as_nil))))))))))
theorem ok_leads_to (T : Tx K mg) : FnOk P w K mg base CX0 2 T.leads_to.a T.leads_to.fd ["parents", "one", "value"] (spP K LF.f_leads_to 3) := by
  have scnd := (sc_leads_to).nd
  refine def_P T.leads_to.F sc_leads_to rfl fun cdv A outer s H E hr => ?_
  exact b_cons (s_set 3 (m_lc0 (own := [("k", 6)]) rfl scnd (i_rg1 T.bt (d_len T.bt (PP.pv (d_var 0)))) (blkOk_by (N := N_leads_to) (sc := defScope s_leads_to) (by decide +kernel)) (fun _ => g_one 6 scnd) (fun _ => d_cmp (c_in hr (PP.pv (d_var 6)) (PP.pv (d_var 1)))) (by decide)) scnd)
      (b_cons (s_for PassesOwn.never rfl (i_seq (d_var 2)) (g_one 4 scnd) (b_cons (s_if (PB.xb (t_not (t_val (d_call (ok_is_in T) (hr.mono (by decide)) T.is_in.m T.is_in.F.kp T.is_in.b (as_cons (d_var 4) (as_cons (d_int) (as_cons (d_sub (PP.pv (d_len T.bt (PP.pv (d_var 0)))) (PP.pv (d_int))) (as_nil)))))))) (b_one (s_ret (PP.xe (d_non)))) (b_nil))
      (b_cons (s_if (PB.xb (t_val (d_ix (d_own 3) (PP.pv (d_var 4))))) (b_one (s_lc1 (own := [("k", 6)]) 5 rfl scnd (i_seq (d_call (ok_children T) (hr.mono (by decide)) T.children.m T.children.F.kp T.children.b (as_cons (d_var 0) (as_cons (d_var 4) (as_nil))))) (blkOk_by (N := N_leads_to) (sc := defScope s_leads_to) (by decide +kernel)) (fun _ => g_one 6 scnd) (fun _ => t_not (t_val (d_ix (d_own 3) (PP.pv (d_var 6))))) (fun _ => d_var 6) (by decide) (sw_true rfl rfl rfl (by decide +kernel)))) (b_one (s_lc1 (own := [("k", 6)]) 5 rfl scnd (i_seq (d_slice (d_var 0) (po_at (d_var 4)) (po_at (d_add (PP.pv (d_var 4)) (PP.pv (d_int)))))) (blkOk_by (N := N_leads_to) (sc := defScope s_leads_to) (by decide +kernel)) (fun _ => g_one 6 scnd) (fun _ => PWb.pb (w_and (t_cmp (c_isn (PP.pv (d_var 6)) (PP.pv (d_non)))) (w_and1 (t_not (t_val (d_ix (d_own 3) (PP.pv (d_var 6)))))))) (fun _ => d_var 6) (by decide) (sw_true rfl rfl rfl (by decide +kernel)))))
      (b_cons (s_if (PB.xb (t_cmp (c_ne hr (PP.pv (d_var 5)) (PP.pv (d_lst (as_nil)))))) (b_one (s_ret (PP.xe (d_non)))) (b_nil))
      (b_one (s_put 3 (d_var 4) (PP.xe (d_not (d_ix (d_own 3) (PP.pv (d_var 4)))))))))))
      (b_one (s_ret (PP.xe (d_tuple T.bt (PP.pv (d_lc1 (own := [("k", 6)]) rfl scnd (i_rg1 T.bt (d_len T.bt (PP.pv (d_var 0)))) (blkOk_by (N := N_leads_to) (sc := defScope s_leads_to) (by decide +kernel)) (fun _ => g_one 6 scnd) (fun _ => t_val (d_ix (d_own 3) (PP.pv (d_var 6)))) (fun _ => d_var 6) (by decide))))))))
theorem ok_shows_forest_word (T : Tx K mg) : FnOk P w K mg base CX0 4 T.shows_forest_word.a T.shows_forest_word.fd ["parents", "one", "other", "value"] (spP K LF.f_shows_forest_word 4) := by
  have scnd := (sc_shows_forest_word).nd
  refine def_P T.shows_forest_word.F sc_shows_forest_word rfl fun cdv A outer s H E hr => ?_
  exact b_cons (s_expr (PP.xe (d_call (ok_need_two T) (hr.mono (by decide)) T.need_two.m T.need_two.F.kp T.need_two.b (as_cons (d_var 0) (as_cons (d_var 1) (as_cons (d_var 2) (as_nil)))))))
      (b_cons (s_if (PB.xb (PWb.pb (w_or (t_not (t_val (d_isa (id := "tuple") (by decide) boot_tuple T.bt T.bt.tuple (PP.pv (d_var 3))))) (w_or1 (t_cmp (c_ne hr (PP.pv (d_len T.bt (PP.pv (d_var 3)))) (PP.pv (d_len T.bt (PP.pv (d_call (ok_word_of T) (hr.mono (by decide)) T.word_of.m T.word_of.F.kp T.word_of.b (as_cons (d_var 0) (as_cons (d_var 1) (as_cons (d_var 2) (as_nil)))))))))))))) (b_one (s_ret (PP.xe (d_bl)))) (b_nil))
      (b_one (s_ret (PP.xe (d_cmp (c_eq hr (PP.pv (d_call (ok_leads_to T) (hr.mono (by decide)) T.leads_to.m T.leads_to.F.kp T.leads_to.b (as_cons (d_var 0) (as_cons (d_var 1) (as_cons (d_var 3) (as_nil)))))) (PP.pv (d_var 2))))))))
theorem ok_forest_light_ways (T : Tx K mg) : FnOk P w K mg base CX0 4 T.forest_light_ways.a T.forest_light_ways.fd ["parents", "one", "other"] (spP K LF.f_forest_light_ways 3) := by
  have scnd := (sc_forest_light_ways).nd
  refine def_P T.forest_light_ways.F sc_forest_light_ways rfl fun cdv A outer s H E hr => ?_
  exact b_cons (s_expr (PP.xe (d_call (ok_need_two T) (hr.mono (by decide)) T.need_two.m T.need_two.F.kp T.need_two.b (as_cons (d_var 0) (as_cons (d_var 1) (as_cons (d_var 2) (as_nil)))))))
      (b_cons (s_unp rfl (n_cons 3 scnd (n_cons 4 scnd (n_nil))) (PP.xe (d_call (ok_sides T) (hr.mono (by decide)) T.sides.m T.sides.F.kp T.sides.b (as_cons (d_var 1) (as_cons (d_var 2) (as_nil))))))
      (b_cons (s_if (PB.xb (PWb.pb (w_or (t_cmp (c_ne hr (PP.pv (d_var 4)) (PP.pv (d_lst (as_nil))))) (w_or1 (t_cmp (c_ne hr (PP.pv (d_lc1 (own := [("k", 5)]) rfl scnd (i_seq (d_var 3)) (blkOk_by (N := N_forest_light_ways) (sc := defScope s_forest_light_ways) (by decide +kernel)) (fun _ => g_one 5 scnd) (fun _ => PWb.pb (w_and (t_cmp (c_isn (PP.pv (d_ix (PP.pv (d_var 0)) (PP.pv (d_var 5)))) (PP.pv (d_non)))) (w_and1 (t_cmp (c_ni hr (PP.pv (d_ix (PP.pv (d_var 0)) (PP.pv (d_var 5)))) (PP.pv (d_var 2))))))) (fun _ => d_var 5) (by decide))) (PP.pv (d_lst (as_nil))))))))) (b_one (s_ret (PP.xe (d_int)))) (b_nil))
      (b_cons (s_tup rfl (n_cons 6 scnd (n_cons 7 scnd (n_nil))) (ma_cons (XE.xm (PP.xe (d_int))) (ma_cons (m_newK) (ma_nil))))
      (b_cons (s_for PassesOwn.never rfl (i_seq (d_rev (d_var 3))) (g_one 5 scnd) (b_one (s_dset 7 hr (d_var 5) (PP.xe (d_add (PP.pv (d_int)) (PP.pv (d_sum rfl T.bt (PP.pv (d_lc1 (own := [("j", 9)]) rfl scnd (i_seq (d_call (ok_children T) (hr.mono (by decide)) T.children.m T.children.F.kp T.children.b (as_cons (d_var 0) (as_cons (d_var 5) (as_nil))))) (blkOk_by (N := N_forest_light_ways) (sc := defScope s_forest_light_ways) (by decide +kernel)) (fun _ => g_one 9 scnd) (fun _ => t_cmp (c_inD hr (PP.pv (d_var 9)) (d_own 7))) (fun _ => d_ixD hr (d_own 7) (PP.pv (d_var 9))) (by decide))))))))))
      (b_cons (s_for PassesOwn.never rfl (i_enum T.bt (d_var 3)) (g_tup rfl (gs_cons (g_one 8 scnd) (gs_cons (g_one 5 scnd) (gs_nil)))) (b_one (s_aug 6 iop_mul (vw_I2 fun _ _ h => smI_mul h) (d_add (PP.pv (d_var 8)) (PP.pv (d_int))) scnd)))
      (b_cons (s_for PassesOwn.never rfl (i_seq (d_var 3)) (g_one 5 scnd) (b_one (s_aug 6 iop_fdiv (vw_I2 fun _ _ h => cdiv_ok h) (d_ixD hr (d_own 7) (PP.pv (d_var 5))) scnd)))
      (b_one (s_ret (PP.xe (d_var 6))))))))))
theorem ok_forest_light_states (T : Tx K mg) : FnOk P w K mg base CX0 3 T.forest_light_states.a T.forest_light_states.fd ["parents", "burning"] (spP K LF.f_forest_light_states 2) := by
  have scnd := (sc_forest_light_states).nd
  refine def_P T.forest_light_states.F sc_forest_light_states rfl fun cdv A outer s H E hr => ?_
  exact b_cons (s_expr (PP.xe (d_call (ok_need_parents T) (hr.mono (by decide)) T.need_parents.m T.need_parents.F.kp T.need_parents.b (as_cons (d_var 0) (as_nil)))))
      (b_cons (s_expr (PP.xe (d_call (ok_need_burning T) (hr.mono (by decide)) T.need_burning.m T.need_burning.F.kp T.need_burning.b (as_cons (d_len T.bt (PP.pv (d_var 0))) (as_cons (d_var 1) (as_nil))))))
      (b_cons (s_par 2 3 rfl scnd (ma_cons (m_newK) (ma_cons (m_newK) (ma_nil))))
      (b_cons (s_for PassesOwn.never rfl (i_rgd T.bt (d_sub (PP.pv (d_len T.bt (PP.pv (d_var 0)))) (PP.pv (d_int))) (d_neg (PP.pv (d_int))) (d_neg (PP.pv (d_int)))) (g_one 4 scnd) (b_cons (s_dset2 2 3 rfl hr (d_var 4) (d_var 4) (PP.xe (d_tup (as_cons (d_int) (as_cons (d_int) (as_nil))))))
      (b_one (s_for PassesOwn.never rfl (i_seq (d_call (ok_children T) (hr.mono (by decide)) T.children.m T.children.F.kp T.children.b (as_cons (d_var 0) (as_cons (d_var 4) (as_nil))))) (g_one 5 scnd) (b_cons (s_daug 2 hr iop_mul (vw_I2 fun _ _ h => smI_mul h) (d_var 4) (d_add (PP.pv (d_ixD hr (d_own 2) (PP.pv (d_var 5)))) (PP.pv (d_if (t_cmp (c_in hr (PP.pv (d_var 5)) (PP.pv (d_var 1)))) (d_int) (d_ixD hr (d_own 3) (PP.pv (d_var 5)))))))
      (b_one (s_daug 3 hr iop_mul (vw_I2 fun _ _ h => smI_mul h) (d_var 4) (d_if (t_cmp (c_in hr (PP.pv (d_var 5)) (PP.pv (d_var 1)))) (d_ixD hr (d_own 2) (PP.pv (d_var 5))) (d_ixD hr (d_own 3) (PP.pv (d_var 5)))))))))))
      (b_cons (s_set 6 (XE.xm (PP.xe (d_int))) scnd)
      (b_cons (s_for PassesOwn.never rfl (i_seq (d_call (ok_children T) (hr.mono (by decide)) T.children.m T.children.F.kp T.children.b (as_cons (d_var 0) (as_cons (d_non) (as_nil))))) (g_one 4 scnd) (b_one (s_aug 6 iop_mul (vw_I2 fun _ _ h => smI_mul h) (d_add (PP.pv (d_ixD hr (d_own 2) (PP.pv (d_var 4)))) (PP.pv (d_if (t_cmp (c_in hr (PP.pv (d_var 4)) (PP.pv (d_var 1)))) (d_int) (d_ixD hr (d_own 3) (PP.pv (d_var 4)))))) scnd)))
      (b_one (s_ret (PP.xe (d_var 6)))))))))
theorem ok_law_taken (T : Tx K mg) : FnOk P w K mg base CX0 1 T.law_taken.a T.law_taken.fd ["_law_row", "_law_many"] (spI K LF.f_law_taken 1) := by
  have scnd := (sc_law_taken).nd
  refine def_I T.law_taken.F sc_law_taken rfl (by decide) fun cdv A outer s H E hr => ?_
  exact b_cons (s_if (PB.xb (t_cmp (c_gt hr (PP.pv (d_ix (d_own 0) (PP.pv (d_int)))) (PP.pv (d_int))))) (b_cons (s_set 2 (XE.xm (PP.xe (d_mod (PP.pv (d_toInt T.bt (PP.pv (d_ix (d_own 0) (PP.pv (d_int)))))) (PP.pv (d_var 1))))) scnd)
      (b_cons (s_put 0 (d_int) (PP.xe (d_div (PP.pv (d_ix (d_own 0) (PP.pv (d_int)))) (PP.pv (d_var 1)))))
      (b_one (s_ret (PP.xe (d_var 2)))))) (b_nil))
      (b_cons (s_put 0 (d_int) (PP.xe (d_add (PP.pv (d_ix (d_own 0) (PP.pv (d_int)))) (PP.pv (d_int)))))
      (b_cons (s_if (PB.xb (t_cmp (c_gt hr (PP.pv (d_ix (d_own 0) (PP.pv (d_int)))) (PP.pv (d_len T.bt (PP.pv (d_ix (d_own 0) (PP.pv (d_int))))))))) (b_cons (s_put 0 (d_int) (PP.xe (d_mod (PP.pv (d_toInt T.bt (PP.pv (d_add (PP.pv (d_mulI (PP.pv (d_ix (d_own 0) (PP.pv (d_int)))) (PP.pv (d_int)))) (PP.pv (d_int)))))) (PP.pv (d_int)))))
      (b_one (s_ret (PP.xe (d_mod (PP.pv (d_toInt T.bt (PP.pv (d_div (PP.pv (d_ix (d_own 0) (PP.pv (d_int)))) (PP.pv (d_int)))))) (PP.pv (d_var 1))))))) (b_nil))
      (b_cons (s_set 3 (XE.xm (PP.xe (d_ix (PP.pv (d_ix (d_own 0) (PP.pv (d_int)))) (PP.pv (d_sub (PP.pv (d_ix (d_own 0) (PP.pv (d_int)))) (PP.pv (d_int))))))) scnd)
      (b_cons (s_put 0 (d_int) (PP.xe (d_mod (PP.pv (d_toInt T.bt (PP.pv (d_add (PP.pv (d_add (PP.pv (d_mulI (PP.pv (d_ix (d_own 0) (PP.pv (d_int)))) (PP.pv (d_int)))) (PP.pv (d_var 3)))) (PP.pv (d_int)))))) (PP.pv (d_int)))))
      (b_cons (s_if (PB.xb (t_cmp (c_ge hr (PP.pv (d_var 3)) (PP.pv (d_pow (PP.pv (d_int)) (PP.pv (d_int))))))) (b_one (s_put 0 (d_int) (PP.xe (d_div (PP.pv (d_var 3)) (PP.pv (d_var 1)))))) (b_nil))
      (b_one (s_ret (PP.xe (d_mod (PP.pv (d_toInt T.bt (PP.pv (d_var 3)))) (PP.pv (d_var 1)))))))))))
theorem ok_law_parents (T : Tx K mg) : FnOk P w K mg base CX0 2 T.law_parents.a T.law_parents.fd ["_law_row", "_law_most"] (spI K LF.f_law_parents 1) := by
  have scnd := (sc_law_parents).nd
  refine def_I T.law_parents.F sc_law_parents rfl (by decide) fun cdv A outer s H E hr => ?_
  exact b_cons (s_par 2 3 rfl scnd (ma_cons (XE.xm (x_add (PP.xe (d_int)) (x_callI (i := 0) (ok_law_taken T) (hr.mono (by decide)) T.law_taken.m T.law_taken.F.kp T.law_taken.b (pv 0) (xa_cons (PP.xe (d_var 1)) (xa_nil))))) (ma_cons (XE.xm (x_callI (i := 0) (ok_law_taken T) (hr.mono (by decide)) T.law_taken.m T.law_taken.F.kp T.law_taken.b (pv 0) (xa_cons (PP.xe (d_int)) (xa_nil)))) (ma_nil))))
      (b_cons (s_set 4 (m_own (xa_cons (PP.xe (d_non)) (xa_nil))) scnd)
      (b_cons (s_for PassesOwn.never rfl (i_rg2 T.bt (d_int) (d_var 2)) (g_one 5 scnd) (b_cons (s_set 6 (XE.xm (x_if (PB.xb (t_cmp (c_eq hr (PP.pv (d_var 3)) (PP.pv (d_int))))) (PP.xe (d_sub (PP.pv (d_var 5)) (PP.pv (d_int)))) (x_if (PB.xb (t_cmp (c_lt hr (PP.pv (d_var 3)) (PP.pv (d_int))))) (x_callI (i := 0) (ok_law_taken T) (hr.mono (by decide)) T.law_taken.m T.law_taken.F.kp T.law_taken.b (pv 0) (xa_cons (PP.xe (d_var 5)) (xa_nil))) (x_max2 rfl T.bt (PP.xe (d_int)) (x_sub (PP.xe (d_sub (PP.pv (d_var 5)) (PP.pv (d_int)))) (x_callI (i := 0) (ok_law_taken T) (hr.mono (by decide)) T.law_taken.m T.law_taken.F.kp T.law_taken.b (pv 0) (xa_cons (PP.xe (d_int)) (xa_nil)))))))) scnd)
      (b_one (s_app 4 (x_if (xt_cmp (xc_eq hr (x_callI (i := 0) (ok_law_taken T) (hr.mono (by decide)) T.law_taken.m T.law_taken.F.kp T.law_taken.b (pv 0) (xa_cons (PP.xe (d_int)) (xa_nil))) (PP.xe (d_int)))) (PP.xe (d_non)) (PP.xe (d_var 6)))))))
      (b_one (s_ret (PP.xe (d_tuple T.bt (d_own 4)))))))
theorem ok_law_pick (T : Tx K mg) : FnOk P w K mg base CX0 2 T.law_pick.a T.law_pick.fd ["_law_row", "_law_things"] (spI K LF.f_law_pick 1) := by
  have scnd := (sc_law_pick).nd
  refine def_I T.law_pick.F sc_law_pick rfl (by decide) fun cdv A outer s H E hr => ?_
  exact b_one (s_ret (x_ix (PP.xe (d_var 1)) (x_callI (i := 0) (ok_law_taken T) (hr.mono (by decide)) T.law_taken.m T.law_taken.F.kp T.law_taken.b (pv 0) (xa_cons (PP.xe (d_len T.bt (PP.pv (d_var 1)))) (xa_nil)))))
theorem ok_law_row_burning (T : Tx K mg) : FnOk P w K mg base CX0 3 T.law_row_burning.a T.law_row_burning.fd ["_law_row", "_law_many"] (spI K LF.f_law_row_burning 1) := by
  have scnd := (sc_law_row_burning).nd
  refine def_I T.law_row_burning.F sc_law_row_burning rfl (by decide) fun cdv A outer s H E hr => ?_
  exact b_cons (s_set 2 (XE.xm (x_callI (i := 0) (ok_law_pick T) (hr.mono (by decide)) T.law_pick.m T.law_pick.F.kp T.law_pick.b (pv 0) (xa_cons (PP.xe (d_lst (as_cons (d_int) (as_cons (d_int) (as_cons (d_int) (as_nil)))))) (xa_nil)))) scnd)
      (b_one (s_ret (x_tuple T.bt (x_lc1 (own := [("_law_k", 3)]) rfl scnd (PIt.toX (i_rg1 T.bt (d_var 1))) (blkOk_by (N := N_law_row_burning) (sc := defScope s_law_row_burning) (by decide +kernel)) (fun _ => g_one 3 scnd) (fun _ => xt_cmp (xc_eq hr (x_callI (i := 0) (ok_law_taken T) (hr.mono (by decide)) T.law_taken.m T.law_taken.F.kp T.law_taken.b (pv 0) (xa_cons (PP.xe (d_var 2)) (xa_nil))) (PP.xe (d_int)))) (fun _ => PP.xe (d_var 3)) (by decide)))))
theorem ok_law (T : Tx K mg) : FnOk P w K mg base CX0 5 T.law.a T.law.fd ["_law_script"] (spP K LF.f_k74 1) := by
  have scnd := (sc_law).nd
  refine def_P T.law.F sc_law rfl fun cdv A outer s H E hr => ?_
  exact b_cons (s_set 1 (m_own (xa_cons (PP.xe (d_var 0)) (xa_cons (PP.xe (d_int)) (xa_cons (PP.xe (d_int)) (xa_cons (PP.xe (d_int)) (xa_nil)))))) scnd)
      (b_cons (s_par 2 3 rfl scnd (ma_cons (XE.xm (x_callI (i := 1) (ok_law_parents T) (hr.mono (by decide)) T.law_parents.m T.law_parents.F.kp T.law_parents.b (pv 1) (xa_cons (PP.xe (d_int)) (xa_nil)))) (ma_cons (XE.xm (x_callI (i := 1) (ok_law_parents T) (hr.mono (by decide)) T.law_parents.m T.law_parents.F.kp T.law_parents.b (pv 1) (xa_cons (PP.xe (d_int)) (xa_nil)))) (ma_nil))))
      (b_cons (s_tup rfl (n_cons 4 scnd (n_cons 5 scnd (n_nil))) (ma_cons (XE.xm (PP.xe (d_len T.bt (PP.pv (d_var 2))))) (ma_cons (XE.xm (PP.xe (d_len T.bt (PP.pv (d_var 3))))) (ma_nil))))
      (b_cons (s_set 6 (XE.xm (PP.xe (d_add (PP.pv (d_var 2)) (PP.pv (d_tuple T.bt (PP.pv (d_lc0 (own := [("_law_k", 19)]) rfl scnd (i_seq (d_var 3)) (blkOk_by (N := N_law) (sc := defScope s_law) (by decide +kernel)) (fun _ => g_one 19 scnd) (fun _ => d_if (t_cmp (c_is (PP.pv (d_var 19)) (PP.pv (d_non)))) (d_non) (d_add (PP.pv (d_var 19)) (PP.pv (d_var 4)))) (by decide)))))))) scnd)
      (b_cons (s_tup rfl (n_cons 7 scnd (n_cons 8 scnd (n_cons 9 scnd (n_cons 10 scnd (n_nil))))) (ma_cons (XE.xm (x_callI (i := 1) (ok_law_row_burning T) (hr.mono (by decide)) T.law_row_burning.m T.law_row_burning.F.kp T.law_row_burning.b (pv 1) (xa_cons (PP.xe (d_var 4)) (xa_nil)))) (ma_cons (XE.xm (x_callI (i := 1) (ok_law_row_burning T) (hr.mono (by decide)) T.law_row_burning.m T.law_row_burning.F.kp T.law_row_burning.b (pv 1) (xa_cons (PP.xe (d_var 5)) (xa_nil)))) (ma_cons (XE.xm (x_callI (i := 1) (ok_law_row_burning T) (hr.mono (by decide)) T.law_row_burning.m T.law_row_burning.F.kp T.law_row_burning.b (pv 1) (xa_cons (PP.xe (d_var 4)) (xa_nil)))) (ma_cons (XE.xm (x_callI (i := 1) (ok_law_row_burning T) (hr.mono (by decide)) T.law_row_burning.m T.law_row_burning.F.kp T.law_row_burning.b (pv 1) (xa_cons (PP.xe (d_var 5)) (xa_nil)))) (ma_nil))))))
      (b_cons (s_par 11 12 rfl scnd (ma_cons (XE.xm (PP.xe (d_add (PP.pv (d_var 7)) (PP.pv (d_tuple T.bt (PP.pv (d_lc0 (own := [("_law_k", 19)]) rfl scnd (i_seq (d_var 8)) (blkOk_by (N := N_law) (sc := defScope s_law) (by decide +kernel)) (fun _ => g_one 19 scnd) (fun _ => d_add (PP.pv (d_var 19)) (PP.pv (d_var 4))) (by decide)))))))) (ma_cons (XE.xm (PP.xe (d_add (PP.pv (d_var 9)) (PP.pv (d_tuple T.bt (PP.pv (d_lc0 (own := [("_law_k", 19)]) rfl scnd (i_seq (d_var 10)) (blkOk_by (N := N_law) (sc := defScope s_law) (by decide +kernel)) (fun _ => g_one 19 scnd) (fun _ => d_add (PP.pv (d_var 19)) (PP.pv (d_var 4))) (by decide)))))))) (ma_nil))))
      (b_cons (s_if (PB.xb (t_cmp (c_ne hr (PP.pv (d_call (ok_forest_spare T) (hr.mono (by decide)) T.forest_spare.m T.forest_spare.F.kp T.forest_spare.b (as_cons (d_var 6) (as_cons (d_var 11) (as_cons (d_var 12) (as_nil)))))) (PP.pv (d_add (PP.pv (d_call (ok_forest_spare T) (hr.mono (by decide)) T.forest_spare.m T.forest_spare.F.kp T.forest_spare.b (as_cons (d_var 2) (as_cons (d_var 7) (as_cons (d_var 9) (as_nil)))))) (PP.pv (d_tuple T.bt (PP.pv (d_lc0 (own := [("_law_k", 19)]) rfl scnd (i_seq (d_call (ok_forest_spare T) (hr.mono (by decide)) T.forest_spare.m T.forest_spare.F.kp T.forest_spare.b (as_cons (d_var 3) (as_cons (d_var 8) (as_cons (d_var 10) (as_nil)))))) (blkOk_by (N := N_law) (sc := defScope s_law) (by decide +kernel)) (fun _ => g_one 19 scnd) (fun _ => d_add (PP.pv (d_var 19)) (PP.pv (d_var 4))) (by decide)))))))))) (b_one (s_ret (PP.xe (d_bl)))) (b_nil))
      (b_cons (s_if (PB.xb (t_cmp (c_ne hr (PP.pv (d_call (ok_forest_fewest T) (hr.mono (by decide)) T.forest_fewest.m T.forest_fewest.F.kp T.forest_fewest.b (as_cons (d_var 6) (as_cons (d_var 11) (as_cons (d_var 12) (as_nil)))))) (PP.pv (d_add (PP.pv (d_call (ok_forest_fewest T) (hr.mono (by decide)) T.forest_fewest.m T.forest_fewest.F.kp T.forest_fewest.b (as_cons (d_var 2) (as_cons (d_var 7) (as_cons (d_var 9) (as_nil)))))) (PP.pv (d_call (ok_forest_fewest T) (hr.mono (by decide)) T.forest_fewest.m T.forest_fewest.F.kp T.forest_fewest.b (as_cons (d_var 3) (as_cons (d_var 8) (as_cons (d_var 10) (as_nil))))))))))) (b_one (s_ret (PP.xe (d_bl)))) (b_nil))
      (b_cons (s_set 13 (XE.xm (PP.xe (d_add (PP.pv (d_call (ok_forest_word T) (hr.mono (by decide)) T.forest_word.m T.forest_word.F.kp T.forest_word.b (as_cons (d_var 2) (as_cons (d_var 7) (as_cons (d_var 9) (as_nil)))))) (PP.pv (d_tuple T.bt (PP.pv (d_lc0 (own := [("_law_k", 19)]) rfl scnd (i_seq (d_call (ok_forest_word T) (hr.mono (by decide)) T.forest_word.m T.forest_word.F.kp T.forest_word.b (as_cons (d_var 3) (as_cons (d_var 8) (as_cons (d_var 10) (as_nil)))))) (blkOk_by (N := N_law) (sc := defScope s_law) (by decide +kernel)) (fun _ => g_one 19 scnd) (fun _ => d_add (PP.pv (d_var 19)) (PP.pv (d_var 4))) (by decide)))))))) scnd)
      (b_cons (s_if (PB.xb (t_not (t_val (d_call (ok_shows_forest_word T) (hr.mono (by decide)) T.shows_forest_word.m T.shows_forest_word.F.kp T.shows_forest_word.b (as_cons (d_var 6) (as_cons (d_var 11) (as_cons (d_var 12) (as_cons (d_var 13) (as_nil))))))))) (b_one (s_ret (PP.xe (d_bl)))) (b_nil))
      (b_cons (s_if (PB.xb (PWb.pb (w_and (t_cmp (c_ne hr (PP.pv (d_var 13)) (PP.pv (d_tup (as_nil))))) (w_and1 (t_val (d_call (ok_shows_forest_word T) (hr.mono (by decide)) T.shows_forest_word.m T.shows_forest_word.F.kp T.shows_forest_word.b (as_cons (d_var 6) (as_cons (d_var 11) (as_cons (d_var 12) (as_cons (d_slice (d_var 13) (po_at (d_int)) po_no) (as_nil))))))))))) (b_one (s_ret (PP.xe (d_bl)))) (b_nil))
      (b_cons (s_if (PB.xb (t_cmp (c_ne hr (PP.pv (d_call (ok_forest_light_states T) (hr.mono (by decide)) T.forest_light_states.m T.forest_light_states.F.kp T.forest_light_states.b (as_cons (d_var 6) (as_cons (d_var 11) (as_nil))))) (PP.pv (d_mulI (PP.pv (d_call (ok_forest_light_states T) (hr.mono (by decide)) T.forest_light_states.m T.forest_light_states.F.kp T.forest_light_states.b (as_cons (d_var 2) (as_cons (d_var 7) (as_nil))))) (PP.pv (d_call (ok_forest_light_states T) (hr.mono (by decide)) T.forest_light_states.m T.forest_light_states.F.kp T.forest_light_states.b (as_cons (d_var 3) (as_cons (d_var 8) (as_nil)))))))))) (b_one (s_ret (PP.xe (d_bl)))) (b_nil))
      (b_cons (s_set 14 (XE.xm (PP.xe (d_add (PP.pv (d_tup (as_cons (d_non) (as_nil)))) (PP.pv (d_tuple T.bt (PP.pv (d_lc0 (own := [("_law_k", 19)]) rfl scnd (i_seq (d_var 2)) (blkOk_by (N := N_law) (sc := defScope s_law) (by decide +kernel)) (fun _ => g_one 19 scnd) (fun _ => d_if (t_cmp (c_is (PP.pv (d_var 19)) (PP.pv (d_non)))) (d_int) (d_add (PP.pv (d_var 19)) (PP.pv (d_int)))) (by decide)))))))) scnd)
      (b_cons (s_par 15 16 rfl scnd (ma_cons (XE.xm (PP.xe (d_tuple T.bt (PP.pv (d_lc0 (own := [("_law_k", 19)]) rfl scnd (i_seq (d_var 7)) (blkOk_by (N := N_law) (sc := defScope s_law) (by decide +kernel)) (fun _ => g_one 19 scnd) (fun _ => d_add (PP.pv (d_var 19)) (PP.pv (d_int))) (by decide)))))) (ma_cons (XE.xm (PP.xe (d_tuple T.bt (PP.pv (d_lc0 (own := [("_law_k", 19)]) rfl scnd (i_seq (d_var 9)) (blkOk_by (N := N_law) (sc := defScope s_law) (by decide +kernel)) (fun _ => g_one 19 scnd) (fun _ => d_add (PP.pv (d_var 19)) (PP.pv (d_int))) (by decide)))))) (ma_nil))))
      (b_cons (s_if (PB.xb (t_cmp (c_ne hr (PP.pv (d_call (ok_forest_fewest T) (hr.mono (by decide)) T.forest_fewest.m T.forest_fewest.F.kp T.forest_fewest.b (as_cons (d_var 14) (as_cons (d_add (PP.pv (d_tup (as_cons (d_int) (as_nil)))) (PP.pv (d_var 15))) (as_cons (d_add (PP.pv (d_tup (as_cons (d_int) (as_nil)))) (PP.pv (d_var 16))) (as_nil)))))) (PP.pv (d_call (ok_forest_fewest T) (hr.mono (by decide)) T.forest_fewest.m T.forest_fewest.F.kp T.forest_fewest.b (as_cons (d_var 2) (as_cons (d_var 7) (as_cons (d_var 9) (as_nil))))))))) (b_one (s_ret (PP.xe (d_bl)))) (b_nil))
      (b_cons (s_if (PB.xb (t_cmp (c_ne hr (PP.pv (d_call (ok_forest_light_ways T) (hr.mono (by decide)) T.forest_light_ways.m T.forest_light_ways.F.kp T.forest_light_ways.b (as_cons (d_var 14) (as_cons (d_tup (as_nil)) (as_cons (d_rgT rfl T.bt (d_add (PP.pv (d_var 4)) (PP.pv (d_int)))) (as_nil)))))) (PP.pv (d_call (ok_forest_light_ways T) (hr.mono (by decide)) T.forest_light_ways.m T.forest_light_ways.F.kp T.forest_light_ways.b (as_cons (d_var 2) (as_cons (d_tup (as_nil)) (as_cons (d_rgT rfl T.bt (d_var 4)) (as_nil))))))))) (b_one (s_ret (PP.xe (d_bl)))) (b_nil))
      (b_cons (s_lc1 (own := [("_law_k", 19)]) 17 rfl scnd (i_seq (d_var 9)) (blkOk_by (N := N_law) (sc := defScope s_law) (by decide +kernel)) (fun _ => g_one 19 scnd) (fun _ => t_cmp (c_ni hr (PP.pv (d_var 19)) (PP.pv (d_var 7)))) (fun _ => d_var 19) (by decide) (sw_true rfl rfl rfl (by decide +kernel)))
      (b_cons (s_if (PB.xb (PWb.pb (w_and (t_cmp (c_ne hr (PP.pv (d_var 17)) (PP.pv (d_lst (as_nil))))) (w_and (t_cmp (c_eq hr (PP.pv (d_var 7)) (PP.pv (d_tup (as_nil))))) (w_and1 (t_cmp (c_ne hr (PP.pv (d_slice (d_call (ok_forest_spare T) (hr.mono (by decide)) T.forest_spare.m T.forest_spare.F.kp T.forest_spare.b (as_cons (d_var 14) (as_cons (d_var 15) (as_cons (d_var 16) (as_nil))))) po_no (po_at (d_int)))) (PP.pv (d_tup (as_cons (d_int) (as_nil))))))))))) (b_one (s_ret (PP.xe (d_bl)))) (b_nil))
      (b_cons (s_set 18 (XE.xm (x_callI (i := 1) (ok_law_row_burning T) (hr.mono (by decide)) T.law_row_burning.m T.law_row_burning.F.kp T.law_row_burning.b (pv 1) (xa_cons (PP.xe (d_var 4)) (xa_nil)))) scnd)
      (b_one (s_ret (PP.xe (d_cmp (c_le hr (PP.pv (d_call (ok_forest_fewest T) (hr.mono (by decide)) T.forest_fewest.m T.forest_fewest.F.kp T.forest_fewest.b (as_cons (d_var 2) (as_cons (d_var 7) (as_cons (d_var 18) (as_nil)))))) (PP.pv (d_add (PP.pv (d_call (ok_forest_fewest T) (hr.mono (by decide)) T.forest_fewest.m T.forest_fewest.F.kp T.forest_fewest.b (as_cons (d_var 2) (as_cons (d_var 7) (as_cons (d_var 9) (as_nil)))))) (PP.pv (d_call (ok_forest_fewest T) (hr.mono (by decide)) T.forest_fewest.m T.forest_fewest.F.kp T.forest_fewest.b (as_cons (d_var 2) (as_cons (d_var 9) (as_cons (d_var 18) (as_nil)))))))))))))))))))))))))))))))
end
end W74
end
section
set_option Elab.async false
set_option linter.all false
set_option maxRecDepth 100000
set_option maxHeartbeats 4000000
namespace W74
open PySem PySem.Spec PyProof.Rows L2 DL
section
def tx_mk {K : PySem.W.Frag} {h : Heap} {mg : Str → Option Value} (X : K.In h) (G : h.Ns mainGlobals mg)
    {t_MOST_ROW : Tok} (c_MOST_ROW : PySem.W.nsIn K mainGlobals "MOST_ROW" = some (some (.int 40 t_MOST_ROW)))
    (z_len : PySem.W.nsIn K mainGlobals "len" = some none)
    (z_range : PySem.W.nsIn K mainGlobals "range" = some none)
    (z_int : PySem.W.nsIn K mainGlobals "int" = some none)
    (z_isinstance : PySem.W.nsIn K mainGlobals "isinstance" = some none)
    (z_tuple : PySem.W.nsIn K mainGlobals "tuple" = some none)
    (z_list : PySem.W.nsIn K mainGlobals "list" = some none)
    (z_sorted : PySem.W.nsIn K mainGlobals "sorted" = some none)
    (z_set : PySem.W.nsIn K mainGlobals "set" = some none)
    (z_max : PySem.W.nsIn K mainGlobals "max" = some none)
    (z_min : PySem.W.nsIn K mainGlobals "min" = some none)
    (z_enumerate : PySem.W.nsIn K mainGlobals "enumerate" = some none)
    (z_bool : PySem.W.nsIn K mainGlobals "bool" = some none)
    (z_str : PySem.W.nsIn K mainGlobals "str" = some none)
    (z_sum : PySem.W.nsIn K mainGlobals "sum" = some none)
    (z_zip : PySem.W.nsIn K mainGlobals "zip" = some none)
    (z_dict : PySem.W.nsIn K mainGlobals "dict" = some none)
    (z_abs : PySem.W.nsIn K mainGlobals "abs" = some none)
    {f_is_in : Addr} {od_is_in an_is_in : Option Addr} {sl_is_in : Array (Option Value)} {oc_is_in kV_is_in dc_is_in pm_is_in cd_is_in ct_is_in : Value} (a_is_in : PySem.W.nsIn K mainGlobals "is_in" = some (some (.ref f_is_in))) (l_is_in : K.lookup f_is_in = some ⟨oc_is_in, od_is_in, .func (PySem.W.fnOf "is_in" "is_in" (defArgs s_is_in) (defBody s_is_in) (defScope s_is_in) .none kV_is_in dc_is_in pm_is_in an_is_in cd_is_in ct_is_in), sl_is_in⟩) (c_is_in : PySem.W.codeIn K cd_is_in "is_in" = true) (k_is_in : PySem.W.keepIn K (.ref f_is_in) = true)
    {f_sides : Addr} {od_sides an_sides : Option Addr} {sl_sides : Array (Option Value)} {oc_sides kV_sides dc_sides pm_sides cd_sides ct_sides : Value} (a_sides : PySem.W.nsIn K mainGlobals "sides" = some (some (.ref f_sides))) (l_sides : K.lookup f_sides = some ⟨oc_sides, od_sides, .func (PySem.W.fnOf "sides" "sides" (defArgs s_sides) (defBody s_sides) (defScope s_sides) .none kV_sides dc_sides pm_sides an_sides cd_sides ct_sides), sl_sides⟩) (c_sides : PySem.W.codeIn K cd_sides "sides" = true) (k_sides : PySem.W.keepIn K (.ref f_sides) = true)
    {f_need_burning : Addr} {od_need_burning an_need_burning : Option Addr} {sl_need_burning : Array (Option Value)} {oc_need_burning kV_need_burning dc_need_burning pm_need_burning cd_need_burning ct_need_burning : Value} (a_need_burning : PySem.W.nsIn K mainGlobals "need_burning" = some (some (.ref f_need_burning))) (l_need_burning : K.lookup f_need_burning = some ⟨oc_need_burning, od_need_burning, .func (PySem.W.fnOf "need_burning" "need_burning" (defArgs s_need_burning) (defBody s_need_burning) (defScope s_need_burning) .none kV_need_burning dc_need_burning pm_need_burning an_need_burning cd_need_burning ct_need_burning), sl_need_burning⟩) (c_need_burning : PySem.W.codeIn K cd_need_burning "need_burning" = true) (k_need_burning : PySem.W.keepIn K (.ref f_need_burning) = true)
    {f_need_parents : Addr} {od_need_parents an_need_parents : Option Addr} {sl_need_parents : Array (Option Value)} {oc_need_parents kV_need_parents dc_need_parents pm_need_parents cd_need_parents ct_need_parents : Value} (a_need_parents : PySem.W.nsIn K mainGlobals "need_parents" = some (some (.ref f_need_parents))) (l_need_parents : K.lookup f_need_parents = some ⟨oc_need_parents, od_need_parents, .func (PySem.W.fnOf "need_parents" "need_parents" (defArgs s_need_parents) (defBody s_need_parents) (defScope s_need_parents) .none kV_need_parents dc_need_parents pm_need_parents an_need_parents cd_need_parents ct_need_parents), sl_need_parents⟩) (c_need_parents : PySem.W.codeIn K cd_need_parents "need_parents" = true) (k_need_parents : PySem.W.keepIn K (.ref f_need_parents) = true)
    {f_children : Addr} {od_children an_children : Option Addr} {sl_children : Array (Option Value)} {oc_children kV_children dc_children pm_children cd_children ct_children : Value} (a_children : PySem.W.nsIn K mainGlobals "children" = some (some (.ref f_children))) (l_children : K.lookup f_children = some ⟨oc_children, od_children, .func (PySem.W.fnOf "children" "children" (defArgs s_children) (defBody s_children) (defScope s_children) .none kV_children dc_children pm_children an_children cd_children ct_children), sl_children⟩) (c_children : PySem.W.codeIn K cd_children "children" = true) (k_children : PySem.W.keepIn K (.ref f_children) = true)
    {f_need_two : Addr} {od_need_two an_need_two : Option Addr} {sl_need_two : Array (Option Value)} {oc_need_two kV_need_two dc_need_two pm_need_two cd_need_two ct_need_two : Value} (a_need_two : PySem.W.nsIn K mainGlobals "need_two" = some (some (.ref f_need_two))) (l_need_two : K.lookup f_need_two = some ⟨oc_need_two, od_need_two, .func (PySem.W.fnOf "need_two" "need_two" (defArgs s_need_two) (defBody s_need_two) (defScope s_need_two) .none kV_need_two dc_need_two pm_need_two an_need_two cd_need_two ct_need_two), sl_need_two⟩) (c_need_two : PySem.W.codeIn K cd_need_two "need_two" = true) (k_need_two : PySem.W.keepIn K (.ref f_need_two) = true)
    {f_spare_of : Addr} {od_spare_of an_spare_of : Option Addr} {sl_spare_of : Array (Option Value)} {oc_spare_of kV_spare_of dc_spare_of pm_spare_of cd_spare_of ct_spare_of : Value} (a_spare_of : PySem.W.nsIn K mainGlobals "spare_of" = some (some (.ref f_spare_of))) (l_spare_of : K.lookup f_spare_of = some ⟨oc_spare_of, od_spare_of, .func (PySem.W.fnOf "spare_of" "spare_of" (defArgs s_spare_of) (defBody s_spare_of) (defScope s_spare_of) .none kV_spare_of dc_spare_of pm_spare_of an_spare_of cd_spare_of ct_spare_of), sl_spare_of⟩) (c_spare_of : PySem.W.codeIn K cd_spare_of "spare_of" = true) (k_spare_of : PySem.W.keepIn K (.ref f_spare_of) = true)
    {f_forest_spare : Addr} {od_forest_spare an_forest_spare : Option Addr} {sl_forest_spare : Array (Option Value)} {oc_forest_spare kV_forest_spare dc_forest_spare pm_forest_spare cd_forest_spare ct_forest_spare : Value} (a_forest_spare : PySem.W.nsIn K mainGlobals "forest_spare" = some (some (.ref f_forest_spare))) (l_forest_spare : K.lookup f_forest_spare = some ⟨oc_forest_spare, od_forest_spare, .func (PySem.W.fnOf "forest_spare" "forest_spare" (defArgs s_forest_spare) (defBody s_forest_spare) (defScope s_forest_spare) .none kV_forest_spare dc_forest_spare pm_forest_spare an_forest_spare cd_forest_spare ct_forest_spare), sl_forest_spare⟩) (c_forest_spare : PySem.W.codeIn K cd_forest_spare "forest_spare" = true) (k_forest_spare : PySem.W.keepIn K (.ref f_forest_spare) = true)
    {f_word_of : Addr} {od_word_of an_word_of : Option Addr} {sl_word_of : Array (Option Value)} {oc_word_of kV_word_of dc_word_of pm_word_of cd_word_of ct_word_of : Value} (a_word_of : PySem.W.nsIn K mainGlobals "word_of" = some (some (.ref f_word_of))) (l_word_of : K.lookup f_word_of = some ⟨oc_word_of, od_word_of, .func (PySem.W.fnOf "word_of" "word_of" (defArgs s_word_of) (defBody s_word_of) (defScope s_word_of) .none kV_word_of dc_word_of pm_word_of an_word_of cd_word_of ct_word_of), sl_word_of⟩) (c_word_of : PySem.W.codeIn K cd_word_of "word_of" = true) (k_word_of : PySem.W.keepIn K (.ref f_word_of) = true)
    {f_forest_fewest : Addr} {od_forest_fewest an_forest_fewest : Option Addr} {sl_forest_fewest : Array (Option Value)} {oc_forest_fewest kV_forest_fewest dc_forest_fewest pm_forest_fewest cd_forest_fewest ct_forest_fewest : Value} (a_forest_fewest : PySem.W.nsIn K mainGlobals "forest_fewest" = some (some (.ref f_forest_fewest))) (l_forest_fewest : K.lookup f_forest_fewest = some ⟨oc_forest_fewest, od_forest_fewest, .func (PySem.W.fnOf "forest_fewest" "forest_fewest" (defArgs s_forest_fewest) (defBody s_forest_fewest) (defScope s_forest_fewest) .none kV_forest_fewest dc_forest_fewest pm_forest_fewest an_forest_fewest cd_forest_fewest ct_forest_fewest), sl_forest_fewest⟩) (c_forest_fewest : PySem.W.codeIn K cd_forest_fewest "forest_fewest" = true) (k_forest_fewest : PySem.W.keepIn K (.ref f_forest_fewest) = true)
    {f_forest_word : Addr} {od_forest_word an_forest_word : Option Addr} {sl_forest_word : Array (Option Value)} {oc_forest_word kV_forest_word dc_forest_word pm_forest_word cd_forest_word ct_forest_word : Value} (a_forest_word : PySem.W.nsIn K mainGlobals "forest_word" = some (some (.ref f_forest_word))) (l_forest_word : K.lookup f_forest_word = some ⟨oc_forest_word, od_forest_word, .func (PySem.W.fnOf "forest_word" "forest_word" (defArgs s_forest_word) (defBody s_forest_word) (defScope s_forest_word) .none kV_forest_word dc_forest_word pm_forest_word an_forest_word cd_forest_word ct_forest_word), sl_forest_word⟩) (c_forest_word : PySem.W.codeIn K cd_forest_word "forest_word" = true) (k_forest_word : PySem.W.keepIn K (.ref f_forest_word) = true)
    {f_leads_to : Addr} {od_leads_to an_leads_to : Option Addr} {sl_leads_to : Array (Option Value)} {oc_leads_to kV_leads_to dc_leads_to pm_leads_to cd_leads_to ct_leads_to : Value} (a_leads_to : PySem.W.nsIn K mainGlobals "leads_to" = some (some (.ref f_leads_to))) (l_leads_to : K.lookup f_leads_to = some ⟨oc_leads_to, od_leads_to, .func (PySem.W.fnOf "leads_to" "leads_to" (defArgs s_leads_to) (defBody s_leads_to) (defScope s_leads_to) .none kV_leads_to dc_leads_to pm_leads_to an_leads_to cd_leads_to ct_leads_to), sl_leads_to⟩) (c_leads_to : PySem.W.codeIn K cd_leads_to "leads_to" = true) (k_leads_to : PySem.W.keepIn K (.ref f_leads_to) = true)
    {f_shows_forest_word : Addr} {od_shows_forest_word an_shows_forest_word : Option Addr} {sl_shows_forest_word : Array (Option Value)} {oc_shows_forest_word kV_shows_forest_word dc_shows_forest_word pm_shows_forest_word cd_shows_forest_word ct_shows_forest_word : Value} (a_shows_forest_word : PySem.W.nsIn K mainGlobals "shows_forest_word" = some (some (.ref f_shows_forest_word))) (l_shows_forest_word : K.lookup f_shows_forest_word = some ⟨oc_shows_forest_word, od_shows_forest_word, .func (PySem.W.fnOf "shows_forest_word" "shows_forest_word" (defArgs s_shows_forest_word) (defBody s_shows_forest_word) (defScope s_shows_forest_word) .none kV_shows_forest_word dc_shows_forest_word pm_shows_forest_word an_shows_forest_word cd_shows_forest_word ct_shows_forest_word), sl_shows_forest_word⟩) (c_shows_forest_word : PySem.W.codeIn K cd_shows_forest_word "shows_forest_word" = true) (k_shows_forest_word : PySem.W.keepIn K (.ref f_shows_forest_word) = true)
    {f_forest_light_ways : Addr} {od_forest_light_ways an_forest_light_ways : Option Addr} {sl_forest_light_ways : Array (Option Value)} {oc_forest_light_ways kV_forest_light_ways dc_forest_light_ways pm_forest_light_ways cd_forest_light_ways ct_forest_light_ways : Value} (a_forest_light_ways : PySem.W.nsIn K mainGlobals "forest_light_ways" = some (some (.ref f_forest_light_ways))) (l_forest_light_ways : K.lookup f_forest_light_ways = some ⟨oc_forest_light_ways, od_forest_light_ways, .func (PySem.W.fnOf "forest_light_ways" "forest_light_ways" (defArgs s_forest_light_ways) (defBody s_forest_light_ways) (defScope s_forest_light_ways) .none kV_forest_light_ways dc_forest_light_ways pm_forest_light_ways an_forest_light_ways cd_forest_light_ways ct_forest_light_ways), sl_forest_light_ways⟩) (c_forest_light_ways : PySem.W.codeIn K cd_forest_light_ways "forest_light_ways" = true) (k_forest_light_ways : PySem.W.keepIn K (.ref f_forest_light_ways) = true)
    {f_forest_light_states : Addr} {od_forest_light_states an_forest_light_states : Option Addr} {sl_forest_light_states : Array (Option Value)} {oc_forest_light_states kV_forest_light_states dc_forest_light_states pm_forest_light_states cd_forest_light_states ct_forest_light_states : Value} (a_forest_light_states : PySem.W.nsIn K mainGlobals "forest_light_states" = some (some (.ref f_forest_light_states))) (l_forest_light_states : K.lookup f_forest_light_states = some ⟨oc_forest_light_states, od_forest_light_states, .func (PySem.W.fnOf "forest_light_states" "forest_light_states" (defArgs s_forest_light_states) (defBody s_forest_light_states) (defScope s_forest_light_states) .none kV_forest_light_states dc_forest_light_states pm_forest_light_states an_forest_light_states cd_forest_light_states ct_forest_light_states), sl_forest_light_states⟩) (c_forest_light_states : PySem.W.codeIn K cd_forest_light_states "forest_light_states" = true) (k_forest_light_states : PySem.W.keepIn K (.ref f_forest_light_states) = true)
    {f_law_taken : Addr} {od_law_taken an_law_taken : Option Addr} {sl_law_taken : Array (Option Value)} {oc_law_taken kV_law_taken dc_law_taken pm_law_taken cd_law_taken ct_law_taken : Value} (a_law_taken : PySem.W.nsIn K mainGlobals "_law_taken" = some (some (.ref f_law_taken))) (l_law_taken : K.lookup f_law_taken = some ⟨oc_law_taken, od_law_taken, .func (PySem.W.fnOf "_law_taken" "_law_taken" (defArgs s_law_taken) (defBody s_law_taken) (defScope s_law_taken) .none kV_law_taken dc_law_taken pm_law_taken an_law_taken cd_law_taken ct_law_taken), sl_law_taken⟩) (c_law_taken : PySem.W.codeIn K cd_law_taken "_law_taken" = true) (k_law_taken : PySem.W.keepIn K (.ref f_law_taken) = true)
    {f_law_parents : Addr} {od_law_parents an_law_parents : Option Addr} {sl_law_parents : Array (Option Value)} {oc_law_parents kV_law_parents dc_law_parents pm_law_parents cd_law_parents ct_law_parents : Value} (a_law_parents : PySem.W.nsIn K mainGlobals "_law_parents" = some (some (.ref f_law_parents))) (l_law_parents : K.lookup f_law_parents = some ⟨oc_law_parents, od_law_parents, .func (PySem.W.fnOf "_law_parents" "_law_parents" (defArgs s_law_parents) (defBody s_law_parents) (defScope s_law_parents) .none kV_law_parents dc_law_parents pm_law_parents an_law_parents cd_law_parents ct_law_parents), sl_law_parents⟩) (c_law_parents : PySem.W.codeIn K cd_law_parents "_law_parents" = true) (k_law_parents : PySem.W.keepIn K (.ref f_law_parents) = true)
    {f_law_pick : Addr} {od_law_pick an_law_pick : Option Addr} {sl_law_pick : Array (Option Value)} {oc_law_pick kV_law_pick dc_law_pick pm_law_pick cd_law_pick ct_law_pick : Value} (a_law_pick : PySem.W.nsIn K mainGlobals "_law_pick" = some (some (.ref f_law_pick))) (l_law_pick : K.lookup f_law_pick = some ⟨oc_law_pick, od_law_pick, .func (PySem.W.fnOf "_law_pick" "_law_pick" (defArgs s_law_pick) (defBody s_law_pick) (defScope s_law_pick) .none kV_law_pick dc_law_pick pm_law_pick an_law_pick cd_law_pick ct_law_pick), sl_law_pick⟩) (c_law_pick : PySem.W.codeIn K cd_law_pick "_law_pick" = true) (k_law_pick : PySem.W.keepIn K (.ref f_law_pick) = true)
    {f_law_row_burning : Addr} {od_law_row_burning an_law_row_burning : Option Addr} {sl_law_row_burning : Array (Option Value)} {oc_law_row_burning kV_law_row_burning dc_law_row_burning pm_law_row_burning cd_law_row_burning ct_law_row_burning : Value} (a_law_row_burning : PySem.W.nsIn K mainGlobals "_law_row_burning" = some (some (.ref f_law_row_burning))) (l_law_row_burning : K.lookup f_law_row_burning = some ⟨oc_law_row_burning, od_law_row_burning, .func (PySem.W.fnOf "_law_row_burning" "_law_row_burning" (defArgs s_law_row_burning) (defBody s_law_row_burning) (defScope s_law_row_burning) .none kV_law_row_burning dc_law_row_burning pm_law_row_burning an_law_row_burning cd_law_row_burning ct_law_row_burning), sl_law_row_burning⟩) (c_law_row_burning : PySem.W.codeIn K cd_law_row_burning "_law_row_burning" = true) (k_law_row_burning : PySem.W.keepIn K (.ref f_law_row_burning) = true)
    {f_law : Addr} {od_law an_law : Option Addr} {sl_law : Array (Option Value)} {oc_law kV_law dc_law pm_law cd_law ct_law : Value} (a_law : PySem.W.nsIn K mainGlobals "law" = some (some (.ref f_law))) (l_law : K.lookup f_law = some ⟨oc_law, od_law, .func (PySem.W.fnOf "law" "law" (defArgs s_law) (defBody s_law) (defScope s_law) .none kV_law dc_law pm_law an_law cd_law ct_law), sl_law⟩) (c_law : PySem.W.codeIn K cd_law "law" = true) (k_law : PySem.W.keepIn K (.ref f_law) = true) : Tx K mg where
  bt := ⟨PySem.W.mg_none_of X G z_len, PySem.W.mg_none_of X G z_range, PySem.W.mg_none_of X G z_int, PySem.W.mg_none_of X G z_isinstance, PySem.W.mg_none_of X G z_tuple, PySem.W.mg_none_of X G z_list, PySem.W.mg_none_of X G z_sorted, PySem.W.mg_none_of X G z_set, PySem.W.mg_none_of X G z_max, PySem.W.mg_none_of X G z_min, PySem.W.mg_none_of X G z_enumerate, PySem.W.mg_none_of X G z_bool, PySem.W.mg_none_of X G z_str, PySem.W.mg_none_of X G z_sum, PySem.W.mg_none_of X G z_zip, PySem.W.mg_none_of X G z_dict, PySem.W.mg_none_of X G z_abs⟩
  t_MOST_ROW := t_MOST_ROW
  c_MOST_ROW := PySem.W.mg_of X G c_MOST_ROW
  is_in := def_mk X G (fun _ _ _ _ _ _ us hl => match us, hl with | [_, _, _], _ => rfl) a_is_in l_is_in c_is_in k_is_in
  sides := def_mk X G (fun _ _ _ _ _ _ us hl => match us, hl with | [_, _], _ => rfl) a_sides l_sides c_sides k_sides
  need_burning := def_mk X G (fun _ _ _ _ _ _ us hl => match us, hl with | [_, _], _ => rfl) a_need_burning l_need_burning c_need_burning k_need_burning
  need_parents := def_mk X G (fun _ _ _ _ _ _ us hl => match us, hl with | [_], _ => rfl) a_need_parents l_need_parents c_need_parents k_need_parents
  children := def_mk X G (fun _ _ _ _ _ _ us hl => match us, hl with | [_, _], _ => rfl) a_children l_children c_children k_children
  need_two := def_mk X G (fun _ _ _ _ _ _ us hl => match us, hl with | [_, _, _], _ => rfl) a_need_two l_need_two c_need_two k_need_two
  spare_of := def_mk X G (fun _ _ _ _ _ _ us hl => match us, hl with | [_, _, _], _ => rfl) a_spare_of l_spare_of c_spare_of k_spare_of
  forest_spare := def_mk X G (fun _ _ _ _ _ _ us hl => match us, hl with | [_, _, _], _ => rfl) a_forest_spare l_forest_spare c_forest_spare k_forest_spare
  word_of := def_mk X G (fun _ _ _ _ _ _ us hl => match us, hl with | [_, _, _], _ => rfl) a_word_of l_word_of c_word_of k_word_of
  forest_fewest := def_mk X G (fun _ _ _ _ _ _ us hl => match us, hl with | [_, _, _], _ => rfl) a_forest_fewest l_forest_fewest c_forest_fewest k_forest_fewest
  forest_word := def_mk X G (fun _ _ _ _ _ _ us hl => match us, hl with | [_, _, _], _ => rfl) a_forest_word l_forest_word c_forest_word k_forest_word
  leads_to := def_mk X G (fun _ _ _ _ _ _ us hl => match us, hl with | [_, _, _], _ => rfl) a_leads_to l_leads_to c_leads_to k_leads_to
  shows_forest_word := def_mk X G (fun _ _ _ _ _ _ us hl => match us, hl with | [_, _, _, _], _ => rfl) a_shows_forest_word l_shows_forest_word c_shows_forest_word k_shows_forest_word
  forest_light_ways := def_mk X G (fun _ _ _ _ _ _ us hl => match us, hl with | [_, _, _], _ => rfl) a_forest_light_ways l_forest_light_ways c_forest_light_ways k_forest_light_ways
  forest_light_states := def_mk X G (fun _ _ _ _ _ _ us hl => match us, hl with | [_, _], _ => rfl) a_forest_light_states l_forest_light_states c_forest_light_states k_forest_light_states
  law_taken := def_mk X G (fun _ _ _ _ _ _ us hl => match us, hl with | [_, _], _ => rfl) a_law_taken l_law_taken c_law_taken k_law_taken
  law_parents := def_mk X G (fun _ _ _ _ _ _ us hl => match us, hl with | [_, _], _ => rfl) a_law_parents l_law_parents c_law_parents k_law_parents
  law_pick := def_mk X G (fun _ _ _ _ _ _ us hl => match us, hl with | [_, _], _ => rfl) a_law_pick l_law_pick c_law_pick k_law_pick
  law_row_burning := def_mk X G (fun _ _ _ _ _ _ us hl => match us, hl with | [_, _], _ => rfl) a_law_row_burning l_law_row_burning c_law_row_burning k_law_row_burning
  law := def_mk X G (fun _ _ _ _ _ _ us hl => match us, hl with | [_], _ => rfl) a_law l_law c_law k_law
theorem law_F {P : Program} {w : World} {K : PySem.W.Frag} {mg : Str → Option Value} {fa : Addr} (T : Tx K mg) (hmg : mg "law" = some (.ref fa)) : ∃ fd : FuncData, (∀ (s : Shared) (u : Value), BindsTo s fd ⟨[u], []⟩ [("_law_script", u)]) ∧ ∀ base : Heap, K.In base → base.Ns mainGlobals mg → FnOk P w K mg base CX0 5 fa fd ["_law_script"] (spP K LF.f_k74 1) := by
  have e := hmg.symm.trans T.law.m
  cases e
  exact ⟨T.law.fd, fun s v => .of_eq (T.law.bb [v] rfl), fun base _ _ => ok_law T⟩
end
end W74
end
open PySem PySem.W PyProof.Rows
set_option maxHeartbeats 0 in
theorem PySem.Challenge.cw_handons_k74_across_long_forests_holds : PySem.Challenge.rw_handons_k74_across_long_forests.Holds := by
  w_on; o_law; k_head; (case hw => w_witness2)
  k_fill
  refine L2.walk_of (l := PySem.Challenge.rw_handons_k74_across_long_forests) (n := 63) (k := 5) (x := "_law_script") (CX := fun _ => L2.CX0) (sp := fun w => DL.spP _ LF.f_k74 1) rfl (by decide) rfl ⟨rfl, by decide, by decide⟩ (fun w h Y => PySem.W.kIn_of Y) ?F (fun w H a ns hl _ hS => DL.sp_law LF.true_k74 H a ns hl hS) (fun _ _ _ _ _ h => h)
  case F =>
    intro w mg fa h KX G hmg
    refine' W74.law_F (W74.tx_mk KX G ?c_MOST_ROW ?z_len ?z_range ?z_int ?z_isinstance ?z_tuple ?z_list ?z_sorted ?z_set ?z_max ?z_min ?z_enumerate ?z_bool ?z_str ?z_sum ?z_zip ?z_dict ?z_abs ?a_is_in ?l_is_in ?c_is_in ?k_is_in ?a_sides ?l_sides ?c_sides ?k_sides ?a_need_burning ?l_need_burning ?c_need_burning ?k_need_burning ?a_need_parents ?l_need_parents ?c_need_parents ?k_need_parents ?a_children ?l_children ?c_children ?k_children ?a_need_two ?l_need_two ?c_need_two ?k_need_two ?a_spare_of ?l_spare_of ?c_spare_of ?k_spare_of ?a_forest_spare ?l_forest_spare ?c_forest_spare ?k_forest_spare ?a_word_of ?l_word_of ?c_word_of ?k_word_of ?a_forest_fewest ?l_forest_fewest ?c_forest_fewest ?k_forest_fewest ?a_forest_word ?l_forest_word ?c_forest_word ?k_forest_word ?a_leads_to ?l_leads_to ?c_leads_to ?k_leads_to ?a_shows_forest_word ?l_shows_forest_word ?c_shows_forest_word ?k_shows_forest_word ?a_forest_light_ways ?l_forest_light_ways ?c_forest_light_ways ?k_forest_light_ways ?a_forest_light_states ?l_forest_light_states ?c_forest_light_states ?k_forest_light_states ?a_law_taken ?l_law_taken ?c_law_taken ?k_law_taken ?a_law_parents ?l_law_parents ?c_law_parents ?k_law_parents ?a_law_pick ?l_law_pick ?c_law_pick ?k_law_pick ?a_law_row_burning ?l_law_row_burning ?c_law_row_burning ?k_law_row_burning ?a_law ?l_law ?c_law ?k_law) hmg
    (case c_MOST_ROW => k_is)
    (case z_len => k_is)
    (case z_range => k_is)
    (case z_int => k_is)
    (case z_isinstance => k_is)
    (case z_tuple => k_is)
    (case z_list => k_is)
    (case z_sorted => k_is)
    (case z_set => k_is)
    (case z_max => k_is)
    (case z_min => k_is)
    (case z_enumerate => k_is)
    (case z_bool => k_is)
    (case z_str => k_is)
    (case z_sum => k_is)
    (case z_zip => k_is)
    (case z_dict => k_is)
    (case z_abs => k_is)
    (case a_is_in => k_is)
    (case l_is_in => k_is)
    (case c_is_in => k_is)
    (case k_is_in => k_is)
    (case a_sides => k_is)
    (case l_sides => k_is)
    (case c_sides => k_is)
    (case k_sides => k_is)
    (case a_need_burning => k_is)
    (case l_need_burning => k_is)
    (case c_need_burning => k_is)
    (case k_need_burning => k_is)
    (case a_need_parents => k_is)
    (case l_need_parents => k_is)
    (case c_need_parents => k_is)
    (case k_need_parents => k_is)
    (case a_children => k_is)
    (case l_children => k_is)
    (case c_children => k_is)
    (case k_children => k_is)
    (case a_need_two => k_is)
    (case l_need_two => k_is)
    (case c_need_two => k_is)
    (case k_need_two => k_is)
    (case a_spare_of => k_is)
    (case l_spare_of => k_is)
    (case c_spare_of => k_is)
    (case k_spare_of => k_is)
    (case a_forest_spare => k_is)
    (case l_forest_spare => k_is)
    (case c_forest_spare => k_is)
    (case k_forest_spare => k_is)
    (case a_word_of => k_is)
    (case l_word_of => k_is)
    (case c_word_of => k_is)
    (case k_word_of => k_is)
    (case a_forest_fewest => k_is)
    (case l_forest_fewest => k_is)
    (case c_forest_fewest => k_is)
    (case k_forest_fewest => k_is)
    (case a_forest_word => k_is)
    (case l_forest_word => k_is)
    (case c_forest_word => k_is)
    (case k_forest_word => k_is)
    (case a_leads_to => k_is)
    (case l_leads_to => k_is)
    (case c_leads_to => k_is)
    (case k_leads_to => k_is)
    (case a_shows_forest_word => k_is)
    (case l_shows_forest_word => k_is)
    (case c_shows_forest_word => k_is)
    (case k_shows_forest_word => k_is)
    (case a_forest_light_ways => k_is)
    (case l_forest_light_ways => k_is)
    (case c_forest_light_ways => k_is)
    (case k_forest_light_ways => k_is)
    (case a_forest_light_states => k_is)
    (case l_forest_light_states => k_is)
    (case c_forest_light_states => k_is)
    (case k_forest_light_states => k_is)
    (case a_law_taken => k_is)
    (case l_law_taken => k_is)
    (case c_law_taken => k_is)
    (case k_law_taken => k_is)
    (case a_law_parents => k_is)
    (case l_law_parents => k_is)
    (case c_law_parents => k_is)
    (case k_law_parents => k_is)
    (case a_law_pick => k_is)
    (case l_law_pick => k_is)
    (case c_law_pick => k_is)
    (case k_law_pick => k_is)
    (case a_law_row_burning => k_is)
    (case l_law_row_burning => k_is)
    (case c_law_row_burning => k_is)
    (case k_law_row_burning => k_is)
    (case a_law => k_is)
    (case l_law => k_is)
    (case c_law => k_is)
    (case k_law => k_is)
