import PyProof.Rows.All
import Wide.All
import OpenK.AllK
import Wide.FinOn
import HandS.Base
import HandS.Call
import HandS.List
import HandS.Comp
import HandS.Conv
import HandS.Words
import HandS.WordsList
import HandS.TupLe
import HandS.TupAny
import HandS.Iter
import HandS.Dict
import KE.KeyNested
import KE.KDictKeyed
import HandS.Lambda
import PyProof.P3In
import PyProof.Rows.InDataRows
import HandS.IsInst
import HandS.TupSets
import HandS.SortInts
import KE.DataCmp
import KE.DataMinMax
import KE.DataIsa
import KE.DataFind
import KE.SortData
import KE.LtSeq
import KE.LtData
import KE.KSortTup
import HandS.Wide
import PyProof.FactsLen
import PyProof.Rows.FactsT1
import PyProof.Rows.FactsT2
import PyProof.Rows.FactsT3
import PyProof.Rows.FactsN_isinstance
import PyProof.Rows.FactsN_abs
import PyProof.Rows.SeqCalls
import PyProof.Rows.SeqRange
import PyProof.Rows.EnumRows
import KE.GoesEnum
import KE.GoesMore
import HandS.Style
import KE.KDictDisplayH
import KE.KDictWalk
import KE.KDictCopyH
import KE.KDictSum
import PyProof.Rows.SumGenD
import PyProof.SumAny
import KE.GoesZip
import HandS.TupMul
import HandS.SetFor
import HandS.Strs
import HandS.Deep
import KE.KEqDict
import KE.KTupSum
import HandS.Exc
import HandS.ExcOwn
import HandS.ExcIs
import HandS.WordsExc
import KE.SortKeyHeap
import HandS.EndTab
import KE.KNest
import PySem.Challenge.RW_handons_k34_known_rows
section
set_option Elab.async false
set_option linter.all false
set_option maxRecDepth 100000
/-! New tuples whose object is known: it has no dict. -/
namespace DL
open PySem PySem.Spec PyProof.Rows L2
/-- a tuple of a known object -/
def SqZ (H : Hp) (a : Addr) (xs : List V) : Prop := ∃ ob : Obj, H a = some (.frz ob (.tup xs)) ∧ ob.dict = none
theorem SqZ.sqt {K : PySem.W.Frag} {H : Hp} {a : Addr} {xs : List V} (h : SqZ H a xs) : SqT K H a xs := by
  obtain ⟨ob, e, _⟩ := h
  exact .inl (.inr ⟨ob, e⟩)
/-- the wish is met by each new tuple -/
def NwT (H : Hp) (xs : List V) (Q : VK) : Prop := ∀ (c : Addr) (ob : Obj), ob.dict = none → H c = none → Q (.ref c) (upd H c (.frz ob (.tup xs)))
theorem vals_one {v : V} {us : List Value} (r : Vals [v] us) : ∃ u, us = [u] ∧ RelV v u := by
  cases r with
  | cons r rr =>
    cases rr
    exact ⟨_, rfl, r⟩
section
variable {X : Cx} {pins : List (Addr × Obj)} {τ : L2.St} {G : Hp} {s0 : Shared}
theorem Inv.nwt {zs : List V} {its : List Value} {tk : Nat} {hp : Heap} (J : Inv X pins τ G { s0 with heap := hp }) (r : Vals zs its) (hz : zs.length ≤ sizeLine) : Inv X pins τ (upd G hp.objs.size (.frz { cls := .type "tuple", data := .seq its.toArray } (.tup zs))) { s0 with heap := hp.push { cls := .type "tuple", data := .seq its.toArray }, toks := tk } :=
  L2.Inv.laid (s := { s0 with heap := hp }) (t' := tk) J (fun b ob q => Heap.get?_push_of_some _ q) (Nat.le_refl _) ⟨Heap.get?_push_size _ rfl, hz, its, r, IsTup.new _ _⟩
variable {es : List Expr} {t : TA} {pos : Pos}
def tTupZ (t : TA) : TE := fun τ G Q => t τ G fun zs G1 => zs.length ≤ sizeLine ∧ NwT G1 zs Q
theorem pe_tupZ {x1} (h : PA X es t) : PE X (.Tuple es x1 pos) (tTupZ t) := by
  refine ⟨fun pins s0 τ G Q J hq => wpAny_Tuple_spliced (thn (h.run pos pins s0 τ G _ J hq) fun ws s1 ⟨zs, G1, J1, r, z, q⟩ => ⟨?_, ?_⟩)⟩
  · rw [← r.length]
    exact z
  · exact ⟨.ref s1.heap.objs.size, _, Inv.nwt (tk := s1.toks) (s0 := s1) J1 r z, rfl, q _ _ rfl (J1.hok.fresh (Nat.le_refl _))⟩
/-- t + u -/
def rCatZ (K : PySem.W.Frag) : R2 := fun x y G Q => ∃ a b xs ys, x = .ref a ∧ y = .ref b ∧ SqT K G a xs ∧ SqT K G b ys ∧ xs.length + ys.length ≤ sizeLine ∧
  (xs = [] → Q (.ref b) G) ∧ (xs ≠ [] → ys = [] → Q (.ref a) G) ∧ (xs ≠ [] → ys ≠ [] → NwT G (xs ++ ys) Q)
theorem op_catZ : OpR X (binaryOp .Add) (rCatZ X.K) := by
  intro pins s0 τ G x y v u Q J rx ry h
  obtain ⟨a, b, xs, ys, rfl, rfl, ha, hb, hz, q0, q1, q2⟩ := h
  cases rx
  cases ry
  obtain ⟨its, r1, p1, _⟩ := J.tuple ha
  obtain ⟨its2, r2, p2, _⟩ := J.tuple hb
  by_cases hx : xs = []
  · subst hx
    cases r1
    exact cat_tup0 p1 p2 ⟨.ref b, G, J, rfl, q0 rfl⟩
  · have hz2 : its.length + its2.length ≤ sizeLine := by
      rw [← r1.length, ← r2.length]
      exact hz
    refine HT.cat_tup p1 p2 (fun z => hx (r1.nil_iff.mp z)) (fun z => ⟨.ref a, G, J, rfl, q1 hx (r2.nil_iff.mp z)⟩) (fun z => ?_) hz2
    exact ⟨.ref s0.heap.objs.size, _, Inv.nwt (tk := s0.toks) (s0 := s0) J (r1.append r2) (by rw [List.length_append]; exact hz), rfl, q2 hx (fun w => z (r2.nil_iff.mpr w)) _ _ rfl (J.hok.fresh (Nat.le_refl _))⟩
/-- tuple(xs) -/
def rTupZ (K : PySem.W.Frag) : List V → Hp → VK → Prop := fun xs G Q => ∃ p ys, xs = [.ref p] ∧ ((SqL K G p ys ∧ NwT G ys Q) ∨ (SqT K G p ys ∧ Q (.ref p) G))
theorem call_tupleZ : CallR X (.type "tuple") (rTupZ X.K) := by
  intro pins s0 τ G xs us Q J r h
  obtain ⟨p, ys, rfl, h⟩ := h
  obtain ⟨u, rfl, rx⟩ := vals_one r
  cases rx
  rcases h with ⟨hq, q⟩ | ⟨hq, q⟩
  · obtain ⟨its, r', pl, hz⟩ := J.list hq
    have hl := r'.length
    refine call_tuple_list pl.isList (fun h' kp => ?_) (by rw [List.size_toArray]; omega)
    have J1 : Inv X pins τ G { s0 with heap := h' } := J.kept (t' := s0.toks) kp
    exact ⟨.ref h'.objs.size, _, Inv.nwt (tk := s0.toks) J1 r' hz, rfl, q _ _ rfl (J1.hok.fresh (Nat.le_refl _))⟩
  · obtain ⟨its, r', pl, hz⟩ := J.tuple hq
    exact call_tuple_same pl ⟨.ref p, G, J, rfl, q⟩
/-- t[lo:hi] -/
def rSlZ (K : PySem.W.Frag) : V → Option Int → Option Int → Hp → VK → Prop := fun x lo hi G Q => ∃ a xs, x = .ref a ∧ SqT K G a xs ∧
  (HT.sIx xs.length 0 lo = 0 ∧ HT.sIx xs.length xs.length hi = xs.length → Q (.ref a) G) ∧ (¬ (HT.sIx xs.length 0 lo = 0 ∧ HT.sIx xs.length xs.length hi = xs.length) → NwT G (cutV xs lo hi) Q)
theorem sl_tupZ : SlR X (rSlZ X.K) := by
  intro pins s0 τ G x v vl vu lo hi sl Q J rx hs pl pu h
  obtain ⟨a, xs, rfl, hx, q1, q2⟩ := h
  cases rx
  obtain ⟨its, r, ht, hz⟩ := J.tuple hx
  have hlen : its.toArray.size = xs.length := by
    rw [List.size_toArray]
    exact r.length.symm
  refine ⟨"tuple", _, PyProof.Rows.slot_tuple_getitem.lookup, ht.typeIs, ?_⟩
  by_cases hw : HT.sIx xs.length 0 lo = 0 ∧ HT.sIx xs.length xs.length hi = xs.length
  · exact getItem_tuple_whole ht hs pl pu (by rw [hlen]; exact hw) ⟨.ref a, G, J, rfl, q1 hw⟩
  · refine HT.getItem_tuple_cut ht hs pl pu (by rw [hlen]; exact hw) ?_ (by rw [hlen]; exact hz)
    rw [hlen]
    exact ⟨.ref s0.heap.objs.size, _, Inv.nwt (tk := s0.toks) (s0 := s0) J ((r.drop (HT.sIx xs.length 0 lo)).take (HT.sIx xs.length xs.length hi - HT.sIx xs.length 0 lo)) (Nat.le_trans (cutV_length xs lo hi) hz), rfl, q2 hw _ _ rfl (J.hok.fresh (Nat.le_refl _))⟩
/-- tuple(range(..)) -/
def tTupRgZ (te : L2.St → Hp → (Int → Int → Hp → Prop) → Prop) : TE := fun τ G Q => te τ G fun a b G1 => RgOk a b ∧ NwT G1 (rgV a b) Q
theorem pe_tupRgZ {e : Expr} {te : L2.St → Hp → (Int → Int → Hp → Prop) → Prop} {p pos : Pos} (hc : X.calm = true) (hg : Gl X "tuple") (hm : X.mg "tuple" = none) (he : PRg X e te) (na : starEach [e] X.env = (false, eval e X.env) :: starEach [] X.env := by rfl) : PE X (.Call (.Name "tuple" p) [e] [] pos) (tTupRgZ te) := by
  refine ⟨fun pins s0 τ G Q J h => Call_ (ld_blt J hg hm boot_tuple (PyProof.Rows.callWith_type1 (args_cons (thn (he pins s0 τ G _ J h) fun x s1 ⟨r, a, b, t, u, v, G1, ex, hr, J1, ok, q⟩ => args_nil ?_) na) na))⟩
  subst ex
  obtain ⟨b1, b2, b3, b4, b5⟩ := ok
  refine call_tuple_range (n := (b - a).toNat) (J1.ok.hd hc) hr (small_one b1 b2 b3 b4) (rangeSize_nat a b) b5 fun h' tk acc hk hi => ?_
  have J2 : Inv X pins τ G1 { s1 with heap := h', toks := tk } := J1.kept hk
  have hz : (rgV a b).length ≤ sizeLine := by
    rw [rgV_length, sizeLine_eq]
    omega
  have e1 := Inv.nwt (tk := tk) (s0 := { s1 with toks := tk }) (hp := h') J2 (vals_rg hi) hz
  rw [Array.toArray_toList] at e1
  exact ⟨.ref h'.objs.size, _, e1, rfl, q _ _ rfl (J2.hok.fresh (Nat.le_refl _))⟩
end
end DL
end
section
set_option Elab.async false
set_option linter.all false
set_option maxRecDepth 100000
/-! A layer of data over the hand layer: what an expression is worth as data, and what a block does to the frame's data. -/
namespace DL
open PySem PySem.Spec PyProof.Rows L2

abbrev D := PyData
/-! ### heaps -/
def Ex (H H' : Hp) : Prop := ∀ a o, H a = some o → H' a = some o
theorem Ex.refl (H : Hp) : Ex H H := fun _ _ h => h
theorem Ex.trans {H H1 H2 : Hp} (a : Ex H H1) (b : Ex H1 H2) : Ex H H2 := fun x o h => b x o (a x o h)
theorem Ex.new {H : Hp} {p : Addr} {o : HO} (h : H p = none) : Ex H (upd H p o) := fun b x e => by
  rw [upd_ne (ne_of_none e h)]
  exact e
theorem Ex.free {H H' : Hp} (e : Ex H H') {l : Addr} (h : H' l = Option.none) : H l = Option.none := by
  cases q : H l with
  | none => rfl
  | some o => rw [e l o q] at h; cases h
theorem Ex.rd {H H' : Hp} {a : Addr} {u : HO} (e : Ex H H') (h : Rd H a u) : Rd H' a u := by
  rcases h with h | ⟨o, h⟩
  · exact .inl (e _ _ h)
  · exact .inr ⟨o, e _ _ h⟩
theorem Ex.sql {K : PySem.W.Frag} {H H' : Hp} {a : Addr} {xs : List V} (e : Ex H H') (h : SqL K H a xs) : SqL K H' a xs := by
  rcases h with h | h
  · exact .inl (e.rd h)
  · exact .inr h
theorem Ex.sqt {K : PySem.W.Frag} {H H' : Hp} {a : Addr} {xs : List V} (e : Ex H H') (h : SqT K H a xs) : SqT K H' a xs := by
  rcases h with h | h
  · exact .inl (e.rd h)
  · exact .inr h
theorem Ex.sqz {H H' : Hp} {a : Addr} {xs : List V} (e : Ex H H') (h : SqZ H a xs) : SqZ H' a xs := let ⟨ob, h1, h2⟩ := h; ⟨ob, e _ _ h1, h2⟩
theorem Ex.both {F H : Hp} {p : Addr} {o : HO} (e : Ex F H) : Ex (upd F p o) (upd H p o) := fun b x q => by
  by_cases hb : b = p
  · subst hb
    rw [upd_same] at q ⊢
    exact q
  · rw [upd_ne hb] at q ⊢
    exact e b x q

/-! ### tables of code objects: they grow, all else stays -/
/-- the tables that are known of, each with its lambda's name -/
class TabT where
  T : List (Addr × Str)
  hs : Array Nat → Int
/-- the world hashes texts as is known -/
class WH [TabT] (w : World) : Prop where
  eq : w.params.strHash = TabT.hs
abbrev NoTb (o : HO) : Prop := ∀ ps, o ≠ .tbl ps
/-- all but the tables stays -/
abbrev ExU (H H' : Hp) : Prop := ∀ a o, H a = some o → NoTb o → H' a = some o
theorem ExU.of {H H' : Hp} (e : Ex H H') : ExU H H' := fun a o h _ => e a o h
theorem ExU.refl (H : Hp) : ExU H H := fun _ _ h _ => h
theorem ExU.trans {H H1 H2 : Hp} (a : ExU H H1) (b : ExU H1 H2) : ExU H H2 := fun x o h n => b x o (a x o h n) n
theorem ExU.rd {H H' : Hp} {a : Addr} {u : HO} (e : ExU H H') (n : NoTb u) (h : Rd H a u) : Rd H' a u := by
  rcases h with h | ⟨o, h⟩
  · exact .inl (e _ _ h n)
  · exact .inr ⟨o, e _ _ h fun ps z => by cases z⟩
theorem ExU.sql {K : PySem.W.Frag} {H H' : Hp} {a : Addr} {xs : List V} (e : ExU H H') (h : SqL K H a xs) : SqL K H' a xs := by
  rcases h with h | h
  · exact .inl (e.rd (fun ps z => by cases z) h)
  · exact .inr h
theorem ExU.sqt {K : PySem.W.Frag} {H H' : Hp} {a : Addr} {xs : List V} (e : ExU H H') (h : SqT K H a xs) : SqT K H' a xs := by
  rcases h with h | h
  · exact .inl (e.rd (fun ps z => by cases z) h)
  · exact .inr h
/-- nothing vanishes -/
abbrev Lv (H H' : Hp) : Prop := ∀ a, H a ≠ none → H' a ≠ none
theorem Ex.lv {H H' : Hp} (e : Ex H H') : Lv H H' := fun a h => by
  cases q : H a with
  | none => exact absurd q h
  | some o => rw [e a o q]; intro z; cases z
theorem Lv.free {H H' : Hp} {l : Addr} (e : Lv H H') (h : H' l = Option.none) : H l = Option.none := by
  cases q : H l with
  | none => rfl
  | some o => exact absurd h (e l (by rw [q]; intro z; cases z))
theorem Lv.trans {H H1 H2 : Hp} (a : Lv H H1) (b : Lv H1 H2) : Lv H H2 := fun x h => b x (a x h)
/-- what a function value does: what the heap's data say of the function object at a -/
class FnT where
  ok : PySem.W.Frag → Hp → Addr → (List D → Option D) → Prop
  mono : ∀ {K : PySem.W.Frag} {F F' : Hp} {a : Addr} {w : List D → Option D}, Ex F F' → ok K F a w → ok K F' a w
variable [TabT] [FnT]
/-- the table at P is hidden, its code objects are seen and bear the name q -/
def TbS (F H : Hp) (P : Addr) (q : Str) : Prop := F P = none ∧ ∃ ps : Array Value, H P = some (.tbl ps) ∧ TriplesOk ps.toList ∧ ∀ (pos : Pos) (cv : Value), codeAmong pos ps.toList = some cv → ∃ c, cv = .ref c ∧ F c = some (LamX.CodeO c q)
/-- the tables are what they should be -/
abbrev TbOk (F H : Hp) : Prop := ∀ p ∈ TabT.T, TbS F H p.1 p.2
omit [TabT] [FnT] in
theorem TbS.to {F H F' H' : Hp} {P : Addr} {q : Str} (t : TbS F H P q) (e : Ex F F') (hf : F' P = none) (k : ∀ ps, H P = some (.tbl ps) → H' P = some (.tbl ps)) : TbS F' H' P q := by
  obtain ⟨_, ps, h1, h2, h3⟩ := t
  refine ⟨hf, ps, k _ h1, h2, fun pos cv hc => ?_⟩
  obtain ⟨c, e1, e2⟩ := h3 pos cv hc
  exact ⟨c, e1, e _ _ e2⟩
omit [TabT] [FnT] in
theorem TbS.live {F H : Hp} {P : Addr} {q : Str} (t : TbS F H P q) : H P ≠ none := by
  obtain ⟨_, ps, e, _⟩ := t
  rw [e]
  intro z
  cases z
theorem TbOk.to {F H F' H' : Hp} (t : TbOk F H) (e : Ex F F') (hf : ∀ a, H a ≠ none → F a = none → F' a = none) (k : ∀ a ps, H a = some (.tbl ps) → H' a = some (.tbl ps)) : TbOk F' H' := fun p hp =>
  (t p hp).to e (hf _ (t p hp).live (t p hp).1) fun ps => k _ ps
theorem TbOk.toT {F H F' H' : Hp} (t : TbOk F H) (e : Ex F F') (hf : ∀ a ps, H a = some (.tbl ps) → F a = none → F' a = none) (k : ∀ a ps, H a = some (.tbl ps) → H' a = some (.tbl ps)) : TbOk F' H' := fun p hp => by
  obtain ⟨ps, h, _⟩ := (t p hp).2
  exact (t p hp).to e (hf _ ps h (t p hp).1) fun ps => k _ ps
/-- one more object is seen -/
theorem TbOk.see {F H : Hp} {a : Addr} {u o : HO} (t : TbOk F H) (hf : F a = none) (ha : H a = some u) (n : NoTb u) : TbOk (upd F a o) H :=
  t.toT (.new hf) (fun b ps e f => by
    rw [upd_ne fun z => n ps (by rw [z, ha] at e; exact Option.some.inj e)]
    exact f) fun _ _ e => e
theorem noTb_ext {φ : Heap → Prop} : NoTb (.ext φ) := fun ps z => by cases z
abbrev ExB (F H : Hp) : Prop := Ex F H ∧ TbOk F H
/-! ### data in a heap -/
def keyD : Key → D
  | .inl i => .int i
  | .inr x => .str x
/-! keys: numbers, texts (a dict of such); tuples without texts, to depth 8 (a dict of such) -/
mutual
def nkD : D → Option NestedKey
  | .none => some .none
  | .bool b => some (.num (if b = true then 1 else 0))
  | .int i => some (.num i)
  | .str x => some (.text x)
  | .tuple ds => (nkDs ds).map .tup
  | _ => none
def nkDs : List D → Option (List NestedKey)
  | [] => some []
  | d :: ds => (nkD d).bind fun k => (nkDs ds).map (k :: ·)
end
/-- the key that a value is, in a dict of tuples (t), of numbers and texts (not t) -/
def kOf (t : Bool) : D → Option NestedKey
  | .int i => if t then none else some (.num i)
  | .str x => if t then none else some (.text x)
  | .tuple ds => if t then (nkDs ds).bind fun ks => if (NestedKey.tup ks).depth ≤ 8 then some (.tup ks) else none else none
  | _ => none
abbrev DEs := List (NestedKey × Addr × Value)
/-- what is true of the object of a dict with tuple keys -/
def DPhi (a : Addr) (xs : DEs) (h : Heap) : Prop := (a == sysModules) = false ∧ xs.length ≤ sizeLine ∧ (xs.map (·.1)).Nodup ∧
  ∃ o es ep, h.get? a = some o ∧ o.ExactDict ∧ o.data = .dict es ep ∧ ∀ w : World, w.params.strHash = TabT.hs → es.toList = xs.map fun x => ⟨x.1.hash w, .ref x.2.1, x.2.2⟩
def DN (a : Addr) (xs : DEs) : HO := .ext (DPhi a xs)
mutual
inductive Rp (K : PySem.W.Frag) (H : Hp) : V → D → Prop
  | non : Rp K H .non .none
  | bl (b : Bool) : Rp K H (.bl b) (.bool b)
  | int (i : Int) : Rp K H (.int i) (.int i)
  | str (x : Str) : Rp K H (.str x) (.str x)
  | lst {a : Addr} {xs : List V} {ds : List D} : SqL K H a xs → RpA K H xs ds → Rp K H (.ref a) (.list ds)
  | tup {a : Addr} {xs : List V} {ds : List D} : SqZ H a xs → RpA K H xs ds → Rp K H (.ref a) (.tuple ds)
  | dk {a : Addr} {o : Obj} {kvs : List (Key × V)} {ds : List (D × D)} : ds ≠ [] → H a = some (.frz o (.dK kvs)) → RpK K H kvs ds → Rp K H (.ref a) (.dict ds)
  | dn {a : Addr} {o : Obj} {xs : DEs} {ds : List (D × D)} : H a = some (.frz o (DN a xs)) → RpN K H xs ds → Rp K H (.ref a) (.dict ds)
inductive RpA (K : PySem.W.Frag) (H : Hp) : List V → List D → Prop
  | nil : RpA K H [] []
  | cons {v : V} {vs : List V} {d : D} {ds : List D} : Rp K H v d → RpA K H vs ds → RpA K H (v :: vs) (d :: ds)
inductive RpK (K : PySem.W.Frag) (H : Hp) : List (Key × V) → List (D × D) → Prop
  | nil : RpK K H [] []
  | cons {k : Key} {v : V} {d : D} {r : List (Key × V)} {ds : List (D × D)} : Rp K H v d → RpK K H r ds → RpK K H ((k, v) :: r) ((keyD k, d) :: ds)
inductive RpN (K : PySem.W.Frag) (H : Hp) : List (NestedKey × Addr × Value) → List (D × D) → Prop
  | nil : RpN K H [] []
  | cons {k : NestedKey} {q : Addr} {u : Value} {v : V} {kd d : D} {r : List (NestedKey × Addr × Value)} {ds : List (D × D)} : Rp K H (.ref q) kd → kOf true kd = some k → RelV v u → Rp K H v d → RpN K H r ds → RpN K H ((k, q, u) :: r) ((kd, d) :: ds)
end
section
variable {K : PySem.W.Frag} {F H H' : Hp}
mutual
theorem Rp.mono (e : Ex H H') : ∀ {v : V} {d : D}, Rp K H v d → Rp K H' v d
  | _, _, .non => .non
  | _, _, .bl b => .bl b
  | _, _, .int i => .int i
  | _, _, .str x => .str x
  | _, _, .lst h r => .lst (e.sql h) (RpA.mono e r)
  | _, _, .tup h r => .tup (e.sqz h) (RpA.mono e r)
  | _, _, .dk z h r => .dk z (e _ _ h) (RpK.mono e r)
  | _, _, .dn h r => .dn (e _ _ h) (RpN.mono e r)
theorem RpA.mono (e : Ex H H') : ∀ {v : List V} {d : List D}, RpA K H v d → RpA K H' v d
  | _, _, .nil => .nil
  | _, _, .cons h r => .cons (Rp.mono e h) (RpA.mono e r)
theorem RpK.mono (e : Ex H H') : ∀ {v : List (Key × V)} {d : List (D × D)}, RpK K H v d → RpK K H' v d
  | _, _, .nil => .nil
  | _, _, .cons h r => .cons (Rp.mono e h) (RpK.mono e r)
theorem RpN.mono (e : Ex H H') : ∀ {v : List (NestedKey × Addr × Value)} {d : List (D × D)}, RpN K H v d → RpN K H' v d
  | _, _, .nil => .nil
  | _, _, .cons h1 h2 h3 h4 r => .cons (Rp.mono e h1) h2 h3 (Rp.mono e h4) (RpN.mono e r)
end
theorem RpA.length {xs : List V} {ds : List D} (h : RpA K H xs ds) : xs.length = ds.length := by
  induction xs generalizing ds with
  | nil => cases h; rfl
  | cons x xs ih =>
    cases h with
    | cons _ r => rw [List.length_cons, List.length_cons, ih r]
theorem RpA.get : ∀ {xs : List V} {ds : List D} {i : Nat} {d : D}, RpA K H xs ds → ds[i]? = some d → ∃ v, xs[i]? = some v ∧ Rp K H v d
  | _, _, _, _, .nil, e => by simp at e
  | _, _, 0, _, .cons r _, e => by simp at e; subst e; exact ⟨_, rfl, r⟩
  | _, _, i + 1, d, .cons _ t, e => by
    obtain ⟨u, h1, h2⟩ := RpA.get (i := i) (d := d) t (by simpa using e)
    exact ⟨u, by simpa using h1, h2⟩
theorem RpA.getV : ∀ {xs : List V} {ds : List D} {i : Nat} {v : V}, RpA K H xs ds → xs[i]? = some v → ∃ d, ds[i]? = some d ∧ Rp K H v d
  | _, _, _, _, .nil, e => by simp at e
  | _, _, 0, _, .cons r _, e => by simp at e; subst e; exact ⟨_, rfl, r⟩
  | _, _, i + 1, d, .cons _ t, e => by
    obtain ⟨u, h1, h2⟩ := RpA.getV (i := i) (v := d) t (by simpa using e)
    exact ⟨u, by simpa using h1, h2⟩
theorem RpA.append : ∀ {xs ys : List V} {ds es : List D}, RpA K H xs ds → RpA K H ys es → RpA K H (xs ++ ys) (ds ++ es)
  | _, _, _, _, .nil, s => s
  | _, _, _, _, .cons r t, s => .cons r (RpA.append t s)
theorem RpA.one {v : V} {d : D} (r : Rp K H v d) : RpA K H [v] [d] := .cons r .nil
theorem RpA.take : ∀ {xs : List V} {ds : List D} (n : Nat), RpA K H xs ds → RpA K H (xs.take n) (ds.take n)
  | _, _, 0, _ => by rw [List.take_zero, List.take_zero]; exact .nil
  | _, _, _ + 1, .nil => .nil
  | _, _, n + 1, .cons r t => .cons r (RpA.take n t)
theorem RpA.drop : ∀ {xs : List V} {ds : List D} (n : Nat), RpA K H xs ds → RpA K H (xs.drop n) (ds.drop n)
  | _, _, 0, r => r
  | _, _, _ + 1, .nil => .nil
  | _, _, n + 1, .cons _ t => RpA.drop n t
theorem RpA.set {v : V} {d : D} (r : Rp K H v d) : ∀ {xs : List V} {ds : List D} (i : Nat), RpA K H xs ds → RpA K H (xs.set i v) (ds.set i d)
  | _, _, _, .nil => .nil
  | _, _, 0, .cons _ t => .cons r t
  | _, _, i + 1, .cons q t => .cons q (RpA.set r i t)
theorem RpA.reverse : ∀ {xs : List V} {ds : List D}, RpA K H xs ds → RpA K H xs.reverse ds.reverse
  | _, _, .nil => .nil
  | _, _, .cons r t => by
    rw [List.reverse_cons, List.reverse_cons]
    exact RpA.append (RpA.reverse t) (.one r)
/-! scalars -/
def scD : D → Bool
  | .none => true | .bool _ => true | .int _ => true | .str _ => true | _ => false
theorem Rp.sc {v : V} {d : D} (h : Rp K H v d) (s : scD d = true) : ∀ F, Rp K F v d := by
  cases h <;> intro F
  · exact .non
  · exact .bl _
  · exact .int _
  · exact .str _
  all_goals (simp only [scD] at s; cases s)
/-! without dicts: the library's own relation -/
mutual
def nd : D → Bool
  | .list xs => ndA xs
  | .tuple xs => ndA xs
  | .dict _ => false
  | _ => true
def ndA : List D → Bool
  | [] => true
  | x :: xs => nd x && ndA xs
end
mutual
theorem Rp.dp : ∀ {v : V} {d : D}, Rp K H v d → nd d = true → Dp K H v d
  | _, _, .non, _ => .non
  | _, _, .bl b, _ => .bl b
  | _, _, .int i, _ => .int i
  | _, _, .str x, _ => .str x
  | _, _, .lst h r, e => .lst h (RpA.dp r (by simpa only [nd] using e))
  | _, _, .tup h r, e => .tup h.sqt (RpA.dp r (by simpa only [nd] using e))
  | _, _, .dk _ h r, e => by simp only [nd] at e; cases e
  | _, _, .dn h r, e => by simp only [nd] at e; cases e
theorem RpA.dp : ∀ {v : List V} {d : List D}, RpA K H v d → ndA d = true → DpAll K H v d
  | _, _, .nil, _ => .nil
  | _, _, .cons h r, e => by
    simp only [ndA, Bool.and_eq_true] at e
    exact .cons (Rp.dp h e.1) (RpA.dp r e.2)
end
end

/-! ### the frame's data -/
inductive B where
  /-- nothing is known | data that may be held elsewhere | a list of the frame's own | the caller's list, handed down | a dict of the frame's own (t: of tuple keys) | a value of which nothing is known, which stays | a function of data | the caller's dict, handed down -/
  | no | sh (d : D) | ow (ds : List D) | io (ds : List D) | od (t : Bool) (kvs : List (D × D)) | pin | fn (w : List D → Option D) | jd (t : Bool) (kvs : List (D × D))
def B.own : B → Bool
  | .ow _ => true
  | .io _ => true
  | .od _ _ => true
  | .jd _ _ => true
  | _ => false
/-- what the caller has handed down, to be changed -/
def B.down : B → Option (Option Bool)
  | .io _ => some none
  | .jd t _ => some (some t)
  | _ => none
abbrev Fm := List B
def ownA (σ : L2.St) (ρ : Fm) (a : Addr) : Prop := ∃ (i : Nat) (b : B), ρ[i]? = some b ∧ b.own = true ∧ σ[i]? = some (some (.ref a))
def OwnL (K : PySem.W.Frag) (F H : Hp) (o : Option (Option V)) (ds : List D) : Prop := ∃ (a : Addr) (vs : List V), o = some (some (.ref a)) ∧ H a = some (.lst vs) ∧ F a = none ∧ RpA K F vs ds
/-- the dict at a, of one's own, as data -/
def Dct (K : PySem.W.Frag) (F H : Hp) (a : Addr) : Bool → List (D × D) → Prop
  | false, ds => ∃ kvs, H a = some (.dK kvs) ∧ RpK K F kvs ds
  | true, ds => ∃ xs, H a = some (DN a xs) ∧ RpN K F xs ds
def OwnD (K : PySem.W.Frag) (F H : Hp) (o : Option (Option V)) (t : Bool) (ds : List (D × D)) : Prop := ∃ a : Addr, o = some (some (.ref a)) ∧ F a = none ∧ Dct K F H a t ds
def BRel (K : PySem.W.Frag) (F H : Hp) (o : Option (Option V)) : B → Prop
  | .no => True
  | .pin => True
  | .fn w => ∃ a : Addr, o = some (some (.ref a)) ∧ FnT.ok K F a w
  | .sh d => ∃ v, o = some (some v) ∧ Rp K F v d
  | .ow ds => OwnL K F H o ds
  | .io ds => OwnL K F H o ds
  | .od t kvs => OwnD K F H o t kvs
  | .jd t kvs => OwnD K F H o t kvs
structure Rel (K : PySem.W.Frag) (F H : Hp) (σ : L2.St) (ρ : Fm) : Prop where
  ex : Ex F H
  len : σ.length = ρ.length
  at_ : ∀ (i : Nat) (b : B), ρ[i]? = some b → BRel K F H σ[i]? b
  sep : ∀ (i j : Nat) (b c : B) (a : Addr), ρ[i]? = some b → b.own = true → ρ[j]? = some c → c.own = true → σ[i]? = some (some (.ref a)) → σ[j]? = some (some (.ref a)) → i = j
  tab : TbOk F H
/-- the heap has grown, nothing of it is changed, what was hidden is hidden -/
structure Gr (F H F' H' : Hp) : Prop where
  ex : Ex F F'
  in_ : Ex F' H'
  keep : ExU H H'
  hide : ∀ a, H a ≠ none → F a = none → F' a = none
  live : Lv H H'
  tab : TbOk F H → TbOk F' H'
theorem Gr.refl {F H : Hp} (e : Ex F H) : Gr F H F H := ⟨.refl _, e, .refl _, fun _ _ h => h, fun _ h => h, id⟩
theorem Gr.trans {F H F1 H1 F2 H2 : Hp} (a : Gr F H F1 H1) (b : Gr F1 H1 F2 H2) : Gr F H F2 H2 :=
  ⟨a.ex.trans b.ex, b.in_, a.keep.trans b.keep, fun x hx hf => b.hide x (a.live x hx) (a.hide x hx hf), a.live.trans b.live, fun t => b.tab (a.tab t)⟩
theorem Gr.mkE {F H F' H' : Hp} (ex : Ex F F') (in_ : Ex F' H') (keep : Ex H H') (hide : ∀ a, H a ≠ none → F a = none → F' a = none) : Gr F H F' H' := ⟨ex, in_, .of keep, hide, keep.lv, fun t => t.to ex hide fun a ps => keep a _⟩
/-- a new object, seen -/
theorem Gr.new {F H : Hp} {p : Addr} {o : HO} (e : Ex F H) (hp : H p = none) : Gr F H (upd F p o) (upd H p o) :=
  .mkE (.new (e.free hp)) e.both (.new hp) fun a ha hf => by
    have : a ≠ p := fun z => ha (by rw [z]; exact hp)
    rw [upd_ne this]
    exact hf
/-- a new object, not seen -/
theorem Gr.newH {F H : Hp} {p : Addr} {o : HO} (e : Ex F H) (hp : H p = none) : Gr F H F (upd H p o) :=
  .mkE (.refl _) (e.trans (.new hp)) (.new hp) fun a _ hf => hf
/-- an object of one's own is written over -/
theorem Gr.over {F H F' H' : Hp} {p : Addr} {u o : HO} (g : Gr F H F' H') (h0 : H p = none) (hf : F' p = none) (hp : H' p = some u) (n : NoTb u) : Gr F H F' (upd H' p o) where
  ex := g.ex
  in_ := fun q v hq => by
    rw [upd_ne fun z => by rw [z, hf] at hq; cases hq]
    exact g.in_ q v hq
  keep := fun q v hq t => by
    rw [upd_ne fun z => by rw [z, h0] at hq; cases hq]
    exact g.keep q v hq t
  hide := g.hide
  live := fun q hq => by
    rw [upd_ne fun z => hq (by rw [z]; exact h0)]
    exact g.live q hq
  tab := fun t => (g.tab t).to (.refl _) (fun _ _ h => h) fun a ps e => by
    rw [upd_ne fun z => n ps (by rw [z, hp] at e; exact Option.some.inj e)]
    exact e
/-- an object of one's own is seen from now on -/
theorem Gr.seeN {F H F' H' : Hp} {p : Addr} {u : HO} (g : Gr F H F' H') (h0 : H p = none) (hf : F' p = none) (hp : H' p = some u) (n : NoTb u) : Gr F H (upd F' p u) H' where
  ex := g.ex.trans (.new hf)
  in_ := fun q v hq => by
    by_cases z : q = p
    · rw [z, upd_same] at hq
      rw [z, ← hq]
      exact hp
    · rw [upd_ne z] at hq
      exact g.in_ q v hq
  keep := g.keep
  hide := fun q hq hF => by
    rw [upd_ne fun z => hq (by rw [z]; exact h0)]
    exact g.hide q hq hF
  live := g.live
  tab := fun t => (g.tab t).see hf hp n
theorem Gr.ext {F H H' : Hp} (e : Ex F H) (k : Ex H H') : Gr F H F H' := .mkE (.refl _) (e.trans k) k fun _ _ h => h
section
variable {K : PySem.W.Frag} {F H F' H' F2 H2 : Hp} {σ σ' σ2 : L2.St} {ρ ρ' ρ2 : Fm}
theorem OwnL.gr {o : Option (Option V)} {ds : List D} (h : OwnL K F H o ds) (g : Gr F H F' H') : OwnL K F' H' o ds := by
  obtain ⟨a, vs, e1, e2, e3, r⟩ := h
  exact ⟨a, vs, e1, g.keep _ _ e2 (fun ps z => by cases z), g.hide a (by rw [e2]; intro z; cases z) e3, r.mono g.ex⟩
omit [FnT] in
theorem Dct.live {a : Addr} {t : Bool} {ds : List (D × D)} (h : Dct K F H a t ds) : ∃ u, H a = some u ∧ Mut (some u) := by
  cases t with
  | false =>
    obtain ⟨kvs, e, _⟩ := h
    exact ⟨_, e, trivial⟩
  | true =>
    obtain ⟨xs, e, _⟩ := h
    exact ⟨_, e, trivial⟩
theorem Dct.move {a : Addr} {t : Bool} {ds : List (D × D)} (h : Dct K F H a t ds) (e : Ex F F') (k : ∀ u, H a = some u → NoTb u → H' a = some u) : Dct K F' H' a t ds := by
  cases t with
  | false =>
    obtain ⟨kvs, e1, r⟩ := h
    exact ⟨kvs, k _ e1 (fun ps z => by cases z), RpK.mono e r⟩
  | true =>
    obtain ⟨xs, e1, r⟩ := h
    exact ⟨xs, k _ e1 noTb_ext, RpN.mono e r⟩
theorem OwnD.gr {o : Option (Option V)} {t : Bool} {ds : List (D × D)} (h : OwnD K F H o t ds) (g : Gr F H F' H') : OwnD K F' H' o t ds := by
  obtain ⟨a, e1, e3, d⟩ := h
  obtain ⟨u, e2, _⟩ := d.live
  exact ⟨a, e1, g.hide a (by rw [e2]; intro z; cases z) e3, d.move g.ex fun u e n => g.keep _ _ e n⟩
theorem BRel.gr {o : Option (Option V)} : ∀ {b : B}, BRel K F H o b → Gr F H F' H' → BRel K F' H' o b
  | .no, _, _ => trivial
  | .pin, _, _ => trivial
  | .fn w, ⟨a, e, r⟩, g => ⟨a, e, FnT.mono g.ex r⟩
  | .sh d, ⟨v, e, r⟩, g => ⟨v, e, r.mono g.ex⟩
  | .ow ds, h, g => OwnL.gr (show OwnL K F H o ds from h) g
  | .io ds, h, g => OwnL.gr (show OwnL K F H o ds from h) g
  | .od t ds, h, g => OwnD.gr (show OwnD K F H o t ds from h) g
  | .jd t ds, h, g => OwnD.gr (show OwnD K F H o t ds from h) g
theorem Rel.gr (h : Rel K F H σ ρ) (g : Gr F H F' H') : Rel K F' H' σ ρ :=
  ⟨g.in_, h.len, fun i b e => (h.at_ i b e).gr g, h.sep, g.tab h.tab⟩
/-- what a step may do: own lists change, new own lists are new objects -/
structure Go (K : PySem.W.Frag) (F H : Hp) (σ : L2.St) (ρ : Fm) (F' H' : Hp) (σ' : L2.St) (ρ' : Fm) : Prop where
  rel : Rel K F' H' σ' ρ'
  ex : Ex F F'
  keep : ∀ a o, H a = some o → NoTb o → ¬ ownA σ ρ a → H' a = some o
  live : ∀ a, H a ≠ none → H' a ≠ none
  hide : ∀ a, H a ≠ none → F a = none → ¬ ownA σ ρ a → F' a = none
  sub : ∀ a, ownA σ' ρ' a → ownA σ ρ a ∨ H a = none
  io : ∀ (i : Nat) (b : B), ρ'[i]? = some b → b.down.isSome = true → (∃ b0, ρ[i]? = some b0 ∧ b0.down = b.down) ∧ σ'[i]? = σ[i]?
  pn : ∀ i : Nat, ρ'[i]? = some .pin → ρ[i]? = some .pin ∧ σ'[i]? = σ[i]?
theorem Go.refl (h : Rel K F H σ ρ) : Go K F H σ ρ F H σ ρ :=
  ⟨h, .refl _, fun _ _ e _ _ => e, fun _ e => e, fun _ _ e _ => e, fun _ o => .inl o, fun _ b e _ => ⟨⟨b, e, rfl⟩, rfl⟩, fun _ e => ⟨e, rfl⟩⟩
theorem Go.trans (a : Go K F H σ ρ F' H' σ' ρ') (b : Go K F' H' σ' ρ' F2 H2 σ2 ρ2) : Go K F H σ ρ F2 H2 σ2 ρ2 where
  rel := b.rel
  ex := a.ex.trans b.ex
  keep := fun x o e t n => b.keep x o (a.keep x o e t n) t fun z => (a.sub x z).elim n fun w => by rw [w] at e; cases e
  live := fun x e => b.live x (a.live x e)
  hide := fun x e f n => b.hide x (a.live x e) (a.hide x e f n) fun z => (a.sub x z).elim n fun w => e w
  sub := fun x o => (b.sub x o).elim (a.sub x) fun w => .inr (by
    cases q : H x with
    | none => rfl
    | some u => exact absurd w (a.live x (by rw [q]; intro z; cases z)))
  io := fun i c e hc => by
    obtain ⟨⟨d1, e1, k1⟩, s1⟩ := b.io i c e hc
    obtain ⟨⟨d2, e2, k2⟩, s2⟩ := a.io i d1 e1 (by rw [k1]; exact hc)
    exact ⟨⟨d2, e2, k2.trans k1⟩, s1.trans s2⟩
  pn := fun i e => by
    obtain ⟨e1, s1⟩ := b.pn i e
    obtain ⟨h2, s2⟩ := a.pn i e1
    exact ⟨h2, s1.trans s2⟩
theorem Go.ioL (g : Go K F H σ ρ F' H' σ' ρ') {i : Nat} {ds : List D} (e : ρ'[i]? = some (.io ds)) : (∃ ds0, ρ[i]? = some (.io ds0)) ∧ σ'[i]? = σ[i]? := by
  obtain ⟨⟨b0, e0, k⟩, s⟩ := g.io i _ e rfl
  refine ⟨?_, s⟩
  cases b0 <;> first | exact ⟨_, e0⟩ | cases k
theorem Go.ioD (g : Go K F H σ ρ F' H' σ' ρ') {i : Nat} {t : Bool} {ds : List (D × D)} (e : ρ'[i]? = some (.jd t ds)) : (∃ ds0, ρ[i]? = some (.jd t ds0)) ∧ σ'[i]? = σ[i]? := by
  obtain ⟨⟨b0, e0, k⟩, s⟩ := g.io i _ e rfl
  refine ⟨?_, s⟩
  cases b0 with
  | jd u es =>
    have : u = t := by injection (Option.some.inj k)
    subst this
    exact ⟨_, e0⟩
  | _ => cases k
theorem Go.gr (h : Rel K F H σ ρ) (g : Gr F H F' H') : Go K F H σ ρ F' H' σ ρ where
  rel := h.gr g
  ex := g.ex
  keep := fun a o e t _ => g.keep a o e t
  live := g.live
  hide := fun a e f _ => g.hide a e f
  sub := fun _ o => .inl o
  io := fun _ b e _ => ⟨⟨b, e, rfl⟩, rfl⟩
  pn := fun _ e => ⟨e, rfl⟩
end

/-! ### what a reading is worth -/
/-- the value d comes: as something new or as something that is there -/
def Res (K : PySem.W.Frag) (F H : Hp) (d : D) (Q : VK) : Prop := ∀ v F' H', Gr F H F' H' → Rp K F' v d → Q v H'
/-- a value that may be an own list (to be read only) -/
def DV (K : PySem.W.Frag) (F H : Hp) (a : Addr) (ds : List (D × D)) : Prop := (∃ kvs, Rd H a (.dK kvs) ∧ RpK K F kvs ds) ∨ ∃ xs, Rd H a (DN a xs) ∧ RpN K F xs ds
inductive Vw (K : PySem.W.Frag) (F H : Hp) (v : V) (d : D) : Prop
  | inl (h : Rp K F v d)
  | inr (h : ∃ (a : Addr) (vs : List V) (ds : List D), v = .ref a ∧ d = .list ds ∧ H a = some (.lst vs) ∧ RpA K F vs ds)
  | ind (h : ∃ (a : Addr) (ds : List (D × D)), v = .ref a ∧ d = .dict ds ∧ DV K F H a ds)
def ResV (K : PySem.W.Frag) (F H : Hp) (d : D) (Q : VK) : Prop := ∀ v F' H', Gr F H F' H' → Vw K F' H' v d → Q v H'
def ResA (K : PySem.W.Frag) (F H : Hp) (ds : List D) (Q : List V → Hp → Prop) : Prop := ∀ vs F' H', Gr F H F' H' → RpA K F' vs ds → Q vs H'
def ResB (F H : Hp) (b : Bool) (Q : Bool → Hp → Prop) : Prop := ∀ F' H', Gr F H F' H' → Q b H'
/-- plain: nothing of the frame is changed -/
def SP (K : PySem.W.Frag) (t : TE) (f : Fm → Option D) : Prop := ∀ F H σ ρ d, f ρ = some d → Rel K F H σ ρ → ∀ Q : VK, Res K F H d Q → t σ H Q
def SV (K : PySem.W.Frag) (t : TE) (f : Fm → Option D) : Prop := ∀ F H σ ρ d, f ρ = some d → Rel K F H σ ρ → ∀ Q : VK, ResV K F H d Q → t σ H Q
def SB (K : PySem.W.Frag) (t : TT) (f : Fm → Option Bool) : Prop := ∀ F H σ ρ b, f ρ = some b → Rel K F H σ ρ → ∀ Q : Bool → Hp → Prop, ResB F H b Q → t σ H Q
def SA (K : PySem.W.Frag) (t : TA) (f : Fm → Option (List D)) : Prop := ∀ F H σ ρ ds, f ρ = some ds → Rel K F H σ ρ → ∀ Q : List V → Hp → Prop, ResA K F H ds Q → t σ H Q
/-- with an effect on own lists -/
def SE (K : PySem.W.Frag) (t : TE) (f : Fm → Option (D × Fm)) : Prop := ∀ F H σ ρ d ρ', f ρ = some (d, ρ') → Rel K F H σ ρ → ∀ Q : VK, (∀ v F' H', Go K F H σ ρ F' H' σ ρ' → Rp K F' v d → Q v H') → t σ H Q
def SEB (K : PySem.W.Frag) (t : TT) (f : Fm → Option (Bool × Fm)) : Prop := ∀ F H σ ρ b ρ', f ρ = some (b, ρ') → Rel K F H σ ρ → ∀ Q : Bool → Hp → Prop, (∀ F' H', Go K F H σ ρ F' H' σ ρ' → Q b H') → t σ H Q
def SEA (K : PySem.W.Frag) (t : TA) (f : Fm → Option (List D × Fm)) : Prop := ∀ F H σ ρ ds ρ', f ρ = some (ds, ρ') → Rel K F H σ ρ → ∀ Q : List V → Hp → Prop, (∀ vs F' H', Go K F H σ ρ F' H' σ ρ' → RpA K F' vs ds → Q vs H') → t σ H Q
/-- how a block ends -/
inductive Fl where
  | nx | bk | rt (d : D)
def SS (K : PySem.W.Frag) (t : TS) (f : Fm → Option (Fl × Fm)) : Prop := ∀ F H σ ρ fl ρ', f ρ = some (fl, ρ') → Rel K F H σ ρ → ∀ E : Ends,
  (fl = .nx → ∀ σ' F' H', Go K F H σ ρ F' H' σ' ρ' → E.nx σ' H') → (fl = .bk → ∀ σ' F' H', Go K F H σ ρ F' H' σ' ρ' → E.bk σ' H') →
  (∀ d, fl = .rt d → ∀ v σ' F' H', Go K F H σ ρ F' H' σ' ρ' → Rp K F' v d → E.rt v H') → t E σ H
/-- the judgements of syntax -/
def PP (X : Cx) (e : Expr) (f : Fm → Option D) : Prop := ∃ t, PE X e t ∧ SP X.K t f
def PV (X : Cx) (e : Expr) (f : Fm → Option D) : Prop := ∃ t, PE X e t ∧ SV X.K t f
def PB (X : Cx) (e : Expr) (f : Fm → Option Bool) : Prop := ∃ t, PT X e t ∧ SB X.K t f
def PAs (X : Cx) (es : List Expr) (f : Fm → Option (List D)) : Prop := ∃ t, PA X es t ∧ SA X.K t f ∧ ∀ ρ ds, f ρ = some ds → ds.length = es.length
def PX (X : Cx) (e : Expr) (f : Fm → Option (D × Fm)) : Prop := ∃ t, PE X e t ∧ SE X.K t f
def PXB (X : Cx) (e : Expr) (f : Fm → Option (Bool × Fm)) : Prop := ∃ t, PT X e t ∧ SEB X.K t f
def PXA (X : Cx) (es : List Expr) (f : Fm → Option (List D × Fm)) : Prop := ∃ t, PA X es t ∧ SEA X.K t f ∧ ∀ ρ ds ρ', f ρ = some (ds, ρ') → ds.length = es.length
def PSt (X : Cx) (s : Stmt) (f : Fm → Option (Fl × Fm)) : Prop := ∃ t, PS X s t ∧ SS X.K t f
def PBl (X : Cx) (ss : List Stmt) (f : Fm → Option (Fl × Fm)) : Prop := ∃ t, PSs X ss t ∧ SS X.K t f
end DL
end
section
set_option Elab.async false
set_option linter.all false
set_option maxRecDepth 100000
/-! Operators on data. -/
namespace DL
open PySem PySem.Spec PyProof.Rows L2
variable [TabT] [FnT]
section
variable {K : PySem.W.Frag} {F H F' H' : Hp} {v : V} {d : D}
theorem DV.gr {a : Addr} {ds : List (D × D)} (h : DV K F H a ds) (g : Gr F H F' H') : DV K F' H' a ds := by
  rcases h with ⟨kvs, e, r⟩ | ⟨xs, e, r⟩
  · exact .inl ⟨kvs, g.keep.rd (fun ps z => by cases z) e, RpK.mono g.ex r⟩
  · exact .inr ⟨xs, g.keep.rd noTb_ext e, RpN.mono g.ex r⟩
theorem Dct.dv {a : Addr} {t : Bool} {ds : List (D × D)} (h : Dct K F H a t ds) : DV K F H a ds := by
  cases t with
  | false =>
    obtain ⟨kvs, e, r⟩ := h
    exact .inl ⟨kvs, .inl e, r⟩
  | true =>
    obtain ⟨xs, e, r⟩ := h
    exact .inr ⟨xs, .inl e, r⟩
theorem Vw.rp (h : Vw K F H v d) (e : Ex F H) (hn : nd d = true) : Rp K H v d := by
  rcases h with h | ⟨a, vs, ds, rfl, rfl, h1, h2⟩ | ⟨a, ds, rfl, rfl, h1⟩
  · exact h.mono e
  · exact .lst (.inl (.inl h1)) (h2.mono e)
  · simp only [nd] at hn; cases hn
theorem Vw.gr (h : Vw K F H v d) (g : Gr F H F' H') : Vw K F' H' v d := by
  rcases h with h | ⟨a, vs, ds, rfl, rfl, h1, h2⟩ | ⟨a, ds, rfl, rfl, h1⟩
  · exact .inl (h.mono g.ex)
  · exact .inr ⟨a, vs, ds, rfl, rfl, g.keep _ _ h1 (fun ps z => by cases z), h2.mono g.ex⟩
  · exact .ind ⟨a, ds, rfl, rfl, h1.gr g⟩
/-- a list to be read: its items are seen -/
theorem Vw.list {ds : List D} (h : Vw K F H v (.list ds)) (e : Ex F H) : ∃ (a : Addr) (xs : List V), v = .ref a ∧ SqL K H a xs ∧ RpA K F xs ds := by
  rcases h with h | ⟨a, vs, es, rfl, q, h1, h2⟩ | ⟨a, ds, rfl, q, h1⟩
  · cases h with
    | lst hs r => exact ⟨_, _, rfl, e.sql hs, r⟩
  · cases q
    exact ⟨_, _, rfl, .inl (.inl h1), h2⟩
  · cases q
theorem Vw.tuple {ds : List D} (h : Vw K F H v (.tuple ds)) (e : Ex F H) : ∃ (a : Addr) (xs : List V), v = .ref a ∧ SqT K H a xs ∧ RpA K F xs ds := by
  rcases h with h | ⟨a, vs, es, rfl, q, h1, h2⟩ | ⟨a, ds, rfl, q, h1⟩
  · cases h with
    | tup hs r => exact ⟨_, _, rfl, e.sqt hs.sqt, r⟩
  · cases q
  · cases q
theorem Vw.dict {ds : List (D × D)} (h : Vw K F H v (.dict ds)) (e : Ex F H) : ∃ a : Addr, v = .ref a ∧ DV K F H a ds := by
  rcases h with h | ⟨a, vs, es, rfl, q, h1, h2⟩ | ⟨a, ds, rfl, q, h1⟩
  · cases h with
    | dk z hs r => exact ⟨_, rfl, .inl ⟨_, .inr ⟨_, e _ _ hs⟩, r⟩⟩
    | dn hs r => exact ⟨_, rfl, .inr ⟨_, .inr ⟨_, e _ _ hs⟩, r⟩⟩
  · cases q
  · cases q
    exact ⟨a, rfl, h1⟩
theorem Vw.sc (h : Vw K F H v d) (s : scD d = true) : ∀ F, Rp K F v d := by
  rcases h with h | ⟨a, vs, es, rfl, rfl, h1, h2⟩ | ⟨a, ds, rfl, rfl, h1⟩
  · exact h.sc s
  · cases s
  · cases s
theorem Rp.intI {i : Int} (h : Rp K H v (.int i)) : v = .int i := by cases h; rfl
theorem Rp.blI {b : Bool} (h : Rp K H v (.bool b)) : v = .bl b := by cases h; rfl
theorem Rp.strI {x : Str} (h : Rp K H v (.str x)) : v = .str x := by cases h; rfl
theorem Rp.noneI (h : Rp K H v .none) : v = .non := by cases h; rfl
theorem Vw.int {i : Int} (h : Vw K F H v (.int i)) : v = .int i := (h.sc rfl H).intI
theorem Vw.bl {b : Bool} (h : Vw K F H v (.bool b)) : v = .bl b := (h.sc rfl H).blI
theorem Vw.str {x : Str} (h : Vw K F H v (.str x)) : v = .str x := (h.sc rfl H).strI
/-! results -/
theorem Res.sc {Q : VK} (k : Res K F H d Q) (e : Ex F H) (h : ∀ F, Rp K F v d) : Q v H := k v F H (.refl e) (h F)
theorem Res.at_ {Q : VK} (k : Res K F H d Q) (e : Ex F H) (h : Rp K F v d) : Q v H := k v F H (.refl e) h
theorem Res.lst {Q : VK} {ds : List D} {xs : List V} (k : Res K F H (.list ds) Q) (e : Ex F H) (h : RpA K F xs ds) : ∀ p, H p = none → Q (.ref p) (upd H p (.lst xs)) := fun p hp =>
  k (.ref p) _ _ (.new e hp) (.lst (.inl (.inl upd_same)) (h.mono (.new (e.free hp))))
theorem Res.tup {Q : VK} {ds : List D} {xs : List V} (k : Res K F H (.tuple ds) Q) (e : Ex F H) (h : RpA K F xs ds) : NwT H xs Q := fun p ob ho hp =>
  k (.ref p) _ _ (.new e hp) (.tup ⟨ob, upd_same, ho⟩ (h.mono (.new (e.free hp))))
theorem Res.gr {Q : VK} (k : Res K F H d Q) (g : Gr F H F' H') : Res K F' H' d Q := fun v F2 H2 g2 r => k v F2 H2 (g.trans g2) r
theorem ResV.gr {Q : VK} (k : ResV K F H d Q) (g : Gr F H F' H') : ResV K F' H' d Q := fun v F2 H2 g2 r => k v F2 H2 (g.trans g2) r
theorem resOfV {Q : VK} (k : ResV K F H d Q) : Res K F H d Q := fun v F2 H2 g r => k v F2 H2 g (.inl r)
end
/-! ### names, constants -/
def fVar (i : Nat) (ρ : Fm) : Option D := match ρ[i]? with
  | some (.sh d) => some d
  | _ => none
def fOwn (i : Nat) (ρ : Fm) : Option D := match ρ[i]? with
  | some (.sh d) => some d
  | some (.ow ds) => some (.list ds)
  | some (.io ds) => some (.list ds)
  | some (.od _ ds) => some (.dict ds)
  | some (.jd _ ds) => some (.dict ds)
  | _ => none
def fC (d : D) (_ : Fm) : Option D := some d
def fOp2 (g : D → D → Option D) (fa fb : Fm → Option D) (ρ : Fm) : Option D := (fa ρ).bind fun x => (fb ρ).bind fun y => g x y
def fOp1 (g : D → Option D) (fa : Fm → Option D) (ρ : Fm) : Option D := (fa ρ).bind g
section
variable {K : PySem.W.Frag} {ta tb te : TE} {fa fb fe : Fm → Option D}
theorem sp_var {i : Nat} : SP K (tVar i) (fVar i) := by
  intro F H σ ρ d hf hR Q k
  unfold fVar at hf
  cases e : ρ[i]? with
  | none => rw [e] at hf; cases hf
  | some b =>
    rw [e] at hf
    cases b <;> cases hf
    obtain ⟨v, e1, r⟩ := hR.at_ i _ e
    exact ⟨v, e1, k.at_ hR.ex r⟩
theorem sv_own {i : Nat} : SV K (tVar i) (fOwn i) := by
  intro F H σ ρ d hf hR Q k
  unfold fOwn at hf
  cases e : ρ[i]? with
  | none => rw [e] at hf; cases hf
  | some b =>
    rw [e] at hf
    cases b with
    | no => cases hf
    | pin => cases hf
    | fn _ => cases hf
    | sh d =>
      cases hf
      obtain ⟨v, e1, r⟩ := hR.at_ i _ e
      exact ⟨v, e1, k v F H (.refl hR.ex) (.inl r)⟩
    | ow ds =>
      cases hf
      obtain ⟨a, vs, e1, e2, e3, r⟩ := hR.at_ i _ e
      exact ⟨.ref a, e1, k _ F H (.refl hR.ex) (.inr ⟨a, vs, ds, rfl, rfl, e2, r⟩)⟩
    | io ds =>
      cases hf
      obtain ⟨a, vs, e1, e2, e3, r⟩ := hR.at_ i _ e
      exact ⟨.ref a, e1, k _ F H (.refl hR.ex) (.inr ⟨a, vs, ds, rfl, rfl, e2, r⟩)⟩
    | od t ds =>
      cases hf
      obtain ⟨a, e1, e3, r⟩ := hR.at_ i _ e
      exact ⟨.ref a, e1, k _ F H (.refl hR.ex) (.ind ⟨a, ds, rfl, rfl, r.dv⟩)⟩
    | jd t ds =>
      cases hf
      obtain ⟨a, e1, e3, r⟩ := hR.at_ i _ e
      exact ⟨.ref a, e1, k _ F H (.refl hR.ex) (.ind ⟨a, ds, rfl, rfl, r.dv⟩)⟩
theorem SP.sv (h : SP K te fe) : SV K te fe := fun F H σ ρ d hf hR Q k => h F H σ ρ d hf hR Q (resOfV k)
theorem sp_c {v : V} {d : D} (h : ∀ F, Rp K F v d) : SP K (tC v) (fC d) := by
  intro F H σ ρ d' hf hR Q k
  cases hf
  exact k.sc hR.ex h
/-- two operands, read -/
theorem sp_op2 {r : R2} {g : D → D → Option D} (hr : ∀ F H x y dx dy dz, Ex F H → Vw K F H x dx → Vw K F H y dy → g dx dy = some dz → ∀ Q : VK, Res K F H dz Q → r x y H Q)
    (ha : SV K ta fa) (hb : SV K tb fb) : SP K (tOp r ta tb) (fOp2 g fa fb) := by
  intro F H σ ρ d hf hR Q k
  unfold fOp2 at hf
  obtain ⟨dx, h1, hf⟩ := Option.bind_eq_some_iff.mp hf
  obtain ⟨dy, h2, hf⟩ := Option.bind_eq_some_iff.mp hf
  refine ha F H σ ρ dx h1 hR _ fun x F1 H1 g1 r1 => ?_
  refine hb F1 H1 σ ρ dy h2 (hR.gr g1) _ fun y F2 H2 g2 r2 => ?_
  exact hr F2 H2 x y dx dy d g2.in_ (r1.gr g2) r2 hf Q (k.gr (g1.trans g2))
theorem sp_op1 {r : V → Hp → VK → Prop} {g : D → Option D} (hr : ∀ F H x dx dz, Ex F H → Vw K F H x dx → g dx = some dz → ∀ Q : VK, Res K F H dz Q → r x H Q)
    (ha : SV K ta fa) : SP K (tUn r ta) (fOp1 g fa) := by
  intro F H σ ρ d hf hR Q k
  unfold fOp1 at hf
  obtain ⟨dx, h1, hf⟩ := Option.bind_eq_some_iff.mp hf
  refine ha F H σ ρ dx h1 hR _ fun x F1 H1 g1 r1 => ?_
  exact hr F1 H1 x dx d g1.in_ r1 hf Q (k.gr g1)
end
/-! ### arithmetic and + -/
def gI2 (p : Int → Int → Bool) (f : Int → Int → Int) : D → D → Option D
  | .int i, .int j => if p i j then some (.int (f i j)) else none
  | _, _ => none
def smI (i : Int) : Bool := decide (-(2 ^ 64) < i) && decide (i < 2 ^ 64)
def gSub : D → D → Option D := gI2 (fun _ _ => true) fun i j => i - j
def gMulI : D → D → Option D := gI2 (fun i j => smI i || smI j) fun i j => i * j
def gDiv : D → D → Option D := gI2 (fun _ j => decide (0 < j) && decide (j < 18446744073709551616)) fun i j => i / j
def gMod : D → D → Option D := gI2 (fun _ j => decide (0 < j)) fun i j => i % j
def gPow : D → D → Option D := gI2 (fun i j => decide (0 ≤ j) && decide (j ≤ 1000000) && decide (i.natAbs < 2 ^ 64)) fun i j => i ^ j.toNat
def bigN : Nat := 1000000
def gAdd : D → D → Option D
  | .int i, .int j => some (.int (i + j))
  | .list xs, .list ys => if xs.length + ys.length ≤ bigN then some (.list (xs ++ ys)) else none
  | .tuple xs, .tuple ys => if xs.length + ys.length ≤ bigN then some (.tuple (xs ++ ys)) else none
  | .str x, .str y => if x.length + y.length ≤ bigN then some (.str (x ++ y)) else none
  | _, _ => none
theorem big_le : bigN ≤ sizeLine := by decide
section
variable {K : PySem.W.Frag}
theorem vw_I2 {C : Int → Int → Prop} {p : Int → Int → Bool} {f : Int → Int → Int} (hp : ∀ i j, p i j = true → C i j) :
    ∀ F H x y dx dy dz, Ex F H → Vw K F H x dx → Vw K F H y dy → gI2 p f dx dy = some dz → ∀ Q : VK, Res K F H dz Q → rI C (fun i j => .int (f i j)) x y H Q := by
  intro F H x y dx dy dz e hx hy hg Q k
  unfold gI2 at hg
  split at hg
  · split at hg
    · rename_i hc
      cases hg
      exact ⟨_, _, hx.int, hy.int, hp _ _ hc, k.sc e fun _ => .int _⟩
    · cases hg
  · cases hg
theorem vw_I20 {f : Int → Int → Int} :
    ∀ F H x y dx dy dz, Ex F H → Vw K F H x dx → Vw K F H y dy → gI2 (fun _ _ => true) f dx dy = some dz → ∀ Q : VK, Res K F H dz Q → rI0 (fun i j => .int (f i j)) x y H Q := by
  intro F H x y dx dy dz e hx hy hg Q k
  obtain ⟨i, j, h1, h2, _, h3⟩ := vw_I2 (C := fun _ _ => True) (fun _ _ _ => trivial) F H x y dx dy dz e hx hy hg Q k
  exact ⟨i, j, h1, h2, h3⟩
theorem smI_mul {i j : Int} (h : (smI i || smI j) = true) : CMul i j := by
  unfold smI at h
  simp only [Bool.or_eq_true, Bool.and_eq_true, decide_eq_true_eq] at h
  exact h
end
/-- list + list, whatever list -/
def rCatS (K : PySem.W.Frag) : R2 := fun x y H Q => ∃ l b xs zs, x = .ref l ∧ y = .ref b ∧ SqL K H l xs ∧ SqL K H b zs ∧ xs.length + zs.length ≤ sizeLine ∧ ∀ p, H p = none → Q (.ref p) (upd H p (.lst (xs ++ zs)))

section
variable {X : Cx}
theorem op_catS : OpR X (binaryOp .Add) (rCatS X.K) := by
  intro pins s σ H x y v u Q I rx ry h
  obtain ⟨l, b, xs, zs, rfl, rfl, hH, hB, hz, q⟩ := h
  cases rx
  cases ry
  obtain ⟨its, r, pl, z⟩ := I.list hH
  obtain ⟨its2, r2, pl2, z2⟩ := I.list hB
  obtain ⟨⟨cls, dd, data, sl⟩, ho, hc, n, hd⟩ := pl.isList
  obtain ⟨⟨cls2, dd2, data2, sl2⟩, ho2, hc2, n2, hd2⟩ := pl2.isList
  simp only at hc hd hc2 hd2
  subst hc hd hc2 hd2
  have e : its.toArray ++ its2.toArray = (its ++ its2).toArray := by simp
  have e1 := r.length
  have e2 := r2.length
  refine concat_meets ⟨_, ho, rfl⟩ ⟨_, ho2, rfl⟩ noFill_list_add seq_list_add PySem.F.slot_list_add PySem.F.entry_list_add (PySem.F.args_list_add_2 _ _) (list_addW l b its.toArray its2.toArray n n2 dd dd2 sl sl2 (by simp only [List.size_toArray]; omega)) ⟨ho, ho2, ?_⟩
  rw [e]
  exact ⟨.ref _, _, I.lnew (t' := s.toks) (r.append r2) (by rw [List.length_append]; omega), rfl, q _ I.fresh⟩
/-- + of ints, lists, tuples, texts -/
def rAddAny (K : PySem.W.Frag) : R2 := fun x y H Q => rI0 (fun i j => .int (i + j)) x y H Q ∨ rCatS K x y H Q ∨ rCatZ K x y H Q ∨ ∃ i j, x = .str i ∧ y = .str j ∧ i.length + j.length ≤ sizeLine ∧ Q (.str (i ++ j)) H
theorem op_addAny : OpR X (binaryOp .Add) (rAddAny X.K) := op_add.or (op_catS.or (op_catZ.or op_add_str))
end
section
variable {K : PySem.W.Frag} {F H F' H' : Hp} {v : V} {d : D}
theorem vw_add : ∀ F H x y dx dy dz, Ex F H → Vw K F H x dx → Vw K F H y dy → gAdd dx dy = some dz → ∀ Q : VK, Res K F H dz Q → rAddAny K x y H Q := by
  intro F H x y dx dy dz e hx hy hg Q k
  unfold gAdd at hg
  split at hg
  · cases hg
    exact .inl ⟨_, _, hx.int, hy.int, k.sc e fun _ => .int _⟩
  · split at hg
    · rename_i hz
      cases hg
      obtain ⟨a, xs, rfl, s1, r1⟩ := hx.list e
      obtain ⟨b, ys, rfl, s2, r2⟩ := hy.list e
      have l1 := r1.length
      have l2 := r2.length
      exact .inr (.inl ⟨a, b, xs, ys, rfl, rfl, s1, s2, Nat.le_trans (by omega) big_le, k.lst e (r1.append r2)⟩)
    · cases hg
  · split at hg
    · rename_i hz
      cases hg
      obtain ⟨a, xs, rfl, s1, r1⟩ := hx.tuple e
      obtain ⟨b, ys, rfl, s2, r2⟩ := hy.tuple e
      have l1 := r1.length
      have l2 := r2.length
      refine .inr (.inr (.inl ⟨a, b, xs, ys, rfl, rfl, s1, s2, Nat.le_trans (by omega) big_le, fun n => ?_, fun n m => ?_, fun n m => k.tup e (r1.append r2)⟩))
      · subst n
        cases r1
        rcases hy with hy | ⟨_, _, _, _, q, _⟩ | ⟨_, _, _, q, _⟩
        · exact k.at_ e hy
        · cases q
        · cases q
      · subst m
        cases r2
        rw [List.append_nil] at k
        rcases hx with hx | ⟨_, _, _, _, q, _⟩ | ⟨_, _, _, q, _⟩
        · exact k.at_ e hx
        · cases q
        · cases q
    · cases hg
  · split at hg
    · rename_i hz
      cases hg
      exact .inr (.inr (.inr ⟨_, _, hx.str, hy.str, Nat.le_trans hz big_le, k.sc e fun _ => .str _⟩))
    · cases hg
  · cases hg
end
/-! ### comparisons -/
def okD (d : D) : Bool := SeqAt.shaped d
mutual
theorem nd_lay : ∀ {d : D}, PyData.canLay0 d = true → nd d = true
  | .none, _ => rfl
  | .bool _, _ => rfl
  | .int _, _ => rfl
  | .str _, _ => rfl
  | .list xs, h => by
    simp only [nd]
    exact ndA_lay (by simpa only [PyData.canLay0] using h)
  | .tuple xs, h => by
    simp only [nd]
    exact ndA_lay (by simpa only [PyData.canLay0] using h)
  | .dict _, h => by simp only [PyData.canLay0] at h; cases h
theorem ndA_lay : ∀ {ds : List D}, PyData.canLayAll0 ds = true → ndA ds = true
  | [], _ => rfl
  | x :: xs, h => by
    simp only [PyData.canLayAll0, Bool.and_eq_true] at h
    simp only [ndA, Bool.and_eq_true]
    exact ⟨nd_lay h.1, ndA_lay h.2⟩
end
theorem nd_ok {d : D} (h : okD d = true) : nd d = true := nd_lay (SeqAt.canLay_of_shaped h)
def gEq : D → D → Option D := fun x y => if okD x && okD y then some (.bool (PyData.eqv x y)) else none
def gNe : D → D → Option D := fun x y => if okD x && okD y then some (.bool (!PyData.eqv x y)) else none
def itemsD : D → Option (List D)
  | .list xs => some xs
  | .tuple xs => some xs
  | _ => none
def gIn (neg : Bool) : D → D → Option D := fun x y => match itemsD y with
  | some ds => if okD x && okD y then some (.bool (if neg then !ds.any (fun z => PyData.eqv z x) else ds.any fun z => PyData.eqv z x)) else none
  | none => none
/-- in a list or a tuple -/
def rInLT (K : PySem.W.Frag) (neg : Bool) : R2 := fun x y H Q => ∃ d ds, Dp K H x d ∧ (Dp K H y (.list ds) ∨ Dp K H y (.tuple ds)) ∧ SeqAt.shaped d = true ∧ PyData.canLayAll0 ds = true ∧
  Q (.bl (if neg then !ds.any (fun z => PyData.eqv z d) else ds.any fun z => PyData.eqv z d)) H
section
variable {X : Cx}
theorem op_inLT (hu : X.A.units + 65 < cLine) : OpR X (compareOp .In) (rInLT X.K false) := by
  intro pins s σ H x y v u Q I rx ry h
  obtain ⟨d, ds, hd, he, sd, se, q⟩ := h
  obtain ⟨as, r1⟩ := Dp.reads I d x v hd rx
  rcases he with he | he
  · obtain ⟨bs, r2⟩ := Dp.reads I (.list ds) y u he ry
    exact SeqAt.in_list_reads r2 r1 se (SeqAt.canLay_of_shaped sd) (room_in_shaped sd hu) ⟨.bl _, H, I, rfl, q⟩
  · obtain ⟨bs, r2⟩ := Dp.reads I (.tuple ds) y u he ry
    exact SeqAt.in_tuple_reads r2 r1 se (SeqAt.canLay_of_shaped sd) (room_in_shaped sd hu) ⟨.bl _, H, I, rfl, q⟩
theorem op_niLT (hu : X.A.units + 65 < cLine) : OpR X (compareOp .NotIn) (rInLT X.K true) := by
  intro pins s σ H x y v u Q I rx ry h
  obtain ⟨d, ds, hd, he, sd, se, q⟩ := h
  obtain ⟨as, r1⟩ := Dp.reads I d x v hd rx
  rcases he with he | he
  · obtain ⟨bs, r2⟩ := Dp.reads I (.list ds) y u he ry
    exact SeqAt.notIn_list_reads r2 r1 se (SeqAt.canLay_of_shaped sd) (room_in_shaped sd hu) ⟨.bl _, H, I, rfl, q⟩
  · obtain ⟨bs, r2⟩ := Dp.reads I (.tuple ds) y u he ry
    exact SeqAt.notIn_tuple_reads r2 r1 se (SeqAt.canLay_of_shaped sd) (room_in_shaped sd hu) ⟨.bl _, H, I, rfl, q⟩
end
section
variable {K : PySem.W.Frag}
theorem vw_eq : ∀ F H x y dx dy dz, Ex F H → Vw K F H x dx → Vw K F H y dy → gEq dx dy = some dz → ∀ Q : VK, Res K F H dz Q → rEqD K x y H Q := by
  intro F H x y dx dy dz e hx hy hg Q k
  unfold gEq at hg
  split at hg
  · rename_i hc
    cases hg
    simp only [Bool.and_eq_true] at hc
    exact ⟨dx, dy, (hx.rp e (nd_ok hc.1)).dp (nd_ok hc.1), (hy.rp e (nd_ok hc.2)).dp (nd_ok hc.2), hc.1, hc.2, k.sc e fun _ => .bl _⟩
  · cases hg
theorem vw_ne : ∀ F H x y dx dy dz, Ex F H → Vw K F H x dx → Vw K F H y dy → gNe dx dy = some dz → ∀ Q : VK, Res K F H dz Q → rNeD K x y H Q := by
  intro F H x y dx dy dz e hx hy hg Q k
  unfold gNe at hg
  split at hg
  · rename_i hc
    cases hg
    simp only [Bool.and_eq_true] at hc
    exact ⟨dx, dy, (hx.rp e (nd_ok hc.1)).dp (nd_ok hc.1), (hy.rp e (nd_ok hc.2)).dp (nd_ok hc.2), hc.1, hc.2, k.sc e fun _ => .bl _⟩
  · cases hg
theorem vw_in {neg : Bool} : ∀ F H x y dx dy dz, Ex F H → Vw K F H x dx → Vw K F H y dy → gIn neg dx dy = some dz → ∀ Q : VK, Res K F H dz Q → rInLT K neg x y H Q := by
  intro F H x y dx dy dz e hx hy hg Q k
  unfold gIn at hg
  split at hg
  · rename_i ds hi
    split at hg
    · rename_i hc
      cases hg
      simp only [Bool.and_eq_true] at hc
      refine ⟨dx, ds, (hx.rp e (nd_ok hc.1)).dp (nd_ok hc.1), ?_, hc.1, ?_, k.sc e fun _ => .bl _⟩
      · have h2 := (hy.rp e (nd_ok hc.2)).dp (nd_ok hc.2)
        cases dy <;> cases hi
        · exact .inl h2
        · exact .inr h2
      · have h2 := SeqAt.canLay_of_shaped hc.2
        cases dy <;> cases hi <;> simpa only [PyData.canLay0] using h2
    · cases hg
  · cases hg
end
end DL
end
section
set_option Elab.async false
set_option linter.all false
set_option maxRecDepth 100000
/-! Order, length, places, built-ins on data. -/
namespace DL
open PySem PySem.Spec PyProof.Rows L2
variable [TabT] [FnT]
/-! ### order -/
def ltOk (x y : D) : Bool := okD x && okD y && PySem.W.alike x y && (match x with | .none => false | _ => true)
def gLt : D → D → Option D := fun x y => if ltOk x y then some (.bool (PySem.W.dataLt x y)) else none
def gGt : D → D → Option D := fun x y => if ltOk x y then some (.bool (PySem.W.dataLt y x)) else none
def gLe : D → D → Option D := fun x y => if ltOk x y then some (.bool (!PySem.W.dataLt y x)) else none
def gGe : D → D → Option D := fun x y => if ltOk x y then some (.bool (!PySem.W.dataLt x y)) else none
def rOrd (K : PySem.W.Frag) (f : D → D → Bool) : R2 := fun x y H Q => ∃ d e, Dp K H x d ∧ Dp K H y e ∧ ltOk d e = true ∧ Q (.bl (f d e)) H
theorem ltOk_ok {d e : D} (h : ltOk d e = true) : SeqAt.shaped d = true ∧ SeqAt.shaped e = true ∧ PySem.W.alike d e = true ∧ d ≠ .none := by
  unfold ltOk at h
  simp only [Bool.and_eq_true] at h
  obtain ⟨⟨⟨h1, h2⟩, h3⟩, h4⟩ := h
  exact ⟨h1, h2, h3, fun z => by subst z; cases h4⟩
section
variable {X : Cx}
theorem op_ord {op : CmpOp} {f : D → D → Bool} (hu : X.A.units + 64 < cLine)
    (rule : ∀ (s : Shared) (a b : Value) (da db : D) (as bs : List Addr) (Q : Value → Shared → Prop) (E : Value → Shared → Prop), Reads s.heap a da as → Reads s.heap b db bs → PySem.W.alike da db = true → da ≠ .none → X.A.units + min da.depth db.depth < cLine → Q (.bool (f da db)) s →
      wpAny (model X.prog X.w) X.A (compareOp op a b) Q E s) : OpR X (compareOp op) (rOrd X.K f) := by
  intro pins s σ H x y v u Q I rx ry h
  obtain ⟨d, e, hd, he, ok, q⟩ := h
  obtain ⟨o1, o2, o3, o4⟩ := ltOk_ok ok
  obtain ⟨as, r1⟩ := Dp.reads I d x v hd rx
  obtain ⟨bs, r2⟩ := Dp.reads I e y u he ry
  exact rule s v u d e as bs _ _ r1 r2 o3 o4 (SeqAt.room_of_shaped o1 hu) ⟨.bl _, H, I, rfl, q⟩
theorem op_ltD (hu : X.A.units + 64 < cLine) : OpR X (compareOp .Lt) (rOrd X.K fun d e => PySem.W.dataLt d e) := op_ord hu fun s a b da db as bs Q E r1 r2 h n u q => PySem.W.lt_data r1 r2 h n u q
theorem op_gtD (hu : X.A.units + 64 < cLine) : OpR X (compareOp .Gt) (rOrd X.K fun d e => PySem.W.dataLt e d) := op_ord hu fun s a b da db as bs Q E r1 r2 h n u q => PySem.W.gt_data r1 r2 h n u q
theorem op_leD (hu : X.A.units + 64 < cLine) : OpR X (compareOp .LtE) (rOrd X.K fun d e => !PySem.W.dataLt e d) := op_ord hu fun s a b da db as bs Q E r1 r2 h n u q => PySem.W.le_data r1 r2 h n u q
theorem op_geD (hu : X.A.units + 64 < cLine) : OpR X (compareOp .GtE) (rOrd X.K fun d e => !PySem.W.dataLt d e) := op_ord hu fun s a b da db as bs Q E r1 r2 h n u q => PySem.W.ge_data r1 r2 h n u q
end
section
variable {K : PySem.W.Frag}
theorem vw_ord {f : D → D → Bool} {g : D → D → Option D} (hg0 : ∀ x y, g x y = if ltOk x y then some (.bool (f x y)) else none) : ∀ F H x y dx dy dz, Ex F H → Vw K F H x dx → Vw K F H y dy → g dx dy = some dz → ∀ Q : VK, Res K F H dz Q → rOrd K f x y H Q := by
  intro F H x y dx dy dz e hx hy hg Q k
  rw [hg0] at hg
  split at hg
  · rename_i hc
    cases hg
    obtain ⟨o1, o2, o3, o4⟩ := ltOk_ok hc
    exact ⟨dx, dy, (hx.rp e (nd_ok o1)).dp (nd_ok o1), (hy.rp e (nd_ok o2)).dp (nd_ok o2), hc, k.sc e fun _ => .bl _⟩
  · cases hg
end
/-! ### is None -/
def isNoneD : D → Bool
  | .none => true
  | _ => false
def gIsN (neg : Bool) : D → D → Option D
  | .none, .none => some (.bool (!neg))
  | _, .none => some (.bool neg)
  | _, _ => none
section
variable {K : PySem.W.Frag}
theorem Vw.non {F H : Hp} {v : V} {d : D} (h : Vw K F H v d) : decide (v = .non) = isNoneD d := by
  rcases h with h | ⟨a, vs, ds, rfl, rfl, _⟩ | ⟨a, ds, rfl, rfl, _⟩
  · cases h <;> rfl
  · rfl
  · rfl
theorem vw_isN : ∀ F H x y dx dy dz, Ex F H → Vw K F H x dx → Vw K F H y dy → gIsN false dx dy = some dz → ∀ Q : VK, Res K F H dz Q → (y = .non ∧ Q (.bl (decide (x = .non))) H) := by
  intro F H x y dx dy dz e hx hy hg Q k
  have hn := hx.non
  unfold gIsN at hg
  split at hg
  · cases hg
    rw [hn]
    exact ⟨(hy.sc rfl H).noneI, k.sc e fun _ => .bl _⟩
  · rename_i hne
    cases hg
    rw [hn]
    refine ⟨(hy.sc rfl H).noneI, ?_⟩
    have : isNoneD dx = false := by
      unfold isNoneD
      split
      · exact (hne rfl).elim
      · rfl
    rw [this]
    exact k.sc e fun _ => .bl _
  · cases hg
theorem vw_notN : ∀ F H x y dx dy dz, Ex F H → Vw K F H x dx → Vw K F H y dy → gIsN true dx dy = some dz → ∀ Q : VK, Res K F H dz Q → (y = .non ∧ Q (.bl (!decide (x = .non))) H) := by
  intro F H x y dx dy dz e hx hy hg Q k
  have hn := hx.non
  unfold gIsN at hg
  split at hg
  · cases hg
    rw [hn]
    exact ⟨(hy.sc rfl H).noneI, k.sc e fun _ => .bl _⟩
  · rename_i hne
    cases hg
    rw [hn]
    refine ⟨(hy.sc rfl H).noneI, ?_⟩
    have : isNoneD dx = false := by
      unfold isNoneD
      split
      · exact (hne rfl).elim
      · rfl
    rw [this]
    exact k.sc e fun _ => .bl _
  · cases hg
end
/-! ### places -/
def gIx : D → D → Option D
  | .list xs, .int i => atI xs i
  | .tuple xs, .int i => atI xs i
  | .str z, .int i => if z.length ≤ bigN then (atI z.cps.toList i).map fun c => .str ⟨#[c]⟩ else none
  | _, _ => none
section
variable {K : PySem.W.Frag}
theorem RpA.at_ {H : Hp} {xs : List V} {ds : List D} {i : Int} {d : D} (r : RpA K H xs ds) (h : atI ds i = some d) : ∃ v, atI xs i = some v ∧ Rp K H v d := by
  unfold atI at h ⊢
  rw [r.length]
  obtain ⟨j, h1, h2⟩ := Option.bind_eq_some_iff.mp h
  obtain ⟨v, h3, h4⟩ := r.get h2
  exact ⟨v, by rw [h1]; exact h3, h4⟩
theorem vw_ix : ∀ F H x y dx dy dz, Ex F H → Vw K F H x dx → Vw K F H y dy → gIx dx dy = some dz → ∀ Q : VK, Res K F H dz Q → rIx K x y H Q := by
  intro F H x y dx dy dz e hx hy hg Q k
  unfold gIx at hg
  split at hg
  · obtain ⟨a, xs, rfl, s1, r1⟩ := hx.list e
    obtain ⟨v, h1, h2⟩ := r1.at_ hg
    exact .inl ⟨a, xs, _, v, rfl, hy.int, s1, h1, k.at_ e h2⟩
  · obtain ⟨a, xs, rfl, s1, r1⟩ := hx.tuple e
    obtain ⟨v, h1, h2⟩ := r1.at_ hg
    exact .inr (.inl ⟨a, xs, _, v, rfl, hy.int, s1, h1, k.at_ e h2⟩)
  · split at hg
    · rename_i hz
      obtain ⟨c, h1, h2⟩ := Option.map_eq_some_iff.mp hg
      subst h2
      exact .inr (.inr ⟨_, _, c, hx.str, hy.int, Nat.le_trans hz big_le, h1, k.sc e fun _ => .str _⟩)
    · cases hg
  · cases hg
end
/-! ### calls of built-ins with one argument -/
/-- f(e) -/
def gLen : D → Option D
  | .list xs => some (.int xs.length)
  | .tuple xs => some (.int xs.length)
  | .str x => if x.length ≤ bigN then some (.int x.length) else none
  | _ => none
def gTuple : D → Option D
  | .list xs => some (.tuple xs)
  | .tuple xs => some (.tuple xs)
  | _ => none
def gList : D → Option D
  | .list xs => some (.list xs)
  | .tuple xs => some (.list xs)
  | _ => none
def gInt : D → Option D
  | .int i => some (.int i)
  | .bool b => some (.int (if b then 1 else 0))
  | _ => none
def gBool : D → Option D
  | .int i => some (.bool (i != 0))
  | .bool b => some (.bool b)
  | _ => none
def gAbs : D → Option D
  | .int i => some (.int (if i < 0 then -i else i))
  | _ => none
def gNeg : D → Option D
  | .int i => some (.int (-i))
  | _ => none
def gStr : D → Option D
  | .int i => if i.natAbs.log2 < 1920 then some (.str (toString i)) else none
  | _ => none
def intsD : List D → Option (List Int)
  | [] => some []
  | .int i :: r => (intsD r).map (i :: ·)
  | _ :: _ => none
def gSum : D → Option D
  | .list xs => (intsD xs).map fun ns => .int ns.sum
  | _ => none
def rCB1 := List V → Hp → VK → Prop
section
variable {K : PySem.W.Frag}
theorem ints_of {H : Hp} : ∀ {xs : List V} {ds : List D} {ns : List Int}, RpA K H xs ds → intsD ds = some ns → xs = ns.map V.int
  | _, _, _, .nil, h => by cases h; rfl
  | _, _, ns, .cons (d := d) r t, h => by
    cases d <;> simp only [intsD] at h <;> try cases h
    obtain ⟨ms, h1, h2⟩ := Option.map_eq_some_iff.mp h
    subst h2
    rw [ints_of t h1, r.intI]
    rfl
/-- a call with one value, by what it does to data -/
theorem sp_call1 {r : List V → Hp → VK → Prop} {g : D → Option D} {te : TE} {fe : Fm → Option D} (hr : ∀ F H x dx dz, Ex F H → Vw K F H x dx → g dx = some dz → ∀ Q : VK, Res K F H dz Q → r [x] H Q)
    (ha : SV K te fe) : SP K (tCB r (tCons te tNil)) (fOp1 g fe) := by
  intro F H σ ρ d hf hR Q k
  unfold fOp1 at hf
  obtain ⟨dx, h1, hf⟩ := Option.bind_eq_some_iff.mp hf
  refine ha F H σ ρ dx h1 hR _ fun x F1 H1 g1 r1 => ?_
  exact hr F1 H1 x dx d g1.in_ r1 hf Q (k.gr g1)
theorem vw_len : ∀ F H x dx dz, Ex F H → Vw K F H x dx → gLen dx = some dz → ∀ Q : VK, Res K F H dz Q → (fun xs H Q => ∃ x n, xs = [x] ∧ LenV K x H n ∧ Q (.int (n : Nat)) H) [x] H Q := by
  intro F H x dx dz e hx hg Q k
  unfold gLen at hg
  split at hg
  · cases hg
    obtain ⟨a, xs, rfl, s1, r1⟩ := hx.list e
    refine ⟨_, xs.length, rfl, .inl ⟨xs, s1, rfl⟩, ?_⟩
    rw [r1.length]
    exact k.sc e fun _ => .int _
  · cases hg
    obtain ⟨a, xs, rfl, s1, r1⟩ := hx.tuple e
    refine ⟨_, xs.length, rfl, .inr ⟨xs, s1, rfl⟩, ?_⟩
    rw [r1.length]
    exact k.sc e fun _ => .int _
  · split at hg
    · rename_i hz
      cases hg
      have := hx.str
      subst this
      exact ⟨_, _, rfl, ⟨Nat.le_trans hz big_le, rfl⟩, k.sc e fun _ => .int _⟩
    · cases hg
  · cases hg
theorem vw_tuple : ∀ F H x dx dz, Ex F H → Vw K F H x dx → gTuple dx = some dz → ∀ Q : VK, Res K F H dz Q →
    (fun xs H Q => ∃ p ys, xs = [.ref p] ∧ ((SqL K H p ys ∧ NwT H ys Q) ∨ (SqT K H p ys ∧ Q (.ref p) H))) [x] H Q := by
  intro F H x dx dz e hx hg Q k
  unfold gTuple at hg
  split at hg
  · cases hg
    obtain ⟨a, xs, rfl, s1, r1⟩ := hx.list e
    exact ⟨a, xs, rfl, .inl ⟨s1, k.tup e r1⟩⟩
  · cases hg
    obtain ⟨a, xs, rfl, s1, r1⟩ := hx.tuple e
    rcases hx with hx | ⟨_, _, _, _, q, _⟩ | ⟨_, _, _, q, _⟩
    · exact ⟨a, xs, rfl, .inr ⟨s1, k.at_ e hx⟩⟩
    · cases q
    · cases q
  · cases hg
theorem vw_list : ∀ F H x dx dz, Ex F H → Vw K F H x dx → gList dx = some dz → ∀ Q : VK, Res K F H dz Q →
    (fun xs H Q => ∃ p ys, xs = [.ref p] ∧ (SqL K H p ys ∨ SqT K H p ys) ∧ ∀ l, H l = none → Q (.ref l) (upd H l (.lst ys))) [x] H Q := by
  intro F H x dx dz e hx hg Q k
  unfold gList at hg
  split at hg
  · cases hg
    obtain ⟨a, xs, rfl, s1, r1⟩ := hx.list e
    exact ⟨a, xs, rfl, .inl s1, k.lst e r1⟩
  · cases hg
    obtain ⟨a, xs, rfl, s1, r1⟩ := hx.tuple e
    exact ⟨a, xs, rfl, .inr s1, k.lst e r1⟩
  · cases hg
theorem vw_int : ∀ F H x dx dz, Ex F H → Vw K F H x dx → gInt dx = some dz → ∀ Q : VK, Res K F H dz Q →
    (fun xs H Q => (∃ i, xs = [.int i] ∧ Q (.int i) H) ∨ ∃ k, xs = [.bl k] ∧ Q (.int (if k then 1 else 0)) H) [x] H Q := by
  intro F H x dx dz e hx hg Q k
  unfold gInt at hg
  split at hg
  · cases hg
    exact .inl ⟨_, by rw [hx.int], k.sc e fun _ => .int _⟩
  · cases hg
    exact .inr ⟨_, by rw [hx.bl], k.sc e fun _ => .int _⟩
  · cases hg
theorem vw_bool : ∀ F H x dx dz, Ex F H → Vw K F H x dx → gBool dx = some dz → ∀ Q : VK, Res K F H dz Q →
    (fun xs H Q => (∃ i, xs = [.int i] ∧ Q (.bl (i != 0)) H) ∨ ∃ k, xs = [.bl k] ∧ Q (.bl k) H) [x] H Q := by
  intro F H x dx dz e hx hg Q k
  unfold gBool at hg
  split at hg
  · cases hg
    exact .inl ⟨_, by rw [hx.int], k.sc e fun _ => .bl _⟩
  · cases hg
    exact .inr ⟨_, by rw [hx.bl], k.sc e fun _ => .bl _⟩
  · cases hg
theorem vw_abs : ∀ F H x dx dz, Ex F H → Vw K F H x dx → gAbs dx = some dz → ∀ Q : VK, Res K F H dz Q →
    (fun xs H Q => ∃ i, xs = [.int i] ∧ Q (.int (if i < 0 then -i else i)) H) [x] H Q := by
  intro F H x dx dz e hx hg Q k
  unfold gAbs at hg
  split at hg
  · cases hg
    exact ⟨_, by rw [hx.int], k.sc e fun _ => .int _⟩
  · cases hg
theorem vw_str : ∀ F H x dx dz, Ex F H → Vw K F H x dx → gStr dx = some dz → ∀ Q : VK, Res K F H dz Q →
    (fun xs H Q => ∃ i, xs = [.int i] ∧ i.natAbs.log2 < 1920 ∧ Q (.str (toString i)) H) [x] H Q := by
  intro F H x dx dz e hx hg Q k
  unfold gStr at hg
  split at hg
  · split at hg
    · rename_i hz
      cases hg
      exact ⟨_, by rw [hx.int], hz, k.sc e fun _ => .str _⟩
    · cases hg
  · cases hg
theorem vw_neg : ∀ F H x dx dz, Ex F H → Vw K F H x dx → gNeg dx = some dz → ∀ Q : VK, Res K F H dz Q → rU (fun i => .int (-i)) x H Q := by
  intro F H x dx dz e hx hg Q k
  unfold gNeg at hg
  split at hg
  · cases hg
    exact ⟨_, hx.int, k.sc e fun _ => .int _⟩
  · cases hg
theorem vw_sum : ∀ F H x dx dz, Ex F H → Vw K F H x dx → gSum dx = some dz → ∀ Q : VK, Res K F H dz Q → rSum K [x] H Q := by
  intro F H x dx dz e hx hg Q k
  unfold gSum at hg
  split at hg
  · obtain ⟨ns, h1, h2⟩ := Option.map_eq_some_iff.mp hg
    subst h2
    obtain ⟨a, xs, rfl, s1, r1⟩ := hx.list e
    rw [ints_of r1 h1] at s1
    exact ⟨a, ns, rfl, s1, k.sc e fun _ => .int _⟩
  · cases hg
end
/-! ### max, min, sorted of data -/
def alAll : List D → Bool
  | xs => xs.all fun x => xs.all (fun y => PySem.W.alike x y) && (match x with | .none => false | _ => true)
theorem alAll_ok {xs : List D} (h : alAll xs = true) : PySem.W.AlikeAll xs := by
  unfold alAll at h
  rw [List.all_eq_true] at h
  refine ⟨fun x hx y hy => ?_, fun x hx z => ?_⟩
  · have := h x hx
    simp only [Bool.and_eq_true, List.all_eq_true] at this
    exact this.1 y hy
  · have := h x hx
    subst z
    simp at this
def gMax : D → Option D
  | .list (x :: xs) => if okD (.list (x :: xs)) && alAll (x :: xs) then some (PySem.W.maxD x xs) else none
  | .tuple (x :: xs) => if okD (.tuple (x :: xs)) && alAll (x :: xs) then some (PySem.W.maxD x xs) else none
  | _ => none
def gMin : D → Option D
  | .list (x :: xs) => if okD (.list (x :: xs)) && alAll (x :: xs) then some (PySem.W.minD x xs) else none
  | .tuple (x :: xs) => if okD (.tuple (x :: xs)) && alAll (x :: xs) then some (PySem.W.minD x xs) else none
  | _ => none
/-- the answer is the item at some place, which is worth d -/
def rPickD (K : PySem.W.Frag) (g : D → List D → D) : List V → Hp → VK → Prop := fun vs H Q => ∃ (a : Addr) (xs : List V) (d : D) (ds : List D), vs = [.ref a] ∧ (SqL K H a xs ∨ SqT K H a xs) ∧ DpAll K H xs (d :: ds) ∧ PySem.W.AlikeAll (d :: ds) ∧ PyData.canLayAll0 (d :: ds) = true ∧ PyData.depthAll (d :: ds) ≤ 64 ∧
  ∀ (i : Nat) (v : V), xs[i]? = some v → (d :: ds)[i]? = some (g d ds) → Q v H
theorem RpA.dpA {K : PySem.W.Frag} {H : Hp} {xs : List V} {ds : List D} (r : RpA K H xs ds) (h : PyData.canLayAll0 ds = true) : DpAll K H xs ds := r.dp (ndA_lay h)
section
variable {X : Cx}
theorem dpA_len {K : PySem.W.Frag} {H : Hp} : ∀ {xs : List V} {ds : List D}, DpAll K H xs ds → xs.length = ds.length
  | _, _, .nil => rfl
  | _, _, .cons _ t => by rw [List.length_cons, List.length_cons, dpA_len t]
theorem readsAll_get {h : Heap} : ∀ {vs : List Value} {ds : List D} {as : List Addr}, ReadsAll h vs ds as → ∀ (i : Nat) (v : Value), vs[i]? = some v → ∃ d bs, ds[i]? = some d ∧ Reads h v d bs
  | _, _, _, .nil, _, _, hv => by simp at hv
  | _, _, _, .cons r rs, 0, v, hv => by
    simp only [List.getElem?_cons_zero, Option.some.injEq] at hv
    subst hv
    exact ⟨_, _, rfl, r⟩
  | _, _, _, .cons r rs, i + 1, v, hv => by
    obtain ⟨d, bs, h1, h2⟩ := readsAll_get rs i v (by simpa using hv)
    exact ⟨d, bs, by simpa using h1, h2⟩
theorem reads_keep {h h' : Heap} (k : ∀ b o, h.get? b = some o → h'.get? b = some o) : ∀ {d : D} {v : Value} {as : List Addr}, Reads h v d as → Reads h' v d as := fun r => Reads.keeps k r
end
end DL
end
section
set_option Elab.async false
set_option linter.all false
set_option maxRecDepth 100000
/-! sorted of tuples of which the first one is empty. -/
namespace DL
open PySem PySem.SeqAt PyProof.Rows PySem.Calls PySem.W
variable [TabT] [FnT]
section
variable {prog : Program} {w : World} {A : Around} {E : Value → Shared → Prop} {s : Shared}
theorem tup_lt_call {Q : Value → Shared → Prop} {l b : Addr} {items items2 : Array Value} {e r : Nat → Bool} (hl : s.heap.IsTuple l items) (hb : s.heap.IsTuple b items2)
    (he : ∀ j (h1 : j < items.size) (h2 : j < items2.size), EqAt A.in1 s items[j] items2[j] (e j)) (hr : ∀ j (h1 : j < items.size) (h2 : j < items2.size), e j = false → RcLt A.in1 s items[j] items2[j] (r j))
    (h : Q (.bool (firstLt e r (decide (items.size < items2.size)) (List.range (min items.size items2.size)))) s) : wpAny (model prog w) A (call (.builtin "tuple.__lt__") [.ref l, .ref b]) Q E s := by
  obtain ⟨⟨c1, d1, t1, s1⟩, ho, hc, n, hd⟩ := id hl
  obtain ⟨⟨c2, d2, t2, s2⟩, ho2, hc2, n2, hd2⟩ := id hb
  simp only at hc hd hc2 hd2
  subst hc hd hc2 hd2
  exact call_meets F.slot_tuple_lt ⟨_, ho, rfl⟩ F.entry_tuple_lt (F.args_tuple_lt_2 _ _) (tuple_ltAt l b items items2 n n2 d1 d2 s1 s2 e r) ⟨ho, ho2, he, hr, h⟩
/-- one tuple against another, all of one type -/
theorem tup_lt_one {xs ys : List PyData} {a b : Value} {as bs : List Addr} {Q : Bool → Shared → Prop} (ra : Reads s.heap a (.tuple xs) as) (rb : Reads s.heap b (.tuple ys) bs) (h : alike (.tuple xs) (.tuple ys) = true)
    (hu : A.units + min (PyData.depth (.tuple xs)) (PyData.depth (.tuple ys)) < cLine) (hq : Q (dataLt (.tuple xs) (.tuple ys)) s) : wpAny (model prog w) A (oneLt' true a b) Q E s := by
  have hal : alikeAll xs ys = true := by simpa [alike] using h
  cases ra with
  | @tuple l o vs n _ as1 h1 h2 h3 h4 =>
    cases rb with
    | @tuple l' o' vs' n' _ bs1 k1 k2 k3 k4 =>
      have n1 : vs.size = xs.length := by simpa using ReadsAll.length _ _ _ h4
      have n2 : vs'.size = ys.length := by simpa using ReadsAll.length _ _ _ k4
      rw [dataLt_tuple, ← firstLt_toks xs ys hal, ← n1, ← n2] at hq
      rw [oneLt'_eq]
      simp only [if_true]
      refine wpAny_bind (wpAny_cRoomFor (room_here hu) ?_)
      refine wpAny_bind (wpAny_callSpecialIfBound?_slot (T := "tuple") ⟨_, h1, h2⟩ F.slot_tuple_lt (tup_lt_call (e := pairEq xs ys) (r := fun j => dataLt (xs.getD j .none) (ys.getD j .none)) ⟨_, h1, h2, _, h3⟩ ⟨_, k1, k2, _, k3⟩ (fun j j1 j2 => ?_) (fun j j1 j2 hj => ?_) ?_))
      · have := eqAt_alikeAll xs ys A.in1 s vs.toList vs'.toList _ _ h4 k4 hal (room_in hu) j (by simpa using j1) (by simpa using j2)
        simpa using this
      · have := rcLt_alikeAll xs ys A.in1 s vs.toList vs'.toList _ _ h4 k4 hal (room_in hu) j (by simpa using j1) (by simpa using j2) hj
        simpa using this
      · exact wpAny_truthy_bool hq
end
section
variable {M : Model} {A : Around} {E : Value → Shared → Prop} {s : Shared}
theorem mapM_wp {α β : Type} {f : α → Sem β} (r : α → β) : ∀ (l : List α) {Q : List β → Shared → Prop}, (∀ v ∈ l, ∀ (Q' : β → Shared → Prop), Q' (r v) s → wpAny M A (f v) Q' E s) → Q (l.map r) s → wpAny M A (l.mapM f) Q E s
  | [], _, _, h => by rw [List.mapM_nil]; exact wpAny_pure h
  | x :: l, Q, hf, h => by
    rw [List.mapM_cons]
    exact wpAny_bind (hf x (.head _) _ (wpAny_bind (mapM_wp r l (Q := fun bs s' => wpAny M A (pure (r x :: bs)) Q E s') (fun v hv => hf v (.tail _ hv)) (wpAny_pure h))))
/-- the first item of a tuple of the heap -/
def firstIn (h : Heap) : Value → Option Value
  | .ref a => match h.get? a with
    | some o => match o.data with
      | .seq xs _ => xs[0]?
      | _ => none
    | none => none
  | _ => none
theorem first_wp {v : Value} {xs : List PyData} {as : List Addr} {Q : Option Value → Shared → Prop} (r : Reads s.heap v (.tuple xs) as) (h : Q (firstIn s.heap v) s) : wpAny M A (firstOfTuple' v) Q E s := by
  cases r with
  | @tuple l o vs n _ as1 h1 h2 h3 h4 =>
    rw [kas_first_eq]
    refine wpAny_bind (Looks.here (show Looks M s.heap (typeOf (.ref l)) o.cls from (Looks.ld h1).andThen .now) ?_)
    rw [h2, if_neg (by first | decide | simp)]
    refine wpAny_bind (listItems_at h1 h3 (wpAny_pure ?_))
    have e : firstIn s.heap (.ref l) = vs[0]? := by
      simp only [firstIn, h1, h3]
    rw [e] at h
    exact h
theorem first_none {v : Value} {as : List Addr} (r : Reads s.heap v (.tuple []) as) : firstIn s.heap v = none := by
  cases r with
  | @tuple l o vs n _ as1 h1 h2 h3 h4 =>
    have n1 : vs.size = 0 := by simpa using ReadsAll.length _ _ _ h4
    simp only [firstIn, h1, h3]
    exact Array.getElem?_eq_none (by omega)
/-- the kind of keys: tuples, the first one empty -/
theorem kind_wp {v : Value} {vs : List Value} {as : List Addr} {Q : SortKind → Shared → Prop} (h0 : Reads s.heap v (.tuple []) as) (hT : ∀ u ∈ v :: vs, ∃ xs as, Reads s.heap u (.tuple xs) as) (h : Q oneType' s) :
    wpAny M A (keyKind' (v :: vs).toArray) Q E s := by
  rw [keyKind'_eq, List.mapM_toArray, map_eq_pure_bind]
  refine wpAny_bind (wpAny_bind (mapM_wp (firstIn s.heap) _ (fun u hu Q' hq => ?_) (wpAny_pure ?_)))
  · obtain ⟨xs, as, r⟩ := hT u hu
    exact first_wp r hq
  · have e0 : (List.map (firstIn s.heap) (v :: vs)).toArray.all (fun x => x.isSome) = false := by
      rw [List.map_cons, first_none h0]
      simp
    rw [if_neg (by rw [e0]; decide)]
    have e1 : (List.map (firstIn s.heap) (v :: vs)).toArray[0]? = some none := by
      rw [List.map_cons, first_none h0]
      simp
    rw [e1, if_neg (by decide)]
    rw [oneTypeOnly'_eq, List.mapM_toArray, map_eq_pure_bind]
    refine wpAny_bind (wpAny_bind (wpAny_bind (kas_mapM (r := Value.type "tuple") _ (fun u hu Q' hq => by
      obtain ⟨xs, as, r⟩ := hT u hu
      exact (looks_reads r).here hq) (wpAny_pure ?_))))
    have hall : ((List.map (fun _ => Value.type "tuple") (v :: vs)).toArray.all fun x => x == Value.type "tuple") = true := by
      simp only [List.all_toArray, List.all_map, List.all_eq_true]
      intro _ _
      exact beq_self_eq_true _
    have h00 : (List.map (fun _ => Value.type "tuple") (v :: vs)).toArray[0]? = some (Value.type "tuple") := by simp
    rw [h00]
    simp only [hall, if_true]
    exact wpAny_pure (wpAny_pure h)
end
section
variable {prog : Program} {w : World} {A : Around} {s : Shared}
theorem sorts_tups {vs : List Value} {ds : List PyData} (e : EachIs (fun v d => ∃ as, Reads s.heap v d as) vs (.tuple [] :: ds)) (hal : AllAlike (.tuple [] :: ds)) (ht : ∀ d ∈ PyData.tuple [] :: ds, ∃ xs, d = .tuple xs) (hu : ∀ d, d ∈ PyData.tuple [] :: ds → A.units + d.depth < cLine) : SortsAt prog w A s (dataKind s.heap (.tuple [] :: ds)) vs := by
  refine ⟨fun v hv => ?_, oneType', ?_, fun h2 E Q hq => ?_⟩
  · obtain ⟨d, hd, as, r⟩ := e.left v hv
    exact ⟨_, dataKind_some hal hd r⟩
  · intro E x y a b Q ha hb hq
    obtain ⟨d, as, hd, ra, rfl⟩ := dataKind_inv ha
    obtain ⟨d', as', hd', rb, rfl⟩ := dataKind_inv hb
    rw [keyLt'_oneType]
    obtain ⟨xs, rfl⟩ := ht d hd
    obtain ⟨ys, rfl⟩ := ht d' hd'
    exact tup_lt_one ra rb (hal _ hd _ hd') (Nat.lt_of_le_of_lt (Nat.add_le_add_left (Nat.min_le_left _ _) _) (hu _ hd)) hq
  · cases e with
    | cons h0 t =>
      obtain ⟨as, h0⟩ := h0
      refine kind_wp h0 (fun u hu => ?_) hq
      rcases List.mem_cons.mp hu with rfl | hu
      · exact ⟨_, _, h0⟩
      · obtain ⟨d, hd, as, r⟩ := t.left u hu
        obtain ⟨xs, rfl⟩ := ht d (List.mem_cons_of_mem _ hd)
        exact ⟨_, _, r⟩
theorem sorted_data2 {E : Value → Shared → Prop} {vs : List Value} {ds : List PyData} {R : Value → PyData → Prop} {l : Addr} {Q : Value → Shared → Prop} (hl : s.heap.IsList l vs.toArray) (e : EachIs R vs (.tuple [] :: ds)) (er : EachIs (fun v b => ∃ as, Reads s.heap v b as) vs (.tuple [] :: ds)) (hal : AllAlike (.tuple [] :: ds)) (ht : ∀ d ∈ PyData.tuple [] :: ds, ∃ xs, d = .tuple xs) (hL : (PyData.tuple [] :: ds).length ≤ sizeLine)
    (hu : ∀ b, b ∈ PyData.tuple [] :: ds → A.units + 2 + b.depth < cLine) (h : ∀ out, out.length = (PyData.tuple [] :: ds).length → EachIs R out ((PyData.tuple [] :: ds).mergeSort (dataLe false id)) → Q (.ref (s.heap.objs.size + 1)) { s with heap := sortedAll s.heap vs (List.toArray out) }) :
    wpAny (model prog w) A (call (.builtin "sorted") [.ref l]) Q E s := by
  have er' : EachIs (fun v b => ∃ as, Reads (sortingHeap (copyHeap s.heap vs) (s.heap.objs.size + 1) vs) v b as) vs (.tuple [] :: ds) := er.mono fun _ _ ⟨as, r⟩ => ⟨as, PyProof.Rows.Reads.keeps (fun _ _ => sorting_copy_old) r⟩
  have S := sorts_tups (prog := prog) (w := w) (A := A.in1.in1) (s := { s with heap := sortingHeap (copyHeap s.heap vs) (s.heap.objs.size + 1) vs }) er' hal ht hu
  refine sorted_vals hl S (by rw [e.length]; exact hL) (h _ (by rw [sortVals_length false rfl]; exact e.length) ?_)
  have := sortVals_data (enc := id) (bs := .tuple [] :: ds) false e er' (by rw [List.map_id]; exact hal)
  rw [List.map_id] at this
  exact this
end
end DL
end
section
set_option Elab.async false
set_option linter.all false
set_option maxRecDepth 100000
/-! sorted of tuples, some of them empty. -/
namespace DL
open PySem PySem.SeqAt PyProof.Rows PySem.Calls PySem.W
variable [TabT] [FnT]
section
variable {prog : Program} {w : World} {A : Around} {E : Value → Shared → Prop} {s : Shared}
theorem tup_lt_gen {xs ys : List PyData} {a b : Value} {as bs : List Addr} {Q : Bool → Shared → Prop} (ra : Reads s.heap a (.tuple xs) as) (rb : Reads s.heap b (.tuple ys) bs) (h : alike (.tuple xs) (.tuple ys) = true)
    (hu : A.units + min (PyData.depth (.tuple xs)) (PyData.depth (.tuple ys)) < cLine) (hq : Q (dataLt (.tuple xs) (.tuple ys)) s) : wpAny (model prog w) A (keyLt' general' a b) Q E s := by
  show wpAny _ _ (oneLt' false a b) Q E s
  rw [oneLt'_eq]
  simp only [Bool.false_eq_true, if_false]
  exact wpAny_bind (PySem.W.lt_data ra rb h (by intro z; cases z) hu (wpAny_truthy_bool hq))
end
section
variable {M : Model} {A : Around} {E : Value → Shared → Prop} {s : Shared}
theorem kind_gen {v : Value} {vs : List Value} {Q : SortKind → Shared → Prop} (hT : ∀ u ∈ v :: vs, ∃ xs as, Reads s.heap u (.tuple xs) as) (hf : (firstIn s.heap v).isSome = true) (hn : ∃ u ∈ v :: vs, firstIn s.heap u = none) (h : Q general' s) :
    wpAny M A (keyKind' (v :: vs).toArray) Q E s := by
  rw [keyKind'_eq, List.mapM_toArray, map_eq_pure_bind]
  refine wpAny_bind (wpAny_bind (mapM_wp (firstIn s.heap) _ (fun u hu Q' hq => ?_) (wpAny_pure ?_)))
  · obtain ⟨xs, as, r⟩ := hT u hu
    exact first_wp r hq
  · obtain ⟨u, hu, e⟩ := hn
    have e0 : (List.map (firstIn s.heap) (v :: vs)).toArray.all (fun x => x.isSome) = false := by
      rw [Bool.eq_false_iff]
      intro z
      simp only [List.all_toArray, List.all_map, List.all_eq_true] at z
      have := z u hu
      simp only [Function.comp, e] at this
      cases this
    rw [if_neg (by rw [e0]; decide)]
    obtain ⟨f, hf'⟩ := Option.isSome_iff_exists.mp hf
    have e1 : (List.map (firstIn s.heap) (v :: vs)).toArray[0]? = some (some f) := by
      rw [List.map_cons, hf']
      simp
    rw [e1, if_pos (by rfl)]
    exact wpAny_pure h
theorem first_some {v : Value} {x : PyData} {xs : List PyData} {as : List Addr} (r : Reads s.heap v (.tuple (x :: xs)) as) : (firstIn s.heap v).isSome = true := by
  cases r with
  | @tuple l o vs n _ as1 h1 h2 h3 h4 =>
    have n1 : vs.size = (x :: xs).length := by simpa using ReadsAll.length _ _ _ h4
    simp only [firstIn, h1, h3]
    rw [Array.getElem?_eq_getElem (by rw [n1]; exact Nat.succ_pos _)]
    rfl
end
section
variable {prog : Program} {w : World} {A : Around} {s : Shared}
theorem sorts_any {vs : List Value} {ds : List PyData} (e : EachIs (fun v d => ∃ as, Reads s.heap v d as) vs ds) (hal : AllAlike ds) (hm : PyData.tuple [] ∈ ds) (ht : ∀ d ∈ ds, ∃ xs, d = .tuple xs) (hu : ∀ d, d ∈ ds → A.units + d.depth < cLine) : SortsAt prog w A s (dataKind s.heap ds) vs := by
  cases ds with
  | nil => cases hm
  | cons d0 ds =>
    obtain ⟨ys, rfl⟩ := ht d0 (.head _)
    cases ys with
    | nil => exact sorts_tups e hal ht hu
    | cons y ys =>
      refine ⟨fun v hv => ?_, general', ?_, fun h2 E Q hq => ?_⟩
      · obtain ⟨d, hd, as, r⟩ := e.left v hv
        exact ⟨_, dataKind_some hal hd r⟩
      · intro E x z a b Q ha hb hq
        obtain ⟨d, as, hd, ra, rfl⟩ := dataKind_inv ha
        obtain ⟨d', as', hd', rb, rfl⟩ := dataKind_inv hb
        obtain ⟨xs, rfl⟩ := ht d hd
        obtain ⟨zs, rfl⟩ := ht d' hd'
        exact tup_lt_gen ra rb (hal _ hd _ hd') (Nat.lt_of_le_of_lt (Nat.add_le_add_left (Nat.min_le_left _ _) _) (hu _ hd)) hq
      · cases e with
        | @cons v0 _ vs0 _ h0 t =>
          have hn : ∃ u ∈ v0 :: vs0, firstIn s.heap u = none := by
            have hm' : PyData.tuple [] ∈ ds := by
              rcases List.mem_cons.mp hm with z | z
              · cases z
              · exact z
            clear hu ht hal hq h2 h0
            induction t with
            | nil => cases hm'
            | @cons v1 d1 vs1 ds1 h1 t1 ih =>
              rcases List.mem_cons.mp hm' with z | z
              · subst z
                obtain ⟨as, h1⟩ := h1
                exact ⟨v1, .tail _ (.head _), first_none h1⟩
              · obtain ⟨u, hu, e⟩ := ih (.tail _ z) z
                rcases List.mem_cons.mp hu with z' | z'
                · exact ⟨u, by rw [z']; exact .head _, e⟩
                · exact ⟨u, .tail _ (.tail _ z'), e⟩
          obtain ⟨as, h0'⟩ := h0
          refine kind_gen (fun u hu => ?_) (first_some h0') hn hq
          rcases List.mem_cons.mp hu with rfl | hu
          · exact ⟨_, _, h0'⟩
          · obtain ⟨d, hd, as, r⟩ := t.left u hu
            obtain ⟨xs, rfl⟩ := ht d (List.mem_cons_of_mem _ hd)
            exact ⟨_, _, r⟩
theorem sorted_data3 {E : Value → Shared → Prop} {vs : List Value} {ds : List PyData} {R : Value → PyData → Prop} {l : Addr} {Q : Value → Shared → Prop} (hl : s.heap.IsList l vs.toArray) (e : EachIs R vs ds) (er : EachIs (fun v b => ∃ as, Reads s.heap v b as) vs ds) (hal : AllAlike ds) (hm : PyData.tuple [] ∈ ds) (ht : ∀ d ∈ ds, ∃ xs, d = .tuple xs) (hL : ds.length ≤ sizeLine)
    (hu : ∀ b, b ∈ ds → A.units + 2 + b.depth < cLine) (h : ∀ out, out.length = ds.length → EachIs R out (ds.mergeSort (dataLe false id)) → Q (.ref (s.heap.objs.size + 1)) { s with heap := sortedAll s.heap vs (List.toArray out) }) :
    wpAny (model prog w) A (call (.builtin "sorted") [.ref l]) Q E s := by
  have er' : EachIs (fun v b => ∃ as, Reads (sortingHeap (copyHeap s.heap vs) (s.heap.objs.size + 1) vs) v b as) vs ds := er.mono fun _ _ ⟨as, r⟩ => ⟨as, PyProof.Rows.Reads.keeps (fun _ _ => sorting_copy_old) r⟩
  have S := sorts_any (prog := prog) (w := w) (A := A.in1.in1) (s := { s with heap := sortingHeap (copyHeap s.heap vs) (s.heap.objs.size + 1) vs }) er' hal hm ht hu
  refine sorted_vals hl S (by rw [e.length]; exact hL) (h _ (by rw [sortVals_length false rfl]; exact e.length) ?_)
  have := sortVals_data (enc := id) (bs := ds) false e er' (by rw [List.map_id]; exact hal)
  rw [List.map_id] at this
  exact this
/-- list.sort of a list of tuples, some of them empty -/
theorem sort_data3 {E : Value → Shared → Prop} {vs : List Value} {ds : List PyData} {R : Value → PyData → Prop} {a : Addr} {n : Nat} {Q : Value → Shared → Prop} (ho : s.heap.get? a = some (seqObj "list" vs.toArray n)) (e : EachIs R vs ds) (er : EachIs (fun v b => ∃ as, Reads s.heap v b as ∧ a ∉ as) vs ds) (hal : AllAlike ds) (hm : PyData.tuple [] ∈ ds) (ht : ∀ d ∈ ds, ∃ xs, d = .tuple xs) (hL : ds.length ≤ sizeLine) : True := trivial
end
end DL
end
section
set_option Elab.async false
set_option linter.all false
set_option maxRecDepth 100000
/-! max, min, sorted, isinstance. -/
namespace DL
open PySem PySem.Spec PyProof.Rows L2
variable [TabT] [FnT]
section
variable {X : Cx}
theorem dpA_get {K : PySem.W.Frag} {H : Hp} : ∀ {xs : List V} {ds : List D}, DpAll K H xs ds → ∀ (i : Nat) (v : V), xs[i]? = some v → ∃ d, ds[i]? = some d ∧ Dp K H v d
  | _, _, .nil, _, _, hv => by simp at hv
  | _, _, .cons r rs, 0, v, hv => by
    simp only [List.getElem?_cons_zero, Option.some.injEq] at hv
    subst hv
    exact ⟨_, rfl, r⟩
  | _, _, .cons r rs, i + 1, v, hv => by
    obtain ⟨d, h1, h2⟩ := dpA_get rs i v (by simpa using hv)
    exact ⟨d, by simpa using h1, h2⟩
theorem vals_at : ∀ {xs : List V} {us : List Value}, Vals xs us → ∀ (i : Nat) (u : Value), us[i]? = some u → ∃ x, xs[i]? = some x ∧ RelV x u
  | _, _, .nil, _, _, hv => by simp at hv
  | _, _, .cons r rs, 0, v, hv => by
    simp only [List.getElem?_cons_zero, Option.some.injEq] at hv
    subst hv
    exact ⟨_, rfl, r⟩
  | _, _, .cons r rs, i + 1, v, hv => by
    obtain ⟨d, h1, h2⟩ := vals_at rs i v (by simpa using hv)
    exact ⟨d, by simpa using h1, h2⟩
/-- what stands at the place is worth what it reads as -/
theorem pick_end {pins : List (Addr × Obj)} {σ : L2.St} {H : Hp} {s : Shared} {xs : List V} {its : List Value} {ds : List D} {m : D} {h' : Heap} {tk : Nat} {i : Nat} {v : Value} {bs : List Addr} {Q : VK}
    (I : Inv X pins σ H s) (rv : Vals xs its) (hd : DpAll X.K H xs ds) (hc : PyData.canLayAll0 ds = true) (hv : its.toArray[i]? = some v) (rd : Reads h' v m bs) (kp : ∀ b o, s.heap.get? b = some o → h'.get? b = some o)
    (q : ∀ (i : Nat) (v : V), xs[i]? = some v → ds[i]? = some m → Q v H) : EP X pins σ Q v { s with heap := h', toks := tk } := by
  have hv' : its[i]? = some v := by simpa using hv
  obtain ⟨x, hx, rx⟩ := vals_at rv i v hv'
  obtain ⟨d, h1, h2⟩ := dpA_get hd i x hx
  obtain ⟨as, r1⟩ := Dp.reads I d x v h2 rx
  have hcd : d.canLay0 = true := by
    have : ∀ {ds : List D}, PyData.canLayAll0 ds = true → ∀ (i : Nat) d, ds[i]? = some d → d.canLay0 = true := by
      intro ds
      induction ds with
      | nil => intro _ i d h; simp at h
      | cons y ys ih =>
        intro h i d hd
        simp only [PyData.canLayAll0, Bool.and_eq_true] at h
        cases i with
        | zero => simp only [List.getElem?_cons_zero, Option.some.injEq] at hd; subst hd; exact h.1
        | succ i => exact ih h.2 i d (by simpa using hd)
    exact this hc i d h1
  have e : d = m := (Reads.unique (reads_keep kp r1) _ _ rd).1
  subst e
  exact ⟨x, H, I.kept (t' := tk) kp, rx, q i x hx h1⟩
theorem cr_maxD (hc : X.calm = true) (hu : X.A.units + 66 < cLine) : CallR X (.builtin "max") (rPickD X.K PySem.W.maxD) := by
  intro pins s σ H vs us Q I r h
  obtain ⟨a, xs, d, ds, rfl, hs, hd, ha, hl, hdp, q⟩ := h
  rw [Vals.ref1 r]
  rcases hs with hs | hs
  · obtain ⟨its, rv, pl, _⟩ := I.list hs
    obtain ⟨as, r1⟩ := Dp.readsAll I _ _ its hd rv
    exact PySem.W.max_list_data (vs := its.toArray) (I.ok.hd hc) pl.isList (by simpa using r1) ha (by omega) fun i v h' tk bs hv rd kp => pick_end I rv hd hl hv rd kp q
  · obtain ⟨its, rv, pl, _⟩ := I.tuple hs
    obtain ⟨as, r1⟩ := Dp.readsAll I _ _ its hd rv
    exact PySem.W.max_tuple_data (vs := its.toArray) (I.ok.hd hc) pl (by simpa using r1) ha (by omega) fun i v h' tk bs hv rd kp => pick_end I rv hd hl hv rd kp q
theorem cr_minD (hc : X.calm = true) (hu : X.A.units + 66 < cLine) : CallR X (.builtin "min") (rPickD X.K PySem.W.minD) := by
  intro pins s σ H vs us Q I r h
  obtain ⟨a, xs, d, ds, rfl, hs, hd, ha, hl, hdp, q⟩ := h
  rw [Vals.ref1 r]
  rcases hs with hs | hs
  · obtain ⟨its, rv, pl, _⟩ := I.list hs
    obtain ⟨as, r1⟩ := Dp.readsAll I _ _ its hd rv
    exact PySem.W.min_list_data (vs := its.toArray) (I.ok.hd hc) pl.isList (by simpa using r1) ha (by omega) fun i v h' tk bs hv rd kp => pick_end I rv hd hl hv rd kp q
  · obtain ⟨its, rv, pl, _⟩ := I.tuple hs
    obtain ⟨as, r1⟩ := Dp.readsAll I _ _ its hd rv
    exact PySem.W.min_tuple_data (vs := its.toArray) (I.ok.hd hc) pl (by simpa using r1) ha (by omega) fun i v h' tk bs hv rd kp => pick_end I rv hd hl hv rd kp q
end
section
variable {K : PySem.W.Frag}
theorem okD_list {ds : List D} (h : okD (.list ds) = true) : PyData.canLayAll0 ds = true ∧ PyData.depthAll ds ≤ 64 := by
  have h1 := SeqAt.canLay_of_shaped h
  have h2 := SeqAt.depth_of_shaped h
  simp only [PyData.canLay0] at h1
  simp only [PyData.depth] at h2
  exact ⟨h1, by omega⟩
theorem okD_tuple {ds : List D} (h : okD (.tuple ds) = true) : PyData.canLayAll0 ds = true ∧ PyData.depthAll ds ≤ 64 := by
  have h1 := SeqAt.canLay_of_shaped h
  have h2 := SeqAt.depth_of_shaped h
  simp only [PyData.canLay0] at h1
  simp only [PyData.depth] at h2
  exact ⟨h1, by omega⟩
theorem vw_pick {g : D → List D → D} {F H : Hp} {x : V} {d : D} {ds : List D} {a : Addr} {xs : List V} (e : Ex F H) (hs : SqL K H a xs ∨ SqT K H a xs) (r : RpA K F xs (d :: ds)) (hl : PyData.canLayAll0 (d :: ds) = true) (hdp : PyData.depthAll (d :: ds) ≤ 64) (ha : PySem.W.AlikeAll (d :: ds))
    {Q : VK} (k : Res K F H (g d ds) Q) : rPickD K g [.ref a] H Q :=
  ⟨a, xs, d, ds, rfl, hs, (r.mono e).dpA hl, ha, hl, hdp, fun i v hv hd => by
    obtain ⟨w, h1, h2⟩ := r.get hd
    rw [hv] at h1
    cases h1
    exact k.at_ e h2⟩
theorem vw_max : ∀ F H x dx dz, Ex F H → Vw K F H x dx → gMax dx = some dz → ∀ Q : VK, Res K F H dz Q → rPickD K PySem.W.maxD [x] H Q := by
  intro F H x dx dz e hx hg Q k
  unfold gMax at hg
  split at hg
  · split at hg
    · rename_i hc
      cases hg
      simp only [Bool.and_eq_true] at hc
      obtain ⟨a, xs, rfl, s1, r1⟩ := hx.list e
      exact vw_pick (x := .ref a) e (.inl s1) r1 (okD_list hc.1).1 (okD_list hc.1).2 (alAll_ok hc.2) k
    · cases hg
  · split at hg
    · rename_i hc
      cases hg
      simp only [Bool.and_eq_true] at hc
      obtain ⟨a, xs, rfl, s1, r1⟩ := hx.tuple e
      exact vw_pick (x := .ref a) e (.inr s1) r1 (okD_tuple hc.1).1 (okD_tuple hc.1).2 (alAll_ok hc.2) k
    · cases hg
  · cases hg
theorem vw_min : ∀ F H x dx dz, Ex F H → Vw K F H x dx → gMin dx = some dz → ∀ Q : VK, Res K F H dz Q → rPickD K PySem.W.minD [x] H Q := by
  intro F H x dx dz e hx hg Q k
  unfold gMin at hg
  split at hg
  · split at hg
    · rename_i hc
      cases hg
      simp only [Bool.and_eq_true] at hc
      obtain ⟨a, xs, rfl, s1, r1⟩ := hx.list e
      exact vw_pick (x := .ref a) e (.inl s1) r1 (okD_list hc.1).1 (okD_list hc.1).2 (alAll_ok hc.2) k
    · cases hg
  · split at hg
    · rename_i hc
      cases hg
      simp only [Bool.and_eq_true] at hc
      obtain ⟨a, xs, rfl, s1, r1⟩ := hx.tuple e
      exact vw_pick (x := .ref a) e (.inr s1) r1 (okD_tuple hc.1).1 (okD_tuple hc.1).2 (alAll_ok hc.2) k
    · cases hg
  · cases hg
end
/-! ### sorted -/
def srtOk (xs : List D) : Bool := ((xs.all fun x => match x with | .tuple (_ :: _) => true | _ => false) || xs.all fun x => match x with | .none => false | .tuple _ => false | _ => true) || xs.any (fun x => match x with | .tuple [] => true | _ => false) && xs.all fun x => match x with | .tuple _ => true | _ => false
def putD (a : D) : List D → List D
  | [] => [a]
  | b :: l => cond (PySem.W.dataLt b a) (b :: putD a l) (a :: b :: l)
def sortD : List D → List D
  | [] => []
  | a :: l => putD a (sortD l)
theorem putD_two (a : D) (l2 : List D) (h : ∀ b ∈ l2, PySem.W.dataLt b a = false) : ∀ l1 : List D, (∀ b ∈ l1, PySem.W.dataLt b a = true) → putD a (l1 ++ l2) = l1 ++ a :: l2
  | [], _ => by
    cases l2 with
    | nil => rfl
    | cons b l => simp only [List.nil_append, putD, h b (.head _), cond_false]
  | b :: l1, h1 => by
    simp only [List.cons_append, putD, h1 b (.head _), cond_true]
    rw [putD_two a l2 h l1 fun c hc => h1 c (.tail _ hc)]
theorem sortD_eq (xs : List D) : sortD xs = xs.mergeSort fun a b => !PySem.W.dataLt b a := by
  have T := PySem.W.sortLe_total (PyProof.Rows.listOrd PyProof.Rows.itemOrd) false (fun b : D => PySem.W.keyToks b)
  induction xs with
  | nil => rw [sortD, List.mergeSort_nil]
  | cons a l ih =>
    obtain ⟨l1, l2, e1, e2, h1⟩ := List.mergeSort_cons (le := fun a b : D => !PySem.W.dataLt b a) (fun x y z => T.trans x y z) (fun x y => Bool.or_eq_true _ _ ▸ T.total x y) a l
    have ps := List.pairwise_mergeSort (le := fun a b : D => !PySem.W.dataLt b a) (fun x y z => T.trans x y z) (fun x y => Bool.or_eq_true _ _ ▸ T.total x y) (a :: l)
    rw [e1] at ps ⊢
    rw [sortD, ih, e2]
    have p2 := (List.pairwise_append.mp ps).2.1
    refine putD_two a l2 (fun b hb => ?_) l1 fun b hb => by simpa using h1 b hb
    have := List.rel_of_pairwise_cons p2 hb
    simpa using this
def gSorted : D → Option D
  | .list xs => if okD (.list xs) && alAll xs && srtOk xs && decide (xs.length ≤ bigN) then some (.list (sortD xs)) else none
  | .tuple xs => if okD (.tuple xs) && alAll xs && srtOk xs && decide (xs.length ≤ bigN) then some (.list (sortD xs)) else none
  | _ => none
theorem srtOk_ok {xs : List D} (h : srtOk xs = true) : PySem.W.Sortable xs ∨ PyData.tuple [] ∈ xs ∧ ∀ d ∈ xs, ∃ zs, d = .tuple zs := by
  unfold srtOk at h
  rw [Bool.or_eq_true, Bool.or_eq_true, Bool.and_eq_true] at h
  simp only [List.all_eq_true, List.any_eq_true] at h
  rcases h with (h | h) | h
  · refine .inl (.inl fun d hd => ?_)
    have := h d hd
    split at this
    · exact ⟨_, _, rfl⟩
    · cases this
  · refine .inl (.inr fun d hd => ?_)
    have := h d hd
    split at this
    · cases this
    · cases this
    · rename_i n1 n2
      exact ⟨n1, n2⟩
  · refine .inr ⟨?_, fun d hd => ?_⟩
    · obtain ⟨d, hd, this⟩ := h.1
      split at this
      · exact hd
      · cases this
    · have := h.2 d hd
      split at this
      · exact ⟨_, rfl⟩
      · cases this
/-- Rp items that read as the data: the sorted ones -/
def rSortD (K : PySem.W.Frag) : List V → Hp → VK → Prop := fun vs H Q => ∃ (a : Addr) (xs : List V) (ds : List D) (W : V → D → Prop), vs = [.ref a] ∧ (SqL K H a xs ∨ SqT K H a xs) ∧ DpAll K H xs ds ∧ Paired W xs ds ∧ alAll ds = true ∧ srtOk ds = true ∧ ds.length ≤ bigN ∧ PyData.depthAll ds ≤ 64 ∧
  ∀ ys p, Paired W ys (sortD ds) → H p = none → Q (.ref p) (upd H p (.lst ys))
theorem each_iff {α β : Type} {R : α → β → Prop} {xs : List α} {ys : List β} (h : PySem.W.EachIs R xs ys) : Paired R xs ys := by
  induction h with
  | nil => exact .nil
  | cons a _ ih => exact .cons a ih
theorem each_of {α β : Type} {R : α → β → Prop} {xs : List α} {ys : List β} (h : Paired R xs ys) : PySem.W.EachIs R xs ys := by
  induction h with
  | nil => exact .nil
  | cons a _ ih => exact .cons a ih
section
open PySem.Calls
variable {X : Cx} {pins : List (Addr × Obj)} {σ : L2.St} {H : Hp} {s : Shared}
theorem each_two {W : V → D → Prop} : ∀ {xs : List V} {vs : List Value} {ds : List D}, Vals xs vs → Paired W xs ds → PySem.W.EachIs (fun v d => ∃ x, RelV x v ∧ W x d) vs ds
  | _, _, _, .nil, .nil => .nil
  | _, _, _, .cons r t, .cons w u => .cons ⟨_, r, w⟩ (each_two t u)
theorem okD_list' {ds : List D} (h : okD (.list ds) = true) : PyData.canLayAll0 ds = true ∧ PyData.depthAll ds ≤ 64 := okD_list h
/-- sorted of what collects to the values of xs -/
theorem sorted_by {W : V → D → Prop} {r : Addr} {xs : List V} {ys : List D} {Q : VK} (hu : X.A.units + 70 < cLine) (I : Inv X pins σ H s) (hd : DpAll X.K H xs ys) (pz : Paired W xs ys) (c2 : alAll ys = true) (c3 : srtOk ys = true) (hln : ys.length ≤ bigN) (hdp : PyData.depthAll ys ≤ 64)
    (hcol : ∀ (R : List Value → Shared → Prop) (E : Value → Shared → Prop), (∀ (h1 : Heap) (tk : Nat) (vs : List Value), (∀ b o, s.heap.get? b = some o → h1.get? b = some o) → Vals xs vs → R vs { s with heap := h1, toks := tk }) → wpAny (model X.prog X.w) X.A.in1 (collect (.ref r)) R E s)
    (k : ∀ (ws : List V) (p : Addr), Paired W ws (sortD ys) → H p = none → Q (.ref p) (upd H p (.lst ws))) : wpAny (model X.prog X.w) X.A (call (.builtin "sorted") [.ref r]) (EP X pins σ Q) X.xe s := by
  have hal : PySem.W.AllAlike ys := fun d hd d' hd' => (alAll_ok c2).1 d hd d' hd'
  have hdep : ∀ b, b ∈ ys → b.depth ≤ PyData.depthAll ys := by
    clear hal hdp hd pz k c2 c3 hln
    intro b hb
    induction ys with
    | nil => cases hb
    | cons y ys ih =>
      simp only [PyData.depthAll]
      rcases List.mem_cons.mp hb with rfl | hb
      · exact Nat.le_max_left _ _
      · exact Nat.le_trans (ih hb) (Nat.le_max_right _ _)
  have hub : ∀ b, b ∈ ys → X.A.in1.in1.units + PyData.depth b < cLine := fun b hb => by
    have := hdep b hb
    show X.A.units + 1 + 1 + _ < _
    omega
  have hlen : xs.length = ys.length := dpA_len hd
  refine call_function_entry kind_sorted plain_sorted entry_sorted (args_sorted1 _) ?_
  unfold Builtin.«sorted»
  refine wpAny_bind (m := checkCount "sorted" 1 1 _) (wpAny_pure ?_)
  refine wpAny_bind (hcol _ _ fun h1 tk vs hk rv => ?_)
  have hl : vs.length = ys.length := by rw [← rv.length, hlen]
  have hlz : vs.length ≤ sizeLine := by rw [hl]; exact Nat.le_trans hln big_le
  refine wpAny_bind (wpAny_newList ?_ hlz)
  have I0 : Inv X pins σ H { s with heap := h1, toks := tk } := I.kept (t' := tk) hk
  obtain ⟨as, r1⟩ := Dp.readsAll I0 _ _ vs hd rv
  have er0 : PySem.W.EachIs (fun v b => ∃ as, Reads h1 v b as) vs ys := PySem.W.readsAll_each (h := h1) (id : D → D) (vs := vs) (bs := ys) (as := as) (by rw [List.map_id]; exact r1)
  have ho : (h1.push { cls := .type "list", data := .seq vs.toArray }).get? h1.objs.size = some (seqObj "list" vs.toArray 0) := Heap.get?_push_size _ rfl
  generalize hS0 : PySem.W.sortingHeap (h1.push { cls := .type "list", data := .seq vs.toArray }) h1.objs.size vs = hS1
  have keepS : ∀ b o, h1.get? b = some o → hS1.get? b = some o := fun b o w => by
    rw [← hS0]
    exact PySem.W.sortingHeap_old (Nat.ne_of_lt (Heap.lt_size w)) (Heap.get?_push_of_some _ w)
  have er : PySem.W.EachIs (fun v b => ∃ as, Reads hS1 v b as) vs ys := er0.mono fun _ _ ⟨as, w⟩ => ⟨as, PyProof.Rows.Reads.keeps keepS w⟩
  have S : PySem.W.SortsAt X.prog X.w X.A.in1.in1 { s with heap := hS1, toks := tk } (PySem.W.dataKind hS1 ys) vs := by
    rcases srtOk_ok c3 with hS | ⟨hm, hT⟩
    · exact PySem.W.SortsAt.data er hal hS hub
    · exact sorts_any er hal hm hT hub
  have e : PySem.W.EachIs (fun v d => ∃ x, RelV x v ∧ W x d) vs ys := each_two rv pz
  have hso : PySem.W.EachIs (fun v d => ∃ x, RelV x v ∧ W x d) (PySem.W.sortVals (PySem.W.dataKind hS1 ys) false vs vs) (ys.mergeSort (PySem.W.dataLe false id)) := by
    have := PySem.W.sortVals_data (enc := id) (bs := ys) false e er (by rw [List.map_id]; exact hal)
    rw [List.map_id] at this
    exact this
  have hlen2 : (PySem.W.sortVals (PySem.W.dataKind hS1 ys) false vs vs).length = vs.length := PySem.W.sortVals_length false rfl
  subst hS0
  refine wpAny_bind (wpAny_holding (wpAny_call_entry slot_list_sort ⟨_, ho, rfl⟩ entry_list_sort (PySem.W.list_sort_vals (s := { s with heap := h1.push { cls := .type "list", data := .seq vs.toArray }, toks := tk }) ho S hlz ⟨.none, rfl, ?_⟩) (args_list_sort _)))
  refine wpAny_pure ⟨_, rfl, ?_⟩
  generalize PySem.W.sortVals (PySem.W.dataKind (PySem.W.sortingHeap (h1.push { cls := .type "list", data := .seq vs.toArray }) h1.objs.size vs) ys) false vs vs = out at hso hlen2
  obtain ⟨ws, hw1, hw2⟩ : ∃ ws, Vals ws out ∧ Paired W ws (sortD ys) := by
    have ho' : Paired (fun v d => ∃ x, RelV x v ∧ W x d) out (sortD ys) := by
      rw [sortD_eq]
      exact each_iff hso
    generalize sortD ys = ts at ho'
    clear hso hlen2
    induction ho' with
    | nil => exact ⟨[], .nil, .nil⟩
    | cons a _ ih =>
      obtain ⟨x, r, w⟩ := a
      obtain ⟨ws, i1, i2⟩ := ih
      exact ⟨x :: ws, .cons r i1, .cons w i2⟩
  obtain ⟨c, hc2⟩ := PyProof.Rows.sortedHeap_at (vs := vs) (out := out.toArray) ho
  refine ⟨.ref h1.objs.size, upd H h1.objs.size (.lst ws), I0.laid (t' := tk) (fun b u w => ?_) (Nat.le_refl _) ⟨?_, out, c, hw1, hc2⟩, rfl, k ws _ hw2 (I0.hok.fresh (Nat.le_refl _))⟩
  · rw [PyProof.Rows.sortedHeap_old (Nat.ne_of_lt (Heap.lt_size w)) (by rw [Heap.size_push]; exact Nat.lt_succ_of_lt (Heap.lt_size w))]
    exact Heap.get?_push_of_some _ w
  · rw [hw1.length, hlen2]; exact hlz
end
section
variable {X : Cx}
theorem cr_sortD (hu : X.A.units + 70 < cLine) : CallR X (.builtin "sorted") (rSortD X.K) := by
  intro pins s σ H vs us Q I r h
  obtain ⟨a, xs, ds, W, rfl, hs, hd, hw, ha, hso, hn, hdp, q⟩ := h
  rw [Vals.ref1 r]
  refine sorted_by hu I hd hw ha hso hn hdp (fun R E hR => ?_) q
  rcases hs with hs | hs
  · obtain ⟨its, rv, pl, hz⟩ := I.list hs
    obtain ⟨o, h1, h2, n, h3⟩ := pl.isList
    exact PySem.wpAny_collect_seq a (.inl rfl) h1 h2 h3 (fun h' hk => hR h' s.toks _ hk (by simpa using rv)) (by have := rv.length; simp; omega)
  · obtain ⟨its, rv, ⟨o, h1, h2, n, h3⟩, hz⟩ := I.tuple hs
    exact PySem.wpAny_collect_seq a (.inr rfl) h1 h2 h3 (fun h' hk => hR h' s.toks _ hk (by simpa using rv)) (by have := rv.length; simp; omega)
end
theorem rpA_pair {K : PySem.W.Frag} {H : Hp} {xs : List V} {ds : List D} (r : RpA K H xs ds) : Paired (Rp K H) xs ds := by
  induction xs generalizing ds with
  | nil => cases r; exact .nil
  | cons x xs ih =>
    cases r with
    | cons h t => exact .cons h (ih t)
theorem pair_rpA {K : PySem.W.Frag} {H : Hp} {xs : List V} {ds : List D} (r : Paired (Rp K H) xs ds) : RpA K H xs ds := by
  induction r with
  | nil => exact .nil
  | cons h _ ih => exact .cons h ih
section
variable {K : PySem.W.Frag}
theorem vw_sorted : ∀ F H x dx dz, Ex F H → Vw K F H x dx → gSorted dx = some dz → ∀ Q : VK, Res K F H dz Q → rSortD K [x] H Q := by
  intro F H x dx dz e hx hg Q k
  unfold gSorted at hg
  split at hg
  · split at hg
    · rename_i hc
      cases hg
      simp only [Bool.and_eq_true, decide_eq_true_eq] at hc
      obtain ⟨⟨⟨c1, c2⟩, c3⟩, c4⟩ := hc
      obtain ⟨a, xs, rfl, s1, r1⟩ := hx.list e
      exact ⟨a, xs, _, Rp K F, rfl, .inl s1, (r1.mono e).dpA (okD_list c1).1, rpA_pair r1, c2, c3, c4, (okD_list c1).2, fun ys p hy hp => k.lst e (pair_rpA hy) p hp⟩
    · cases hg
  · split at hg
    · rename_i hc
      cases hg
      simp only [Bool.and_eq_true, decide_eq_true_eq] at hc
      obtain ⟨⟨⟨c1, c2⟩, c3⟩, c4⟩ := hc
      obtain ⟨a, xs, rfl, s1, r1⟩ := hx.tuple e
      exact ⟨a, xs, _, Rp K F, rfl, .inr s1, (r1.mono e).dpA (okD_tuple c1).1, rpA_pair r1, c2, c3, c4, (okD_tuple c1).2, fun ys p hy hp => k.lst e (pair_rpA hy) p hp⟩
    · cases hg
  · cases hg
end
end DL
end
section
set_option Elab.async false
set_option linter.all false
set_option maxRecDepth 100000
/-! Expressions: syntax and data. -/
namespace DL
open PySem PySem.Spec PyProof.Rows L2
variable [TabT] [FnT]
section
variable {X : Cx} {e a b c : Expr} {es : List Expr} {pos p : Pos} {fe fa fb fc : Fm → Option D} {ft fu : Fm → Option Bool}
theorem PP.pv (h : PP X e fe) : PV X e fe := let ⟨t, h1, h2⟩ := h; ⟨t, h1, h2.sv⟩
/-! ### names, constants -/
theorem d_var (i : Nat) {x : Str} (hN : X.N[i]? = some x := by rfl) (hv : Vis X.env.scope x := by first | exact Or.inl rfl | exact Or.inr (Or.inl rfl) | exact Or.inr (Or.inr rfl)) (hd : (x == ("__debug__" : Str)) = false := by decide)
    (hcd : (x == ("__classdict__" : Str)) = false := by decide) : PP X (.Name x pos) (fVar i) := ⟨_, pe_var hN hv hd hcd, sp_var⟩
theorem d_own (i : Nat) {x : Str} (hN : X.N[i]? = some x := by rfl) (hv : Vis X.env.scope x := by first | exact Or.inl rfl | exact Or.inr (Or.inl rfl) | exact Or.inr (Or.inr rfl)) (hd : (x == ("__debug__" : Str)) = false := by decide)
    (hcd : (x == ("__classdict__" : Str)) = false := by decide) : PV X (.Name x pos) (fOwn i) := ⟨_, pe_var hN hv hd hcd, sv_own⟩
theorem d_int {i : Int} {j} : PP X (.Constant (.int i) j pos) (fC (.int i)) := ⟨_, pe_int, sp_c fun _ => .int i⟩
theorem d_bl {i : Bool} {j} : PP X (.Constant (.bool i) j pos) (fC (.bool i)) := ⟨_, pe_bl, sp_c fun _ => .bl i⟩
theorem d_non {j} : PP X (.Constant .none j pos) (fC .none) := ⟨_, pe_non, sp_c fun _ => .non⟩
theorem d_str {x : Str} {j} : PP X (.Constant (.str x) j pos) (fC (.str x)) := ⟨_, pe_str, sp_c fun _ => .str x⟩
theorem d_gint {x : Str} {i : Int} {t : Tok} (hg : Gl X x) (hm : X.mg x = some (.int i t)) (hd : (x == ("__debug__" : Str)) = false := by decide) : PP X (.Name x pos) (fC (.int i)) := ⟨_, pe_glob hg hm (v := .int i) ⟨t, rfl⟩ hd, sp_c fun _ => .int i⟩
theorem d_gstr {x y : Str} {t : Tok} (hg : Gl X x) (hm : X.mg x = some (.str y t)) (hd : (x == ("__debug__" : Str)) = false := by decide) : PP X (.Name x pos) (fC (.str y)) := ⟨_, pe_glob hg hm (v := .str y) ⟨t, rfl⟩ hd, sp_c fun _ => .str y⟩
/-! ### operators -/
theorem d_add (ha : PV X a fa) (hb : PV X b fb) : PP X (.BinOp a .Add b pos) (fOp2 gAdd fa fb) := let ⟨_, h1, h2⟩ := ha; let ⟨_, h3, h4⟩ := hb; ⟨_, pe_op op_addAny h1 h3, sp_op2 vw_add h2 h4⟩
theorem d_sub (ha : PV X a fa) (hb : PV X b fb) : PP X (.BinOp a .Sub b pos) (fOp2 gSub fa fb) := let ⟨_, h1, h2⟩ := ha; let ⟨_, h3, h4⟩ := hb; ⟨_, pe_op op_sub h1 h3, sp_op2 vw_I20 h2 h4⟩
theorem d_mulI (ha : PV X a fa) (hb : PV X b fb) : PP X (.BinOp a .Mult b pos) (fOp2 gMulI fa fb) := let ⟨_, h1, h2⟩ := ha; let ⟨_, h3, h4⟩ := hb; ⟨_, pe_op op_mul h1 h3, sp_op2 (vw_I2 fun _ _ h => smI_mul h) h2 h4⟩
theorem d_div (ha : PV X a fa) (hb : PV X b fb) : PP X (.BinOp a .FloorDiv b pos) (fOp2 gDiv fa fb) := let ⟨_, h1, h2⟩ := ha; let ⟨_, h3, h4⟩ := hb; ⟨_, pe_op op_fdivW h1 h3, sp_op2 (vw_I2 fun i j h => by
  simp only [Bool.and_eq_true, decide_eq_true_eq] at h
  exact wide_div (b := 64) h.1 (by have := h.2; omega) (by decide) (by decide)) h2 h4⟩
theorem d_mod (ha : PV X a fa) (hb : PV X b fb) : PP X (.BinOp a .Mod b pos) (fOp2 gMod fa fb) := let ⟨_, h1, h2⟩ := ha; let ⟨_, h3, h4⟩ := hb; ⟨_, pe_op op_mod h1 h3, sp_op2 (vw_I2 fun i j h => by simpa only [decide_eq_true_eq] using h) h2 h4⟩
theorem d_pow (ha : PV X a fa) (hb : PV X b fb) : PP X (.BinOp a .Pow b pos) (fOp2 gPow fa fb) := let ⟨_, h1, h2⟩ := ha; let ⟨_, h3, h4⟩ := hb; ⟨_, pe_op op_pow h1 h3, sp_op2 (vw_I2 fun i j h => by
  simp only [Bool.and_eq_true, decide_eq_true_eq] at h
  exact ⟨h.1.1, h.1.2, h.2⟩) h2 h4⟩
theorem d_neg (ha : PV X a fa) : PP X (.UnaryOp .USub a pos) (fOp1 gNeg fa) := let ⟨_, h1, h2⟩ := ha; ⟨_, pe_un un_neg h1, sp_op1 vw_neg h2⟩
/-! ### comparisons: as values, as tests -/
/-- a comparison -/
def PCm (X : Cx) (op : CmpOp) (a b : Expr) (f : Fm → Option D) : Prop := ∃ (r : R2) (ta tb : TE), OpR X (compareOp op) r ∧ PE X a ta ∧ PE X b tb ∧ SP X.K (tOp r ta tb) f
theorem c_eq {k : Nat} (hr : Room k X.A) (ha : PV X a fa) (hb : PV X b fb) : PCm X .Eq a b (fOp2 gEq fa fb) := let ⟨ta, h1, h2⟩ := ha; let ⟨tb, h3, h4⟩ := hb; ⟨_, ta, tb, op_eqD hr.units, h1, h3, sp_op2 vw_eq h2 h4⟩
theorem c_ne {k : Nat} (hr : Room k X.A) (ha : PV X a fa) (hb : PV X b fb) : PCm X .NotEq a b (fOp2 gNe fa fb) := let ⟨ta, h1, h2⟩ := ha; let ⟨tb, h3, h4⟩ := hb; ⟨_, ta, tb, op_neD hr.units, h1, h3, sp_op2 vw_ne h2 h4⟩
theorem Room.u66 {k : Nat} {A : Around} (hr : Room k A) : A.units + 66 < cLine := by have := hr.un; omega
theorem Room.u70 {k : Nat} {A : Around} (hr : Room k A) : A.units + 70 < cLine := by have := hr.un; omega
theorem c_in {k : Nat} (hr : Room k X.A) (ha : PV X a fa) (hb : PV X b fb) : PCm X .In a b (fOp2 (gIn false) fa fb) := let ⟨ta, h1, h2⟩ := ha; let ⟨tb, h3, h4⟩ := hb; ⟨_, ta, tb, op_inLT (by have := Room.u66 hr; omega), h1, h3, sp_op2 vw_in h2 h4⟩
theorem c_ni {k : Nat} (hr : Room k X.A) (ha : PV X a fa) (hb : PV X b fb) : PCm X .NotIn a b (fOp2 (gIn true) fa fb) := let ⟨ta, h1, h2⟩ := ha; let ⟨tb, h3, h4⟩ := hb; ⟨_, ta, tb, op_niLT (by have := Room.u66 hr; omega), h1, h3, sp_op2 vw_in h2 h4⟩
theorem c_lt {k : Nat} (hr : Room k X.A) (ha : PV X a fa) (hb : PV X b fb) : PCm X .Lt a b (fOp2 gLt fa fb) := let ⟨ta, h1, h2⟩ := ha; let ⟨tb, h3, h4⟩ := hb; ⟨_, ta, tb, op_ltD hr.units, h1, h3, sp_op2 (vw_ord fun _ _ => rfl) h2 h4⟩
theorem c_le {k : Nat} (hr : Room k X.A) (ha : PV X a fa) (hb : PV X b fb) : PCm X .LtE a b (fOp2 gLe fa fb) := let ⟨ta, h1, h2⟩ := ha; let ⟨tb, h3, h4⟩ := hb; ⟨_, ta, tb, op_leD hr.units, h1, h3, sp_op2 (vw_ord fun _ _ => rfl) h2 h4⟩
theorem c_gt {k : Nat} (hr : Room k X.A) (ha : PV X a fa) (hb : PV X b fb) : PCm X .Gt a b (fOp2 gGt fa fb) := let ⟨ta, h1, h2⟩ := ha; let ⟨tb, h3, h4⟩ := hb; ⟨_, ta, tb, op_gtD hr.units, h1, h3, sp_op2 (vw_ord fun _ _ => rfl) h2 h4⟩
theorem c_ge {k : Nat} (hr : Room k X.A) (ha : PV X a fa) (hb : PV X b fb) : PCm X .GtE a b (fOp2 gGe fa fb) := let ⟨ta, h1, h2⟩ := ha; let ⟨tb, h3, h4⟩ := hb; ⟨_, ta, tb, op_geD hr.units, h1, h3, sp_op2 (vw_ord fun _ _ => rfl) h2 h4⟩
theorem c_is (ha : PV X a fa) (hb : PV X b fb) : PCm X .Is a b (fOp2 (gIsN false) fa fb) := let ⟨ta, h1, h2⟩ := ha; let ⟨tb, h3, h4⟩ := hb; ⟨_, ta, tb, op_isN, h1, h3, sp_op2 vw_isN h2 h4⟩
theorem c_isn (ha : PV X a fa) (hb : PV X b fb) : PCm X .IsNot a b (fOp2 (gIsN true) fa fb) := let ⟨ta, h1, h2⟩ := ha; let ⟨tb, h3, h4⟩ := hb; ⟨_, ta, tb, op_notN, h1, h3, sp_op2 vw_notN h2 h4⟩
theorem d_cmp {op : CmpOp} (h : PCm X op a b fe) (hm : behindInMarks op b = false := by first | exact nomark _ | rfl | (with_unfolding_all rfl)) : PP X (.Compare a [op] [b] pos) fe :=
  let ⟨_, _, _, h1, h2, h3, h4⟩ := h
  ⟨_, pe_cmpR h1 h2 h3 hm, h4⟩
/-- a bool is wanted -/
def fBl (f : Fm → Option D) (ρ : Fm) : Option Bool := match f ρ with
  | some (.bool b) => some b
  | _ => none
theorem fBl_some {f : Fm → Option D} {ρ : Fm} {b : Bool} (h : fBl f ρ = some b) : f ρ = some (.bool b) := by
  unfold fBl at h
  split at h
  · rename_i e
    cases h
    exact e
  · cases h
theorem sb_B {K : PySem.W.Frag} {t : TE} (h : SP K t fe) : SB K (tB t) (fBl fe) := by
  intro F H σ ρ b hf hR Q k
  refine h F H σ ρ _ (fBl_some hf) hR _ fun v F' H' g r => ?_
  exact ⟨b, r.blI, k F' H' g⟩
theorem sb_test {K : PySem.W.Frag} {t : TE} (h : SP K t fe) : SB K (tTest t) (fBl fe) := by
  intro F H σ ρ b hf hR Q k
  refine h F H σ ρ _ (fBl_some hf) hR _ fun v F' H' g r => ?_
  exact ⟨b, r.blI, k F' H' g⟩
theorem t_cmp {op : CmpOp} (h : PCm X op a b fe) (hm : behindInMarks op b = false := by first | exact nomark _ | rfl | (with_unfolding_all rfl)) : PB X (.Compare a [op] [b] pos) (fBl fe) :=
  let ⟨_, _, _, h1, h2, h3, h4⟩ := h
  ⟨_, pt_cmpR h1 h2 h3 hm, sb_test h4⟩
/-- a call, a name .. as a test -/
theorem t_val (h : PP X e fe) (he : ∀ whole, isTrue e X.env whole = (do let v ← whole; standAt e.pos; holding [v] (truthy v)) := by intro _; rfl) : PB X e (fBl fe) :=
  let ⟨_, h1, h2⟩ := h
  ⟨_, pt_val h1 he, sb_B h2⟩
/-! ### and, or, not, if -/
def fNot (f : Fm → Option Bool) (ρ : Fm) : Option Bool := (f ρ).map (!·)
def fAnd (f g : Fm → Option Bool) (ρ : Fm) : Option Bool := (f ρ).bind fun b => if b = true then g ρ else some false
def fOr (f g : Fm → Option Bool) (ρ : Fm) : Option Bool := (f ρ).bind fun b => if b = true then some true else g ρ
def fIf (c : Fm → Option Bool) (f g : Fm → Option D) (ρ : Fm) : Option D := (c ρ).bind fun b => if b = true then f ρ else g ρ
def fBv (f : Fm → Option Bool) (ρ : Fm) : Option D := (f ρ).map .bool
theorem sb_not {K : PySem.W.Frag} {t : TT} (h : SB K t ft) : SB K (tNot t) (fNot ft) := by
  intro F H σ ρ b hf hR Q k
  obtain ⟨b', h1, h2⟩ := Option.map_eq_some_iff.mp hf
  subst h2
  exact h F H σ ρ _ h1 hR _ fun F' H' g => k F' H' g
theorem ResB.gr {F H F' H' : Hp} {b : Bool} {Q : Bool → Hp → Prop} (k : ResB F H b Q) (g : Gr F H F' H') : ResB F' H' b Q := fun F2 H2 g2 => k F2 H2 (g.trans g2)
theorem ResB.at_ {F H : Hp} {b : Bool} {Q : Bool → Hp → Prop} (k : ResB F H b Q) (e : Ex F H) : Q b H := k F H (.refl e)
theorem sb_and {K : PySem.W.Frag} {t u : TT} (h : SB K t ft) (h' : SB K u fu) : SB K (tAnd t u) (fAnd ft fu) := by
  intro F H σ ρ b hf hR Q k
  obtain ⟨b1, h1, h2⟩ := Option.bind_eq_some_iff.mp hf
  refine h F H σ ρ _ h1 hR _ fun F' H' g => ?_
  split at h2
  · rename_i e
    rw [if_pos e]
    exact h' F' H' σ ρ b h2 (hR.gr g) _ (k.gr g)
  · rename_i e
    rw [if_neg e]
    cases h2
    exact (k.gr g).at_ g.in_
theorem sb_or {K : PySem.W.Frag} {t u : TT} (h : SB K t ft) (h' : SB K u fu) : SB K (tOr t u) (fOr ft fu) := by
  intro F H σ ρ b hf hR Q k
  obtain ⟨b1, h1, h2⟩ := Option.bind_eq_some_iff.mp hf
  refine h F H σ ρ _ h1 hR _ fun F' H' g => ?_
  split at h2
  · rename_i e
    rw [if_pos e]
    cases h2
    exact (k.gr g).at_ g.in_
  · rename_i e
    rw [if_neg e]
    exact h' F' H' σ ρ b h2 (hR.gr g) _ (k.gr g)
theorem t_not (h : PB X a ft) : PB X (.UnaryOp .Not a pos) (fNot ft) := let ⟨_, h1, h2⟩ := h; ⟨_, pt_not h1, sb_not h2⟩
def PWb (X : Cx) (e : Expr) (f : Fm → Option Bool) : Prop := ∃ t, PW X e t ∧ SB X.K t f
theorem w_and1 (h : PB X a ft) : PWb X (.BoolOp .And [a] pos) ft := let ⟨_, h1, h2⟩ := h; ⟨_, pw_and1 h1, h2⟩
theorem w_or1 (h : PB X a ft) : PWb X (.BoolOp .Or [a] pos) ft := let ⟨_, h1, h2⟩ := h; ⟨_, pw_or1 h1, h2⟩
theorem w_and {rest : List Expr} (h : PB X a ft) (h' : PWb X (.BoolOp .And (b :: rest) pos) fu) : PWb X (.BoolOp .And (a :: b :: rest) pos) (fAnd ft fu) := let ⟨_, h1, h2⟩ := h; let ⟨_, h3, h4⟩ := h'; ⟨_, pw_and h1 h3, sb_and h2 h4⟩
theorem w_or {rest : List Expr} (h : PB X a ft) (h' : PWb X (.BoolOp .Or (b :: rest) pos) fu) : PWb X (.BoolOp .Or (a :: b :: rest) pos) (fOr ft fu) := let ⟨_, h1, h2⟩ := h; let ⟨_, h3, h4⟩ := h'; ⟨_, pw_or h1 h3, sb_or h2 h4⟩
theorem PWb.pb (h : PWb X a ft) : PB X a ft := let ⟨_, h1, h2⟩ := h; ⟨_, h1.pt, h2⟩
/-! as values -/
def fAndV (f g : Fm → Option D) (ρ : Fm) : Option D := (fBl f ρ).bind fun b => if b = true then g ρ else some (.bool false)
def fOrV (f g : Fm → Option D) (ρ : Fm) : Option D := (fBl f ρ).bind fun b => if b = true then some (.bool true) else g ρ
def fNotV (f : Fm → Option D) (ρ : Fm) : Option D := (fBl f ρ).map fun b => .bool (!b)
theorem sp_andV {K : PySem.W.Frag} {t u : TE} (h : SP K t fa) (h' : SP K u fb) : SP K (tAndV t u) (fAndV fa fb) := by
  intro F H σ ρ d hf hR Q k
  obtain ⟨b1, h1, h2⟩ := Option.bind_eq_some_iff.mp hf
  refine h F H σ ρ _ (fBl_some h1) hR _ fun v F' H' g r => ?_
  refine ⟨b1, r.blI, ?_⟩
  split at h2
  · rename_i e
    rw [if_pos e]
    exact h' F' H' σ ρ d h2 (hR.gr g) _ (k.gr g)
  · rename_i e
    rw [if_neg e]
    cases h2
    exact (k.gr g).sc g.in_ fun _ => .bl _
theorem sp_orV {K : PySem.W.Frag} {t u : TE} (h : SP K t fa) (h' : SP K u fb) : SP K (tOrV t u) (fOrV fa fb) := by
  intro F H σ ρ d hf hR Q k
  obtain ⟨b1, h1, h2⟩ := Option.bind_eq_some_iff.mp hf
  refine h F H σ ρ _ (fBl_some h1) hR _ fun v F' H' g r => ?_
  refine ⟨b1, r.blI, ?_⟩
  split at h2
  · rename_i e
    rw [if_pos e]
    cases h2
    exact (k.gr g).sc g.in_ fun _ => .bl _
  · rename_i e
    rw [if_neg e]
    exact h' F' H' σ ρ d h2 (hR.gr g) _ (k.gr g)
theorem sp_notV {K : PySem.W.Frag} {t : TE} (h : SP K t fa) : SP K (tNotV t) (fNotV fa) := by
  intro F H σ ρ d hf hR Q k
  obtain ⟨b1, h1, h2⟩ := Option.map_eq_some_iff.mp hf
  subst h2
  refine h F H σ ρ _ (fBl_some h1) hR _ fun v F' H' g r => ?_
  exact ⟨b1, r.blI, (k.gr g).sc g.in_ fun _ => .bl _⟩
theorem d_one {op} (h : PP X a fa) : PP X (.BoolOp op [a] pos) fa := let ⟨_, h1, h2⟩ := h; ⟨_, pe_one h1, h2⟩
theorem d_and {rest : List Expr} (h : PP X a fa) (h' : PP X (.BoolOp .And (b :: rest) pos) fb) : PP X (.BoolOp .And (a :: b :: rest) pos) (fAndV fa fb) := let ⟨_, h1, h2⟩ := h; let ⟨_, h3, h4⟩ := h'; ⟨_, pe_and h1 h3, sp_andV h2 h4⟩
theorem d_or {rest : List Expr} (h : PP X a fa) (h' : PP X (.BoolOp .Or (b :: rest) pos) fb) : PP X (.BoolOp .Or (a :: b :: rest) pos) (fOrV fa fb) := let ⟨_, h1, h2⟩ := h; let ⟨_, h3, h4⟩ := h'; ⟨_, pe_or h1 h3, sp_orV h2 h4⟩
theorem d_not (h : PP X a fa) : PP X (.UnaryOp .Not a pos) (fNotV fa) := let ⟨_, h1, h2⟩ := h; ⟨_, pe_not h1, sp_notV h2⟩
theorem sp_if {K : PySem.W.Frag} {t : TT} {ta tb : TE} (h : SB K t ft) (h1 : SP K ta fa) (h2 : SP K tb fb) : SP K (tIf t ta tb) (fIf ft fa fb) := by
  intro F H σ ρ d hf hR Q k
  obtain ⟨b1, e1, e2⟩ := Option.bind_eq_some_iff.mp hf
  refine h F H σ ρ _ e1 hR _ fun F' H' g => ?_
  split at e2
  · rename_i e
    rw [if_pos e]
    exact h1 F' H' σ ρ d e2 (hR.gr g) _ (k.gr g)
  · rename_i e
    rw [if_neg e]
    exact h2 F' H' σ ρ d e2 (hR.gr g) _ (k.gr g)
theorem d_if (hc : PB X c ft) (ha : PP X a fa) (hb : PP X b fb) : PP X (.IfExp c a b pos) (fIf ft fa fb) := let ⟨_, h1, h2⟩ := hc; let ⟨_, h3, h4⟩ := ha; let ⟨_, h5, h6⟩ := hb; ⟨_, pe_ifExp h1 h3 h5, sp_if h2 h4 h6⟩
/-- code that is never come to -/
theorem sp_none {K : PySem.W.Frag} {t : TE} : SP K t fun _ => none := fun F H σ ρ d hf => nomatch hf
/-! ### subscripts -/
theorem d_ix (ha : PV X a fa) (hb : PV X b fb) (hs : PlainIx b := by exact fun _ _ => rfl) : PP X (.Subscript a b pos) (fOp2 gIx fa fb) := let ⟨_, h1, h2⟩ := ha; let ⟨_, h3, h4⟩ := hb; ⟨_, pe_ix ix_seq h1 h3 hs, sp_op2 vw_ix h2 h4⟩
/-! ### lists of arguments, displays -/
def fNil (_ : Fm) : Option (List D) := some []
def fCons (f : Fm → Option D) (g : Fm → Option (List D)) (ρ : Fm) : Option (List D) := (f ρ).bind fun d => (g ρ).map fun ds => d :: ds
variable {fs : Fm → Option (List D)}
theorem as_nil : PAs X [] fNil := ⟨_, pa_nil, fun F H σ ρ ds hf hR Q k => by cases hf; exact k [] F H (.refl hR.ex) .nil, fun ρ ds h => by cases h; rfl⟩
theorem sa_cons {K : PySem.W.Frag} {t : TE} {tr : TA} (h : SP K t fe) (hr : SA K tr fs) : SA K (tCons t tr) (fCons fe fs) := by
  intro F H σ ρ ds hf hR Q k
  obtain ⟨d, e1, e2⟩ := Option.bind_eq_some_iff.mp hf
  obtain ⟨r, e3, e4⟩ := Option.map_eq_some_iff.mp e2
  subst e4
  refine h F H σ ρ _ e1 hR _ fun v F1 H1 g1 r1 => ?_
  refine hr F1 H1 σ ρ _ e3 (hR.gr g1) _ fun vs F2 H2 g2 r2 => ?_
  exact k _ F2 H2 (g1.trans g2) (.cons (r1.mono g2.ex) r2)
theorem as_cons (h : PP X e fe) (hr : PAs X es fs) (hs : starEach (e :: es) X.env = (false, eval e X.env) :: starEach es X.env := by rfl) : PAs X (e :: es) (fCons fe fs) := let ⟨_, h1, h2⟩ := h; let ⟨_, h3, h4, h5⟩ := hr; ⟨_, pa_cons h1 h3 hs, sa_cons h2 h4, fun ρ ds h => by
  obtain ⟨d, e1, e2⟩ := Option.bind_eq_some_iff.mp h
  obtain ⟨r, e3, e4⟩ := Option.map_eq_some_iff.mp e2
  subst e4
  rw [List.length_cons, List.length_cons, h5 ρ r e3]⟩
def fTup (f : Fm → Option (List D)) (ρ : Fm) : Option D := (f ρ).bind fun ds => if ds.length ≤ bigN then some (.tuple ds) else none
def fLst (f : Fm → Option (List D)) (ρ : Fm) : Option D := (f ρ).bind fun ds => if ds.length ≤ bigN then some (.list ds) else none
theorem d_tup {x1} (h : PAs X es fs) : PP X (.Tuple es x1 pos) (fTup fs) := by
  obtain ⟨t, h1, h2, _⟩ := h
  refine ⟨_, pe_tupZ h1, fun F H σ ρ d hf hR Q k => ?_⟩
  obtain ⟨ds, e1, e2⟩ := Option.bind_eq_some_iff.mp hf
  split at e2
  · rename_i hz
    cases e2
    refine h2 F H σ ρ _ e1 hR _ fun vs F1 H1 g1 r1 => ⟨?_, (k.gr g1).tup g1.in_ r1⟩
    rw [r1.length]
    exact Nat.le_trans hz big_le
  · cases e2
theorem d_lst (h : PAs X es fs) : PP X (.List es pos) (fLst fs) := by
  obtain ⟨t, h1, h2, _⟩ := h
  refine ⟨_, pe_lst h1, fun F H σ ρ d hf hR Q k => ?_⟩
  obtain ⟨ds, e1, e2⟩ := Option.bind_eq_some_iff.mp hf
  split at e2
  · rename_i hz
    cases e2
    refine h2 F H σ ρ _ e1 hR _ fun vs F1 H1 g1 r1 => ⟨?_, (k.gr g1).lst g1.in_ r1⟩
    rw [r1.length]
    exact Nat.le_trans hz big_le
  · cases e2
/-! ### built-ins -/
theorem d_b1 {x : Str} {id : String} {r : List V → Hp → VK → Prop} {g : D → Option D} (hc : CallR X (.builtin id) r) (hv : bootBuiltins x = some (.builtin id)) (hr : ∀ F H x dx dz, Ex F H → Vw X.K F H x dx → g dx = some dz → ∀ Q : VK, Res X.K F H dz Q → r [x] H Q)
    (hg : Gl X x) (hm : X.mg x = none) (ha : PV X e fe) (hn : x ≠ "__name__") (hdb : (x == ("__debug__" : Str)) = false)
    (hs : starEach [e] X.env = (false, eval e X.env) :: starEach [] X.env) : PP X (.Call (.Name x p) [e] [] pos) (fOp1 g fe) :=
  let ⟨_, h1, h2⟩ := ha
  ⟨_, pe_callB hc hg hm hv (pa_cons h1 pa_nil hs) hn hdb hs rfl, sp_call1 hr h2⟩
theorem d_t1 {x : Str} {T : String} {r : List V → Hp → VK → Prop} {g : D → Option D} (hc : CallR X (.type T) r) (hv : bootBuiltins x = some (.type T)) (hr : ∀ F H x dx dz, Ex F H → Vw X.K F H x dx → g dx = some dz → ∀ Q : VK, Res X.K F H dz Q → r [x] H Q)
    (hg : Gl X x) (hm : X.mg x = none) (ha : PV X e fe) (hn : x ≠ "__name__") (hdb : (x == ("__debug__" : Str)) = false)
    (hs : starEach [e] X.env = (false, eval e X.env) :: starEach [] X.env) : PP X (.Call (.Name x p) [e] [] pos) (fOp1 g fe) :=
  let ⟨_, h1, h2⟩ := ha
  ⟨_, pe_callTy hc hg hm hv (pa_cons h1 pa_nil hs) hn hdb hs rfl, sp_call1 hr h2⟩
/-- the built-in names are what they were -/
structure Bt (mg : Str → Option Value) : Prop where
  len : mg "len" = none
  range : mg "range" = none
  int : mg "int" = none
  isinstance : mg "isinstance" = none
  tuple : mg "tuple" = none
  list : mg "list" = none
  sorted : mg "sorted" = none
  set : mg "set" = none
  max : mg "max" = none
  min : mg "min" = none
  enumerate : mg "enumerate" = none
  bool : mg "bool" = none
  str : mg "str" = none
  sum : mg "sum" = none
  zip : mg "zip" = none
  dict : mg "dict" = none
  abs : mg "abs" = none
theorem d_len (B : Bt X.mg) (ha : PV X e fe) (hg : Gl X "len" := by rfl) (hs : starEach [e] X.env = (false, eval e X.env) :: starEach [] X.env := by rfl) : PP X (.Call (.Name "len" p) [e] [] pos) (fOp1 gLen fe) :=
  d_b1 call_len PySem.boot_len vw_len hg B.len ha (by decide) (by decide) hs
theorem d_tuple (B : Bt X.mg) (ha : PV X e fe) (hg : Gl X "tuple" := by rfl) (hs : starEach [e] X.env = (false, eval e X.env) :: starEach [] X.env := by rfl) : PP X (.Call (.Name "tuple" p) [e] [] pos) (fOp1 gTuple fe) :=
  d_t1 call_tupleZ PyProof.Rows.boot_tuple vw_tuple hg B.tuple ha (by decide) (by decide) hs
theorem d_list (B : Bt X.mg) (ha : PV X e fe) (hg : Gl X "list" := by rfl) (hs : starEach [e] X.env = (false, eval e X.env) :: starEach [] X.env := by rfl) : PP X (.Call (.Name "list" p) [e] [] pos) (fOp1 gList fe) :=
  d_t1 call_list_of PyProof.Rows.boot_list vw_list hg B.list ha (by decide) (by decide) hs
theorem d_toInt (B : Bt X.mg) (ha : PV X e fe) (hg : Gl X "int" := by rfl) (hs : starEach [e] X.env = (false, eval e X.env) :: starEach [] X.env := by rfl) : PP X (.Call (.Name "int" p) [e] [] pos) (fOp1 gInt fe) :=
  d_t1 call_int1 PyProof.Rows.boot_int vw_int hg B.int ha (by decide) (by decide) hs
theorem d_toBool (B : Bt X.mg) (ha : PV X e fe) (hg : Gl X "bool" := by rfl) (hs : starEach [e] X.env = (false, eval e X.env) :: starEach [] X.env := by rfl) : PP X (.Call (.Name "bool" p) [e] [] pos) (fOp1 gBool fe) :=
  d_t1 call_bool1 PyProof.Rows.boot_bool vw_bool hg B.bool ha (by decide) (by decide) hs
theorem d_toStr (B : Bt X.mg) (ha : PV X e fe) (hg : Gl X "str" := by rfl) (hs : starEach [e] X.env = (false, eval e X.env) :: starEach [] X.env := by rfl) : PP X (.Call (.Name "str" p) [e] [] pos) (fOp1 gStr fe) :=
  d_t1 call_str_int PyProof.Rows.boot_str vw_str hg B.str ha (by decide) (by decide) hs
theorem d_abs (B : Bt X.mg) (ha : PV X e fe) (hg : Gl X "abs" := by rfl) (hs : starEach [e] X.env = (false, eval e X.env) :: starEach [] X.env := by rfl) : PP X (.Call (.Name "abs" p) [e] [] pos) (fOp1 gAbs fe) :=
  d_b1 call_abs PyProof.Rows.boot_abs vw_abs hg B.abs ha (by decide) (by decide) hs
theorem d_sum (hc : X.calm = true) (B : Bt X.mg) (ha : PV X e fe) (hg : Gl X "sum" := by rfl) (hs : starEach [e] X.env = (false, eval e X.env) :: starEach [] X.env := by rfl) : PP X (.Call (.Name "sum" p) [e] [] pos) (fOp1 gSum fe) :=
  d_b1 (cr_sum hc) PyProof.Rows.boot_sum vw_sum hg B.sum ha (by decide) (by decide) hs
theorem d_max (hc : X.calm = true) {k : Nat} (hr : Room k X.A) (B : Bt X.mg) (ha : PV X e fe) (hg : Gl X "max" := by rfl) (hs : starEach [e] X.env = (false, eval e X.env) :: starEach [] X.env := by rfl) : PP X (.Call (.Name "max" p) [e] [] pos) (fOp1 gMax fe) :=
  d_b1 (cr_maxD hc (Room.u66 hr)) PyProof.Rows.boot_max vw_max hg B.max ha (by decide) (by decide) hs
theorem d_min (hc : X.calm = true) {k : Nat} (hr : Room k X.A) (B : Bt X.mg) (ha : PV X e fe) (hg : Gl X "min" := by rfl) (hs : starEach [e] X.env = (false, eval e X.env) :: starEach [] X.env := by rfl) : PP X (.Call (.Name "min" p) [e] [] pos) (fOp1 gMin fe) :=
  d_b1 (cr_minD hc (Room.u66 hr)) PyProof.Rows.boot_min vw_min hg B.min ha (by decide) (by decide) hs
theorem d_sorted {k : Nat} (hr : Room k X.A) (B : Bt X.mg) (ha : PV X e fe) (hg : Gl X "sorted" := by rfl) (hs : starEach [e] X.env = (false, eval e X.env) :: starEach [] X.env := by rfl) : PP X (.Call (.Name "sorted" p) [e] [] pos) (fOp1 gSorted fe) :=
  d_b1 (cr_sortD (Room.u70 hr)) PyProof.Rows.boot_sorted vw_sorted hg B.sorted ha (by decide) (by decide) hs
end
end DL
end
section
set_option Elab.async false
set_option linter.all false
set_option maxRecDepth 100000
/-! isinstance, calls of defs, effects. -/
namespace DL
open PySem PySem.Spec PyProof.Rows L2
variable [TabT] [FnT]
/-! ### isinstance -/
def tyD : D → String
  | .none => "NoneType"
  | .bool _ => "bool"
  | .int _ => "int"
  | .str _ => "str"
  | .list _ => "list"
  | .tuple _ => "tuple"
  | .dict _ => "dict"
def isaB (T : String) (d : D) : Bool := (tyD d == T) || (T == "int" && tyD d == "bool")
def knownT (T : String) : Bool := T == "int" || T == "bool" || T == "str" || T == "list" || T == "tuple"
theorem kitB_isa {T : String} (hT : knownT T = true) (d : D) (hd : nd d = true) : kitB (tyD d) T = some (isaB T d) := by
  unfold knownT at hT
  simp only [Bool.or_eq_true, beq_iff_eq] at hT
  rcases hT with (((h | h) | h) | h) | h <;> subst h <;> cases d <;> first | (simp only [nd, Bool.false_eq_true] at hd; done) | (clear hd; simp only [tyD, isaB]; decide +kernel)
theorem dp_ty {K : PySem.W.Frag} {H : Hp} {v : V} {d : D} (h : Dp K H v d) : TyX K H v (.type (tyD d)) := by
  cases h with
  | non => exact .base .non
  | bl b => exact .base (.bl b)
  | int i => exact .base (.int i)
  | str x => exact .base (.str x)
  | lst hs r =>
    rcases hs with (h | ⟨o, h⟩) | ⟨o, its, n, h1, h2, _⟩
    · exact .base (.lst h)
    · exact .base (.frz h)
    · exact .kList h1 h2
  | tup hs r =>
    rcases hs with (h | ⟨o, h⟩) | ⟨o, its, n, h1, h2, _⟩
    · exact .base (.tup h)
    · exact .fTuple h
    · exact .kTuple h1 h2
/-- an exact dict counts, too -/
inductive TyY (K : PySem.W.Frag) (H : Hp) : V → Value → Prop where
  | x {v : V} {t : Value} (h : TyX K H v t) : TyY K H v t
  | dn {a : Addr} {xs : DEs} (h : Rd H a (DN a xs)) : TyY K H (.ref a) (.type "dict")
  | dk {a : Addr} {kvs : List (Key × V)} (h : Rd H a (.dK kvs)) : TyY K H (.ref a) (.type "dict")
theorem kit_ofY {X : Cx} {pins : List (Addr × Obj)} {σ : L2.St} {H : Hp} {s : Shared} {x : V} {u t : Value} (I : Inv X pins σ H s) (rx : RelV x u) (ty : TyY X.K H x t) : ∃ P : Heap → Prop, PySem.W.KitX X.K u t P ∧ P s.heap ∧ u ≠ .builtin "__main__.__loader__#opaque" := by
  cases ty with
  | x h => exact kit_of I rx h
  | @dn a xs h =>
    cases (show u = Value.ref a from rx)
    obtain ⟨⟨_, _, _, o, es, ep, h1, h2, _⟩, _⟩ := (show ObjOk X.prog X.w H s.heap a (.ext (DPhi a xs)) from h.ok I.hok)
    exact ⟨_, PySem.W.kitx_dict, ⟨o, h1, h2.1⟩, fun z => nomatch z⟩
  | @dk a kvs h =>
    cases (show u = Value.ref a from rx)
    obtain ⟨_, _, vs, _, o, es, ep, h1, h2, _⟩ := (show ObjOk X.prog X.w H s.heap a (.dK kvs) from h.ok I.hok)
    exact ⟨_, PySem.W.kitx_dict, ⟨o, h1, h2.1⟩, fun z => nomatch z⟩
def rIsiY (K : PySem.W.Frag) : List V → Hp → VK → Prop := fun xs H Q => ∃ (x c : V) (t u : Value) (b : Bool), xs = [x, c] ∧ ClsV c u ∧ TyY K H x t ∧ PySem.W.kitOne K t u = some b ∧ Q (.bl b) H
def rIsiU (K : PySem.W.Frag) : List V → Hp → VK → Prop := fun xs H Q => ∃ (x : V) (tp : Addr) (cs : List V) (t : Value) (us : List Value) (b : Bool), xs = [x, .ref tp] ∧ H tp = some (.tup cs) ∧ Paired ClsV cs us ∧ TyY K H x t ∧ PySem.W.kitAny K t us = some b ∧ Q (.bl b) H
theorem call_isiY {X : Cx} : CallR X (.builtin "isinstance") (rIsiY X.K) := by
  intro pins s σ H xs us Q I r h
  obtain ⟨x, c, t, u, b, rfl, k, ty, e, q⟩ := h
  obtain ⟨w1, w2, rfl, r1, r2⟩ := vals2 r
  cases k.eq r2
  obtain ⟨P, Z, p, hx⟩ := kit_ofY I r1 ty
  exact PySem.W.kia_one Z I.kIn p e hx fun tk => ⟨.bl b, H, I.tok tk, rfl, q⟩
theorem call_isiU {X : Cx} : CallR X (.builtin "isinstance") (rIsiU X.K) := by
  intro pins s σ H xs us Q I r h
  obtain ⟨x, tp, cs, t, ws, b, rfl, hT, k, ty, e, q⟩ := h
  obtain ⟨w1, w2, rfl, r1, r2⟩ := vals2 r
  cases (show w2 = Value.ref tp from r2)
  obtain ⟨P, Z, p, hx⟩ := kit_ofY I r1 ty
  obtain ⟨_, its, rv, ob, h1, h2, n, h3⟩ := (show ObjOk X.prog X.w H s.heap tp (.tup cs) from I.hok tp _ hT)
  cases ClsV.all k rv
  obtain ⟨oc, od, dt, sl⟩ := ob
  simp only at h2 h3
  subst h2 h3
  exact PySem.W.kia_tup Z I.kIn p h1 e hx fun tk => ⟨.bl b, H, I.tok tk, rfl, q⟩
def gIsa (Ts : List String) : D → Option D := fun d => if nd d then some (.bool (Ts.any fun T => isaB T d)) else match d with
  | .dict _ => some (.bool (Ts.any fun T => isaB T d))
  | _ => none
theorem kitB_dict {T : String} (hT : knownT T = true) (ds : List (D × D)) : kitB (tyD (.dict ds)) T = some (isaB T (.dict ds)) := by
  unfold knownT at hT
  simp only [Bool.or_eq_true, beq_iff_eq] at hT
  rcases hT with (((h | h) | h) | h) | h <;> subst h <;> (simp only [tyD, isaB]; decide +kernel)
theorem kitAny_dict {K : PySem.W.Frag} {ds : List (D × D)} : ∀ {Ts : List String}, (∀ T ∈ Ts, knownT T = true) → PySem.W.kitAny K (.type (tyD (.dict ds))) (Ts.map Value.type) = some (Ts.any fun T => isaB T (.dict ds))
  | [], _ => kitAny_nil
  | T :: Ts, h => by
    rw [List.map_cons, List.any_cons]
    refine kitAny_cons (b := isaB T (.dict ds)) (kit_ty (kitB_dict (h T List.mem_cons_self) ds)) (fun e => ?_) fun e => by rw [e, Bool.true_or]
    rw [kitAny_dict fun T hT => h T (List.mem_cons_of_mem _ hT), e, Bool.false_or]
theorem dv_ty {K : PySem.W.Frag} {F H : Hp} {a : Addr} {ds : List (D × D)} (h : DV K F H a ds) : TyY K H (.ref a) (.type "dict") := by
  rcases h with ⟨kvs, h, _⟩ | ⟨xs, h, _⟩
  · exact .dk h
  · exact .dn h
theorem kitAny_isa {K : PySem.W.Frag} {d : D} (hd : nd d = true) : ∀ {Ts : List String}, (∀ T ∈ Ts, knownT T = true) → PySem.W.kitAny K (.type (tyD d)) (Ts.map Value.type) = some (Ts.any fun T => isaB T d)
  | [], _ => kitAny_nil
  | T :: Ts, h => by
    rw [List.map_cons, List.any_cons]
    refine kitAny_cons (b := isaB T d) (kit_ty (kitB_isa (h T List.mem_cons_self) d hd)) (fun e => ?_) fun e => by rw [e, Bool.true_or]
    rw [kitAny_isa hd fun T hT => h T (List.mem_cons_of_mem _ hT), e, Bool.false_or]
section
variable {X : Cx} {e a b c : Expr} {es : List Expr} {pos p : Pos} {fe fa fb fc : Fm → Option D} {ft fu : Fm → Option Bool}
/-- isinstance(e, T) -/
theorem d_isa {T : Str} {id : String} {q : Pos} (hT : knownT id = true) (hv : bootBuiltins T = some (.type id)) (B : Bt X.mg) (hmT : X.mg T = none) (ha : PV X e fe) (hgT : Gl X T := by rfl) (hg : Gl X "isinstance" := by rfl) (hn : T ≠ "__name__" := by decide) (hd : (T == ("__debug__" : Str)) = false := by decide)
    (hs : starEach [e, .Name T q] X.env = (false, eval e X.env) :: starEach [.Name T q] X.env := by rfl) (hs2 : starEach [.Name T q] X.env = (false, eval (.Name T q) X.env) :: starEach [] X.env := by rfl)
    (hpl : (backTo pos (starEach [.Name T q] X.env)).any (·.1) = false := by rfl) : PP X (.Call (.Name "isinstance" p) [e, .Name T q] [] pos) (fOp1 (gIsa [id]) fe) := by
  obtain ⟨t, h1, h2⟩ := ha
  refine ⟨_, pe_callB call_isiY hg B.isinstance PyProof.Rows.boot_isinstance (pa_cons h1 (pa_cons (pe_bltn (v := .ty id) hgT hmT hv rfl hn hd) pa_nil hs2) hs) (by decide) (by decide) hs hpl, fun F H σ ρ d hf hR Q k => ?_⟩
  obtain ⟨dx, e1, e2⟩ := Option.bind_eq_some_iff.mp hf
  unfold gIsa at e2
  split at e2
  · rename_i hnd
    cases e2
    refine h2 F H σ ρ _ e1 hR _ fun v F1 H1 g1 r1 => ?_
    refine ⟨v, .ty id, .type (tyD dx), .type id, isaB id dx, rfl, .ty id, (.x (dp_ty ((r1.rp g1.in_ hnd).dp hnd))), kit_ty (kitB_isa hT dx hnd), ?_⟩
    have : (List.any [id] fun T => isaB T dx) = isaB id dx := by rw [List.any_cons, List.any_nil, Bool.or_false]
    rw [this] at k
    exact (k.gr g1).sc g1.in_ fun _ => .bl _
  · split at e2
    · rename_i ds hnd
      cases e2
      refine h2 F H σ ρ _ e1 hR _ fun v F1 H1 g1 r1 => ?_
      obtain ⟨a, rfl, hv⟩ := r1.dict g1.in_
      refine ⟨.ref a, .ty id, .type (tyD (.dict ds)), .type id, isaB id (.dict ds), rfl, .ty id, dv_ty hv, kit_ty (kitB_dict hT ds), ?_⟩
      have : (List.any [id] fun T => isaB T (.dict ds)) = isaB id (.dict ds) := by rw [List.any_cons, List.any_nil, Bool.or_false]
      rw [this] at k
      exact (k.gr g1).sc g1.in_ fun _ => .bl _
    · cases e2
theorem pairedTy : ∀ Ts : List String, Paired ClsV (Ts.map V.ty) (Ts.map Value.type)
  | [] => .nil
  | T :: Ts => .cons (.ty T) (pairedTy Ts)
/-- isinstance(e, (S, T)) -/
theorem d_isa2 {S T : Str} {i j : String} {q r tq : Pos} {kk} (hS : knownT i = true) (hT : knownT j = true) (hvS : bootBuiltins S = some (.type i)) (hv : bootBuiltins T = some (.type j)) (B : Bt X.mg) (hmS : X.mg S = none) (hmT : X.mg T = none) (ha : PV X e fe)
    (hgS : Gl X S := by rfl) (hgT : Gl X T := by rfl) (hg : Gl X "isinstance" := by rfl) (hnS : S ≠ "__name__" := by decide) (hdS : (S == ("__debug__" : Str)) = false := by decide) (hn : T ≠ "__name__" := by decide) (hd : (T == ("__debug__" : Str)) = false := by decide)
    (hs : starEach [e, .Tuple [.Name S q, .Name T r] kk tq] X.env = (false, eval e X.env) :: starEach [.Tuple [.Name S q, .Name T r] kk tq] X.env := by rfl) :
    PP X (.Call (.Name "isinstance" p) [e, .Tuple [.Name S q, .Name T r] kk tq] [] pos) (fOp1 (gIsa [i, j]) fe) := by
  obtain ⟨t, h1, h2⟩ := ha
  refine ⟨_, pe_callB call_isiU hg B.isinstance PyProof.Rows.boot_isinstance (pa_cons h1 (pa_cons (pe_tup (pa_cons (pe_bltn (v := .ty i) hgS hmS hvS rfl hnS hdS) (pa_cons (pe_bltn (v := .ty j) hgT hmT hv rfl hn hd) pa_nil rfl) rfl)) pa_nil rfl) hs) (by decide) (by decide) hs rfl, fun F H σ ρ d hf hR Q k => ?_⟩
  obtain ⟨dx, e1, e2⟩ := Option.bind_eq_some_iff.mp hf
  unfold gIsa at e2
  split at e2
  · rename_i hnd
    cases e2
    refine h2 F H σ ρ _ e1 hR _ fun v F1 H1 g1 r1 => ⟨(by show 2 ≤ sizeLine; decide), fun tp hp => ?_⟩
    have g2 : Gr F1 H1 F1 (upd H1 tp (.tup [.ty i, .ty j])) := .newH g1.in_ hp
    refine ⟨v, tp, [.ty i, .ty j], .type (tyD dx), [.type i, .type j], _, rfl, upd_same, pairedTy [i, j], (.x (dp_ty (((r1.rp g1.in_ hnd).mono (.new hp)).dp hnd))), kitAny_isa hnd (Ts := [i, j]) (fun T hT' => ?_), ?_⟩
    · rcases List.mem_cons.mp hT' with rfl | h
      · exact hS
      · rw [List.mem_singleton.mp h]; exact hT
    · exact (k.gr (g1.trans g2)).sc g2.in_ fun _ => .bl _
  · split at e2
    · rename_i ds hnd
      cases e2
      refine h2 F H σ ρ _ e1 hR _ fun v F1 H1 g1 r1 => ⟨(by show 2 ≤ sizeLine; decide), fun tp hp => ?_⟩
      have g2 : Gr F1 H1 F1 (upd H1 tp (.tup [.ty i, .ty j])) := .newH g1.in_ hp
      obtain ⟨a, rfl, hv⟩ := (r1.gr g2).dict g2.in_
      refine ⟨.ref a, tp, [.ty i, .ty j], .type (tyD (.dict ds)), [.type i, .type j], _, rfl, upd_same, pairedTy [i, j], dv_ty hv, kitAny_dict (Ts := [i, j]) (fun T hT' => ?_), ?_⟩
      · rcases List.mem_cons.mp hT' with rfl | h
        · exact hS
        · rw [List.mem_singleton.mp h]; exact hT
      · exact (k.gr (g1.trans g2)).sc g2.in_ fun _ => .bl _
    · cases e2
end
/-! ### defs: what they promise -/
/-- a def of data -/
def spP (K : PySem.W.Frag) (g : List D → Option D) (n : Nat) : Sp := fun vs H Q _ => vs.length = n ∧ ∃ (F : Hp) (ds : List D) (d : D), ExB F H ∧ RpA K F vs ds ∧ g ds = some d ∧ Res K F H d Q
/-- a def whose first argument is a list that it may change -/
def spI (K : PySem.W.Frag) (g : List D → List D → Option (D × List D)) (n : Nat) : Sp := fun vs H Q _ => vs.length = n + 1 ∧ ∃ (F : Hp) (a : Addr) (xs : List V) (ls : List D) (us : List V) (ds : List D) (d : D) (ls' : List D), vs = .ref a :: us ∧ ExB F H ∧ H a = some (.lst xs) ∧ F a = none ∧ RpA K F xs ls ∧ RpA K F us ds ∧ g ls ds = some (d, ls') ∧
  ∀ v F' H' xs', Ex F F' → ExB F' H' → (∀ b o, H b = some o → NoTb o → b ≠ a → H' b = some o) → (∀ b, H b ≠ none → F b = none → F' b = none) → Lv H H' → H' a = some (.lst xs') → RpA K F' xs' ls' → Rp K F' v d → Q v H'
section
variable {X : Cx} {e a b c : Expr} {es : List Expr} {pos p : Pos} {fe fa fb fc : Fm → Option D} {ft fu : Fm → Option Bool} {fs : Fm → Option (List D)} {ge ga gb : Fm → Option (D × Fm)} {gt gu : Fm → Option (Bool × Fm)} {gs : Fm → Option (List D × Fm)}
def fCall (g : List D → Option D) (fs : Fm → Option (List D)) (ρ : Fm) : Option D := (fs ρ).bind g
theorem d_call {k n : Nat} {x : Str} {f : Addr} {fd : FuncData} {ps : List Str} {g : List D → Option D} (G : FnOk X.prog X.w X.K X.mg X.base CX0 k f fd ps (spP X.K g n)) (hr : Room k X.A) (hm : X.mg x = some (.ref f)) (hk : PySem.W.keepIn X.K (.ref f) = true) (hb : Binds X.K fd ps [])
    (ha : PAs X (e :: es) fs) (hn : n = (e :: es).length := by rfl) (hg : Gl X x := by rfl) (hdb : (x == ("__debug__" : Str)) = false := by decide) (he : starEach (e :: es) X.env = (false, eval e X.env) :: starEach es X.env := by rfl) (hpl : (backTo pos (starEach es X.env)).any (·.1) = false := by rfl) : PP X (.Call (.Name x p) (e :: es) [] pos) (fCall g fs) := by
  obtain ⟨t, h1, h2, h3⟩ := ha
  refine ⟨_, pe_call G hr hg hm hk hb .nil pass0 h1 hdb he hpl, fun F H σ ρ d hf hR Q q => ?_⟩
  obtain ⟨ds, e1, e2⟩ := Option.bind_eq_some_iff.mp hf
  refine h2 F H σ ρ _ e1 hR _ fun vs F1 H1 g1 r1 => ?_
  rw [List.append_nil]
  exact ⟨by rw [r1.length, hn]; exact h3 _ _ e1, F1, ds, d, ⟨g1.in_, (hR.gr g1).tab⟩, r1, e2, q.gr g1⟩
end
end DL
end
section
set_option Elab.async false
set_option linter.all false
set_option maxRecDepth 100000
/-! Effects, statements. -/
namespace DL
open PySem PySem.Spec PyProof.Rows L2
variable [TabT] [FnT]
/-! ### what a step of an expression may do -/
structure GoE (K : PySem.W.Frag) (F H : Hp) (σ : L2.St) (ρ : Fm) (F' H' : Hp) (ρ' : Fm) : Prop where
  go : Go K F H σ ρ F' H' σ ρ'
  mono : ∀ (i : Nat) (b : B), ρ'[i]? = some b → b.own = true → ∃ c, ρ[i]? = some c ∧ c.own = true
section
variable {K : PySem.W.Frag} {F H F' H' F2 H2 : Hp} {σ σ' σ2 : L2.St} {ρ ρ' ρ2 : Fm}
theorem GoE.refl (h : Rel K F H σ ρ) : GoE K F H σ ρ F H ρ := ⟨.refl h, fun _ b e o => ⟨b, e, o⟩⟩
theorem GoE.trans (a : GoE K F H σ ρ F' H' ρ') (b : GoE K F' H' σ ρ' F2 H2 ρ2) : GoE K F H σ ρ F2 H2 ρ2 := ⟨a.go.trans b.go, fun i c e o => let ⟨_, e1, o1⟩ := b.mono i c e o; a.mono i _ e1 o1⟩
theorem GoE.gr (h : Rel K F H σ ρ) (g : Gr F H F' H') : GoE K F H σ ρ F' H' ρ := ⟨.gr h g, fun _ b e o => ⟨b, e, o⟩⟩
theorem GoE.rel (a : GoE K F H σ ρ F' H' ρ') : Rel K F' H' σ ρ' := a.go.rel
theorem GoE.own (a : GoE K F H σ ρ F' H' ρ') {x : Addr} (h : ownA σ ρ' x) : ownA σ ρ x := by
  obtain ⟨i, b, e, o, s⟩ := h
  obtain ⟨c, e1, o1⟩ := a.mono i b e o
  exact ⟨i, c, e1, o1, s⟩
theorem own_live (h : Rel K F H σ ρ) {x : Addr} (o : ownA σ ρ x) : ∃ u, H x = some u ∧ F x = none := by
  obtain ⟨i, b, e, ob, s⟩ := o
  have := h.at_ i b e
  cases b with
  | no => cases ob
  | pin => cases ob
  | fn _ => cases ob
  | sh d => cases ob
  | ow ds =>
    obtain ⟨a, vs, e1, e2, e3, _⟩ := this
    rw [s] at e1
    cases e1
    exact ⟨_, e2, e3⟩
  | io ds =>
    obtain ⟨a, vs, e1, e2, e3, _⟩ := this
    rw [s] at e1
    cases e1
    exact ⟨_, e2, e3⟩
  | od t ds =>
    obtain ⟨a, e1, e3, d⟩ := this
    rw [s] at e1
    cases e1
    obtain ⟨u, e2, _⟩ := d.live
    exact ⟨u, e2, e3⟩
  | jd t ds =>
    obtain ⟨a, e1, e3, d⟩ := this
    rw [s] at e1
    cases e1
    obtain ⟨u, e2, _⟩ := d.live
    exact ⟨u, e2, e3⟩
theorem own_notb (h : Rel K F H σ ρ) {x : Addr} (o : ownA σ ρ x) : ∀ ps, H x ≠ some (.tbl ps) := by
  obtain ⟨i, b, e, ob, s⟩ := o
  have := h.at_ i b e
  intro ps z
  cases b with
  | no => cases ob
  | pin => cases ob
  | fn _ => cases ob
  | sh d => cases ob
  | ow ds =>
    obtain ⟨a, vs, e1, e2, e3, _⟩ := this
    rw [s] at e1
    cases e1
    rw [z] at e2
    cases e2
  | io ds =>
    obtain ⟨a, vs, e1, e2, e3, _⟩ := this
    rw [s] at e1
    cases e1
    rw [z] at e2
    cases e2
  | od t ds =>
    obtain ⟨a, e1, e3, d⟩ := this
    rw [s] at e1
    cases e1
    obtain ⟨u, e2, mu⟩ := d.live
    rw [z] at e2
    cases e2
    exact mu
  | jd t ds =>
    obtain ⟨a, e1, e3, d⟩ := this
    rw [s] at e1
    cases e1
    obtain ⟨u, e2, mu⟩ := d.live
    rw [z] at e2
    cases e2
    exact mu
/-- the own list of slot i is changed -/
def B.put : B → List D → B
  | .io _, ls => .io ls
  | _, ls => .ow ls
theorem put_own (b : B) (ls : List D) : (b.put ls).own = true := by cases b <;> rfl
theorem goE_putG {i : Nat} {b b' : B} {a : Addr} {o' : HO} (h : Rel K F H σ ρ) (hb : ρ[i]? = some b) (ob : b.own = true) (hs : σ[i]? = some (some (.ref a))) (ex : Ex F F') (in_ : Ex F' H')
    (keep : ∀ c o, H c = some o → NoTb o → c ≠ a → H' c = some o) (live : Lv H H') (tab : TbOk F' H') (hide : ∀ c, H c ≠ none → F c = none → F' c = none) (ha : H' a = some o') (ob' : b'.own = true) (r : F' a = none → BRel K F' H' σ[i]? b') (hio : b'.down.isSome = true → b.down = b'.down) : GoE K F H σ ρ F' H' (ρ.set i b') := by
  have hl : i < ρ.length := by
    rw [List.getElem?_eq_some_iff] at hb
    exact hb.1
  have hoa : ownA σ ρ a := ⟨i, b, hb, ob, hs⟩
  obtain ⟨vs0, ha0, hf0⟩ := own_live h hoa
  have hfa : F' a = none := hide a (by rw [ha0]; intro z; cases z) hf0
  have get : ∀ j c, (ρ.set i b')[j]? = some c → (j = i ∧ c = b') ∨ (j ≠ i ∧ ρ[j]? = some c) := by
    intro j c e
    by_cases hj : j = i
    · subst hj
      rw [List.getElem?_set_self hl] at e
      exact .inl ⟨rfl, (Option.some.inj e).symm⟩
    · rw [List.getElem?_set_ne (fun z => hj z.symm)] at e
      exact .inr ⟨hj, e⟩
  have mono : ∀ (j : Nat) (c : B), (ρ.set i b')[j]? = some c → c.own = true → ∃ c', ρ[j]? = some c' ∧ c'.own = true := by
    intro j c e o
    rcases get j c e with ⟨rfl, rfl⟩ | ⟨hj, e'⟩
    · exact ⟨b, hb, ob⟩
    · exact ⟨c, e', o⟩
  refine ⟨⟨⟨in_, by rw [List.length_set]; exact h.len, fun j c e => ?_, fun j k c d x e1 o1 e2 o2 s1 s2 => ?_, tab⟩, ex, fun c o e t n => ?_, live, fun c e f n => hide c e f, fun c o => ?_, fun j ds e => ?_, fun j e => ?_⟩, mono⟩
  · rcases get j c e with ⟨rfl, rfl⟩ | ⟨hj, e'⟩
    · exact r hfa
    · have := h.at_ j c e'
      have key : ∀ ds, OwnL K F H σ[j]? ds → c.own = true → OwnL K F' H' σ[j]? ds := by
        intro ds ⟨x, vs, e1, e2, e3, rr⟩ oc
        have hx : x ≠ a := fun z => by
          subst z
          exact hj (h.sep j i c b x e' oc hb ob e1 hs)
        exact ⟨x, vs, e1, keep x _ e2 (fun ps z => by cases z) hx, hide x (by rw [e2]; intro z; cases z) e3, rr.mono ex⟩
      have keyD : ∀ t ds, OwnD K F H σ[j]? t ds → c.own = true → OwnD K F' H' σ[j]? t ds := by
        intro t ds ⟨x, e1, e3, dd⟩ oc
        have hx : x ≠ a := fun z => by
          subst z
          exact hj (h.sep j i c b x e' oc hb ob e1 hs)
        obtain ⟨u, e2, _⟩ := dd.live
        exact ⟨x, e1, hide x (by rw [e2]; intro z; cases z) e3, dd.move ex fun u e n => keep x _ e n hx⟩
      cases c with
      | no => trivial
      | pin => trivial
      | fn w =>
        obtain ⟨v, e1, rr⟩ := this
        exact ⟨v, e1, FnT.mono ex rr⟩
      | sh d =>
        obtain ⟨v, e1, rr⟩ := this
        exact ⟨v, e1, rr.mono ex⟩
      | ow ds => exact key ds this rfl
      | io ds => exact key ds this rfl
      | od t ds => exact keyD t ds this rfl
      | jd t ds => exact keyD t ds this rfl
  · obtain ⟨c1, f1, p1⟩ := mono j c e1 o1
    obtain ⟨c2, f2, p2⟩ := mono k d e2 o2
    exact h.sep j k c1 c2 x f1 p1 f2 p2 s1 s2
  · exact keep c o e t fun z => n (by rw [z]; exact hoa)
  · obtain ⟨j, d, e, ob', s⟩ := o
    obtain ⟨c1, f1, p1⟩ := mono j d e ob'
    exact .inl ⟨j, c1, f1, p1, s⟩
  · intro hc
    rcases get j _ e with ⟨rfl, rfl⟩ | ⟨hj, e'⟩
    · exact ⟨⟨b, hb, hio hc⟩, rfl⟩
    · exact ⟨⟨_, e', rfl⟩, rfl⟩
  · rcases get j _ e with ⟨rfl, z⟩ | ⟨hj, e'⟩
    · rw [← z] at ob'
      cases ob'
    · exact ⟨e', rfl⟩
theorem goE_putB {i : Nat} {b b' : B} {a : Addr} {o' : HO} (h : Rel K F H σ ρ) (hb : ρ[i]? = some b) (ob : b.own = true) (hs : σ[i]? = some (some (.ref a))) (ex : Ex F F') (in_ : Ex F' H')
    (keep : ∀ c o, H c = some o → c ≠ a → H' c = some o) (hide : ∀ c, H c ≠ none → F c = none → F' c = none) (ha : H' a = some o') (ob' : b'.own = true) (r : F' a = none → BRel K F' H' σ[i]? b') (hio : b'.down.isSome = true → b.down = b'.down) : GoE K F H σ ρ F' H' (ρ.set i b') :=
  goE_putG h hb ob hs ex in_ (fun c o e _ n => keep c o e n) (fun c e => by
    by_cases hc : c = a
    · rw [hc, ha]; intro z; cases z
    · cases q : H c with
      | none => exact absurd q e
      | some o => rw [keep c o q hc]; intro z; cases z) (h.tab.to ex hide fun c ps e => keep c _ e fun z => own_notb h ⟨i, b, hb, ob, hs⟩ ps (by rw [← z]; exact e)) hide ha ob' r hio
theorem goE_putL {i : Nat} {b : B} {a : Addr} {xs' : List V} {ls' : List D} (h : Rel K F H σ ρ) (hb : ρ[i]? = some b) (ob : b.own = true) (hs : σ[i]? = some (some (.ref a))) (ex : Ex F F') (in_ : Ex F' H')
    (keep : ∀ c o, H c = some o → NoTb o → c ≠ a → H' c = some o) (live : Lv H H') (tab : TbOk F' H') (hide : ∀ c, H c ≠ none → F c = none → F' c = none) (ha : H' a = some (.lst xs')) (r : RpA K F' xs' ls') : GoE K F H σ ρ F' H' (ρ.set i (b.put ls')) :=
  goE_putG h hb ob hs ex in_ keep live tab hide ha (put_own b ls') (fun hf => by
    rw [hs]
    cases b with
    | no => cases ob
    | pin => cases ob
    | fn _ => cases ob
    | sh d => cases ob
    | ow ds => exact ⟨a, xs', rfl, ha, hf, r⟩
    | io ds => exact ⟨a, xs', rfl, ha, hf, r⟩
    | od t ds => exact ⟨a, xs', rfl, ha, hf, r⟩
    | jd t ds => exact ⟨a, xs', rfl, ha, hf, r⟩) fun z => by
    cases b with
    | io ds0 => rfl
    | no => cases ob
    | pin => cases ob
    | fn _ => cases ob
    | sh d => cases ob
    | ow ds0 => cases z
    | od t ds => cases z
    | jd t ds => cases z
theorem goE_put {i : Nat} {b : B} {a : Addr} {xs' : List V} {ls' : List D} (h : Rel K F H σ ρ) (hb : ρ[i]? = some b) (ob : b.own = true) (hs : σ[i]? = some (some (.ref a))) (ex : Ex F F') (in_ : Ex F' H')
    (keep : ∀ c o, H c = some o → c ≠ a → H' c = some o) (hide : ∀ c, H c ≠ none → F c = none → F' c = none) (ha : H' a = some (.lst xs')) (r : RpA K F' xs' ls') : GoE K F H σ ρ F' H' (ρ.set i (b.put ls')) :=
  goE_putB h hb ob hs ex in_ keep hide ha (put_own b ls') (fun hf => by
    rw [hs]
    cases b with
    | no => cases ob
    | pin => cases ob
    | fn _ => cases ob
    | sh d => cases ob
    | ow ds => exact ⟨a, xs', rfl, ha, hf, r⟩
    | io ds => exact ⟨a, xs', rfl, ha, hf, r⟩
    | od t ds => exact ⟨a, xs', rfl, ha, hf, r⟩
    | jd t ds => exact ⟨a, xs', rfl, ha, hf, r⟩) fun z => by
    cases b with
    | io ds0 => rfl
    | no => cases ob
    | pin => cases ob
    | fn _ => cases ob
    | sh d => cases ob
    | ow ds0 => cases z
    | od t ds => cases z
    | jd t ds => cases z
end
def SX (K : PySem.W.Frag) (t : TE) (f : Fm → Option (D × Fm)) : Prop := ∀ F H σ ρ d ρ', f ρ = some (d, ρ') → Rel K F H σ ρ → ∀ Q : VK, (∀ v F' H', GoE K F H σ ρ F' H' ρ' → Rp K F' v d → Q v H') → t σ H Q
def SXB (K : PySem.W.Frag) (t : TT) (f : Fm → Option (Bool × Fm)) : Prop := ∀ F H σ ρ b ρ', f ρ = some (b, ρ') → Rel K F H σ ρ → ∀ Q : Bool → Hp → Prop, (∀ F' H', GoE K F H σ ρ F' H' ρ' → Q b H') → t σ H Q
def SXA (K : PySem.W.Frag) (t : TA) (f : Fm → Option (List D × Fm)) : Prop := ∀ F H σ ρ ds ρ', f ρ = some (ds, ρ') → Rel K F H σ ρ → ∀ Q : List V → Hp → Prop, (∀ vs F' H', GoE K F H σ ρ F' H' ρ' → RpA K F' vs ds → Q vs H') → t σ H Q
def XE (X : Cx) (e : Expr) (f : Fm → Option (D × Fm)) : Prop := ∃ t, PE X e t ∧ SX X.K t f
def XB (X : Cx) (e : Expr) (f : Fm → Option (Bool × Fm)) : Prop := ∃ t, PT X e t ∧ SXB X.K t f
def XA (X : Cx) (es : List Expr) (f : Fm → Option (List D × Fm)) : Prop := ∃ t, PA X es t ∧ SXA X.K t f ∧ ∀ ρ ds ρ', f ρ = some (ds, ρ') → ds.length = es.length
/-! ### from plain to effect -/
def up {α : Type} (f : Fm → Option α) (ρ : Fm) : Option (α × Fm) := (f ρ).map fun d => (d, ρ)
section
variable {X : Cx} {e a b c : Expr} {es : List Expr} {pos p : Pos} {fe fa fb fc : Fm → Option D} {ft fu : Fm → Option Bool} {fs : Fm → Option (List D)} {ge ga gb : Fm → Option (D × Fm)} {gt gu : Fm → Option (Bool × Fm)} {gs : Fm → Option (List D × Fm)}
theorem up_some {α : Type} {f : Fm → Option α} {ρ ρ' : Fm} {d : α} (h : up f ρ = some (d, ρ')) : f ρ = some d ∧ ρ = ρ' := by
  obtain ⟨x, e1, e2⟩ := Option.map_eq_some_iff.mp h
  cases e2
  exact ⟨e1, rfl⟩
theorem PP.xe (h : PP X e fe) : XE X e (up fe) := let ⟨t, h1, h2⟩ := h; ⟨t, h1, fun F H σ ρ d ρ' hf hR Q k => by
  obtain ⟨e1, rfl⟩ := up_some hf
  exact h2 F H σ ρ d e1 hR _ fun v F' H' g r => k v F' H' (.gr hR g) r⟩
theorem PB.xb (h : PB X e ft) : XB X e (up ft) := let ⟨t, h1, h2⟩ := h; ⟨t, h1, fun F H σ ρ d ρ' hf hR Q k => by
  obtain ⟨e1, rfl⟩ := up_some hf
  exact h2 F H σ ρ d e1 hR _ fun F' H' g => k F' H' (.gr hR g)⟩
theorem PAs.xa (h : PAs X es fs) : XA X es (up fs) := let ⟨t, h1, h2, h3⟩ := h; ⟨t, h1, fun F H σ ρ d ρ' hf hR Q k => by
  obtain ⟨e1, rfl⟩ := up_some hf
  exact h2 F H σ ρ d e1 hR _ fun v F' H' g r => k v F' H' (.gr hR g) r, fun ρ ds ρ' h => h3 ρ ds (up_some h).1⟩
/-! ### operators with effects -/
def xOp2 (g : D → D → Option D) (fa fb : Fm → Option (D × Fm)) (ρ : Fm) : Option (D × Fm) := (fa ρ).bind fun x => (fb x.2).bind fun y => (g x.1 y.1).map fun z => (z, y.2)
def xOp1 (g : D → Option D) (fa : Fm → Option (D × Fm)) (ρ : Fm) : Option (D × Fm) := (fa ρ).bind fun x => (g x.1).map fun z => (z, x.2)
theorem sx_op2 {K : PySem.W.Frag} {ta tb : TE} {r : R2} {g : D → D → Option D} (hr : ∀ F H x y dx dy dz, Ex F H → Vw K F H x dx → Vw K F H y dy → g dx dy = some dz → ∀ Q : VK, Res K F H dz Q → r x y H Q)
    (ha : SX K ta ga) (hb : SX K tb gb) : SX K (tOp r ta tb) (xOp2 g ga gb) := by
  intro F H σ ρ d ρ' hf hR Q k
  obtain ⟨⟨dx, ρ1⟩, h1, hf⟩ := Option.bind_eq_some_iff.mp hf
  obtain ⟨⟨dy, ρ2⟩, h2, hf⟩ := Option.bind_eq_some_iff.mp hf
  obtain ⟨dz, h3, hf⟩ := Option.map_eq_some_iff.mp hf
  cases hf
  refine ha F H σ ρ dx ρ1 h1 hR _ fun x F1 H1 g1 r1 => ?_
  refine hb F1 H1 σ ρ1 dy ρ2 h2 g1.rel _ fun y F2 H2 g2 r2 => ?_
  exact hr F2 H2 x y dx dy d g2.rel.ex (.inl (r1.mono g2.go.ex)) (.inl r2) h3 Q fun v F3 H3 g3 r3 => k v F3 H3 ((g1.trans g2).trans (.gr g2.rel g3)) r3
theorem x_op2 {op : Operator} {r : R2} {g : D → D → Option D} (ho : OpR X (binaryOp op) r) (hr : ∀ F H x y dx dy dz, Ex F H → Vw X.K F H x dx → Vw X.K F H y dy → g dx dy = some dz → ∀ Q : VK, Res X.K F H dz Q → r x y H Q)
    (ha : XE X a ga) (hb : XE X b gb) : XE X (.BinOp a op b pos) (xOp2 g ga gb) := let ⟨_, h1, h2⟩ := ha; let ⟨_, h3, h4⟩ := hb; ⟨_, pe_op ho h1 h3, sx_op2 hr h2 h4⟩
theorem x_add (ha : XE X a ga) (hb : XE X b gb) : XE X (.BinOp a .Add b pos) (xOp2 gAdd ga gb) := x_op2 op_addAny vw_add ha hb
theorem x_sub (ha : XE X a ga) (hb : XE X b gb) : XE X (.BinOp a .Sub b pos) (xOp2 gSub ga gb) := x_op2 op_sub vw_I20 ha hb
def XCm (X : Cx) (op : CmpOp) (a b : Expr) (f : Fm → Option (D × Fm)) : Prop := ∃ (r : R2) (ta tb : TE), OpR X (compareOp op) r ∧ PE X a ta ∧ PE X b tb ∧ SX X.K (tOp r ta tb) f
theorem xc_of {op : CmpOp} {r : R2} {g : D → D → Option D} (ho : OpR X (compareOp op) r) (hr : ∀ F H x y dx dy dz, Ex F H → Vw X.K F H x dx → Vw X.K F H y dy → g dx dy = some dz → ∀ Q : VK, Res X.K F H dz Q → r x y H Q)
    (ha : XE X a ga) (hb : XE X b gb) : XCm X op a b (xOp2 g ga gb) := let ⟨ta, h1, h2⟩ := ha; let ⟨tb, h3, h4⟩ := hb; ⟨r, ta, tb, ho, h1, h3, sx_op2 hr h2 h4⟩
theorem xc_eq {k : Nat} (hr : Room k X.A) (ha : XE X a ga) (hb : XE X b gb) : XCm X .Eq a b (xOp2 gEq ga gb) := xc_of (op_eqD hr.units) vw_eq ha hb
theorem xc_ne {k : Nat} (hr : Room k X.A) (ha : XE X a ga) (hb : XE X b gb) : XCm X .NotEq a b (xOp2 gNe ga gb) := xc_of (op_neD hr.units) vw_ne ha hb
theorem xc_lt {k : Nat} (hr : Room k X.A) (ha : XE X a ga) (hb : XE X b gb) : XCm X .Lt a b (xOp2 gLt ga gb) := xc_of (op_ltD hr.units) (vw_ord fun _ _ => rfl) ha hb
theorem xc_gt {k : Nat} (hr : Room k X.A) (ha : XE X a ga) (hb : XE X b gb) : XCm X .Gt a b (xOp2 gGt ga gb) := xc_of (op_gtD hr.units) (vw_ord fun _ _ => rfl) ha hb
def xBl (f : Fm → Option (D × Fm)) (ρ : Fm) : Option (Bool × Fm) := match f ρ with
  | some (.bool b, ρ') => some (b, ρ')
  | _ => none
theorem xBl_some {f : Fm → Option (D × Fm)} {ρ ρ' : Fm} {b : Bool} (h : xBl f ρ = some (b, ρ')) : f ρ = some (.bool b, ρ') := by
  unfold xBl at h
  split at h
  · rename_i e
    cases h
    exact e
  · cases h
theorem xt_cmp {op : CmpOp} (h : XCm X op a b ge) (hm : behindInMarks op b = false := by first | exact nomark _ | rfl | (with_unfolding_all rfl)) : XB X (.Compare a [op] [b] pos) (xBl ge) :=
  let ⟨_, _, _, h1, h2, h3, h4⟩ := h
  ⟨_, pt_cmpR h1 h2 h3 hm, fun F H σ ρ b ρ' hf hR Q k => h4 F H σ ρ _ ρ' (xBl_some hf) hR _ fun v F' H' g r => ⟨b, r.blI, k F' H' g⟩⟩
theorem xd_cmp {op : CmpOp} (h : XCm X op a b ge) (hm : behindInMarks op b = false := by first | exact nomark _ | rfl | (with_unfolding_all rfl)) : XE X (.Compare a [op] [b] pos) ge :=
  let ⟨_, _, _, h1, h2, h3, h4⟩ := h
  ⟨_, pe_cmpR h1 h2 h3 hm, h4⟩
theorem xt_val (h : XE X e ge) (he : ∀ whole, isTrue e X.env whole = (do let v ← whole; standAt e.pos; holding [v] (truthy v)) := by intro _; rfl) : XB X e (xBl ge) :=
  let ⟨_, h1, h2⟩ := h
  ⟨_, pt_val h1 he, fun F H σ ρ b ρ' hf hR Q k => h2 F H σ ρ _ ρ' (xBl_some hf) hR _ fun v F' H' g r => ⟨b, r.blI, k F' H' g⟩⟩
def xNot (f : Fm → Option (Bool × Fm)) (ρ : Fm) : Option (Bool × Fm) := (f ρ).map fun x => (!x.1, x.2)
def xAnd (f g : Fm → Option (Bool × Fm)) (ρ : Fm) : Option (Bool × Fm) := (f ρ).bind fun x => if x.1 = true then g x.2 else some (false, x.2)
def xOr (f g : Fm → Option (Bool × Fm)) (ρ : Fm) : Option (Bool × Fm) := (f ρ).bind fun x => if x.1 = true then some (true, x.2) else g x.2
theorem sx_and {K : PySem.W.Frag} {t u : TT} (h : SXB K t gt) (h' : SXB K u gu) : SXB K (tAnd t u) (xAnd gt gu) := by
  intro F H σ ρ b ρ' hf hR Q k
  obtain ⟨⟨b1, ρ1⟩, h1, h2⟩ := Option.bind_eq_some_iff.mp hf
  refine h F H σ ρ _ ρ1 h1 hR _ fun F' H' g => ?_
  split at h2
  · rename_i e
    rw [if_pos e]
    exact h' F' H' σ ρ1 b ρ' h2 g.rel _ fun F2 H2 g2 => k F2 H2 (g.trans g2)
  · rename_i e
    rw [if_neg e]
    cases h2
    exact k F' H' g
theorem sx_or {K : PySem.W.Frag} {t u : TT} (h : SXB K t gt) (h' : SXB K u gu) : SXB K (tOr t u) (xOr gt gu) := by
  intro F H σ ρ b ρ' hf hR Q k
  obtain ⟨⟨b1, ρ1⟩, h1, h2⟩ := Option.bind_eq_some_iff.mp hf
  refine h F H σ ρ _ ρ1 h1 hR _ fun F' H' g => ?_
  split at h2
  · rename_i e
    rw [if_pos e]
    cases h2
    exact k F' H' g
  · rename_i e
    rw [if_neg e]
    exact h' F' H' σ ρ1 b ρ' h2 g.rel _ fun F2 H2 g2 => k F2 H2 (g.trans g2)
theorem xt_not (h : XB X a gt) : XB X (.UnaryOp .Not a pos) (xNot gt) := let ⟨_, h1, h2⟩ := h; ⟨_, pt_not h1, fun F H σ ρ b ρ' hf hR Q k => by
  obtain ⟨⟨b1, ρ1⟩, e1, e2⟩ := Option.map_eq_some_iff.mp hf
  cases e2
  exact h2 F H σ ρ _ ρ1 e1 hR _ fun F' H' g => k F' H' g⟩
def XWb (X : Cx) (e : Expr) (f : Fm → Option (Bool × Fm)) : Prop := ∃ t, PW X e t ∧ SXB X.K t f
theorem xw_and1 (h : XB X a gt) : XWb X (.BoolOp .And [a] pos) gt := let ⟨_, h1, h2⟩ := h; ⟨_, pw_and1 h1, h2⟩
theorem xw_or1 (h : XB X a gt) : XWb X (.BoolOp .Or [a] pos) gt := let ⟨_, h1, h2⟩ := h; ⟨_, pw_or1 h1, h2⟩
theorem xw_and {rest : List Expr} (h : XB X a gt) (h' : XWb X (.BoolOp .And (b :: rest) pos) gu) : XWb X (.BoolOp .And (a :: b :: rest) pos) (xAnd gt gu) := let ⟨_, h1, h2⟩ := h; let ⟨_, h3, h4⟩ := h'; ⟨_, pw_and h1 h3, sx_and h2 h4⟩
theorem xw_or {rest : List Expr} (h : XB X a gt) (h' : XWb X (.BoolOp .Or (b :: rest) pos) gu) : XWb X (.BoolOp .Or (a :: b :: rest) pos) (xOr gt gu) := let ⟨_, h1, h2⟩ := h; let ⟨_, h3, h4⟩ := h'; ⟨_, pw_or h1 h3, sx_or h2 h4⟩
theorem XWb.xb (h : XWb X a gt) : XB X a gt := let ⟨_, h1, h2⟩ := h; ⟨_, h1.pt, h2⟩
def xIf (c : Fm → Option (Bool × Fm)) (f g : Fm → Option (D × Fm)) (ρ : Fm) : Option (D × Fm) := (c ρ).bind fun x => if x.1 = true then f x.2 else g x.2
theorem x_if (hc : XB X c gt) (ha : XE X a ga) (hb : XE X b gb) : XE X (.IfExp c a b pos) (xIf gt ga gb) := by
  obtain ⟨_, h1, h2⟩ := hc
  obtain ⟨_, h3, h4⟩ := ha
  obtain ⟨_, h5, h6⟩ := hb
  refine ⟨_, pe_ifExp h1 h3 h5, fun F H σ ρ d ρ' hf hR Q k => ?_⟩
  obtain ⟨⟨b1, ρ1⟩, e1, e2⟩ := Option.bind_eq_some_iff.mp hf
  refine h2 F H σ ρ _ ρ1 e1 hR _ fun F' H' g => ?_
  split at e2
  · rename_i e
    rw [if_pos e]
    exact h4 F' H' σ ρ1 d ρ' e2 g.rel _ fun v F2 H2 g2 r => k v F2 H2 (g.trans g2) r
  · rename_i e
    rw [if_neg e]
    exact h6 F' H' σ ρ1 d ρ' e2 g.rel _ fun v F2 H2 g2 r => k v F2 H2 (g.trans g2) r
def xCons (f : Fm → Option (D × Fm)) (g : Fm → Option (List D × Fm)) (ρ : Fm) : Option (List D × Fm) := (f ρ).bind fun x => (g x.2).map fun y => (x.1 :: y.1, y.2)
theorem xa_nil : XA X [] (up fNil) := PAs.xa as_nil
theorem xa_cons (h : XE X e ge) (hr : XA X es gs) (hs : starEach (e :: es) X.env = (false, eval e X.env) :: starEach es X.env := by rfl) : XA X (e :: es) (xCons ge gs) := by
  obtain ⟨_, h1, h2⟩ := h
  obtain ⟨_, h3, h4, h5⟩ := hr
  refine ⟨_, pa_cons h1 h3 hs, fun F H σ ρ ds ρ' hf hR Q k => ?_, fun ρ ds ρ' h => ?_⟩
  · obtain ⟨⟨d, ρ1⟩, e1, e2⟩ := Option.bind_eq_some_iff.mp hf
    obtain ⟨⟨r, ρ2⟩, e3, e4⟩ := Option.map_eq_some_iff.mp e2
    cases e4
    refine h2 F H σ ρ _ ρ1 e1 hR _ fun v F1 H1 g1 r1 => ?_
    refine h4 F1 H1 σ ρ1 _ ρ2 e3 g1.rel _ fun vs F2 H2 g2 r2 => ?_
    exact k _ F2 H2 (g1.trans g2) (.cons (r1.mono g2.go.ex) r2)
  · obtain ⟨⟨d, ρ1⟩, e1, e2⟩ := Option.bind_eq_some_iff.mp h
    obtain ⟨⟨r, ρ2⟩, e3, e4⟩ := Option.map_eq_some_iff.mp e2
    cases e4
    rw [List.length_cons, List.length_cons, h5 _ _ _ e3]
def xTup (f : Fm → Option (List D × Fm)) (ρ : Fm) : Option (D × Fm) := (f ρ).bind fun x => if x.1.length ≤ bigN then some (.tuple x.1, x.2) else none
def xLst (f : Fm → Option (List D × Fm)) (ρ : Fm) : Option (D × Fm) := (f ρ).bind fun x => if x.1.length ≤ bigN then some (.list x.1, x.2) else none
theorem x_tup {x1} (h : XA X es gs) : XE X (.Tuple es x1 pos) (xTup gs) := by
  obtain ⟨t, h1, h2, _⟩ := h
  refine ⟨_, pe_tupZ h1, fun F H σ ρ d ρ' hf hR Q k => ?_⟩
  obtain ⟨⟨ds, ρ1⟩, e1, e2⟩ := Option.bind_eq_some_iff.mp hf
  split at e2
  · rename_i hz
    cases e2
    refine h2 F H σ ρ _ ρ1 e1 hR _ fun vs F1 H1 g1 r1 => ⟨?_, fun p ob ho hp => ?_⟩
    · rw [r1.length]
      exact Nat.le_trans hz big_le
    · have g2 := Gr.new (o := .frz ob (.tup vs)) g1.rel.ex hp
      exact k _ _ _ (g1.trans (.gr g1.rel g2)) (.tup ⟨ob, upd_same, ho⟩ (r1.mono g2.ex))
  · cases e2
theorem x_lst (h : XA X es gs) : XE X (.List es pos) (xLst gs) := by
  obtain ⟨t, h1, h2, _⟩ := h
  refine ⟨_, pe_lst h1, fun F H σ ρ d ρ' hf hR Q k => ?_⟩
  obtain ⟨⟨ds, ρ1⟩, e1, e2⟩ := Option.bind_eq_some_iff.mp hf
  split at e2
  · rename_i hz
    cases e2
    refine h2 F H σ ρ _ ρ1 e1 hR _ fun vs F1 H1 g1 r1 => ⟨?_, fun p hp => ?_⟩
    · rw [r1.length]
      exact Nat.le_trans hz big_le
    · have g2 := Gr.new (o := .lst vs) g1.rel.ex hp
      exact k _ _ _ (g1.trans (.gr g1.rel g2)) (.lst (.inl (.inl upd_same)) (r1.mono g2.ex))
  · cases e2
theorem x_ix (ha : XE X a ga) (hb : XE X b gb) (hs : PlainIx b := by exact fun _ _ => rfl) : XE X (.Subscript a b pos) (xOp2 gIx ga gb) := let ⟨_, h1, h2⟩ := ha; let ⟨_, h3, h4⟩ := hb; ⟨_, pe_ix ix_seq h1 h3 hs, sx_op2 vw_ix h2 h4⟩
theorem x_t1 {x : Str} {T : String} {r : List V → Hp → VK → Prop} {g : D → Option D} (hc : CallR X (.type T) r) (hv : bootBuiltins x = some (.type T)) (hr : ∀ F H x dx dz, Ex F H → Vw X.K F H x dx → g dx = some dz → ∀ Q : VK, Res X.K F H dz Q → r [x] H Q)
    (hg : Gl X x) (hm : X.mg x = none) (ha : XE X e ge) (hn : x ≠ "__name__") (hdb : (x == ("__debug__" : Str)) = false)
    (hs : starEach [e] X.env = (false, eval e X.env) :: starEach [] X.env) : XE X (.Call (.Name x p) [e] [] pos) (xOp1 g ge) := by
  obtain ⟨_, h1, h2⟩ := ha
  refine ⟨_, pe_callTy hc hg hm hv (pa_cons h1 pa_nil hs) hn hdb hs rfl, fun F H σ ρ d ρ' hf hR Q k => ?_⟩
  obtain ⟨⟨dx, ρ1⟩, e1, e2⟩ := Option.bind_eq_some_iff.mp hf
  obtain ⟨dz, e3, e4⟩ := Option.map_eq_some_iff.mp e2
  cases e4
  exact h2 F H σ ρ _ ρ1 e1 hR _ fun v F1 H1 g1 r1 => hr F1 H1 v dx d g1.rel.ex (.inl r1) e3 Q fun w F2 H2 g2 r2 => k w F2 H2 (g1.trans (.gr g1.rel g2)) r2
theorem x_tuple (B : Bt X.mg) (ha : XE X e ge) (hg : Gl X "tuple" := by rfl) (hs : starEach [e] X.env = (false, eval e X.env) :: starEach [] X.env := by rfl) : XE X (.Call (.Name "tuple" p) [e] [] pos) (xOp1 gTuple ge) :=
  x_t1 call_tupleZ PyProof.Rows.boot_tuple vw_tuple hg B.tuple ha (by decide) (by decide) hs
/-! ### calls with effects -/
def xCall (g : List D → Option D) (fs : Fm → Option (List D × Fm)) (ρ : Fm) : Option (D × Fm) := (fs ρ).bind fun x => (g x.1).map fun d => (d, x.2)
theorem x_call {k n : Nat} {x : Str} {f : Addr} {fd : FuncData} {ps : List Str} {g : List D → Option D} (G : FnOk X.prog X.w X.K X.mg X.base CX0 k f fd ps (spP X.K g n)) (hr : Room k X.A) (hm : X.mg x = some (.ref f)) (hk : PySem.W.keepIn X.K (.ref f) = true) (hb : Binds X.K fd ps [])
    (ha : XA X (e :: es) gs) (hn : n = (e :: es).length := by rfl) (hg : Gl X x := by rfl) (hdb : (x == ("__debug__" : Str)) = false := by decide) (he : starEach (e :: es) X.env = (false, eval e X.env) :: starEach es X.env := by rfl) (hpl : (backTo pos (starEach es X.env)).any (·.1) = false := by rfl) :
    XE X (.Call (.Name x p) (e :: es) [] pos) (xCall g gs) := by
  obtain ⟨t, h1, h2, h3⟩ := ha
  refine ⟨_, pe_call G hr hg hm hk hb .nil pass0 h1 hdb he hpl, fun F H σ ρ d ρ' hf hR Q q => ?_⟩
  obtain ⟨⟨ds, ρ1⟩, e1, e2⟩ := Option.bind_eq_some_iff.mp hf
  obtain ⟨dz, e3, e4⟩ := Option.map_eq_some_iff.mp e2
  cases e4
  refine h2 F H σ ρ _ ρ1 e1 hR _ fun vs F1 H1 g1 r1 => ?_
  rw [List.append_nil]
  exact ⟨by rw [r1.length, hn]; exact h3 _ _ _ e1, F1, ds, d, ⟨g1.rel.ex, g1.rel.tab⟩, r1, e3, fun v F2 H2 g2 r2 => q v F2 H2 (g1.trans (.gr g1.rel g2)) r2⟩
def ownOf : B → Option (List D)
  | .ow ls => some ls
  | .io ls => some ls
  | _ => none
/-- f(row, ..): the row in slot i is handed down -/
def xCallI (i : Nat) (g : List D → List D → Option (D × List D)) (fs : Fm → Option (List D × Fm)) (ρ : Fm) : Option (D × Fm) := (ρ[i]?).bind fun b0 => (ownOf b0).bind fun _ => (fs ρ).bind fun x => (x.2[i]?).bind fun b => (ownOf b).bind fun ls => (g ls x.1).map fun y => (y.1, x.2.set i (b.put y.2))
theorem own_ofB {b : B} {ls : List D} (h : ownOf b = some ls) : b.own = true := by cases b <;> first | rfl | cases h
theorem at_own {K : PySem.W.Frag} {F H : Hp} {σ : L2.St} {ρ : Fm} (hR : Rel K F H σ ρ) {i : Nat} {b : B} {ls : List D} (e : ρ[i]? = some b) (h : ownOf b = some ls) : OwnL K F H σ[i]? ls := by
  have := hR.at_ i b e
  cases b <;> cases h <;> exact this
theorem x_callI {k n i : Nat} {x y : Str} {q : Pos} {f : Addr} {fd : FuncData} {ps : List Str} {g : List D → List D → Option (D × List D)} (G : FnOk X.prog X.w X.K X.mg X.base CX0 k f fd ps (spI X.K g n)) (hr : Room k X.A) (hm : X.mg x = some (.ref f)) (hk : PySem.W.keepIn X.K (.ref f) = true) (hb : Binds X.K fd ps [])
    (hv : PE X (.Name y q) (tVar i)) (ha : XA X es gs) (hn : n = es.length := by rfl) (hg : Gl X x := by rfl) (hdb : (x == ("__debug__" : Str)) = false := by decide) (he : starEach (.Name y q :: es) X.env = (false, eval (.Name y q) X.env) :: starEach es X.env := by rfl) (hpl : (backTo pos (starEach es X.env)).any (·.1) = false := by rfl) :
    XE X (.Call (.Name x p) (.Name y q :: es) [] pos) (xCallI i g gs) := by
  obtain ⟨t, h1, h2, h3⟩ := ha
  refine ⟨_, pe_call G hr hg hm hk hb .nil pass0 (pa_cons hv h1 he) hdb he hpl, fun F H σ ρ d ρ' hf hR Q q => ?_⟩
  obtain ⟨b0, e01, hf⟩ := Option.bind_eq_some_iff.mp hf
  obtain ⟨ls0, e02, hf⟩ := Option.bind_eq_some_iff.mp hf
  obtain ⟨⟨ds, ρ1⟩, e1, e2⟩ := Option.bind_eq_some_iff.mp hf
  obtain ⟨b, e3, e4⟩ := Option.bind_eq_some_iff.mp e2
  obtain ⟨ls, e5, e6⟩ := Option.bind_eq_some_iff.mp e4
  obtain ⟨⟨dz, ls'⟩, e7, e8⟩ := Option.map_eq_some_iff.mp e6
  cases e8
  obtain ⟨a0, vs0, s0, _, _, _⟩ := at_own hR e01 e02
  refine ⟨.ref a0, s0, ?_⟩
  refine h2 F H σ ρ _ ρ1 e1 hR _ fun us F1 H1 g1 r1 => ?_
  show spI X.K g n (V.ref a0 :: us ++ []) H1 Q E0
  rw [List.append_nil]
  obtain ⟨a, vs, s1, ha1, hf1, rl⟩ := at_own g1.rel e3 e5
  rw [s0] at s1
  cases s1
  refine ⟨by rw [List.length_cons, r1.length, hn, h3 _ _ _ e1], F1, a0, vs, ls, us, ds, dz, ls', rfl, ⟨g1.rel.ex, g1.rel.tab⟩, ha1, hf1, rl, r1, e7, fun v F2 H2 xs' ex in_ kp hd lv ha2 rl2 rv => ?_⟩
  exact q v F2 H2 (g1.trans (goE_putL g1.rel e3 (own_ofB e5) s0 ex in_.1 kp lv in_.2 hd ha2 rl2)) rv
end
end DL
end
section
set_option Elab.async false
set_option linter.all false
set_option maxRecDepth 100000
namespace PySem
open Sem (wp)
open AutoSeq1 (wpAny_loadPart')
set_option maxHeartbeats 1000000 in
theorem meets_enumerate_newB1 {v : Value} {o : Obj} {H : Heap → Prop} (B : Begins v o H) :
    Meets (Builtin.«enumerate.__new__» ⟨[.type "enumerate", v], []⟩) (fun _ R s => H s.heap ∧
      R (.ok (.ret (.ref (s.heap.push o).objs.size))) { s with heap := (s.heap.push o).push { cls := .type "enumerate", data := .fields #[.none, .bool false, .ref s.heap.objs.size, rawInt 0, .none, .none] } }) :=
  .of_wp fun prog w A R s h => by
    obtain ⟨hp, g, d, tk, os⟩ := s; obtain ⟨h1, h⟩ := h
    have hsub := sub_enumerate
    have q1 : ∀ {A' : Around} {E : Value → Shared → Prop} {Q : Value → Shared → Prop}, Q (.ref hp.objs.size) ⟨hp.push o, g, d, tk, os⟩ → wpAny (model prog w) A' (pyIter v) Q E ⟨hp, g, d, tk, os⟩ :=
      fun q => B.iter prog w _ _ ⟨hp, g, d, tk, os⟩ _ h1 q
    wp_walk using q1
    refine wpAny_stack_any fun st => wpAny_pure ?_
    split
    · rename_i c _ _ _ _ _
      cases (c == Value.type "enumerate")
      · wp_walk using q1
        exact ⟨_, rfl, h⟩
      · wp_walk using q1
        exact ⟨_, rfl, h⟩
    · wp_walk using q1
      exact ⟨_, rfl, h⟩
section
variable {prog : Program} {w : World} {A : Around} {E : Value → Shared → Prop} {s : Shared}
theorem enum_begins1 {v : Value} {o : Obj} {H : Heap → Prop} {Q : Value → Shared → Prop} (B : Begins v o H) (h1 : H s.heap)
    (h : ∀ h', IsEnum h' (s.heap.objs.size + 1) s.heap.objs.size 0 .none → h'.get? s.heap.objs.size = some o → h'.objs.size = s.heap.objs.size + 2 →
      (∀ b o, s.heap.get? b = some o → h'.get? b = some o) → Q (.ref (s.heap.objs.size + 1)) { s with heap := h' }) :
    wpAny (model prog w) A (call (.type "enumerate") [v]) Q E s := by
  refine callType_new F.called_enumerate (by decide) (F.typeCall_enumerate_1 _) (F.newCall_enumerate_1 _) (fun obj => F.args_object_init_2 obj _) F.entry_enumerate_new
    (meets_enumerate_newB1 B) ⟨h1, ?_⟩
  have hz : (s.heap.push o).objs.size = s.heap.objs.size + 1 := Heap.size_push ..
  show _ ∧ _
  rw [hz]
  have he : IsEnum ((s.heap.push o).push { cls := .type "enumerate", data := .fields #[.none, .bool false, .ref s.heap.objs.size, rawInt 0, .none, .none] }) (s.heap.objs.size + 1) s.heap.objs.size 0 .none := by
    have := Heap.get?_push_size (s.heap.push o) (o := { cls := .type "enumerate", data := .fields #[.none, .bool false, .ref s.heap.objs.size, rawInt 0, .none, .none] }) rfl
    rw [hz] at this; exact this
  refine ⟨⟨_, he, rfl⟩, h _ he (Heap.get?_push_of_some _ (Heap.get?_push_size _ B.free)) (by rw [Heap.size_push, hz]) fun b o x => Heap.get?_push_of_some _ (Heap.get?_push_of_some _ x)⟩
theorem enumT_end {e it l : Addr} {i : Nat} {items : Array Value} {old : Value} {Q : Option Value → Shared → Prop} (hh : A.handled = none)
    (he : IsEnum s.heap e it i old) (hit : s.heap.IsTupleIter it l i) (hl : s.heap.IsTuple l items) (hx : items[i]? = none)
    (hQ : ∀ h', Heap.ExtBut it s.heap h' → Q none { s with heap := h' }) : wpAny (model prog w) A (pyNext (.ref e)) Q E s := by
  have hT : s.TypeIs (.ref e) "enumerate" := ⟨_, he, rfl⟩
  unfold pyNext
  refine wpAny_bind (wpAny_attempt (wpAny_callSpecial?_slot (name := Str.ofString "__next__") hT F.slot_enumerate_next
    (wpAny_call_entry F.slot_enumerate_next hT F.entry_enumerate_next ?_ (F.args_enumerate_next_1 _))))
  show wpAny _ _ (field (.ref e) 2 >>= _) _ _ _
  refine wpAny_bind (wpAny_field he rfl (x := .ref it) rfl ?_)
  refine wpAny_bind (wpAny_nextOf_tuple_end hh hit hl hx fun h' x he' hx' => ?_)
  obtain ⟨o, ho, hc⟩ := hx'
  refine wpAny_bind (wpAny_isInstance (T := "StopIteration") (b := true) ⟨o, ho, hc⟩ isSubtype_stop ?_)
  exact wpAny_pure (hQ _ he')
end
end PySem
namespace DL
open PySem PySem.Spec PyProof.Rows L2
variable [TabT] [FnT]
theorem isTup_tuple {h : Heap} {a : Addr} {its : Array Value} (x : IsTup h a its) : h.IsTuple a its := x
/-- the tuple at a, each item in a new pair -/
def Itet (K : PySem.W.Frag) (a : Addr) : It :=
  ⟨fun i H => ∃ (xs : List V) (x : V), SqT K H a xs ∧ xs[i]? = some x, fun i H v H' => ∃ (T : Addr) (x : V) (ob : Obj), v = .ref T ∧ H T = none ∧ ob.dict = none ∧ H' = upd H T (.frz ob (.tup [.int (i : Nat), x])) ∧ ∀ xs, SqT K H a xs → xs[i]? = some x, fun i H => ∃ xs : List V, SqT K H a xs ∧ xs.length ≤ i⟩
theorem turn_enumT {P : Program} {w : World} {K : PySem.W.Frag} {elts : List Expr} {kk : Nat} {tpos : Pos} (a e it : Addr) :
    Turn P w K (.Tuple elts kk tpos) (Itet K a) [e, it] e (fun i h => (∃ old, IsEnum h e it ((i : Nat) : Int) old) ∧ h.IsTupleIter it a i ∧ e ≠ it ∧ a ≠ it ∧ a ≠ e) where
  mem := by simp
  obj := fun i h st b hb => by
    obtain ⟨⟨old, he⟩, ⟨o, ho, hc, hd⟩, _⟩ := st
    have e' : b = e ∨ b = it := by simpa using hb
    rcases e' with z | z
    · rw [z]; exact ⟨_, he, fun v q => nomatch q⟩
    · rw [z]; exact ⟨o, ho, fun v q => by rw [hd] at q; cases q⟩
  keep := fun i h h' st k => let ⟨⟨old, he⟩, hi, hne⟩ := st; ⟨⟨old, k e (by simp) _ he⟩, hi.at fun o q => k it (by simp) o q, hne⟩
  item := by
    intro X hP hw hK hc i pins s σ H E I hf st hg
    subst hP hw hK
    obtain ⟨⟨old, he⟩, hit, hne, hai, hae⟩ := st
    obtain ⟨xs, x, hq, hx⟩ := hg
    obtain ⟨its, rv, p, hz⟩ := I.tuple hq
    obtain ⟨u, hu, ru⟩ := rv.get hx
    have hel : e < s.heap.objs.size := Heap.lt_size he
    have hil : it < s.heap.objs.size := by obtain ⟨_, q, _⟩ := hit; exact Heap.lt_size q
    have hh : X.A.in1.handled = none := I.ok.hd hc
    have hlt : i < its.toArray.size := by
      have := (List.getElem?_eq_some_iff.mp hu).1
      simpa using this
    refine wpAny_pyNext_enum_itemD (Draws.tuple hh it a hai its.toArray) he ⟨hit, isTup_tuple p⟩ hlt hne ?_ fun x' h' tk hP ho hit' hT hsz hk => ?_
    · intro z
      have e' : e = it ∨ e = a := by simpa using z
      rcases e' with z | z
      · exact hne z
      · exact hae z.symm
    have hxu : x' = u := by
      have e1 : its.toArray[i]? = some u := by simpa using hu
      have e2 : its.toArray[i]? = some x' := hP
      rw [e1] at e2
      exact (Option.some.inj e2).symm
    subst hxu
    refine ⟨_, rfl, wpAny_letOwnedTupleGo_enum (s := { s with heap := h', toks := tk + 1 }) ho fun h'' he' sb => ?_⟩
    have hT2 : h''.get? s.heap.objs.size = some { cls := .type "tuple", data := .seq #[.int i tk, x'] } := (sb.2 _ (Nat.ne_of_gt hel)).trans hT
    have new : ObjOk X.prog X.w (upd H s.heap.objs.size (.frz { cls := .type "tuple", data := .seq #[.int i tk, x'] } (.tup [.int (i : Nat), x]))) h'' s.heap.objs.size (.frz { cls := .type "tuple", data := .seq #[.int i tk, x'] } (.tup [.int (i : Nat), x])) :=
      ⟨hT2, by show 2 ≤ sizeLine; decide, [.int i tk, x'], .cons ⟨_, rfl⟩ (.cons ru .nil), ⟨_, hT2, rfl, _, rfl⟩⟩
    have I1 : Inv X pins σ (upd H s.heap.objs.size (.frz { cls := .type "tuple", data := .seq #[.int i tk, x'] } (.tup [.int (i : Nat), x]))) { s with heap := h'', toks := tk + 1 } :=
      I.turnedNew (ch := [e, it]) (fun b ob hb q => (sb.2 b (fun z => hb (by simp [z]))).trans (hk b ob (fun z => hb (by simp [z])) (fun z => hb (by simp [z])) q)) hf (Nat.le_refl _) new
    refine ⟨.ref s.heap.objs.size, _, I1, rfl, ⟨_, x, _, rfl, I.hok.fresh (Nat.le_refl _), rfl, rfl, fun ys hy => by rw [I.tuple_inj hy hq]; exact hx⟩, ⟨⟨x', ?_⟩, hit'.1.at fun o q => (sb.2 it (Ne.symm hne)).trans q, hne, hai, hae⟩, fun b hb => ?_⟩
    · have e1 : ((i + 1 : Nat) : Int) = (i : Int) + 1 := by omega
      rw [e1]; exact he'
    · have hb' : b < s.heap.objs.size := by
        have e' : b = e ∨ b = it := by simpa using hb
        rcases e' with z | z
        · rw [z]; exact hel
        · rw [z]; exact hil
      rw [upd_ne (Nat.ne_of_lt hb')]
      exact (hf b hb).1
  done := by
    intro X hP hw hK hc i pins s σ H E I hf st hg
    subst hP hw hK
    obtain ⟨⟨old, he⟩, hit, hne, hai, hae⟩ := st
    obtain ⟨xs, hq, hx⟩ := hg
    obtain ⟨its, rv, p, hz⟩ := I.tuple hq
    obtain ⟨f0, f1, f2, f3, f4, f5⟩ := hf it (by simp)
    have hl := rv.length
    exact enumT_end (I.ok.hd hc) he hit (isTup_tuple p) (by simp; omega) fun h' eb => ⟨rfl, I.turned (t' := s.toks) (fun b o hb q => eb b o hb q) f0 f1 f3 f4 f5⟩
  self := fun A i s Q E st h => let ⟨⟨_, he⟩, _⟩ := st; wpAny_pyIter_enum he h
/-- the list at a, each item in a new pair -/
def Itel2 (K : PySem.W.Frag) (a : Addr) : It :=
  ⟨fun i H => ∃ (xs : List V) (x : V), SqL K H a xs ∧ xs[i]? = some x, fun i H v H' => ∃ (T : Addr) (x : V) (ob : Obj), v = .ref T ∧ H T = none ∧ ob.dict = none ∧ H' = upd H T (.frz ob (.tup [.int (i : Nat), x])) ∧ ∀ xs, SqL K H a xs → xs[i]? = some x, fun i H => ∃ xs : List V, SqL K H a xs ∧ xs.length ≤ i⟩
theorem turn_enumL2 {P : Program} {w : World} {K : PySem.W.Frag} {elts : List Expr} {kk : Nat} {tpos : Pos} (a e it : Addr) :
    Turn P w K (.Tuple elts kk tpos) (Itel2 K a) [e, it] e (fun i h => (∃ old, IsEnum h e it ((i : Nat) : Int) old) ∧ h.IsListIter it a i ∧ e ≠ it ∧ a ≠ it ∧ a ≠ e) where
  mem := by simp
  obj := fun i h st b hb => by
    obtain ⟨⟨old, he⟩, ⟨o, ho, hc, hd⟩, _⟩ := st
    have e' : b = e ∨ b = it := by simpa using hb
    rcases e' with z | z
    · rw [z]; exact ⟨_, he, fun v q => nomatch q⟩
    · rw [z]; exact ⟨o, ho, fun v q => by rw [hd] at q; cases q⟩
  keep := fun i h h' st k => let ⟨⟨old, he⟩, hi, hne⟩ := st; ⟨⟨old, k e (by simp) _ he⟩, hi.at fun o q => k it (by simp) o q, hne⟩
  item := by
    intro X hP hw hK hc i pins s σ H E I hf st hg
    subst hP hw hK
    obtain ⟨⟨old, he⟩, hit, hne, hai, hae⟩ := st
    obtain ⟨xs, x, hq, hx⟩ := hg
    obtain ⟨its, rv, p, hz⟩ := I.list hq
    obtain ⟨u, hu, ru⟩ := rv.get hx
    have hel : e < s.heap.objs.size := Heap.lt_size he
    have hil : it < s.heap.objs.size := by obtain ⟨_, q, _⟩ := hit; exact Heap.lt_size q
    have hh : X.A.in1.handled = none := I.ok.hd hc
    have hlt : i < its.toArray.size := by
      have := (List.getElem?_eq_some_iff.mp hu).1
      simpa using this
    refine wpAny_pyNext_enum_itemD (Draws.list hh it a hai its.toArray) he ⟨hit, p.isList⟩ hlt hne ?_ fun x' h' tk hP ho hit' hT hsz hk => ?_
    · intro z
      have e' : e = it ∨ e = a := by simpa using z
      rcases e' with z | z
      · exact hne z
      · exact hae z.symm
    have hxu : x' = u := by
      have e1 : its.toArray[i]? = some u := by simpa using hu
      have e2 : its.toArray[i]? = some x' := hP
      rw [e1] at e2
      exact (Option.some.inj e2).symm
    subst hxu
    refine ⟨_, rfl, wpAny_letOwnedTupleGo_enum (s := { s with heap := h', toks := tk + 1 }) ho fun h'' he' sb => ?_⟩
    have hT2 : h''.get? s.heap.objs.size = some { cls := .type "tuple", data := .seq #[.int i tk, x'] } := (sb.2 _ (Nat.ne_of_gt hel)).trans hT
    have new : ObjOk X.prog X.w (upd H s.heap.objs.size (.frz { cls := .type "tuple", data := .seq #[.int i tk, x'] } (.tup [.int (i : Nat), x]))) h'' s.heap.objs.size (.frz { cls := .type "tuple", data := .seq #[.int i tk, x'] } (.tup [.int (i : Nat), x])) :=
      ⟨hT2, by show 2 ≤ sizeLine; decide, [.int i tk, x'], .cons ⟨_, rfl⟩ (.cons ru .nil), ⟨_, hT2, rfl, _, rfl⟩⟩
    have I1 : Inv X pins σ (upd H s.heap.objs.size (.frz { cls := .type "tuple", data := .seq #[.int i tk, x'] } (.tup [.int (i : Nat), x]))) { s with heap := h'', toks := tk + 1 } :=
      I.turnedNew (ch := [e, it]) (fun b ob hb q => (sb.2 b (fun z => hb (by simp [z]))).trans (hk b ob (fun z => hb (by simp [z])) (fun z => hb (by simp [z])) q)) hf (Nat.le_refl _) new
    refine ⟨.ref s.heap.objs.size, _, I1, rfl, ⟨_, x, _, rfl, I.hok.fresh (Nat.le_refl _), rfl, rfl, fun ys hy => by rw [I.list_inj hy hq]; exact hx⟩, ⟨⟨x', ?_⟩, hit'.1.at fun o q => (sb.2 it (Ne.symm hne)).trans q, hne, hai, hae⟩, fun b hb => ?_⟩
    · have e1 : ((i + 1 : Nat) : Int) = (i : Int) + 1 := by omega
      rw [e1]; exact he'
    · have hb' : b < s.heap.objs.size := by
        have e' : b = e ∨ b = it := by simpa using hb
        rcases e' with z | z
        · rw [z]; exact hel
        · rw [z]; exact hil
      rw [upd_ne (Nat.ne_of_lt hb')]
      exact (hf b hb).1
  done := by
    intro X hP hw hK hc i pins s σ H E I hf st hg
    subst hP hw hK
    obtain ⟨⟨old, he⟩, hit, hne, hai, hae⟩ := st
    obtain ⟨xs, hq, hx⟩ := hg
    obtain ⟨its, rv, p, hz⟩ := I.list hq
    obtain ⟨f0, f1, f2, f3, f4, f5⟩ := hf it (by simp)
    have hl := rv.length
    exact wpAny_pyNext_enum_end (I.ok.hd hc) he hit (p.isList) (by simp; omega) fun h' eb => ⟨rfl, I.turned (t' := s.toks) (fun b o hb q => eb b o hb q) f0 f1 f3 f4 f5⟩
  self := fun A i s Q E st h => let ⟨⟨_, he⟩, _⟩ := st; wpAny_pyIter_enum he h
def iEnumT (K : PySem.W.Frag) (ta : TA) : TI := fun σ H R => ta σ H fun vs H1 => ∃ a xs, vs = [.ref a] ∧ SqT K H1 a xs ∧ R (Itet K a) H1
def iEnumL2 (K : PySem.W.Frag) (ta : TA) : TI := fun σ H R => ta σ H fun vs H1 => ∃ a xs, vs = [.ref a] ∧ SqL K H1 a xs ∧ R (Itel2 K a) H1
theorem pi_enumL2 {X : Cx} {e : Expr} {ta : TA} {p pos tpos : Pos} {elts : List Expr} {kk : Nat} (hg : Gl X "enumerate") (hm : X.mg "enumerate" = none) (ha : PA X [e] ta) (hs : starEach [e] X.env = [(false, eval e X.env)] := by rfl) :
    PI X (.Tuple elts kk tpos) (.Call (.Name "enumerate" p) [e] [] pos) (iEnumL2 X.K ta) := by
  refine ⟨fun pins s σ H R I h => ?_⟩
  refine Call_ (ld_blt I hg hm boot_enumerate (PyProof.Rows.callWith_type1 (thn (ha.run pos pins s σ H _ I h) fun us s1 ⟨vs, H1, I1, r1, q1⟩ => ?_) hs rfl))
  obtain ⟨a, xs, ex, hq, q⟩ := q1
  subst ex
  cases r1 with
  | cons r rr =>
    cases rr
    cases r
    obtain ⟨its, rv, p', hz⟩ := I1.list hq
    have hla : a < s1.heap.objs.size := by
      obtain ⟨o, ho, _⟩ := p'.isList
      exact Heap.lt_size ho
    refine enum_begins1 (begins_list a its.toArray) (p'.isList) fun h' he hit hsz hk => wpAny_pyIter_enum he ?_
    have I2 : Inv X pins σ H1 { s1 with heap := h' } := I1.kept (t' := s1.toks) hk
    refine ⟨s1.heap.objs.size + 1, [s1.heap.objs.size + 1, s1.heap.objs.size], _, _, H1, rfl, I2, turn_enumL2 a (s1.heap.objs.size + 1) s1.heap.objs.size, ⟨⟨.none, he⟩, ⟨_, hit, rfl, rfl⟩, Nat.succ_ne_self _, Nat.ne_of_lt hla, Nat.ne_of_lt (Nat.lt_succ_of_lt hla)⟩, fun b hb => ?_, q⟩
    have e' : b = s1.heap.objs.size + 1 ∨ b = s1.heap.objs.size := by simpa using hb
    have hle : s1.heap.objs.size ≤ b := by
      rcases e' with z | z
      · rw [z]; exact Nat.le_add_right _ _
      · rw [z]; exact Nat.le_refl _
    exact I1.fpOk hle (I1.hok.fresh hle)
theorem pi_enumT {X : Cx} {e : Expr} {ta : TA} {p pos tpos : Pos} {elts : List Expr} {kk : Nat} (hg : Gl X "enumerate") (hm : X.mg "enumerate" = none) (ha : PA X [e] ta) (hs : starEach [e] X.env = [(false, eval e X.env)] := by rfl) :
    PI X (.Tuple elts kk tpos) (.Call (.Name "enumerate" p) [e] [] pos) (fun σ H R => iEnumL2 X.K ta σ H R ∨ iEnumT X.K ta σ H R) := by
  refine ⟨fun pins s σ H R I h => ?_⟩
  rcases h with h | h
  · exact (pi_enumL2 hg hm ha hs).run pins s σ H R I h
  refine Call_ (ld_blt I hg hm boot_enumerate (PyProof.Rows.callWith_type1 (thn (ha.run pos pins s σ H _ I h) fun us s1 ⟨vs, H1, I1, r1, q1⟩ => ?_) hs rfl))
  obtain ⟨a, xs, ex, hq, q⟩ := q1
  subst ex
  cases r1 with
  | cons r rr =>
    cases rr
    cases r
    obtain ⟨its, rv, p', hz⟩ := I1.tuple hq
    have hla : a < s1.heap.objs.size := by
      obtain ⟨o, ho, _⟩ := isTup_tuple p'
      exact Heap.lt_size ho
    refine enum_begins1 (begins_tuple a its.toArray) (isTup_tuple p') fun h' he hit hsz hk => wpAny_pyIter_enum he ?_
    have I2 : Inv X pins σ H1 { s1 with heap := h' } := I1.kept (t' := s1.toks) hk
    refine ⟨s1.heap.objs.size + 1, [s1.heap.objs.size + 1, s1.heap.objs.size], _, _, H1, rfl, I2, turn_enumT a (s1.heap.objs.size + 1) s1.heap.objs.size, ⟨⟨.none, he⟩, ⟨_, hit, rfl, rfl⟩, Nat.succ_ne_self _, Nat.ne_of_lt hla, Nat.ne_of_lt (Nat.lt_succ_of_lt hla)⟩, fun b hb => ?_, q⟩
    have e' : b = s1.heap.objs.size + 1 ∨ b = s1.heap.objs.size := by simpa using hb
    have hle : s1.heap.objs.size ≤ b := by
      rcases e' with z | z
      · rw [z]; exact Nat.le_add_right _ _
      · rw [z]; exact Nat.le_refl _
    exact I1.fpOk hle (I1.hok.fresh hle)
end DL
end
section
set_option Elab.async false
set_option linter.all false
set_option maxRecDepth 100000
/-! Statements, loops, comprehensions, defs. -/
namespace DL
open PySem PySem.Spec PyProof.Rows L2
variable [TabT] [FnT]
/-! ### stores -/
section
variable {K : PySem.W.Frag} {F H F' H' : Hp} {σ σ' : L2.St} {ρ ρ' : Fm}
/-- slot i gets a value that is seen -/
theorem go_set {i : Nat} {v : V} {d : D} (h : Rel K F H σ ρ) (r : Rp K F v d) : Go K F H σ ρ F H (σ.set i (some v)) (ρ.set i (.sh d)) := by
  have get : ∀ j c, (ρ.set i (.sh d))[j]? = some c → (j = i ∧ c = .sh d ∧ i < ρ.length) ∨ (j ≠ i ∧ ρ[j]? = some c) := by
    intro j c e
    by_cases hj : j = i
    · subst hj
      have hl : j < ρ.length := by
        have := (List.getElem?_eq_some_iff.mp e).1
        rwa [List.length_set] at this
      rw [List.getElem?_set_self hl] at e
      exact .inl ⟨rfl, (Option.some.inj e).symm, hl⟩
    · rw [List.getElem?_set_ne (fun z => hj z.symm)] at e
      exact .inr ⟨hj, e⟩
  have gs : ∀ j, j ≠ i → (σ.set i (some v))[j]? = σ[j]? := fun j hj => List.getElem?_set_ne (fun z => hj z.symm)
  refine ⟨⟨h.ex, by rw [List.length_set, List.length_set]; exact h.len, fun j c e => ?_, fun j k b c x e1 o1 e2 o2 s1 s2 => ?_, h.tab⟩, .refl _, fun c o e _ _ => e, fun c e => e, fun c e f _ => f, fun x o => ?_, fun j ds e => ?_, fun j e => ?_⟩
  · rcases get j c e with ⟨rfl, rfl, hl⟩ | ⟨hj, e'⟩
    · exact ⟨v, by rw [List.getElem?_set_self (by rw [h.len]; exact hl)], r⟩
    · rw [gs j hj]
      exact h.at_ j c e'
  · rcases get j b e1 with ⟨rfl, rfl, _⟩ | ⟨hj, e1'⟩
    · cases o1
    · rcases get k c e2 with ⟨rfl, rfl, _⟩ | ⟨hk, e2'⟩
      · cases o2
      · rw [gs j hj] at s1
        rw [gs k hk] at s2
        exact h.sep j k b c x e1' o1 e2' o2 s1 s2
  · obtain ⟨j, b, e, ob, s⟩ := o
    rcases get j b e with ⟨rfl, rfl, _⟩ | ⟨hj, e'⟩
    · cases ob
    · rw [gs j hj] at s
      exact .inl ⟨j, b, e', ob, s⟩
  · intro hes
    rcases get j _ e with ⟨rfl, rfl, _⟩ | ⟨hj, e'⟩
    · cases hes
    · exact ⟨⟨_, e', rfl⟩, gs j hj⟩
  · rcases get j _ e with ⟨rfl, z, _⟩ | ⟨hj, e'⟩
    · cases z
    · exact ⟨e', gs j hj⟩
/-- slot i gets an object of its own, at p -/
theorem go_setB {i : Nat} {p : Addr} {b' : B} (h : Rel K F H σ ρ) (hp0 : ¬ ownA σ ρ p) (r : BRel K F H (some (some (.ref p))) b') :
    Rel K F H (σ.set i (some (.ref p))) (ρ.set i b') ∧ ∀ x, ownA (σ.set i (some (.ref p))) (ρ.set i b') x → ownA σ ρ x ∨ x = p := by
  have get : ∀ j c, (ρ.set i b')[j]? = some c → (j = i ∧ c = b' ∧ i < ρ.length) ∨ (j ≠ i ∧ ρ[j]? = some c) := by
    intro j c e
    by_cases hj : j = i
    · subst hj
      have hl : j < ρ.length := by
        have := (List.getElem?_eq_some_iff.mp e).1
        rwa [List.length_set] at this
      rw [List.getElem?_set_self hl] at e
      exact .inl ⟨rfl, (Option.some.inj e).symm, hl⟩
    · rw [List.getElem?_set_ne (fun z => hj z.symm)] at e
      exact .inr ⟨hj, e⟩
  have gs : ∀ j, j ≠ i → (σ.set i (some (.ref p)))[j]? = σ[j]? := fun j hj => List.getElem?_set_ne (fun z => hj z.symm)
  have gi : i < ρ.length → (σ.set i (some (V.ref p)))[i]? = some (some (.ref p)) := fun hl => List.getElem?_set_self (by rw [h.len]; exact hl)
  refine ⟨⟨h.ex, by rw [List.length_set, List.length_set]; exact h.len, fun j c e => ?_, fun j k b c x e1 o1 e2 o2 s1 s2 => ?_, h.tab⟩, fun x o => ?_⟩
  · rcases get j c e with ⟨rfl, rfl, hl⟩ | ⟨hj, e'⟩
    · rw [gi hl]; exact r
    · rw [gs j hj]
      exact h.at_ j c e'
  · rcases get j b e1 with ⟨rfl, rfl, hl⟩ | ⟨hj, e1'⟩
    · rcases get k c e2 with ⟨rfl, _, _⟩ | ⟨hk, e2'⟩
      · rfl
      · rw [gi hl] at s1
        cases s1
        rw [gs k hk] at s2
        exact absurd ⟨k, c, e2', o2, s2⟩ hp0
    · rcases get k c e2 with ⟨rfl, rfl, hl⟩ | ⟨hk, e2'⟩
      · rw [gi hl] at s2
        cases s2
        rw [gs j hj] at s1
        exact absurd ⟨j, b, e1', o1, s1⟩ hp0
      · rw [gs j hj] at s1
        rw [gs k hk] at s2
        exact h.sep j k b c x e1' o1 e2' o2 s1 s2
  · obtain ⟨j, b, e, ob, s⟩ := o
    rcases get j b e with ⟨rfl, rfl, hl⟩ | ⟨hj, e'⟩
    · rw [gi hl] at s
      cases s
      exact .inr rfl
    · rw [gs j hj] at s
      exact .inl ⟨j, b, e', ob, s⟩
theorem go_setO {i : Nat} {p : Addr} {xs : List V} {ds : List D} {H0 : Hp} (h : Rel K F H σ ρ) (hp0 : ¬ ownA σ ρ p) (hp : H p = some (.lst xs)) (hf : F p = none) (r : RpA K F xs ds) :
    Rel K F H (σ.set i (some (.ref p))) (ρ.set i (.ow ds)) ∧ ∀ x, ownA (σ.set i (some (.ref p))) (ρ.set i (.ow ds)) x → ownA σ ρ x ∨ x = p :=
  go_setB h hp0 ⟨p, xs, rfl, hp, hf, r⟩
/-- a new binding: what it stands for -/
def BNew (K : PySem.W.Frag) (H F' H' : Hp) (v : V) : B → Prop
  | .sh d => Rp K F' v d
  | .ow ds => ∃ (p : Addr) (xs : List V), v = .ref p ∧ H p = none ∧ H' p = some (.lst xs) ∧ F' p = none ∧ RpA K F' xs ds
  | .od t ds => ∃ p : Addr, v = .ref p ∧ H p = none ∧ F' p = none ∧ Dct K F' H' p t ds
  | _ => False
theorem BNew.old {H0 H F' H' : Hp} {v : V} {b : B} (h : BNew K H F' H' v b) (l : ∀ a, H0 a ≠ none → H a ≠ none) : BNew K H0 F' H' v b := by
  cases b with
  | no => exact h
  | pin => exact h
  | fn _ => exact h
  | io _ => exact h
  | jd _ _ => exact h
  | sh d => exact h
  | ow ds =>
    obtain ⟨p, xs, e1, e2, e3⟩ := h
    exact ⟨p, xs, e1, Classical.byContradiction fun z => l p z e2, e3⟩
  | od t ds =>
    obtain ⟨p, e1, e2, e3⟩ := h
    exact ⟨p, e1, Classical.byContradiction fun z => l p z e2, e3⟩
/-- it stays behind a further step -/
theorem BNew.step {F H F1 H1 F2 H2 : Hp} {ρ1 ρ2 : Fm} {v : V} {b : B} (h : BNew K H F1 H1 v b) (hR : Rel K F H σ ρ) (g0 : GoE K F H σ ρ F1 H1 ρ1) (g : GoE K F1 H1 σ ρ1 F2 H2 ρ2) : BNew K H F2 H2 v b := by
  cases b with
  | no => exact h
  | pin => exact h
  | fn _ => exact h
  | io _ => exact h
  | jd _ _ => exact h
  | sh d => exact Rp.mono g.go.ex h
  | ow ds =>
    obtain ⟨p, xs, e1, e2, e3, e4, r⟩ := h
    have hno : ¬ ownA σ ρ1 p := fun o => by
      obtain ⟨vs, z, _⟩ := own_live hR (g0.own o)
      rw [e2] at z
      cases z
    exact ⟨p, xs, e1, e2, g.go.keep p _ e3 (fun ps z => by cases z) hno, g.go.hide p (by rw [e3]; intro z; cases z) e4 hno, r.mono g.go.ex⟩
  | od t ds =>
    obtain ⟨p, e1, e2, e4, dd⟩ := h
    have hno : ¬ ownA σ ρ1 p := fun o => by
      obtain ⟨vs, z, _⟩ := own_live hR (g0.own o)
      rw [e2] at z
      cases z
    obtain ⟨u, e3, _⟩ := dd.live
    exact ⟨p, e1, e2, g.go.hide p (by rw [e3]; intro z; cases z) e4 hno, dd.move g.go.ex fun u e n => g.go.keep p _ e n hno⟩
/-- behind the expression: the store -/
theorem go_store {i : Nat} {v : V} {b : B} {F1 H1 : Hp} {ρ1 : Fm} (hR : Rel K F H σ ρ) (g : GoE K F H σ ρ F1 H1 ρ1) (h : BNew K H F1 H1 v b) : Go K F H σ ρ F1 H1 (σ.set i (some v)) (ρ1.set i b) := by
  cases b with
  | no => exact h.elim
  | pin => exact h.elim
  | fn _ => exact h.elim
  | io _ => exact h.elim
  | jd _ _ => exact h.elim
  | sh d => exact g.go.trans (go_set g.rel h)
  | ow ds =>
    obtain ⟨p, xs, rfl, e2, e3, e4, r⟩ := h
    have hno : ¬ ownA σ ρ1 p := fun o => by
      obtain ⟨vs, z, _⟩ := own_live hR (g.own o)
      rw [e2] at z
      cases z
    obtain ⟨r1, r2⟩ := go_setO (i := i) (H0 := H) g.rel hno e3 e4 r
    refine ⟨r1, g.go.ex, g.go.keep, g.go.live, g.go.hide, fun x o => ?_, fun j es e hes => ?_, fun j e => ?_⟩
    · rcases r2 x o with o | rfl
      · exact g.go.sub x o
      · exact .inr e2
    · by_cases hj : j = i
      · subst hj
        have hl : j < ρ1.length := by
          have := (List.getElem?_eq_some_iff.mp e).1
          rwa [List.length_set] at this
        rw [List.getElem?_set_self hl] at e
        cases e
        cases hes
      · rw [List.getElem?_set_ne (fun z => hj z.symm)] at e
        refine ⟨(g.go.io j es e hes).1, ?_⟩
        rw [List.getElem?_set_ne (fun z => hj z.symm)]
    · by_cases hj : j = i
      · subst hj
        have hl : j < ρ1.length := by
          have := (List.getElem?_eq_some_iff.mp e).1
          rwa [List.length_set] at this
        rw [List.getElem?_set_self hl] at e
        cases e
      · rw [List.getElem?_set_ne (fun z => hj z.symm)] at e
        refine ⟨(g.go.pn j e).1, ?_⟩
        rw [List.getElem?_set_ne (fun z => hj z.symm)]
  | od t ds =>
    obtain ⟨p, rfl, e2, e4, dd⟩ := h
    have hno : ¬ ownA σ ρ1 p := fun o => by
      obtain ⟨vs, z, _⟩ := own_live hR (g.own o)
      rw [e2] at z
      cases z
    obtain ⟨r1, r2⟩ := go_setB (i := i) (b' := .od t ds) g.rel hno ⟨p, rfl, e4, dd⟩
    refine ⟨r1, g.go.ex, g.go.keep, g.go.live, g.go.hide, fun x o => ?_, fun j es e hes => ?_, fun j e => ?_⟩
    · rcases r2 x o with o | rfl
      · exact g.go.sub x o
      · exact .inr e2
    · by_cases hj : j = i
      · subst hj
        have hl : j < ρ1.length := by
          have := (List.getElem?_eq_some_iff.mp e).1
          rwa [List.length_set] at this
        rw [List.getElem?_set_self hl] at e
        cases e
        cases hes
      · rw [List.getElem?_set_ne (fun z => hj z.symm)] at e
        refine ⟨(g.go.io j es e hes).1, ?_⟩
        rw [List.getElem?_set_ne (fun z => hj z.symm)]
    · by_cases hj : j = i
      · subst hj
        have hl : j < ρ1.length := by
          have := (List.getElem?_eq_some_iff.mp e).1
          rwa [List.length_set] at this
        rw [List.getElem?_set_self hl] at e
        cases e
      · rw [List.getElem?_set_ne (fun z => hj z.symm)] at e
        refine ⟨(g.go.pn j e).1, ?_⟩
        rw [List.getElem?_set_ne (fun z => hj z.symm)]
end
/-! ### what is stored: seen, or the frame's own -/
def SM (K : PySem.W.Frag) (t : TE) (f : Fm → Option (B × Fm)) : Prop := ∀ F H σ ρ b ρ', f ρ = some (b, ρ') → Rel K F H σ ρ → ∀ Q : VK, (∀ v F' H', GoE K F H σ ρ F' H' ρ' → BNew K H F' H' v b → Q v H') → t σ H Q
def XM (X : Cx) (e : Expr) (f : Fm → Option (B × Fm)) : Prop := ∃ t, PE X e t ∧ SM X.K t f
/-- a list of them -/
def BNews (K : PySem.W.Frag) (H F' H' : Hp) (vs : List V) (bs : List B) : Prop := Paired (BNew K H F' H') vs bs
def ApartB (vs : List V) (bs : List B) : Prop := ∀ (i j : Nat) (a : Addr) (b c : B), bs[i]? = some b → b.own = true → bs[j]? = some c → c.own = true → vs[i]? = some (.ref a) → vs[j]? = some (.ref a) → i = j
def SMA (K : PySem.W.Frag) (t : TA) (f : Fm → Option (List B × Fm)) : Prop := ∀ F H σ ρ bs ρ', f ρ = some (bs, ρ') → Rel K F H σ ρ → ∀ Q : List V → Hp → Prop, (∀ vs F' H', GoE K F H σ ρ F' H' ρ' → BNews K H F' H' vs bs → ApartB vs bs → Q vs H') → t σ H Q
def XMA (X : Cx) (es : List Expr) (f : Fm → Option (List B × Fm)) : Prop := ∃ t, PA X es t ∧ SMA X.K t f
section
variable {X : Cx} {e a b c : Expr} {es : List Expr} {pos p : Pos} {fe fa fb fc : Fm → Option D} {ft fu : Fm → Option Bool} {fs : Fm → Option (List D)} {ge ga gb : Fm → Option (D × Fm)} {gt gu : Fm → Option (Bool × Fm)} {gs : Fm → Option (List D × Fm)} {me : Fm → Option (B × Fm)} {ms : Fm → Option (List B × Fm)}
def mSh (f : Fm → Option (D × Fm)) (ρ : Fm) : Option (B × Fm) := (f ρ).map fun x => (.sh x.1, x.2)
theorem XE.xm (h : XE X e ge) : XM X e (mSh ge) := let ⟨_, h1, h2⟩ := h; ⟨_, h1, fun F H σ ρ b ρ' hf hR Q k => by
  obtain ⟨⟨d, ρ1⟩, e1, e2⟩ := Option.map_eq_some_iff.mp hf
  cases e2
  exact h2 F H σ ρ d _ e1 hR _ fun v F' H' g r => k v F' H' g r⟩
/-- [..] of the frame's own -/
def mOw (f : Fm → Option (List D × Fm)) (ρ : Fm) : Option (B × Fm) := (f ρ).bind fun x => if x.1.length ≤ bigN then some (.ow x.1, x.2) else none
theorem m_own (h : XA X es gs) : XM X (.List es pos) (mOw gs) := by
  obtain ⟨t, h1, h2, _⟩ := h
  refine ⟨_, pe_lst h1, fun F H σ ρ b ρ' hf hR Q k => ?_⟩
  obtain ⟨⟨ds, ρ1⟩, e1, e2⟩ := Option.bind_eq_some_iff.mp hf
  split at e2
  · rename_i hz
    cases e2
    refine h2 F H σ ρ _ _ e1 hR _ fun vs F1 H1 g1 r1 => ⟨by rw [r1.length]; exact Nat.le_trans hz big_le, fun p hp => ?_⟩
    have g2 := Gr.newH (o := .lst vs) g1.rel.ex hp
    have hp0 : H p = none := Classical.byContradiction fun z => g1.go.live p z hp
    exact k _ _ _ (g1.trans (.gr g1.rel g2)) ⟨p, vs, rfl, hp0, upd_same, g1.rel.ex.free hp, r1⟩
  · cases e2
def mNil (ρ : Fm) : Option (List B × Fm) := some ([], ρ)
def mCons (f : Fm → Option (B × Fm)) (g : Fm → Option (List B × Fm)) (ρ : Fm) : Option (List B × Fm) := (f ρ).bind fun x => (g x.2).map fun y => (x.1 :: y.1, y.2)
theorem ma_nil : XMA X [] mNil := ⟨_, pa_nil, fun F H σ ρ bs ρ' hf hR Q k => by
  cases hf
  exact k [] F H (.refl hR) .nil fun i j a b c e => by simp at e⟩
theorem paired_at {α β : Type} {R : α → β → Prop} : ∀ {xs : List α} {ys : List β}, Paired R xs ys → ∀ (i : Nat) (x : α) (y : β), xs[i]? = some x → ys[i]? = some y → R x y
  | _, _, .nil, _, _, _, h, _ => by simp at h
  | _, _, .cons r t, 0, x, y, h, h' => by
    simp only [List.getElem?_cons_zero, Option.some.injEq] at h h'
    subst h h'
    exact r
  | _, _, .cons r t, i + 1, x, y, h, h' => paired_at t i x y (by simpa using h) (by simpa using h')
theorem ma_cons (h : XM X e me) (hr : XMA X es ms) (hs : starEach (e :: es) X.env = (false, eval e X.env) :: starEach es X.env := by rfl) : XMA X (e :: es) (mCons me ms) := by
  obtain ⟨_, h1, h2⟩ := h
  obtain ⟨_, h3, h4⟩ := hr
  refine ⟨_, pa_cons h1 h3 hs, fun F H σ ρ bs ρ' hf hR Q k => ?_⟩
  obtain ⟨⟨b, ρ1⟩, e1, e2⟩ := Option.bind_eq_some_iff.mp hf
  obtain ⟨⟨r, ρ2⟩, e3, e4⟩ := Option.map_eq_some_iff.mp e2
  cases e4
  refine h2 F H σ ρ _ ρ1 e1 hR _ fun v F1 H1 g1 r1 => ?_
  refine h4 F1 H1 σ ρ1 _ _ e3 g1.rel _ fun vs F2 H2 g2 r2 ap => ?_
  refine k _ F2 H2 (g1.trans g2) (.cons (r1.step hR g1 g2) (Paired.mapP r2 fun x y z => z.old g1.go.live)) fun i j a c d ec oc ed od si sj => ?_
  have later : ∀ (j : Nat) (d : B), r[j]? = some d → d.own = true → vs[j]? = some (.ref a) → H1 a = none := by
    intro j d e o s
    have := paired_at r2 j _ d s e
    cases d with
    | no => cases o
    | pin => cases o
    | fn _ => cases o
    | sh _ => cases o
    | io _ => exact this.elim
    | jd _ _ => exact this.elim
    | ow ds =>
      obtain ⟨p, xs, z, e2, _⟩ := this
      cases z
      exact e2
    | od t ds =>
      obtain ⟨p, z, e2, _⟩ := this
      cases z
      exact e2
  have first : b.own = true → v = .ref a → H1 a ≠ none := by
    intro o e
    cases b with
    | no => cases o
    | pin => cases o
    | fn _ => cases o
    | sh _ => cases o
    | io _ => exact r1.elim
    | jd _ _ => exact r1.elim
    | ow ds =>
      obtain ⟨p, xs, z, e2, e3, _⟩ := r1
      rw [e] at z
      cases z
      rw [e3]
      intro z
      cases z
    | od t ds =>
      obtain ⟨p, z, e2, _, dd⟩ := r1
      obtain ⟨u, e3, _⟩ := dd.live
      rw [e] at z
      cases z
      rw [e3]
      intro z
      cases z
  cases i with
  | zero =>
    cases j with
    | zero => rfl
    | succ j =>
      simp only [List.getElem?_cons_zero, Option.some.injEq, List.getElem?_cons_succ] at ec ed si sj
      subst ec
      exact absurd (later j d ed od sj) (first oc si)
  | succ i =>
    cases j with
    | zero =>
      simp only [List.getElem?_cons_zero, Option.some.injEq, List.getElem?_cons_succ] at ec ed si sj
      subst ed
      exact absurd (later i c ec oc si) (first od sj)
    | succ j =>
      simp only [List.getElem?_cons_succ] at ec ed si sj
      exact congrArg (· + 1) (ap i j a c d ec oc ed od si sj)
/-! ### statements -/
def sAsg (i : Nat) (f : Fm → Option (B × Fm)) (ρ : Fm) : Option (Fl × Fm) := (f ρ).map fun x => (.nx, x.2.set i x.1)
theorem s_set (i : Nat) {x : Str} {py : Pos} (he : XM X e me) (hN : X.N.Nodup) (hi : X.N[i]? = some x := by rfl) (hx : Loc X.env.scope x := by first | exact .inl rfl | exact .inr rfl) (hs : swapsWith e (some (.Name x py)) pos.line X.env = pure false := by rfl)
    (hf : X.fn x = true ∨ X.env.scope.names.lookup x = some .local := by first | exact .inl rfl | exact .inr rfl | assumption) : PSt X (.Assign [.Name x py] e pos) (sAsg i me) := by
  obtain ⟨t, h1, h2⟩ := he
  refine ⟨_, ps_set hN hi hx h1 hs hf, fun F H σ ρ fl ρ' hf' hR E k1 k2 k3 => ?_⟩
  obtain ⟨⟨b, ρ1⟩, e1, e2⟩ := Option.map_eq_some_iff.mp hf'
  cases e2
  exact h2 F H σ ρ b ρ1 e1 hR _ fun v F1 H1 g1 r1 => k1 rfl _ F1 H1 (go_store hR g1 r1)
end
/-! several at once -/
def putB : Fm → List Nat → List B → Option Fm
  | ρ, [], [] => some ρ
  | ρ, i :: is, b :: bs => putB (ρ.set i b) is bs
  | _, _, _ => none
def putV : L2.St → List Nat → List V → L2.St
  | σ, i :: is, v :: vs => putV (σ.set i (some v)) is vs
  | σ, _, _ => σ
section
variable {K : PySem.W.Frag} {F H F1 H1 : Hp} {σ0 σ : L2.St} {ρ0 ρ : Fm}
theorem go_store' {i : Nat} {v : V} {b : B} (g : Go K F H σ0 ρ0 F1 H1 σ ρ) (h : BNew K H F1 H1 v b) (hno : ∀ p, b.own = true → v = .ref p → ¬ ownA σ ρ p) :
    Go K F H σ0 ρ0 F1 H1 (σ.set i (some v)) (ρ.set i b) ∧ ∀ x, ownA (σ.set i (some v)) (ρ.set i b) x → ownA σ ρ x ∨ (b.own = true ∧ v = .ref x) := by
  cases b with
  | no => exact h.elim
  | pin => exact h.elim
  | fn _ => exact h.elim
  | io _ => exact h.elim
  | jd _ _ => exact h.elim
  | sh d =>
    refine ⟨g.trans (go_set g.rel h), fun x o => ?_⟩
    obtain ⟨j, c, e, oc, s⟩ := o
    by_cases hj : j = i
    · subst hj
      have hl : j < ρ.length := by
        have := (List.getElem?_eq_some_iff.mp e).1
        rwa [List.length_set] at this
      rw [List.getElem?_set_self hl] at e
      cases e
      cases oc
    · rw [List.getElem?_set_ne (fun z => hj z.symm)] at e s
      exact .inl ⟨j, c, e, oc, s⟩
  | ow ds =>
    obtain ⟨p, xs, rfl, e2, e3, e4, r⟩ := h
    obtain ⟨r1, r2⟩ := go_setO (i := i) (H0 := H) g.rel (hno p rfl rfl) e3 e4 r
    refine ⟨⟨r1, g.ex, g.keep, g.live, g.hide, fun x o => ?_, fun j es e hes => ?_, fun j e => ?_⟩, fun x o => ?_⟩
    · rcases r2 x o with o | rfl
      · exact g.sub x o
      · exact .inr e2
    · by_cases hj : j = i
      · subst hj
        have hl : j < ρ.length := by
          have := (List.getElem?_eq_some_iff.mp e).1
          rwa [List.length_set] at this
        rw [List.getElem?_set_self hl] at e
        cases e
        cases hes
      · rw [List.getElem?_set_ne (fun z => hj z.symm)] at e
        refine ⟨(g.io j es e hes).1, ?_⟩
        rw [List.getElem?_set_ne (fun z => hj z.symm)]
        exact (g.io j es e hes).2
    · by_cases hj : j = i
      · subst hj
        have hl : j < ρ.length := by
          have := (List.getElem?_eq_some_iff.mp e).1
          rwa [List.length_set] at this
        rw [List.getElem?_set_self hl] at e
        cases e
      · rw [List.getElem?_set_ne (fun z => hj z.symm)] at e
        refine ⟨(g.pn j e).1, ?_⟩
        rw [List.getElem?_set_ne (fun z => hj z.symm)]
        exact (g.pn j e).2
    · rcases r2 x o with o | rfl
      · exact .inl o
      · exact .inr ⟨rfl, rfl⟩
  | od t ds =>
    obtain ⟨p, rfl, e2, e4, dd⟩ := h
    obtain ⟨r1, r2⟩ := go_setB (i := i) (b' := .od t ds) g.rel (hno p rfl rfl) ⟨p, rfl, e4, dd⟩
    refine ⟨⟨r1, g.ex, g.keep, g.live, g.hide, fun x o => ?_, fun j es e hes => ?_, fun j e => ?_⟩, fun x o => ?_⟩
    · rcases r2 x o with o | rfl
      · exact g.sub x o
      · exact .inr e2
    · by_cases hj : j = i
      · subst hj
        have hl : j < ρ.length := by
          have := (List.getElem?_eq_some_iff.mp e).1
          rwa [List.length_set] at this
        rw [List.getElem?_set_self hl] at e
        cases e
        cases hes
      · rw [List.getElem?_set_ne (fun z => hj z.symm)] at e
        refine ⟨(g.io j es e hes).1, ?_⟩
        rw [List.getElem?_set_ne (fun z => hj z.symm)]
        exact (g.io j es e hes).2
    · by_cases hj : j = i
      · subst hj
        have hl : j < ρ.length := by
          have := (List.getElem?_eq_some_iff.mp e).1
          rwa [List.length_set] at this
        rw [List.getElem?_set_self hl] at e
        cases e
      · rw [List.getElem?_set_ne (fun z => hj z.symm)] at e
        refine ⟨(g.pn j e).1, ?_⟩
        rw [List.getElem?_set_ne (fun z => hj z.symm)]
        exact (g.pn j e).2
    · rcases r2 x o with o | rfl
      · exact .inl o
      · exact .inr ⟨rfl, rfl⟩
theorem go_all : ∀ {is : List Nat} {vs : List V} {bs : List B} {σ : L2.St} {ρ ρ' : Fm}, Go K F H σ0 ρ0 F1 H1 σ ρ → Paired (BNew K H F1 H1) vs bs → ApartB vs bs → (∀ (k : Nat) (p : Addr) (b : B), bs[k]? = some b → b.own = true → vs[k]? = some (.ref p) → ¬ ownA σ ρ p) →
    putB ρ is bs = some ρ' → Go K F H σ0 ρ0 F1 H1 (putV σ is vs) ρ'
  | [], _, [], σ, ρ, ρ', g, .nil, _, _, e => by
    cases e
    exact g
  | i :: is, v :: vs, b :: bs, σ, ρ, ρ', g, .cons r t, ap, hno, e => by
    obtain ⟨g1, o1⟩ := go_store' (i := i) g r fun p ob ev => hno 0 p b rfl ob (by rw [ev]; rfl)
    refine go_all (is := is) (vs := vs) (bs := bs) (σ := σ.set i (some v)) (ρ := ρ.set i b) g1 t (fun j k a c d ec oc ed od sj sk => ?_) (fun k p c ec oc sk o => ?_) e
    · have := ap (j + 1) (k + 1) a c d (by simpa using ec) oc (by simpa using ed) od (by simpa using sj) (by simpa using sk)
      omega
    · rcases o1 p o with o | ⟨ob, ev⟩
      · exact hno (k + 1) p c (by simpa using ec) oc (by simpa using sk) o
      · have := ap 0 (k + 1) p b c rfl ob (by simpa using ec) oc (by rw [ev]; rfl) (by simpa using sk)
        omega
  | [], _, _ :: _, _, _, _, _, _, _, _, e => by cases e
  | _ :: _, _, [], _, _, _, _, _, _, _, e => by cases e
theorem newS_apart {ds : List D} {vs : List V} : ApartB vs (ds.map .sh) := fun i j a b c e o => by
  rw [List.getElem?_map] at e
  cases q : ds[i]? with
  | none => rw [q] at e; cases e
  | some d =>
    rw [q] at e
    cases e
    cases o
theorem newS {ds : List D} {vs : List V} (r : RpA K F1 vs ds) : Paired (BNew K H F1 H1) vs (ds.map .sh) := by
  induction vs generalizing ds with
  | nil => cases r; exact .nil
  | cons v vs ih =>
    cases r with
    | cons a t => exact .cons a (ih t)
theorem newS_no {ds : List D} {vs : List V} : ∀ (k : Nat) (p : Addr) (b : B), (ds.map B.sh)[k]? = some b → b.own = true → vs[k]? = some (.ref p) → ¬ ownA σ ρ p := fun i p b e o => by
  rw [List.getElem?_map] at e
  cases q : ds[i]? with
  | none => rw [q] at e; cases e
  | some d =>
    rw [q] at e
    cases e
    cases o
theorem new_no {F' H' : Hp} {ρ1 : Fm} {vs : List V} {bs : List B} (hR : Rel K F H σ ρ) (g : GoE K F H σ ρ F' H' ρ1) (r : Paired (BNew K H F' H') vs bs) : ∀ (k : Nat) (p : Addr) (b : B), bs[k]? = some b → b.own = true → vs[k]? = some (.ref p) → ¬ ownA σ ρ1 p := fun k p b e o s => by
  have := paired_at r k _ b s e
  cases b with
  | no => cases o
  | pin => cases o
  | fn _ => cases o
  | sh _ => cases o
  | io _ => exact this.elim
  | jd _ _ => exact this.elim
  | ow ds =>
    obtain ⟨q, xs, z, e2, _⟩ := this
    cases z
    intro o'
    obtain ⟨vs, z, _⟩ := own_live hR (g.own o')
    rw [e2] at z
    cases z
  | od t ds =>
    obtain ⟨q, z, e2, _⟩ := this
    cases z
    intro o'
    obtain ⟨vs, z, _⟩ := own_live hR (g.own o')
    rw [e2] at z
    cases z
end
section
variable {X : Cx} {e a b c : Expr} {es ts : List Expr} {pos p tp vp : Pos} {fe fa fb fc : Fm → Option D} {ft fu : Fm → Option Bool} {fs : Fm → Option (List D)} {ge ga gb : Fm → Option (D × Fm)} {gt gu : Fm → Option (Bool × Fm)} {gs : Fm → Option (List D × Fm)} {me : Fm → Option (B × Fm)} {ms : Fm → Option (List B × Fm)}
def sAll (is : List Nat) (f : Fm → Option (List B × Fm)) (ρ : Fm) : Option (Fl × Fm) := (f ρ).bind fun x => (putB x.2 is x.1).map fun ρ' => (.nx, ρ')
theorem ss_all {K : PySem.W.Frag} {t : TA} {ts : TS} {is : List Nat} (h : SMA K t ms) (ht : ∀ (D : Ends) σ H, (t σ H fun vs H1 => vs.length = is.length → D.nx (putV σ is vs) H1) → ts D σ H) : SS K ts (sAll is ms) := by
  intro F H σ ρ fl ρ' hf hR E k1 k2 k3
  obtain ⟨⟨bs, ρ1⟩, e1, e2⟩ := Option.bind_eq_some_iff.mp hf
  obtain ⟨ρ2, e3, e4⟩ := Option.map_eq_some_iff.mp e2
  cases e4
  exact ht E σ H (h F H σ ρ bs ρ1 e1 hR _ fun vs F1 H1 g1 r1 ap => fun _ => k1 rfl _ F1 H1 (go_all g1.go r1 ap (new_no hR g1 r1) e3))
theorem putB_len : ∀ {is : List Nat} {bs : List B} {ρ ρ' : Fm}, putB ρ is bs = some ρ' → bs.length = is.length
  | [], [], _, _, _ => rfl
  | i :: is, b :: bs, ρ, ρ', e => by rw [List.length_cons, List.length_cons, putB_len (is := is) e]
  | [], _ :: _, _, _, e => by cases e
  | _ :: _, [], _, _, e => by cases e
theorem ss_all' {K : PySem.W.Frag} {t : TA} {ts : TS} {is : List Nat} (h : SMA K t ms) (ht : ∀ (D : Ends) σ H, (t σ H fun vs H1 => vs.length = is.length ∧ D.nx (putV σ is vs) H1) → ts D σ H) : SS K ts (sAll is ms) := by
  intro F H σ ρ fl ρ' hf hR E k1 k2 k3
  obtain ⟨⟨bs, ρ1⟩, e1, e2⟩ := Option.bind_eq_some_iff.mp hf
  obtain ⟨ρ2, e3, e4⟩ := Option.map_eq_some_iff.mp e2
  cases e4
  exact ht E σ H (h F H σ ρ bs ρ1 e1 hR _ fun vs F1 H1 g1 r1 ap => ⟨by rw [← putB_len e3]; exact Paired.length r1, k1 rfl _ F1 H1 (go_all g1.go r1 ap (new_no hR g1 r1) e3)⟩)
theorem len2 {α : Type} {l : List α} (h : l.length = 2) : ∃ x y, l = [x, y] := by
  match l, h with
  | [x, y], _ => exact ⟨x, y, rfl⟩
theorem len3 {α : Type} {l : List α} (h : l.length = 3) : ∃ x y z, l = [x, y, z] := by
  match l, h with
  | [x, y, z], _ => exact ⟨x, y, z, rfl⟩
/-- readings of arguments are monotone: what sAll wants lies within -/
theorem s_par (i j : Nat) {x y : Str} {px py pt : Pos} {kt k2 pt2} (hc : X.calm = true) (hN : X.N.Nodup) (ha : XMA X [a, b] ms) (hi : X.N[i]? = some x := by rfl) (hj : X.N[j]? = some y := by rfl) (hij : i ≠ j := by decide)
    (hx : X.env.scope.names.lookup x = some .local := by rfl) (hy : X.env.scope.names.lookup y = some .local := by rfl)
    (hw : swappedStores [.Tuple [.Name x px, .Name y py] kt pt] (.Tuple [a, b] k2 pt2) X.env = pure (some [x, y]) := by rfl)
    (hs : swapsWithSole [.Tuple [.Name x px, .Name y py] kt pt] (.Tuple [a, b] k2 pt2) pos.line X.env = pure false := by rfl) :
    PSt X (.Assign [.Tuple [.Name x px, .Name y py] kt pt] (.Tuple [a, b] k2 pt2) pos) (sAll [i, j] ms) := by
  obtain ⟨t, h1, h2⟩ := ha
  refine ⟨_, ps_par hc hN hi hj hij hx hy h1 hw hs, fun F H σ ρ fl ρ' hf hR E k1 k2 k3 => ?_⟩
  obtain ⟨⟨bs, ρ1⟩, e1, e2⟩ := Option.bind_eq_some_iff.mp hf
  obtain ⟨ρ2, e3, e4⟩ := Option.map_eq_some_iff.mp e2
  cases e4
  refine h2 F H σ ρ bs ρ1 e1 hR _ fun vs F1 H1 g1 r1 ap => ?_
  obtain ⟨v, w, rfl⟩ := len2 (show vs.length = 2 by rw [Paired.length r1, putB_len e3]; rfl)
  exact ⟨v, w, rfl, k1 rfl _ F1 H1 (go_all g1.go r1 ap (new_no hR g1 r1) e3)⟩
theorem s_par3 (i j l : Nat) {x y z : Str} {px py pz pt : Pos} {kt k2 pt2} (hc : X.calm = true) (hN : X.N.Nodup) (ha : XMA X [a, b, c] ms) (hi : X.N[i]? = some x := by rfl) (hj : X.N[j]? = some y := by rfl) (hl : X.N[l]? = some z := by rfl) (hij : i ≠ j := by decide) (hil : i ≠ l := by decide) (hjl : j ≠ l := by decide)
    (hx : X.env.scope.names.lookup x = some .local := by rfl) (hy : X.env.scope.names.lookup y = some .local := by rfl) (hz : X.env.scope.names.lookup z = some .local := by rfl)
    (hw : swappedStores [.Tuple [.Name x px, .Name y py, .Name z pz] kt pt] (.Tuple [a, b, c] k2 pt2) X.env = pure (some [x, y, z]) := by rfl)
    (hs : swapsWithSole [.Tuple [.Name x px, .Name y py, .Name z pz] kt pt] (.Tuple [a, b, c] k2 pt2) pos.line X.env = pure false := by rfl) :
    PSt X (.Assign [.Tuple [.Name x px, .Name y py, .Name z pz] kt pt] (.Tuple [a, b, c] k2 pt2) pos) (sAll [i, j, l] ms) := by
  obtain ⟨t, h1, h2⟩ := ha
  refine ⟨_, ps_par3 hc hN hi hj hl hij hil hjl hx hy hz h1 hw hs, fun F H σ ρ fl ρ' hf hR E k1 k2 k3 => ?_⟩
  obtain ⟨⟨bs, ρ1⟩, e1, e2⟩ := Option.bind_eq_some_iff.mp hf
  obtain ⟨ρ2, e3, e4⟩ := Option.map_eq_some_iff.mp e2
  cases e4
  refine h2 F H σ ρ bs ρ1 e1 hR _ fun vs F1 H1 g1 r1 ap => ?_
  obtain ⟨u, v, w, rfl⟩ := len3 (show vs.length = 3 by rw [Paired.length r1, putB_len e3]; rfl)
  exact ⟨u, v, w, rfl, k1 rfl _ F1 H1 (go_all g1.go r1 ap (new_no hR g1 r1) e3)⟩
/-! targets that are names -/
def gNm : List Nat → TGs
  | [] => gNil
  | i :: is => gCons (gName i) (gNm is)
theorem gNm_of : ∀ {is : List Nat} {vs : List V} {σ : L2.St} {H : Hp} {Q : L2.St → Hp → Prop}, vs.length = is.length → Q (putV σ is vs) H → gNm is vs σ H Q
  | [], [], _, _, _, _, q => ⟨rfl, q⟩
  | i :: is, v :: vs, σ, H, Q, e, q => ⟨v, vs, rfl, gNm_of (is := is) (vs := vs) (σ := σ.set i (some v)) (by simpa using e) q⟩
  | [], _ :: _, _, _, _, e, _ => by simp at e
  | _ :: _, [], _, _, _, e, _ => by simp at e
def PNm (X : Cx) (ts : List Expr) (is : List Nat) : Prop := PGs X ts (gNm is)
theorem n_nil : PNm X [] [] := pgs_nil
theorem n_cons (i : Nat) {x : Str} {is : List Nat} (hN : X.N.Nodup) (h : PNm X ts is) (hi : X.N[i]? = some x := by rfl) (hx : Loc X.env.scope x := by first | exact .inl rfl | exact .inr rfl)
    (hf : X.fn x = true ∨ X.env.scope.names.lookup x = some .local := by first | exact .inl rfl | exact .inr rfl | assumption) (hs : (assignEach (.Name x p :: ts) X.env).map (·.2) = assign (.Name x p) X.env :: (assignEach ts X.env).map (·.2) := by rfl) : PNm X (.Name x p :: ts) (i :: is) :=
  pgs_cons (pg_name hN hi hx hf) h hs
/-- a, b, .. = x, y, .. (a tuple is made) -/
theorem s_tup {is : List Nat} {kt k2} (hc : X.calm = true) (hn : PNm X ts is) (ha : XMA X es ms) (hl : (assignEach ts X.env).length = is.length := by rfl) (hst : (assignEach ts X.env).findIdx? (·.1) = none := by rfl)
    (hs : swapsWithSole [.Tuple ts kt tp] (.Tuple es k2 vp) pos.line X.env = pure false := by rfl) (hw : swappedStores [.Tuple ts kt tp] (.Tuple es k2 vp) X.env = pure none := by rfl) (hz : is.length ≤ bigN := by decide) :
    PSt X (.Assign [.Tuple ts kt tp] (.Tuple es k2 vp) pos) (sAll is ms) := by
  obtain ⟨t, h1, h2⟩ := ha
  refine ⟨_, ps_asg (pe_tup h1) (pg_tup hc hn hl hst) hs hw rfl, fun F H σ ρ fl ρ' hf hR E k1 k2 k3 => ?_⟩
  obtain ⟨⟨bs, ρ1⟩, e1, e2⟩ := Option.bind_eq_some_iff.mp hf
  obtain ⟨ρ2, e3, e4⟩ := Option.map_eq_some_iff.mp e2
  cases e4
  refine h2 F H σ ρ bs ρ1 e1 hR _ fun vs F1 H1 g1 r1 ap => ?_
  have hlen : vs.length = is.length := by rw [Paired.length r1, putB_len e3]
  refine ⟨by rw [hlen]; exact Nat.le_trans hz big_le, fun q hq => ?_⟩
  have g2 := Gr.newH (o := .tup vs) g1.rel.ex hq
  have g3 : GoE X.K F H σ ρ F1 (upd H1 q (.tup vs)) ρ1 := g1.trans (.gr g1.rel g2)
  have r3 : Paired (BNew X.K H F1 (upd H1 q (.tup vs))) vs bs := Paired.mapP r1 fun x y z => z.step hR g1 (.gr g1.rel g2)
  exact ⟨q, vs, rfl, .inl (.inl upd_same), hlen, gNm_of hlen (k1 rfl _ F1 _ (go_all g3.go r3 ap (new_no hR g3 r3) e3))⟩
/-- a, b, .. = e, a tuple -/
def sUnp (is : List Nat) (f : Fm → Option (D × Fm)) (ρ : Fm) : Option (Fl × Fm) := (f ρ).bind fun x => match x.1 with
  | .tuple ds => (putB x.2 is (ds.map .sh)).map fun ρ' => (.nx, ρ')
  | _ => none
theorem s_unp {is : List Nat} {kt} (hc : X.calm = true) (hn : PNm X ts is) (ha : XE X e ge) (hl : (assignEach ts X.env).length = is.length := by rfl) (hst : (assignEach ts X.env).findIdx? (·.1) = none := by rfl)
    (hs : swapsWithSole [.Tuple ts kt tp] e pos.line X.env = pure false := by rfl) (hw : swappedStores [.Tuple ts kt tp] e X.env = pure none := by rfl) :
    PSt X (.Assign [.Tuple ts kt tp] e pos) (sUnp is ge) := by
  obtain ⟨t, h1, h2⟩ := ha
  refine ⟨_, ps_asg h1 (pg_tup hc hn hl hst) hs hw rfl, fun F H σ ρ fl ρ' hf hR E k1 k2 k3 => ?_⟩
  obtain ⟨⟨d, ρ1⟩, e1, e2⟩ := Option.bind_eq_some_iff.mp hf
  split at e2
  · rename_i ds ed
    obtain ⟨ρ2, e3, e4⟩ := Option.map_eq_some_iff.mp e2
    cases e4
    cases ed
    refine h2 F H σ ρ _ ρ1 e1 hR _ fun v F1 H1 g1 r1 => ?_
    cases r1 with
    | tup hs r =>
      have hlen := putB_len e3
      rw [List.length_map, ← r.length] at hlen
      exact ⟨_, _, rfl, g1.rel.ex.sqt hs.sqt, hlen, gNm_of hlen (k1 rfl _ F1 _ (go_all g1.go (newS r) newS_apart newS_no e3))⟩
  · cases e2
/-! blocks -/
def sNext (ρ : Fm) : Option (Fl × Fm) := some (.nx, ρ)
def sSeq (f g : Fm → Option (Fl × Fm)) (ρ : Fm) : Option (Fl × Fm) := (f ρ).bind fun x => match x.1 with
  | .nx => g x.2
  | r => some (r, x.2)
variable {st : Stmt} {sts ss1 ss2 : List Stmt} {sf sg : Fm → Option (Fl × Fm)}
theorem b_nil : PBl X [] sNext := ⟨_, pss_nil, fun F H σ ρ fl ρ' hf hR E k1 k2 k3 => by
  cases hf
  exact k1 rfl σ F H (.refl hR)⟩
theorem ss_seq {K : PySem.W.Frag} {t u : TS} (h : SS K t sf) (h' : SS K u sg) : SS K (tSeq t u) (sSeq sf sg) := by
  intro F H σ ρ fl ρ' hf hR E k1 k2 k3
  obtain ⟨⟨f1, ρ1⟩, e1, e2⟩ := Option.bind_eq_some_iff.mp hf
  cases f1 with
  | nx =>
    refine h F H σ ρ _ ρ1 e1 hR _ (fun _ σ1 F1 H1 g1 => ?_) (fun z => by cases z) fun d z => by cases z
    exact h' F1 H1 σ1 ρ1 fl ρ' e2 g1.rel E (fun z σ2 F2 H2 g2 => k1 z σ2 F2 H2 (g1.trans g2)) (fun z σ2 F2 H2 g2 => k2 z σ2 F2 H2 (g1.trans g2)) fun d z v σ2 F2 H2 g2 r => k3 d z v σ2 F2 H2 (g1.trans g2) r
  | bk =>
    cases e2
    exact h F H σ ρ _ _ e1 hR _ (fun z => by cases z) (fun z σ1 F1 H1 g1 => k2 rfl σ1 F1 H1 g1) fun d z => by cases z
  | rt d =>
    cases e2
    exact h F H σ ρ _ _ e1 hR _ (fun z => by cases z) (fun z => by cases z) fun d' z v σ1 F1 H1 g1 r => k3 d' z v σ1 F1 H1 g1 r
theorem b_cons (h : PSt X st sf) (h' : PBl X sts sg) : PBl X (st :: sts) (sSeq sf sg) := let ⟨_, h1, h2⟩ := h; let ⟨_, h3, h4⟩ := h'; ⟨_, pss_cons h1 h3, ss_seq h2 h4⟩
theorem b_one (h : PSt X st sf) : PBl X [st] sf := let ⟨_, h1, h2⟩ := h; ⟨_, pss_one h1, h2⟩
def sNever (_ : Fm) : Option (Fl × Fm) := none
theorem s_never : PSt X st sNever := ⟨_, ps_never, fun F H σ ρ fl ρ' hf => nomatch hf⟩
theorem b_never : PBl X sts sNever := ⟨_, pss_never, fun F H σ ρ fl ρ' hf => nomatch hf⟩
theorem s_pass : PSt X (.Pass pos) sNext := ⟨_, ps_pass, fun F H σ ρ fl ρ' hf hR E k1 k2 k3 => by
  cases hf
  exact k1 rfl σ F H (.refl hR)⟩
def sBreak (ρ : Fm) : Option (Fl × Fm) := some (.bk, ρ)
theorem s_break : PSt X (.Break pos) sBreak := ⟨_, ps_break, fun F H σ ρ fl ρ' hf hR E k1 k2 k3 => by
  cases hf
  exact k2 rfl σ F H (.refl hR)⟩
def sRet (f : Fm → Option (D × Fm)) (ρ : Fm) : Option (Fl × Fm) := (f ρ).map fun x => (.rt x.1, x.2)
theorem s_ret (h : XE X e ge) : PSt X (.Return (some e) pos) (sRet ge) := let ⟨_, h1, h2⟩ := h; ⟨_, ps_ret h1, fun F H σ ρ fl ρ' hf hR E k1 k2 k3 => by
  obtain ⟨⟨d, ρ1⟩, e1, e2⟩ := Option.map_eq_some_iff.mp hf
  cases e2
  exact h2 F H σ ρ d _ e1 hR _ fun v F1 H1 g1 r1 => k3 d rfl v σ F1 H1 g1.go r1⟩
def sDrop (f : Fm → Option (D × Fm)) (ρ : Fm) : Option (Fl × Fm) := (f ρ).map fun x => (.nx, x.2)
theorem s_expr (h : XE X e ge) (hs : swapsWith e none pos.line X.env = pure false := by rfl) : PSt X (.Expr e pos) (sDrop ge) := let ⟨_, h1, h2⟩ := h; ⟨_, ps_expr h1 hs, fun F H σ ρ fl ρ' hf hR E k1 k2 k3 => by
  obtain ⟨⟨d, ρ1⟩, e1, e2⟩ := Option.map_eq_some_iff.mp hf
  cases e2
  exact h2 F H σ ρ d _ e1 hR _ fun v F1 H1 g1 r1 => k1 rfl σ F1 H1 g1.go⟩
def sIf (c : Fm → Option (Bool × Fm)) (f g : Fm → Option (Fl × Fm)) (ρ : Fm) : Option (Fl × Fm) := (c ρ).bind fun x => if x.1 = true then f x.2 else g x.2
theorem s_if (hc : XB X c gt) (ha : PBl X ss1 sf) (hb : PBl X ss2 sg) : PSt X (.If c ss1 ss2 pos) (sIf gt sf sg) := by
  obtain ⟨_, h1, h2⟩ := hc
  obtain ⟨_, h3, h4⟩ := ha
  obtain ⟨_, h5, h6⟩ := hb
  refine ⟨_, ps_if h1 h3 h5, fun F H σ ρ fl ρ' hf hR E k1 k2 k3 => ?_⟩
  obtain ⟨⟨b1, ρ1⟩, e1, e2⟩ := Option.bind_eq_some_iff.mp hf
  refine h2 F H σ ρ _ ρ1 e1 hR _ fun F1 H1 g => ?_
  split at e2
  · rename_i e
    rw [if_pos e]
    exact h4 F1 H1 σ ρ1 fl ρ' e2 g.rel E (fun z σ2 F2 H2 g2 => k1 z σ2 F2 H2 (g.go.trans g2)) (fun z σ2 F2 H2 g2 => k2 z σ2 F2 H2 (g.go.trans g2)) fun d z v σ2 F2 H2 g2 r => k3 d z v σ2 F2 H2 (g.go.trans g2) r
  · rename_i e
    rw [if_neg e]
    exact h6 F1 H1 σ ρ1 fl ρ' e2 g.rel E (fun z σ2 F2 H2 g2 => k1 z σ2 F2 H2 (g.go.trans g2)) (fun z σ2 F2 H2 g2 => k2 z σ2 F2 H2 (g.go.trans g2)) fun d z v σ2 F2 H2 g2 r => k3 d z v σ2 F2 H2 (g.go.trans g2) r
end
end DL
end
section
set_option Elab.async false
set_option linter.all false
set_option maxRecDepth 100000
/-! Own lists changed; loops; comprehensions; defs. -/
namespace DL
open PySem PySem.Spec PyProof.Rows L2
variable [TabT] [FnT]
section
variable {X : Cx} {e a b c : Expr} {es ts : List Expr} {pos p q tp vp apos cpos : Pos} {fe fa fb fc : Fm → Option D} {ft fu : Fm → Option Bool} {fs : Fm → Option (List D)} {ge ga gb : Fm → Option (D × Fm)} {gt gu : Fm → Option (Bool × Fm)} {gs : Fm → Option (List D × Fm)} {me : Fm → Option (B × Fm)} {ms : Fm → Option (List B × Fm)}
/-! ### own lists -/
theorem own_wr {K : PySem.W.Frag} {F H : Hp} {σ : L2.St} {ρ : Fm} {i : Nat} {b0 : B} {a : Addr} {vs vs' : List V} {ls' : List D} (hR : Rel K F H σ ρ) (e : ρ[i]? = some b0) (ob : b0.own = true) (s : σ[i]? = some (some (.ref a))) (ha : H a = some (.lst vs)) (hf : F a = none) (r : RpA K F vs' ls') :
    GoE K F H σ ρ F (upd H a (.lst vs')) (ρ.set i (b0.put ls')) :=
  goE_put hR e ob s (.refl _) (fun b o h => by
    have : b ≠ a := fun z => by rw [z, hf] at h; cases h
    rw [upd_ne this]
    exact hR.ex b o h) (fun c o h n => by rw [upd_ne n]; exact h) (fun c _ h => h) upd_same r
/-- x.append(e) -/
def sApp (i : Nat) (f : Fm → Option (D × Fm)) (ρ : Fm) : Option (Fl × Fm) := (ρ[i]?).bind fun b0 => (ownOf b0).bind fun _ => (f ρ).bind fun x => (x.2[i]?).bind fun b => (ownOf b).bind fun ls => if ls.length < bigN then some (.nx, x.2.set i (b.put (ls ++ [x.1]))) else none
theorem s_app (i : Nat) {y : Str} (h : XE X e ge) (hv : PE X (.Name y q) (tVar i) := by exact pv _)
    (hbase : attributeBase (.Name y q) "append" X.env (eval (.Name y q) X.env) = eval (.Name y q) X.env := by rfl)
    (hfew : ((backTo cpos (starEach [e] X.env)).all (fun x => !x.1) && (backToKw cpos (keywordEach [] X.env)).all (fun x => x.1.isSome)
      && decide ([e].length + ([] : List Keyword).length + (if ([] : List Keyword).isEmpty then 0 else 1) < 30)) = true := by rfl)
    (hline : (apos.endLine == cpos.line) = true := by rfl) (hs : starEach [e] X.env = (false, eval e X.env) :: starEach [] X.env := by rfl) (hsw : swapsWith (.Call (.Attribute (.Name y q) "append" apos) [e] [] cpos) none pos.line X.env = pure false := by rfl) :
    PSt X (.Expr (.Call (.Attribute (.Name y q) "append" apos) [e] [] cpos) pos) (sApp i ge) := by
  obtain ⟨t, h1, h2⟩ := h
  refine ⟨_, ps_expr (pe_bm PySem.F.plainAttrs_list PySem.F.slot_list_append PySem.F.type_list_append mt_append hv (pa_cons h1 pa_nil hs) hbase hfew hline hs rfl) hsw, fun F H σ ρ fl ρ' hf hR E k1 k2 k3 => ?_⟩
  obtain ⟨b0, e01, hf⟩ := Option.bind_eq_some_iff.mp hf
  obtain ⟨ls0, e02, hf⟩ := Option.bind_eq_some_iff.mp hf
  obtain ⟨⟨d, ρ1⟩, e1, e2⟩ := Option.bind_eq_some_iff.mp hf
  obtain ⟨b, e3, e4⟩ := Option.bind_eq_some_iff.mp e2
  obtain ⟨ls, e5, e6⟩ := Option.bind_eq_some_iff.mp e4
  split at e6
  · rename_i hz
    cases e6
    obtain ⟨a0, vs0, s0, h0, _, _⟩ := at_own hR e01 e02
    refine ⟨.ref a0, s0, .inl ⟨rfl, vs0, .inl (.inl h0)⟩, ?_⟩
    refine h2 F H σ ρ _ ρ1 e1 hR _ fun v F1 H1 g1 r1 => ?_
    obtain ⟨a1, vs, s1, ha1, hf1, rl⟩ := at_own g1.rel e3 e5
    rw [s0] at s1
    cases s1
    refine ⟨a0, vs, v, rfl, rfl, ha1, by rw [rl.length]; exact Nat.lt_of_lt_of_le hz big_le, ?_⟩
    exact k1 rfl σ F1 _ (g1.go.trans (own_wr g1.rel e3 (own_ofB e5) s0 ha1 hf1 (rl.append (.one r1))).go)
  · cases e6
/-- x[k] = e -/
def sPut (i : Nat) (fk : Fm → Option D) (f : Fm → Option (D × Fm)) (ρ : Fm) : Option (Fl × Fm) := (f ρ).bind fun x => (x.2[i]?).bind fun b => (ownOf b).bind fun ls => (fk x.2).bind fun kd => match kd with
  | .int k => (ixN ls.length k).map fun j => (.nx, x.2.set i (b.put (ls.set j x.1)))
  | _ => none
theorem s_put (i : Nat) {y : Str} (hk : PP X b fb) (h : XE X e ge) (hv : PE X (.Name y q) (tVar i) := by exact pv _)
    (ha : ∀ v, assign (.Subscript (.Name y q) b tp) X.env v = (do
      let ov ← holding [v] (eval (.Name y q) X.env)
      let iv ← holding [v, ov] (eval b X.env)
      standAt tp
      holding [v, ov, iv] (setItem ov iv v)
      release [v, ov, iv] []) := by intro _; rfl)
    (hs : swapsWithSole [.Subscript (.Name y q) b tp] e pos.line X.env = pure false := by rfl) (hw : swappedStores [.Subscript (.Name y q) b tp] e X.env = pure none := by rfl) : PSt X (.Assign [.Subscript (.Name y q) b tp] e pos) (sPut i fb ge) := by
  obtain ⟨t, h1, h2⟩ := h
  obtain ⟨u, h3, h4⟩ := hk
  refine ⟨_, ps_asg h1 (pg_sub hv h3 set_list ha) hs hw rfl, fun F H σ ρ fl ρ' hf hR E k1 k2 k3 => ?_⟩
  obtain ⟨⟨d, ρ1⟩, e1, e2⟩ := Option.bind_eq_some_iff.mp hf
  obtain ⟨b, e3, e4⟩ := Option.bind_eq_some_iff.mp e2
  obtain ⟨ls, e5, e6⟩ := Option.bind_eq_some_iff.mp e4
  obtain ⟨kd, e7, e8⟩ := Option.bind_eq_some_iff.mp e6
  split at e8
  · rename_i k
    obtain ⟨j, e9, e10⟩ := Option.map_eq_some_iff.mp e8
    cases e10
    refine h2 F H σ ρ _ ρ1 e1 hR _ fun v F1 H1 g1 r1 => ?_
    obtain ⟨a1, vs, s1, ha1, hf1, rl⟩ := at_own g1.rel e3 e5
    refine ⟨.ref a1, s1, ?_⟩
    refine h4 F1 H1 σ ρ1 _ e7 g1.rel _ fun iv F2 H2 g2 r2 => ?_
    have g12 := g1.trans (.gr g1.rel g2)
    obtain ⟨a2, vs2, s2, ha2, hf2, rl2⟩ := at_own g12.rel e3 e5
    rw [s1] at s2
    cases s2
    refine ⟨a1, vs2, k, j, rfl, r2.intI, ha2, by rw [rl2.length]; exact e9, ?_⟩
    exact k1 rfl σ F2 _ (g12.go.trans (own_wr g12.rel e3 (own_ofB e5) s1 ha2 hf2 (rl2.set (r1.mono g2.ex) j)).go)
  · cases e8
/-- x.pop() -/
def xPop (i : Nat) (ρ : Fm) : Option (D × Fm) := (ρ[i]?).bind fun b => (ownOf b).bind fun ls => (ls[ls.length - 1]?).map fun d => (d, ρ.set i (b.put ls.dropLast))
theorem RpA.dropLast {K : PySem.W.Frag} {H : Hp} {xs : List V} {ds : List D} (r : RpA K H xs ds) : RpA K H xs.dropLast ds.dropLast := by
  rw [List.dropLast_eq_take, List.dropLast_eq_take, r.length]
  exact r.take _
theorem x_pop (i : Nat) {y : Str} (hv : PE X (.Name y q) (tVar i) := by exact pv _) (hbase : attributeBase (.Name y q) "pop" X.env (eval (.Name y q) X.env) = eval (.Name y q) X.env := by rfl) (hline : (apos.endLine == cpos.line) = true := by rfl) :
    XE X (.Call (.Attribute (.Name y q) "pop" apos) [] [] cpos) (xPop i) := by
  refine ⟨_, pe_bm0 PySem.F.plainAttrs_list PySem.F.slot_list_pop PySem.F.type_list_pop mt_pop hv hbase hline, fun F H σ ρ d ρ' hf hR Q k => ?_⟩
  obtain ⟨b, e3, e4⟩ := Option.bind_eq_some_iff.mp hf
  obtain ⟨ls, e5, e6⟩ := Option.bind_eq_some_iff.mp e4
  obtain ⟨d', e7, e8⟩ := Option.map_eq_some_iff.mp e6
  cases e8
  obtain ⟨a1, vs, s1, ha1, hf1, rl⟩ := at_own hR e3 e5
  obtain ⟨v, hv1, hv2⟩ := rl.get e7
  refine ⟨.ref a1, s1, .inl ⟨rfl, vs, .inl (.inl ha1)⟩, a1, vs, v, rfl, rfl, ha1, by rw [rl.length]; exact hv1, ?_⟩
  exact k v F _ (own_wr hR e3 (own_ofB e5) s1 ha1 hf1 rl.dropLast) hv2
/-- from here on the own list may be held elsewhere -/
def frz1 (i : Nat) (ρ : Fm) : Fm := match ρ[i]? with
  | some (.ow ds) => ρ.set i (.sh (.list ds))
  | _ => ρ
theorem go_frz {K : PySem.W.Frag} {F H : Hp} {σ : L2.St} {ρ : Fm} (i : Nat) (hR : Rel K F H σ ρ) : ∃ F', Go K F H σ ρ F' H σ (frz1 i ρ) := by
  unfold frz1
  split
  · rename_i ds e
    obtain ⟨a, vs, s1, ha, hf, r⟩ := hR.at_ i _ e
    have hl : i < ρ.length := (List.getElem?_eq_some_iff.mp e).1
    have exF : Ex F (upd F a (.lst vs)) := .new hf
    have get : ∀ j c, (ρ.set i (.sh (.list ds)))[j]? = some c → (j = i ∧ c = .sh (.list ds)) ∨ (j ≠ i ∧ ρ[j]? = some c) := by
      intro j c e
      by_cases hj : j = i
      · subst hj
        rw [List.getElem?_set_self hl] at e
        exact .inl ⟨rfl, (Option.some.inj e).symm⟩
      · rw [List.getElem?_set_ne (fun z => hj z.symm)] at e
        exact .inr ⟨hj, e⟩
    have oi : ownA σ ρ a := ⟨i, _, e, rfl, s1⟩
    refine ⟨upd F a (.lst vs), ⟨fun x o h => ?_, by rw [List.length_set]; exact hR.len, fun j c e' => ?_, fun j k b c x e1 o1 e2 o2 s1' s2' => ?_, hR.tab.see hf ha fun ps z => by cases z⟩, exF, fun x o h _ _ => h, fun x h => h, fun x h hf' n => ?_, fun x o => ?_, fun j es e' => ?_, fun j e' => ?_⟩
    · by_cases hx : x = a
      · subst hx
        rw [upd_same] at h
        rw [← h]
        exact ha
      · rw [upd_ne hx] at h
        exact hR.ex x o h
    · rcases get j c e' with ⟨rfl, rfl⟩ | ⟨hj, e''⟩
      · exact ⟨.ref a, s1, .lst (.inl (.inl upd_same)) (r.mono exF)⟩
      · have := hR.at_ j c e''
        have key : ∀ es, OwnL K F H σ[j]? es → c.own = true → OwnL K (upd F a (.lst vs)) H σ[j]? es := by
          intro es ⟨x, xs, f1, f2, f3, f4⟩ oc
          have hx : x ≠ a := fun z => by
            subst z
            exact hj (hR.sep i j _ c x e rfl e'' oc s1 f1).symm
          exact ⟨x, xs, f1, f2, by rw [upd_ne hx]; exact f3, f4.mono exF⟩
        have keyD : ∀ t es, OwnD K F H σ[j]? t es → c.own = true → OwnD K (upd F a (.lst vs)) H σ[j]? t es := by
          intro t es ⟨x, f1, f3, dd⟩ oc
          have hx : x ≠ a := fun z => by
            subst z
            exact hj (hR.sep i j _ c x e rfl e'' oc s1 f1).symm
          exact ⟨x, f1, by rw [upd_ne hx]; exact f3, dd.move exF fun _ z _ => z⟩
        cases c with
        | no => trivial
        | pin => trivial
        | fn w =>
          obtain ⟨v, f1, f2⟩ := this
          exact ⟨v, f1, FnT.mono exF f2⟩
        | sh d =>
          obtain ⟨v, f1, f2⟩ := this
          exact ⟨v, f1, f2.mono exF⟩
        | ow es => exact key es this rfl
        | io es => exact key es this rfl
        | od t es => exact keyD t es this rfl
        | jd t es => exact keyD t es this rfl
    · rcases get j b e1 with ⟨rfl, rfl⟩ | ⟨hj, e1'⟩
      · cases o1
      · rcases get k c e2 with ⟨rfl, rfl⟩ | ⟨hk, e2'⟩
        · cases o2
        · exact hR.sep j k b c x e1' o1 e2' o2 s1' s2'
    · have hx : x ≠ a := fun z => n (by rw [z]; exact oi)
      rw [upd_ne hx]
      exact hf'
    · obtain ⟨j, b, e', ob, s⟩ := o
      rcases get j b e' with ⟨rfl, rfl⟩ | ⟨hj, e''⟩
      · cases ob
      · exact .inl ⟨j, b, e'', ob, s⟩
    · intro hes
      rcases get j _ e' with ⟨rfl, rfl⟩ | ⟨hj, e''⟩
      · cases hes
      · exact ⟨⟨_, e'', rfl⟩, rfl⟩
    · rcases get j _ e' with ⟨rfl, z⟩ | ⟨hj, e''⟩
      · cases z
      · exact ⟨e'', rfl⟩
  · exact ⟨F, .refl hR⟩
def sFrz (i : Nat) (f : Fm → Option (Fl × Fm)) (ρ : Fm) : Option (Fl × Fm) := f (frz1 i ρ)
theorem s_frz (i : Nat) {st : Stmt} {sf : Fm → Option (Fl × Fm)} (h : PSt X st sf) : PSt X st (sFrz i sf) := let ⟨t, h1, h2⟩ := h; ⟨t, h1, fun F H σ ρ fl ρ' hf hR E k1 k2 k3 => by
  obtain ⟨F', g⟩ := go_frz i hR
  exact h2 F' H σ _ fl ρ' hf g.rel E (fun z σ2 F2 H2 g2 => k1 z σ2 F2 H2 (g.trans g2)) (fun z σ2 F2 H2 g2 => k2 z σ2 F2 H2 (g.trans g2)) fun d z v σ2 F2 H2 g2 r => k3 d z v σ2 F2 H2 (g.trans g2) r⟩
/-- x += e, ints -/
def sAug (i : Nat) (g : D → D → Option D) (f : Fm → Option D) (ρ : Fm) : Option (Fl × Fm) := (fVar i ρ).bind fun x => (f ρ).bind fun y => (g x y).map fun z => (.nx, ρ.set i (.sh z))
theorem s_aug (i : Nat) {x : Str} {op : Operator} {g : D → D → Option D} {r : R2} (ho : OpR X (inplaceOp op) r) (hr : ∀ F H x y dx dy dz, Ex F H → Vw X.K F H x dx → Vw X.K F H y dy → g dx dy = some dz → ∀ Q : VK, Res X.K F H dz Q → r x y H Q) (h : PP X e fe)
    (hN : X.N.Nodup) (hi : X.N[i]? = some x := by rfl) (hx : Loc X.env.scope x := by first | exact .inl rfl | exact .inr rfl) (hf : X.fn x = true ∨ X.env.scope.names.lookup x = some .local := by first | exact .inl rfl | exact .inr rfl | assumption) :
    PSt X (.AugAssign (.Name x tp) op e pos) (sAug i g fe) := by
  obtain ⟨t, h1, h2⟩ := h
  refine ⟨_, ps_aug hN hi hx h1 ho hf, fun F H σ ρ fl ρ' hf hR E k1 k2 k3 => ?_⟩
  obtain ⟨dx, e1, hf⟩ := Option.bind_eq_some_iff.mp hf
  obtain ⟨dy, e2, hf⟩ := Option.bind_eq_some_iff.mp hf
  obtain ⟨dz, e3, hf⟩ := Option.map_eq_some_iff.mp hf
  cases hf
  obtain ⟨v, s1, r1⟩ : ∃ v, σ[i]? = some (some v) ∧ Rp X.K F v dx := by
    unfold fVar at e1
    cases q : ρ[i]? with
    | none => rw [q] at e1; cases e1
    | some b =>
      rw [q] at e1
      cases b <;> cases e1
      exact hR.at_ i _ q
  refine ⟨v, s1, h2 F H σ ρ _ e2 hR _ fun w F1 H1 g1 r2 => ?_⟩
  exact hr F1 H1 v w dx dy dz g1.in_ (.inl (r1.mono g1.ex)) (.inl r2) e3 _ fun z F2 H2 g2 r3 => k1 rfl _ F2 H2 ((Go.gr hR (g1.trans g2)).trans (go_set (hR.gr (g1.trans g2)) r3))
/-! ### what is walked -/
def ItOk (K : PySem.W.Frag) (J : It) (F : Hp) (ds : List D) : Prop := ∀ F2 H2, Ex F F2 → Ex F2 H2 → (∀ (i : Nat) (d : D), ds[i]? = some d → J.go i H2 ∧ ∀ x H3, J.yld i H2 x H3 → ∃ F3, Gr F2 H2 F3 H3 ∧ Rp K F3 x d) ∧ J.stop ds.length H2
theorem ItOk.mono {K : PySem.W.Frag} {J : It} {F F' : Hp} {ds : List D} (h : ItOk K J F ds) (e : Ex F F') : ItOk K J F' ds := fun F2 H2 e1 e2 => h F2 H2 (e.trans e1) e2
def SI (K : PySem.W.Frag) (wi : TI) (f : Fm → Option (List D)) : Prop := ∀ F H σ ρ ds, f ρ = some ds → Rel K F H σ ρ → ∀ R : It → Hp → Prop, (∀ J F' H', Gr F H F' H' → ItOk K J F' ds → R J H') → wi σ H R
def PIt (X : Cx) (tg e : Expr) (f : Fm → Option (List D)) : Prop := ∃ wi, PI X tg e wi ∧ SI X.K wi f
def strD (x : Str) : List D := x.cps.toList.map fun c => .str ⟨#[c]⟩
def seqD : D → Option (List D)
  | .list xs => some xs
  | .tuple xs => some xs
  | .str x => some (strD x)
  | _ => none
def iSeq (f : Fm → Option D) (ρ : Fm) : Option (List D) := (f ρ).bind seqD
theorem ok_list {K : PySem.W.Frag} {F : Hp} {a : Addr} {xs : List V} {ds : List D} (s : SqL K F a xs) (r : RpA K F xs ds) : ItOk K (Itl K a) F ds := fun F2 H2 e1 e2 => by
  have s2 : SqL K H2 a xs := e2.sql (e1.sql s)
  refine ⟨fun i d h => ?_, xs, s2, Nat.le_of_eq r.length⟩
  obtain ⟨v, h1, h2⟩ := r.get h
  refine ⟨⟨xs, v, s2, h1⟩, fun x H3 hy => ?_⟩
  obtain ⟨rfl, hx⟩ := hy
  have := (hx xs s2).symm.trans h1
  cases this
  exact ⟨F2, .refl e2, h2.mono e1⟩
theorem ok_tup {K : PySem.W.Frag} {F : Hp} {a : Addr} {xs : List V} {ds : List D} (s : SqT K F a xs) (r : RpA K F xs ds) : ItOk K (Itt K a) F ds := fun F2 H2 e1 e2 => by
  have s2 : SqT K H2 a xs := e2.sqt (e1.sqt s)
  refine ⟨fun i d h => ?_, xs, s2, Nat.le_of_eq r.length⟩
  obtain ⟨v, h1, h2⟩ := r.get h
  refine ⟨⟨xs, v, s2, h1⟩, fun x H3 hy => ?_⟩
  obtain ⟨rfl, hx⟩ := hy
  have := (hx xs s2).symm.trans h1
  cases this
  exact ⟨F2, .refl e2, h2.mono e1⟩
theorem ok_str {K : PySem.W.Frag} {F : Hp} {z : Str} : ItOk K (Its z) F (strD z) := fun F2 H2 e1 e2 => by
  have hl : (strD z).length = z.cps.size := by unfold strD; rw [List.length_map, Array.length_toList]
  refine ⟨fun i d h => ?_, Nat.le_of_eq hl.symm⟩
  have hi : i < z.cps.size := by rw [← hl]; exact (List.getElem?_eq_some_iff.mp h).1
  refine ⟨hi, fun x H3 hy => ?_⟩
  obtain ⟨rfl, c, hc, rfl⟩ := hy
  unfold strD at h
  rw [List.getElem?_map, Array.getElem?_toList, hc] at h
  cases h
  exact ⟨F2, .refl e2, .str _⟩
theorem pi_or {tg : Expr} {w1 w2 : TI} (h1 : PI X tg e w1) (h2 : PI X tg e w2) : PI X tg e (fun σ H R => w1 σ H R ∨ w2 σ H R) := ⟨fun pins s σ H R I h => h.elim (fun h => h1.run pins s σ H R I h) fun h => h2.run pins s σ H R I h⟩
theorem i_seq {tg : Expr} (h : PP X e fe) : PIt X tg e (iSeq fe) := by
  obtain ⟨t, h1, h2⟩ := h
  refine ⟨_, pi_or (pi_list h1) (pi_or (pi_tup h1) (pi_str h1)), fun F H σ ρ ds hf hR R k => ?_⟩
  obtain ⟨d, e1, e2⟩ := Option.bind_eq_some_iff.mp hf
  unfold seqD at e2
  split at e2
  · cases e2
    refine .inl (h2 F H σ ρ _ e1 hR _ fun v F1 H1 g1 r1 => ?_)
    cases r1 with
    | lst s r => exact ⟨_, rfl, ⟨_, g1.in_.sql s⟩, k _ F1 H1 g1 (ok_list s r)⟩
  · cases e2
    refine .inr (.inl (h2 F H σ ρ _ e1 hR _ fun v F1 H1 g1 r1 => ?_))
    cases r1 with
    | tup s r => exact ⟨_, rfl, ⟨_, g1.in_.sqt s.sqt⟩, k _ F1 H1 g1 (ok_tup s.sqt r)⟩
  · cases e2
    refine .inr (.inr (h2 F H σ ρ _ e1 hR _ fun v F1 H1 g1 r1 => ?_))
    exact ⟨_, r1.strI, k _ F1 H1 g1 ok_str⟩
  · cases e2
def rngD (lo : Int) (n : Nat) : List D := (List.range n).map fun (i : Nat) => .int (lo + (i : Int))
def smR (i : Int) : Bool := decide (-(2 ^ 62) ≤ i) && decide (i < 2 ^ 62)
def iRg1 (f : Fm → Option D) (ρ : Fm) : Option (List D) := match f ρ with
  | some (.int j) => if smR j then some (rngD 0 j.toNat) else none
  | _ => none
def iRg2 (f g : Fm → Option D) (ρ : Fm) : Option (List D) := match f ρ, g ρ with
  | some (.int i), some (.int j) => if smR i && smR j then some (rngD i (j - i).toNat) else none
  | _, _ => none
theorem ok_rng {K : PySem.W.Frag} {F : Hp} {lo : Int} {n : Nat} : ItOk K (Itr lo n) F (rngD lo n) := fun F2 H2 e1 e2 => by
  have hl : (rngD lo n).length = n := by unfold rngD; rw [List.length_map, List.length_range]
  refine ⟨fun i d h => ?_, Nat.le_of_eq hl.symm⟩
  have hi : i < n := by rw [← hl]; exact (List.getElem?_eq_some_iff.mp h).1
  refine ⟨hi, fun x H3 hy => ?_⟩
  obtain ⟨rfl, rfl⟩ := hy
  unfold rngD at h
  rw [List.getElem?_map, List.getElem?_range hi] at h
  cases h
  exact ⟨F2, .refl e2, .int _⟩
theorem i_rg1 {tg : Expr} (B : Bt X.mg) (h : PP X e fe) (hg : Gl X "range" := by rfl) (hs : starEach [e] X.env = (false, eval e X.env) :: starEach [] X.env := by rfl) : PIt X tg (.Call (.Name "range" p) [e] [] pos) (iRg1 fe) := by
  obtain ⟨t, h1, h2⟩ := h
  refine ⟨_, pi_range1 hg B.range (pa_cons h1 pa_nil hs) hs, fun F H σ ρ ds hf hR R k => ?_⟩
  unfold iRg1 at hf
  split at hf
  · rename_i j e1
    split at hf
    · rename_i hz
      cases hf
      unfold smR at hz
      simp only [Bool.and_eq_true, decide_eq_true_eq] at hz
      refine h2 F H σ ρ _ e1 hR _ fun v F1 H1 g1 r1 => ?_
      exact ⟨j, by rw [r1.intI], hz.1, hz.2, k _ F1 H1 g1 ok_rng⟩
    · cases hf
  · cases hf
theorem i_rg2 {tg : Expr} (B : Bt X.mg) (h : PP X a fa) (h' : PP X b fb) (hg : Gl X "range" := by rfl) (hs : starEach [a, b] X.env = [(false, eval a X.env), (false, eval b X.env)] := by rfl) (hs2 : starEach [b] X.env = [(false, eval b X.env)] := by rfl) : PIt X tg (.Call (.Name "range" p) [a, b] [] pos) (iRg2 fa fb) := by
  obtain ⟨t, h1, h2⟩ := h
  obtain ⟨u, h3, h4⟩ := h'
  refine ⟨_, pi_range2 hg B.range (pa_cons h1 (pa_cons h3 pa_nil hs2) (by rw [hs]; exact congrArg _ hs2.symm)) hs hs2, fun F H σ ρ ds hf hR R k => ?_⟩
  unfold iRg2 at hf
  split at hf
  · rename_i i j e1 e2
    split at hf
    · rename_i hz
      cases hf
      unfold smR at hz
      simp only [Bool.and_eq_true, decide_eq_true_eq] at hz
      refine h2 F H σ ρ _ e1 hR _ fun v F1 H1 g1 r1 => ?_
      refine h4 F1 H1 σ ρ _ e2 (hR.gr g1) _ fun w F2 H2 g2 r2 => ?_
      exact ⟨i, j, by rw [r1.intI, r2.intI], ⟨hz.1.1, hz.1.2, hz.2.1, hz.2.2⟩, k _ F2 H2 (g1.trans g2) ok_rng⟩
    · cases hf
  · cases hf
/-- enumerate(e) -/
def enumD : Nat → List D → List D
  | _, [] => []
  | n, d :: ds => .tuple [.int n, d] :: enumD (n + 1) ds
def iEn (f : Fm → Option D) (ρ : Fm) : Option (List D) := (f ρ).bind fun d => (itemsD d).map (enumD 0)
theorem enumD_len : ∀ (n : Nat) (ds : List D), (enumD n ds).length = ds.length
  | _, [] => rfl
  | n, d :: ds => by rw [enumD, List.length_cons, List.length_cons, enumD_len (n + 1) ds]
theorem enumD_get : ∀ (n : Nat) (ds : List D) (i : Nat) (d : D), (enumD n ds)[i]? = some d → ∃ d', ds[i]? = some d' ∧ d = .tuple [.int ((n + i : Nat) : Int), d']
  | _, [], i, d, h => by simp [enumD] at h
  | n, x :: ds, 0, d, h => by
    simp only [enumD, List.getElem?_cons_zero, Option.some.injEq] at h
    exact ⟨x, rfl, h.symm⟩
  | n, x :: ds, i + 1, d, h => by
    simp only [enumD, List.getElem?_cons_succ] at h
    obtain ⟨d', h1, h2⟩ := enumD_get (n + 1) ds i d h
    refine ⟨d', by simpa using h1, ?_⟩
    rw [h2]
    have : n + 1 + i = n + (i + 1) := by omega
    rw [this]
theorem en_new {K : PySem.W.Frag} {F2 H2 : Hp} {T : Addr} {v : V} {d : D} {i : Nat} {ob : Obj} (ho : ob.dict = none) (e2 : Ex F2 H2) (hT : H2 T = none) (r : Rp K F2 v d) : ∃ F3, Gr F2 H2 F3 (upd H2 T (.frz ob (.tup [.int (i : Nat), v]))) ∧ Rp K F3 (.ref T) (.tuple [.int (i : Nat), d]) := by
  have g := Gr.new (o := .frz ob (.tup [.int (i : Nat), v])) e2 hT
  exact ⟨_, g, .tup ⟨ob, upd_same, ho⟩ (.cons (.int _) (.cons (r.mono g.ex) .nil))⟩
theorem i_enum {elts : List Expr} {kk : Nat} {tpos : Pos} (B : Bt X.mg) (h : PP X e fe) (hg : Gl X "enumerate" := by rfl) (hs : starEach [e] X.env = (false, eval e X.env) :: starEach [] X.env := by rfl) : PIt X (.Tuple elts kk tpos) (.Call (.Name "enumerate" p) [e] [] pos) (iEn fe) := by
  obtain ⟨t, h1, h2⟩ := h
  refine ⟨_, pi_enumT hg B.enumerate (pa_cons h1 pa_nil hs) hs, fun F H σ ρ ds hf hR R k => ?_⟩
  obtain ⟨d, e1, e2⟩ := Option.bind_eq_some_iff.mp hf
  obtain ⟨xs, e3, e4⟩ := Option.map_eq_some_iff.mp e2
  subst e4
  cases d <;> cases e3
  · refine .inl (h2 F H σ ρ _ e1 hR _ fun v F1 H1 g1 r1 => ?_)
    cases r1 with
    | lst s r =>
      refine ⟨_, _, rfl, g1.in_.sql s, k _ F1 H1 g1 fun F2 H2 f1 f2 => ?_⟩
      have s2 := f2.sql (f1.sql s)
      refine ⟨fun i d hd => ?_, _, s2, by rw [enumD_len, r.length]; exact Nat.le_refl _⟩
      obtain ⟨d', hd', rfl⟩ := enumD_get 0 _ i d hd
      obtain ⟨w, w1, w2⟩ := r.get hd'
      refine ⟨⟨_, w, s2, w1⟩, fun x H3 hy => ?_⟩
      obtain ⟨T, x', ob, rfl, hT, ho, rfl, hx⟩ := hy
      have := (hx _ s2).symm.trans w1
      cases this
      rw [Nat.zero_add]
      exact en_new ho f2 hT (w2.mono f1)
  · refine .inr (h2 F H σ ρ _ e1 hR _ fun v F1 H1 g1 r1 => ?_)
    cases r1 with
    | tup s r =>
      refine ⟨_, _, rfl, g1.in_.sqt s.sqt, k _ F1 H1 g1 fun F2 H2 f1 f2 => ?_⟩
      have s2 : SqT X.K H2 _ _ := f2.sqt (f1.sqt s.sqt)
      refine ⟨fun i d hd => ?_, _, s2, by rw [enumD_len, r.length]; exact Nat.le_refl _⟩
      obtain ⟨d', hd', rfl⟩ := enumD_get 0 _ i d hd
      obtain ⟨w, w1, w2⟩ := r.get hd'
      refine ⟨⟨_, w, s2, w1⟩, fun x H3 hy => ?_⟩
      obtain ⟨T, x', ob, rfl, hT, ho, rfl, hx⟩ := hy
      have := (hx _ s2).symm.trans w1
      cases this
      rw [Nat.zero_add]
      exact en_new ho f2 hT (w2.mono f1)
end
end DL
end
section
set_option Elab.async false
set_option linter.all false
set_option maxRecDepth 100000
/-! Loops, comprehensions, defs. -/
namespace DL
open PySem PySem.Spec PyProof.Rows L2
variable [TabT] [FnT]
/-! ### targets of loops -/
/-- a name, or a tuple of targets -/
inductive Tg where
  | one (i : Nat)
  | tup (ts : List Tg)
mutual
def setT : Tg → D → Fm → Option Fm
  | .one i, d, ρ => some (ρ.set i (.sh d))
  | .tup ts, d, ρ => match d with
    | .tuple ds => setTs ts ds ρ
    | _ => none
def setTs : List Tg → List D → Fm → Option Fm
  | [], [], ρ => some ρ
  | t :: ts, d :: ds, ρ => (setT t d ρ).bind fun ρ' => setTs ts ds ρ'
  | _, _, _ => none
end
mutual
def slotsT : Tg → List Nat
  | .one i => [i]
  | .tup ts => slotsTs ts
def slotsTs : List Tg → List Nat
  | [] => []
  | t :: ts => slotsT t ++ slotsTs ts
end
/-- slots that may be stored -/
def SameOut (vs : List Nat) (σ σ' : L2.St) : Prop := σ'.length = σ.length ∧ ∀ i, i ∉ vs → σ'[i]? = σ[i]?
def ST (K : PySem.W.Frag) (g : TG) (t : Tg) : Prop := ∀ F H σ ρ d ρ' v, setT t d ρ = some ρ' → Rel K F H σ ρ → Rp K F v d → ∀ Q : L2.St → Hp → Prop, (∀ σ', Go K F H σ ρ F H σ' ρ' → SameOut (slotsT t) σ σ' → Q σ' H) → g v σ H Q
def STs (K : PySem.W.Frag) (g : TGs) (t : List Tg) : Prop := ∀ F H σ ρ ds ρ' vs, setTs t ds ρ = some ρ' → Rel K F H σ ρ → RpA K F vs ds → ∀ Q : L2.St → Hp → Prop, (∀ σ', Go K F H σ ρ F H σ' ρ' → SameOut (slotsTs t) σ σ' → Q σ' H) → g vs σ H Q
def PTg (X : Cx) (e : Expr) (t : Tg) : Prop := ∃ g, PG X e g ∧ ST X.K g t
def PTgs (X : Cx) (es : List Expr) (t : List Tg) : Prop := ∃ g, PGs X es g ∧ STs X.K g t ∧ (assignEach es X.env).length = t.length ∧ (assignEach es X.env).findIdx? (·.1) = none
section
variable {X : Cx} {e a b c : Expr} {es ts : List Expr} {pos p q tp vp apos cpos : Pos}
theorem g_one (i : Nat) {x : Str} (hN : X.N.Nodup) (hi : X.N[i]? = some x := by rfl) (hx : Loc X.env.scope x := by first | exact .inl rfl | exact .inr rfl) (hf : X.fn x = true ∨ X.env.scope.names.lookup x = some .local := by first | exact .inl rfl | exact .inr rfl | assumption) : PTg X (.Name x p) (.one i) :=
  ⟨_, pg_name hN hi hx hf, fun F H σ ρ d ρ' v h hR r Q k => by
    cases h
    exact k _ (go_set hR r) ⟨List.length_set, fun j hj => List.getElem?_set_ne fun z => hj (by rw [z]; exact List.mem_singleton.mpr rfl)⟩⟩
theorem gs_nil : PTgs X [] [] := by
  refine ⟨_, pgs_nil, fun F H σ ρ ds ρ' vs h hR r Q k => ?_, rfl, rfl⟩
  cases ds with
  | nil =>
    cases h
    cases r
    exact ⟨rfl, k σ (.refl hR) ⟨rfl, fun _ _ => rfl⟩⟩
  | cons _ _ => cases h
theorem gs_cons {t : Tg} {tt : List Tg} (h1 : PTg X e t) (h2 : PTgs X es tt) (hs : (assignEach (e :: es) X.env).map (·.2) = assign e X.env :: (assignEach es X.env).map (·.2) := by rfl) (hl : (assignEach (e :: es) X.env).length = (assignEach es X.env).length + 1 := by rfl) (hst : (assignEach (e :: es) X.env).findIdx? (·.1) = none := by rfl) : PTgs X (e :: es) (t :: tt) := by
  obtain ⟨g, a1, a2⟩ := h1
  obtain ⟨gs, b1, b2, b3, b4⟩ := h2
  refine ⟨_, pgs_cons a1 b1 hs, fun F H σ ρ ds ρ' vs h hR r Q k => ?_, by rw [hl, b3]; rfl, hst⟩
  cases r with
  | nil => cases h
  | cons r1 r2 =>
    obtain ⟨ρ1, e1, e2⟩ := Option.bind_eq_some_iff.mp h
    refine ⟨_, _, rfl, a2 F H σ ρ _ ρ1 _ e1 hR r1 _ fun σ1 g1 s1 => ?_⟩
    refine b2 F H σ1 ρ1 _ ρ' _ e2 g1.rel r2 _ fun σ2 g2 s2 => k σ2 (g1.trans g2) ⟨s2.1.trans s1.1, fun i hi => ?_⟩
    have h1 : i ∉ slotsT t := fun z => hi (List.mem_append_left _ z)
    have h2 : i ∉ slotsTs tt := fun z => hi (List.mem_append_right _ z)
    rw [s2.2 i h2, s1.2 i h1]
theorem g_tup {tt : List Tg} {kk : Nat} (hc : X.calm = true) (h : PTgs X es tt) : PTg X (.Tuple es kk p) (.tup tt) := by
  obtain ⟨gs, b1, b2, b3, b4⟩ := h
  refine ⟨_, pg_tup hc b1 b3 b4, fun F H σ ρ d ρ' v h hR r Q k => ?_⟩
  cases r with
  | tup s r =>
    have hlen : ∀ {tt : List Tg} {ds : List D} {ρ ρ' : Fm}, setTs tt ds ρ = some ρ' → ds.length = tt.length := by
      intro tt
      induction tt with
      | nil =>
        intro ds ρ ρ' h
        cases ds with
        | nil => rfl
        | cons _ _ => cases h
      | cons t tt ih =>
        intro ds ρ ρ' h
        cases ds with
        | nil => cases h
        | cons d ds =>
          obtain ⟨ρ1, e1, e2⟩ := Option.bind_eq_some_iff.mp h
          rw [List.length_cons, List.length_cons, ih e2]
    have h' : setTs tt _ ρ = some ρ' := h
    exact ⟨_, _, rfl, hR.ex.sqt s.sqt, by rw [r.length]; exact hlen h', b2 F H σ ρ _ ρ' _ h' hR r Q k⟩
  | _ => cases h
/-! ### for -/
def forL (t : Tg) (f : Fm → Option (Fl × Fm)) : List D → Fm → Option (Fl × Fm)
  | [], ρ => some (.nx, ρ)
  | d :: ds, ρ => (setT t d ρ).bind fun ρ1 => (f ρ1).bind fun x => match x.1 with
    | .nx => forL t f ds x.2
    | .bk => some (.nx, x.2)
    | .rt r => some (.rt r, x.2)
def sFor (t : Tg) (fi : Fm → Option (List D)) (f : Fm → Option (Fl × Fm)) (ρ : Fm) : Option (Fl × Fm) := (fi ρ).bind fun ds => forL t f ds ρ
variable {fi : Fm → Option (List D)} {sf sg : Fm → Option (Fl × Fm)} {body : List Stmt} {iter : Expr} {gt : Fm → Option (Bool × Fm)}
theorem s_for {t : Tg} (hp : PassesOwn (model X.prog X.w) X.A X.env X.xe) (hc : X.calm = true) (hi : PIt X e iter fi) (hg : PTg X e t) (hb : PBl X body sf) (hs : ∀ x, foldedSetIterable iter X.env x = pure x := by intro _; rfl) : PSt X (.For e iter body [] pos) (sFor t fi sf) := by
  obtain ⟨wi, a1, a2⟩ := hi
  obtain ⟨g, b1, b2⟩ := hg
  obtain ⟨tb, c1, c2⟩ := hb
  refine ⟨_, ps_for hp hc a1 b1 c1 hs, fun F H σ ρ fl ρ' hf hR E k1 k2 k3 => ?_⟩
  obtain ⟨ds, e1, e2⟩ := Option.bind_eq_some_iff.mp hf
  refine a2 F H σ ρ ds e1 hR _ fun J F0 H0 g0 ok => ?_
  refine ⟨fun i m σ' H' => m = ds.length - i ∧ i ≤ ds.length ∧ ∃ F' ρ1, Go X.K F H σ ρ F' H' σ' ρ1 ∧ Ex F0 F' ∧ forL t sf (ds.drop i) ρ1 = some (fl, ρ'), ⟨_, rfl, Nat.zero_le _, F0, ρ, .gr hR g0, .refl _, e2⟩, fun i m σ' H' hW => ?_⟩
  obtain ⟨rfl, hi, F', ρ1, g1, x1, e3⟩ := hW
  by_cases h : i < ds.length
  · right
    have hd : ds[i]? = some ds[i] := List.getElem?_eq_getElem h
    obtain ⟨ha, hb⟩ := (ok F' H' x1 g1.rel.ex).1 i _ hd
    rw [List.drop_eq_getElem_cons h] at e3
    obtain ⟨ρ2, e4, e5⟩ := Option.bind_eq_some_iff.mp e3
    obtain ⟨⟨f1, ρ3⟩, e6, e7⟩ := Option.bind_eq_some_iff.mp e5
    refine ⟨ha, fun σ2 H2 => f1 = .nx ∧ ∃ F2, Go X.K F H σ ρ F2 H2 σ2 ρ3 ∧ Ex F0 F2, fun σ2 H2 hN => ?_, fun x H2 hy => ?_⟩
    · obtain ⟨rfl, F2, g2, x2⟩ := hN
      exact ⟨ds.length - (i + 1), by omega, rfl, h, F2, ρ3, g2, x2, e7⟩
    · obtain ⟨F2, gr, rx⟩ := hb x H2 hy
      have g2 := g1.trans (.gr g1.rel gr)
      refine b2 F2 H2 σ' ρ1 _ ρ2 x e4 g2.rel rx _ fun σ3 g3 _ => ?_
      have g4 := g2.trans g3
      refine c2 F2 H2 σ3 ρ2 f1 ρ3 e6 g4.rel _ (fun z σ4 F4 H4 g5 => ?_) (fun z σ4 F4 H4 g5 => ?_) fun d z v σ4 F4 H4 g5 r => ?_
      · exact ⟨z, F4, g4.trans g5, (x1.trans gr.ex).trans g5.ex⟩
      · subst z
        cases e7
        exact k1 rfl σ4 F4 H4 (g4.trans g5)
      · subst z
        cases e7
        exact k3 d rfl v σ4 F4 H4 (g4.trans g5) r
  · left
    have hl : i = ds.length := by omega
    subst hl
    rw [List.drop_length] at e3
    cases e3
    exact ⟨(ok F' H' x1 g1.rel.ex).2, k1 rfl σ' F' H' g1⟩
/-! ### while -/
def whL (c : Fm → Option (Bool × Fm)) (f : Fm → Option (Fl × Fm)) : Nat → Fm → Option (Fl × Fm)
  | 0, _ => none
  | n + 1, ρ => (c ρ).bind fun x => if x.1 = true then (f x.2).bind fun y => (match y.1 with
    | .nx => whL c f n y.2
    | .bk => some (.nx, y.2)
    | .rt r => some (.rt r, y.2)) else some (.nx, x.2)
def sWhile (n : Nat) (c : Fm → Option (Bool × Fm)) (f : Fm → Option (Fl × Fm)) : Fm → Option (Fl × Fm) := whL c f n
theorem s_while (n : Nat) {c : Expr} (hp : PassesOwn (model X.prog X.w) X.A X.env X.xe) (hc : XB X c gt) (hb : PBl X body sf) : PSt X (.While c body [] pos) (sWhile n gt sf) := by
  obtain ⟨tc, a1, a2⟩ := hc
  obtain ⟨tb, c1, c2⟩ := hb
  refine ⟨_, ps_while hp a1 c1, fun F H σ ρ fl ρ' hf hR E k1 k2 k3 => ?_⟩
  refine ⟨fun m σ' H' => ∃ F' ρ1, Go X.K F H σ ρ F' H' σ' ρ1 ∧ whL gt sf m ρ1 = some (fl, ρ'), ⟨n, F, ρ, .refl hR, hf⟩, fun m σ' H' hW => ?_⟩
  obtain ⟨F', ρ1, g1, e3⟩ := hW
  cases m with
  | zero => cases e3
  | succ m =>
    obtain ⟨⟨b, ρ2⟩, e4, e5⟩ := Option.bind_eq_some_iff.mp e3
    refine a2 F' H' σ' ρ1 b ρ2 e4 g1.rel _ fun F2 H2 g2 => ?_
    have g3 := g1.trans g2.go
    split at e5
    · rename_i hb
      rw [if_pos hb]
      obtain ⟨⟨f1, ρ3⟩, e6, e7⟩ := Option.bind_eq_some_iff.mp e5
      refine ⟨fun σ2 H2 => f1 = .nx ∧ ∃ F2, Go X.K F H σ ρ F2 H2 σ2 ρ3, fun σ2 H2 hN => ?_, ?_⟩
      · obtain ⟨rfl, F3, g4⟩ := hN
        exact ⟨m, Nat.lt_succ_self _, F3, ρ3, g4, e7⟩
      · refine c2 F2 H2 σ' ρ2 f1 ρ3 e6 g3.rel _ (fun z σ4 F4 H4 g5 => ⟨z, F4, g3.trans g5⟩) (fun z σ4 F4 H4 g5 => ?_) fun d z v σ4 F4 H4 g5 r => ?_
        · subst z
          cases e7
          exact k1 rfl σ4 F4 H4 (g3.trans g5)
        · subst z
          cases e7
          exact k3 d rfl v σ4 F4 H4 (g3.trans g5) r
    · rename_i hb
      rw [if_neg hb]
      cases e5
      exact k1 rfl σ' F2 H2 g3
end
/-! ### comprehensions -/
def wipeB (ρ : Fm) : List Nat → Fm
  | [] => ρ
  | v :: vs => (wipeB ρ vs).set v .no
theorem wipeB_len (ρ : Fm) : ∀ vs : List Nat, (wipeB ρ vs).length = ρ.length
  | [] => rfl
  | v :: vs => by rw [wipeB, List.length_set, wipeB_len ρ vs]
theorem wipeB_get {ρ : Fm} {i : Nat} {b : B} : ∀ {vs : List Nat}, (wipeB ρ vs)[i]? = some b → (i ∈ vs ∧ b = .no) ∨ (i ∉ vs ∧ ρ[i]? = some b)
  | [], h => .inr ⟨List.not_mem_nil, h⟩
  | v :: vs, h => by
    by_cases hv : i = v
    · subst hv
      left
      refine ⟨List.mem_cons_self, ?_⟩
      have hl : i < (wipeB ρ vs).length := by
        have := (List.getElem?_eq_some_iff.mp h).1
        rwa [wipeB, List.length_set] at this
      rw [wipeB, List.getElem?_set_self hl] at h
      exact (Option.some.inj h).symm
    · rw [wipeB, List.getElem?_set_ne (fun z => hv z.symm)] at h
      rcases wipeB_get h with ⟨h1, h2⟩ | ⟨h1, h2⟩
      · exact .inl ⟨List.mem_cons_of_mem _ h1, h2⟩
      · exact .inr ⟨fun z => (List.mem_cons.mp z).elim hv h1, h2⟩
theorem wipe_out {σ : L2.St} {i : Nat} : ∀ {vs : List Nat}, i ∉ vs → (wipe σ vs)[i]? = σ[i]?
  | [], _ => rfl
  | v :: vs, h => by
    rw [wipe, List.getElem?_set_ne (fun z => h (by rw [z]; exact List.mem_cons_self)), wipe_out fun z => h (List.mem_cons_of_mem _ z)]
theorem wipe_in {σ : L2.St} {i : Nat} : ∀ {vs : List Nat}, i ∈ vs → i < σ.length → (wipe σ vs)[i]? = some none
  | v :: vs, h, hl => by
    by_cases hv : i = v
    · subst hv
      rw [wipe, List.getElem?_set_self (by rw [wipe_length]; exact hl)]
    · rw [wipe, List.getElem?_set_ne (fun z => hv z.symm)]
      exact wipe_in ((List.mem_cons.mp h).resolve_left hv) hl
theorem wipe_same {σ σ' : L2.St} {vs us : List Nat} (h : SameOut us (wipe σ vs) σ') (hs : ∀ i ∈ us, i ∈ vs) : wipe σ' vs = wipe σ vs := by
  apply List.ext_getElem?
  intro i
  by_cases hi : i ∈ vs
  · by_cases hl : i < σ.length
    · rw [wipe_in hi hl, wipe_in hi (by rw [h.1, wipe_length]; exact hl)]
    · rw [List.getElem?_eq_none (by rw [wipe_length, h.1, wipe_length]; omega), List.getElem?_eq_none (by rw [wipe_length]; omega)]
  · rw [wipe_out hi, h.2 i fun z => hi (hs i z)]
section
variable {K : PySem.W.Frag} {F H F' H' : Hp} {σ : L2.St} {ρ : Fm}
theorem Rel.wipe (h : Rel K F H σ ρ) (vs : List Nat) : Rel K F H (L2.wipe σ vs) (wipeB ρ vs) := by
  refine ⟨h.ex, by rw [wipe_length, wipeB_len]; exact h.len, fun i b e => ?_, fun i j b c a e1 o1 e2 o2 s1 s2 => ?_, h.tab⟩
  · rcases wipeB_get e with ⟨_, rfl⟩ | ⟨h1, h2⟩
    · trivial
    · rw [wipe_out h1]
      exact h.at_ i b h2
  · rcases wipeB_get e1 with ⟨_, rfl⟩ | ⟨h1, h2⟩
    · cases o1
    · rcases wipeB_get e2 with ⟨_, rfl⟩ | ⟨h3, h4⟩
      · cases o2
      · rw [wipe_out h1] at s1
        rw [wipe_out h3] at s2
        exact h.sep i j b c a h2 o1 h4 o2 s1 s2
end
/-- plain: the item and the test read only -/
def lcP (t : Tg) (fc : Fm → Option Bool) (fe : Fm → Option D) (ρ : Fm) : List D → Option (List D)
  | [] => some []
  | d :: ds => (setT t d ρ).bind fun ρ1 => (fc ρ1).bind fun b => if b = true then (fe ρ1).bind fun x => (lcP t fc fe ρ ds).map (x :: ·) else lcP t fc fe ρ ds
def fLc (vs : List Nat) (t : Tg) (fi : Fm → Option (List D)) (fc : Fm → Option Bool) (fe : Fm → Option D) (ρ : Fm) : Option D := (fi ρ).bind fun ds => if ds.length ≤ bigN then (lcP t fc fe (wipeB ρ vs) ds).map .list else none
theorem sp_lc {K : PySem.W.Frag} {wi : TI} {g : TG} {tt : TT} {te : TE} {vs : List Nat} {t : Tg} {fi : Fm → Option (List D)} {fc : Fm → Option Bool} {fe : Fm → Option D} (hi : SI K wi fi) (hg : ST K g t) (ht : SB K tt fc) (he : SP K te fe) (hv : ∀ i ∈ slotsT t, i ∈ vs) : SP K (tLc wi g tt te vs) (fLc vs t fi fc fe) := by
  intro F H σ ρ d hf hR Q k
  obtain ⟨ds, e1, e2⟩ := Option.bind_eq_some_iff.mp hf
  split at e2
  · rename_i hz
    obtain ⟨rs, e3, e4⟩ := Option.map_eq_some_iff.mp e2
    subst e4
    refine hi F H σ ρ ds e1 hR _ fun J F0 H0 g0 ok => ?_
    intro Dl hD
    refine ⟨fun i m H' => m = ds.length - i ∧ i ≤ ds.length ∧ ∃ (F' : Hp) (acc : List V) (dacc rest : List D), Ex F0 F' ∧ Ex F' H' ∧ Gr F0 H0 F' H' ∧ True ∧ F' Dl = none ∧ H' Dl = some (.lst acc) ∧ RpA K F' acc dacc ∧ dacc.length ≤ i ∧ lcP t fc fe (wipeB ρ vs) (ds.drop i) = some rest ∧ dacc ++ rest = rs,
      ⟨_, rfl, Nat.zero_le _, F0, [], [], rs, .refl _, g0.in_.trans (.new hD), .newH g0.in_ hD, trivial, g0.in_.free hD, upd_same, .nil, Nat.le_refl _, e3, rfl⟩, fun i m H' hW => ?_⟩
    obtain ⟨rfl, hil, F', acc, dacc, rest, x1, x2, x3, hh, hFD, hHD, ra, hlen, e5, e6⟩ := hW
    by_cases h : i < ds.length
    · right
      have hd : ds[i]? = some ds[i] := List.getElem?_eq_getElem h
      obtain ⟨ha, hb⟩ := (ok F' H' x1 x2).1 i _ hd
      rw [List.drop_eq_getElem_cons h] at e5
      obtain ⟨ρ1, e7, e8⟩ := Option.bind_eq_some_iff.mp e5
      obtain ⟨b, e9, e10⟩ := Option.bind_eq_some_iff.mp e8
      refine ⟨ha, fun H2 => ∃ (F2 : Hp) (acc2 : List V) (dacc2 rest2 : List D), Ex F0 F2 ∧ Ex F2 H2 ∧ Gr F0 H0 F2 H2 ∧ True ∧ F2 Dl = none ∧ H2 Dl = some (.lst acc2) ∧ RpA K F2 acc2 dacc2 ∧ dacc2.length ≤ i + 1 ∧ lcP t fc fe (wipeB ρ vs) (ds.drop (i + 1)) = some rest2 ∧ dacc2 ++ rest2 = rs, fun H2 hN => ?_, fun x H2 hy => ?_⟩
      · exact ⟨ds.length - (i + 1), by omega, rfl, h, hN⟩
      · obtain ⟨F2, gr, rx⟩ := hb x H2 hy
        have relw : Rel K F' H' (L2.wipe σ vs) (wipeB ρ vs) := by
          refine Rel.gr (Rel.wipe (hR.gr g0) vs) ?_ |> fun z => z
          exact x3
        have relw2 := relw.gr gr
        refine hg F2 H2 _ _ _ ρ1 x e7 relw2 rx _ fun σ2 g2 so => ⟨wipe_same so hv, ?_⟩
        refine ht F2 H2 σ2 ρ1 b e9 g2.rel _ fun F3 H3 g3 => ?_
        have g23 := gr.trans g3
        by_cases hbt : b = true
        · rw [if_pos hbt] at e10 ⊢
          obtain ⟨y, e11, e12⟩ := Option.bind_eq_some_iff.mp e10
          obtain ⟨rest2, e13, e14⟩ := Option.map_eq_some_iff.mp e12
          refine he F3 H3 σ2 ρ1 y e11 (g2.rel.gr g3) _ fun w F4 H4 g4 r4 => ?_
          have g24 := g23.trans g4
          have hD4 : H4 Dl = some (.lst acc) := g24.keep _ _ hHD fun ps z => by cases z
          have hF4 : F4 Dl = none := g24.hide Dl (by rw [hHD]; intro z; cases z) hFD
          refine ⟨acc, hD4, ?_, F4, acc ++ [w], dacc ++ [y], rest2, x1.trans g24.ex, fun q o hq => ?_, (x3.trans g24).over hD hF4 hD4 (fun ps z => by cases z), trivial, hF4, upd_same, (ra.mono g24.ex).append (.one r4), ?_, e13, ?_⟩
          · rw [ra.length]
            exact Nat.lt_of_lt_of_le (by omega) big_le
          · have : q ≠ Dl := fun z => by rw [z, hF4] at hq; cases hq
            rw [upd_ne this]
            exact g24.in_ q o hq
          · rw [List.length_append]
            show dacc.length + 1 ≤ i + 1
            omega
          · rw [List.append_assoc]
            show dacc ++ (y :: rest2) = rs
            rw [e14]
            exact e6
        · rw [if_neg hbt] at e10 ⊢
          exact ⟨F3, acc, dacc, rest, x1.trans g23.ex, g23.in_, x3.trans g23, trivial, g23.hide Dl (by rw [hHD]; intro z; cases z) hFD, g23.keep _ _ hHD (fun ps z => by cases z), ra.mono g23.ex, by omega, e10, e6⟩
    · left
      have hl : i = ds.length := by omega
      subst hl
      rw [List.drop_length] at e5
      cases e5
      rw [List.append_nil] at e6
      subst e6
      refine ⟨(ok F' H' x1 x2).2, ?_⟩
      exact k (.ref Dl) (upd F' Dl (.lst acc)) H' (g0.trans (x3.seeN hD hFD hHD fun ps z => by cases z)) (.lst (.inl (.inl upd_same)) (ra.mono (.new hFD)))
  · cases e2
section
variable {α : Type} {Y : α → Cx} {K : PySem.W.Frag} {e : Expr} {es : List Expr}
/-- one reading for a family of contexts -/
theorem all_PP {f : Fm → Option D} (hK : ∀ a, (Y a).K = K) (h : ∀ a, PP (Y a) e f) : ∃ t, (∀ a, PE (Y a) e t) ∧ SP K t f := by
  have h' : ∀ a, ∃ t, PE (Y a) e t ∧ SP K t f := fun a => let ⟨t, h1, h2⟩ := h a; ⟨t, h1, hK a ▸ h2⟩
  exact ⟨fun σ H Q => ∀ a, (h' a).choose σ H Q, fun a => ⟨fun pins s σ H Q I q => (h' a).choose_spec.1.run pins s σ H Q I (q a)⟩, fun F H σ ρ d hf hR Q k a => (h' a).choose_spec.2 F H σ ρ d hf hR Q k⟩
theorem all_XE {f : Fm → Option (D × Fm)} (hK : ∀ a, (Y a).K = K) (h : ∀ a, XE (Y a) e f) : ∃ t, (∀ a, PE (Y a) e t) ∧ SX K t f := by
  have h' : ∀ a, ∃ t, PE (Y a) e t ∧ SX K t f := fun a => let ⟨t, h1, h2⟩ := h a; ⟨t, h1, hK a ▸ h2⟩
  exact ⟨fun σ H Q => ∀ a, (h' a).choose σ H Q, fun a => ⟨fun pins s σ H Q I q => (h' a).choose_spec.1.run pins s σ H Q I (q a)⟩, fun F H σ ρ d ρ' hf hR Q k a => (h' a).choose_spec.2 F H σ ρ d ρ' hf hR Q k⟩
theorem all_PB {f : Fm → Option Bool} (hK : ∀ a, (Y a).K = K) (h : ∀ a, PB (Y a) e f) : ∃ t, (∀ a, PT (Y a) e t) ∧ SB K t f := by
  have h' : ∀ a, ∃ t, PT (Y a) e t ∧ SB K t f := fun a => let ⟨t, h1, h2⟩ := h a; ⟨t, h1, hK a ▸ h2⟩
  exact ⟨fun σ H Q => ∀ a, (h' a).choose σ H Q, fun a => ⟨fun pins s σ H Q I q => (h' a).choose_spec.1.run pins s σ H Q I (q a)⟩, fun F H σ ρ d hf hR Q k a => (h' a).choose_spec.2 F H σ ρ d hf hR Q k⟩
theorem all_XB {f : Fm → Option (Bool × Fm)} (hK : ∀ a, (Y a).K = K) (h : ∀ a, XB (Y a) e f) : ∃ t, (∀ a, PT (Y a) e t) ∧ SXB K t f := by
  have h' : ∀ a, ∃ t, PT (Y a) e t ∧ SXB K t f := fun a => let ⟨t, h1, h2⟩ := h a; ⟨t, h1, hK a ▸ h2⟩
  exact ⟨fun σ H Q => ∀ a, (h' a).choose σ H Q, fun a => ⟨fun pins s σ H Q I q => (h' a).choose_spec.1.run pins s σ H Q I (q a)⟩, fun F H σ ρ d ρ' hf hR Q k a => (h' a).choose_spec.2 F H σ ρ d ρ' hf hR Q k⟩
theorem all_PTg {t : Tg} (hK : ∀ a, (Y a).K = K) (h : ∀ a, PTg (Y a) e t) : ∃ g, (∀ a, PG (Y a) e g) ∧ ST K g t := by
  have h' : ∀ a, ∃ g, PG (Y a) e g ∧ ST K g t := fun a => let ⟨g, h1, h2⟩ := h a; ⟨g, h1, hK a ▸ h2⟩
  exact ⟨fun v σ H Q => ∀ a, (h' a).choose v σ H Q, fun a => ⟨fun pins s σ H v u Q I r q => (h' a).choose_spec.1.run pins s σ H v u Q I r (q a)⟩, fun F H σ ρ d ρ' v hf hR r Q k a => (h' a).choose_spec.2 F H σ ρ d ρ' v hf hR r Q k⟩
end
/-- what a comprehension's block is run in -/
structure BlkA where
  s : Shared
  H : Hp
  C : Addr
  cl : List (Str × Addr)
  fp : List Addr
abbrev blkOf (X : Cx) (scope : Scope) (a : BlkA) : Cx := X.blk a.s a.H scope (compEnvC scope a.cl a.C X.env) a.fp
section
variable {X : Cx} {elt tg iter c : Expr} {scope : Scope} {own : List (Str × Nat)} {pos spos py : Pos} {t : Tg} {fi : Fm → Option (List D)} {fc : Fm → Option Bool} {fe : Fm → Option D} {gc : Fm → Option (Bool × Fm)} {ge : Fm → Option (D × Fm)}
def fYes (_ : Fm) : Option Bool := some true
theorem sb_yes {K : PySem.W.Frag} : SB K tYes fYes := fun F H σ ρ b hf hR Q k => by
  cases hf
  exact k F H (.refl hR.ex)
theorem d_lc0 (hc : X.calm = true) (hN : X.N.Nodup) (hi : PIt X tg iter fi) (ok : BlkOk X.N X.env.scope scope own) (hg : ∀ a, PTg (blkOf X scope a) tg t) (he : ∀ a, PP (blkOf X scope a) elt fe) (hv : ∀ i ∈ slotsT t, i ∈ own.map (·.2)) (hs : ∀ x, foldedSetIterable iter X.env x = pure x := by intro _; rfl) :
    PP X (.ListComp elt [⟨tg, iter, [], 0⟩] scope pos) (fLc (own.map (·.2)) t fi fYes fe) := by
  obtain ⟨wi, a1, a2⟩ := hi
  obtain ⟨g, b1, b2⟩ := all_PTg (Y := fun a => blkOf X scope a) (K := X.K) (fun a => rfl) hg
  obtain ⟨te, c1, c2⟩ := all_PP (Y := fun a => blkOf X scope a) (K := X.K) (fun a => rfl) he
  exact ⟨_, pe_lc hc hN a1 ok (fun s H C cl fp => b1 ⟨s, H, C, cl, fp⟩) (fun _ _ _ _ _ => pts_nil) (fun s H C cl fp => c1 ⟨s, H, C, cl, fp⟩) hs, sp_lc a2 b2 sb_yes c2 hv⟩
theorem d_lc1 (hc : X.calm = true) (hN : X.N.Nodup) (hi : PIt X tg iter fi) (ok : BlkOk X.N X.env.scope scope own) (hg : ∀ a, PTg (blkOf X scope a) tg t) (ht : ∀ a, PB (blkOf X scope a) c fc) (he : ∀ a, PP (blkOf X scope a) elt fe) (hv : ∀ i ∈ slotsT t, i ∈ own.map (·.2)) (hs : ∀ x, foldedSetIterable iter X.env x = pure x := by intro _; rfl) :
    PP X (.ListComp elt [⟨tg, iter, [c], 0⟩] scope pos) (fLc (own.map (·.2)) t fi fc fe) := by
  obtain ⟨wi, a1, a2⟩ := hi
  obtain ⟨g, b1, b2⟩ := all_PTg (Y := fun a => blkOf X scope a) (K := X.K) (fun a => rfl) hg
  obtain ⟨te, c1, c2⟩ := all_PP (Y := fun a => blkOf X scope a) (K := X.K) (fun a => rfl) he
  obtain ⟨tt, d1, d2⟩ := all_PB (Y := fun a => blkOf X scope a) (K := X.K) (fun a => rfl) ht
  exact ⟨_, pe_lc hc hN a1 ok (fun s H C cl fp => b1 ⟨s, H, C, cl, fp⟩) (fun s H C cl fp => pts_one (d1 ⟨s, H, C, cl, fp⟩)) (fun s H C cl fp => c1 ⟨s, H, C, cl, fp⟩) hs, sp_lc a2 b2 d2 c2 hv⟩
/-- y = [..] on one line -/
theorem s_lc0 (i : Nat) {y : Str} (hc : X.calm = true) (hN : X.N.Nodup) (hi : PIt X tg iter fi) (ok : BlkOk X.N X.env.scope scope own) (hg : ∀ a, PTg (blkOf X scope a) tg t) (he : ∀ a, PP (blkOf X scope a) elt fe) (hv : ∀ i ∈ slotsT t, i ∈ own.map (·.2))
    (hsw : swapsWith (.ListComp elt [⟨tg, iter, [], 0⟩] scope pos) (some (.Name y py)) spos.line X.env = pure true) (hy : X.N[i]? = some y := by rfl) (hyl : X.env.scope.names.lookup y = some .local := by rfl) (hs : ∀ x, foldedSetIterable iter X.env x = pure x := by intro _; rfl) :
    PSt X (.Assign [.Name y py] (.ListComp elt [⟨tg, iter, [], 0⟩] scope pos) spos) (sAsg i (mSh (up (fLc (own.map (·.2)) t fi fYes fe)))) := by
  obtain ⟨wi, a1, a2⟩ := hi
  obtain ⟨g, b1, b2⟩ := all_PTg (Y := fun a => blkOf X scope a) (K := X.K) (fun a => rfl) hg
  obtain ⟨te, c1, c2⟩ := all_PP (Y := fun a => blkOf X scope a) (K := X.K) (fun a => rfl) he
  refine ⟨_, ps_setLc hc hN hy hyl hsw a1 ok (fun s H C cl fp => b1 ⟨s, H, C, cl, fp⟩) (fun _ _ _ _ _ => pts_nil) (fun s H C cl fp => c1 ⟨s, H, C, cl, fp⟩) hs, fun F H σ ρ fl ρ' hf hR E k1 k2 k3 => ?_⟩
  obtain ⟨⟨b, ρ1⟩, e1, e2⟩ := Option.map_eq_some_iff.mp hf
  cases e2
  obtain ⟨⟨d, ρ2⟩, e3, e4⟩ := Option.map_eq_some_iff.mp e1
  cases e4
  obtain ⟨e5, rfl⟩ := up_some e3
  exact sp_lc a2 b2 sb_yes c2 hv F H σ ρ d e5 hR _ fun v F1 H1 g1 r1 => k1 rfl _ F1 H1 ((Go.gr hR g1).trans (go_set (hR.gr g1) r1))
theorem s_lc1 (i : Nat) {y : Str} (hc : X.calm = true) (hN : X.N.Nodup) (hi : PIt X tg iter fi) (ok : BlkOk X.N X.env.scope scope own) (hg : ∀ a, PTg (blkOf X scope a) tg t) (ht : ∀ a, PB (blkOf X scope a) c fc) (he : ∀ a, PP (blkOf X scope a) elt fe) (hv : ∀ i ∈ slotsT t, i ∈ own.map (·.2))
    (hsw : swapsWith (.ListComp elt [⟨tg, iter, [c], 0⟩] scope pos) (some (.Name y py)) spos.line X.env = pure true) (hy : X.N[i]? = some y := by rfl) (hyl : X.env.scope.names.lookup y = some .local := by rfl) (hs : ∀ x, foldedSetIterable iter X.env x = pure x := by intro _; rfl) :
    PSt X (.Assign [.Name y py] (.ListComp elt [⟨tg, iter, [c], 0⟩] scope pos) spos) (sAsg i (mSh (up (fLc (own.map (·.2)) t fi fc fe)))) := by
  obtain ⟨wi, a1, a2⟩ := hi
  obtain ⟨g, b1, b2⟩ := all_PTg (Y := fun a => blkOf X scope a) (K := X.K) (fun a => rfl) hg
  obtain ⟨te, c1, c2⟩ := all_PP (Y := fun a => blkOf X scope a) (K := X.K) (fun a => rfl) he
  obtain ⟨tt, d1, d2⟩ := all_PB (Y := fun a => blkOf X scope a) (K := X.K) (fun a => rfl) ht
  refine ⟨_, ps_setLc hc hN hy hyl hsw a1 ok (fun s H C cl fp => b1 ⟨s, H, C, cl, fp⟩) (fun s H C cl fp => pts_one (d1 ⟨s, H, C, cl, fp⟩)) (fun s H C cl fp => c1 ⟨s, H, C, cl, fp⟩) hs, fun F H σ ρ fl ρ' hf hR E k1 k2 k3 => ?_⟩
  obtain ⟨⟨b, ρ1⟩, e1, e2⟩ := Option.map_eq_some_iff.mp hf
  cases e2
  obtain ⟨⟨d, ρ2⟩, e3, e4⟩ := Option.map_eq_some_iff.mp e1
  cases e4
  obtain ⟨e5, rfl⟩ := up_some e3
  exact sp_lc a2 b2 d2 c2 hv F H σ ρ d e5 hR _ fun v F1 H1 g1 r1 => k1 rfl _ F1 H1 ((Go.gr hR g1).trans (go_set (hR.gr g1) r1))
end
/-! ### defs -/
def startB (n : Nat) (ds : List D) : Fm := ds.map .sh ++ List.replicate (n - ds.length) .no
/-- what a def of data answers -/
def runP (n : Nat) (f : Fm → Option (Fl × Fm)) (ds : List D) : Option D := (f (startB n ds)).bind fun x => match x.1 with
  | .rt d => some d
  | .nx => some .none
  | .bk => none
def startI (n : Nat) (ls : List D) (ds : List D) : Fm := .io ls :: (ds.map .sh ++ List.replicate (n - 1 - ds.length) .no)
def ioOf : Option B → Option (List D)
  | some (.io ls) => some ls
  | _ => none
def runI (n : Nat) (f : Fm → Option (Fl × Fm)) (ls ds : List D) : Option (D × List D) := (f (startI n ls ds)).bind fun x => match x.1 with
  | .rt d => (ioOf x.2[0]?).map fun ls' => (d, ls')
  | .nx => (ioOf x.2[0]?).map fun ls' => (.none, ls')
  | .bk => none
theorem ioOf_some {o : Option B} {ls : List D} (h : ioOf o = some ls) : o = some (.io ls) := by
  unfold ioOf at h
  split at h
  · cases h
    rfl
  · cases h
section
variable {K : PySem.W.Frag}
theorem rel_start {F H : Hp} {vs : List V} {ds : List D} (N : List Str) (e : ExB F H) (r : RpA K F vs ds) : Rel K F H (L2.start N vs) (startB N.length ds) := by
  have get : ∀ (i : Nat) (b : B), (startB N.length ds)[i]? = some b → b = .no ∨ ∃ d, ds[i]? = some d ∧ b = .sh d := by
    intro i b h
    unfold startB at h
    rw [List.getElem?_append] at h
    split at h
    · rw [List.getElem?_map] at h
      obtain ⟨d, h1, h2⟩ := Option.map_eq_some_iff.mp h
      exact .inr ⟨d, h1, h2.symm⟩
    · left
      rw [List.getElem?_replicate] at h
      split at h
      · exact (Option.some.inj h).symm
      · cases h
  refine ⟨e.1, ?_, fun i b h => ?_, fun i j b c a h1 o1 h2 o2 => ?_, e.2⟩
  · unfold L2.start startB
    rw [List.length_append, List.length_append, List.length_map, List.length_map, List.length_replicate, List.length_replicate, r.length]
  · rcases get i b h with rfl | ⟨d, h1, rfl⟩
    · trivial
    · obtain ⟨v, h2, h3⟩ := r.get h1
      refine ⟨v, ?_, h3⟩
      unfold L2.start
      rw [List.getElem?_append_left (by rw [List.length_map]; exact (List.getElem?_eq_some_iff.mp h2).1), List.getElem?_map, h2]
      rfl
  · rcases get i b h1 with rfl | ⟨d, _, rfl⟩ <;> cases o1
theorem no_own {σ : L2.St} {n : Nat} {ds : List D} {a : Addr} : ¬ ownA σ (startB n ds) a := fun ⟨i, b, h, o, _⟩ => by
  unfold startB at h
  rw [List.getElem?_append] at h
  split at h
  · rw [List.getElem?_map] at h
    obtain ⟨d, h1, h2⟩ := Option.map_eq_some_iff.mp h
    subst h2
    cases o
  · rw [List.getElem?_replicate] at h
    split at h
    · cases h
      cases o
    · cases h
end
section
variable {P : Program} {w : World} {K : PySem.W.Frag} {mg : Str → Option Value} {base : Heap}
/-- THE RULE for a def of data: its body, for every context that it may be run in -/
theorem def_P {x qual : Str} {st : Stmt} {f : Addr} {fd : FuncData} {N ps : List Str} {k n : Nat} {sf : Fm → Option (Fl × Fm)} (Fn : Fun K x qual st f fd) (S : FnScope N ps (defScope st)) (hn : ps.length = n)
    (hbody : ∀ (cdv : Value) (A : Around) (outer : List Env) (s : Shared) (H : Hp) (E : XK), Room k (A.deeper (envOfC qual (defScope st) s.heap.objs.size f cdv)) → PBl (cxOf CX0 P w K mg base N qual (defScope st) f cdv A outer s H E).nox (defBody st) sf) :
    FnOk P w K mg base CX0 (k + 1) f fd ps (spP K (runP N.length sf) n) := by
  refine Fn.ok S (fun vs H Q E h => h.1.trans hn.symm) fun cdv A outer s H vs Q E hr h => ?_
  obtain ⟨hl, F, ds, d, ex, r, hg, q⟩ := h
  obtain ⟨t, h1, h2⟩ := hbody cdv A outer s H E hr
  refine ⟨t, h1, ?_⟩
  obtain ⟨⟨fl, ρ'⟩, e1, e2⟩ := Option.bind_eq_some_iff.mp hg
  have done : ∀ v σ' F' H', Go K F H (L2.start N vs) (startB N.length ds) F' H' σ' ρ' → Rp K F' v d → Q v H' := fun v σ' F' H' g r' =>
    q v F' H' ⟨g.ex, g.rel.ex, fun a o e t => g.keep a o e t no_own, fun a e f => g.hide a e f no_own, g.live, fun _ => g.rel.tab⟩ r'
  refine h2 F H (L2.start N vs) (startB N.length ds) fl ρ' e1 (rel_start N ex r) _ (fun z σ' F' H' g => ?_) (fun z σ' F' H' g => ?_) fun d' z v σ' F' H' g r' => ?_
  · subst z
    cases e2
    exact done _ σ' F' H' g .non
  · subst z
    cases e2
  · subst z
    cases e2
    exact done _ σ' F' H' g r'
theorem def_I {x qual : Str} {st : Stmt} {f : Addr} {fd : FuncData} {N ps : List Str} {k n : Nat} {sf : Fm → Option (Fl × Fm)} (Fn : Fun K x qual st f fd) (S : FnScope N ps (defScope st)) (hn : ps.length = n + 1) (hNl : n + 1 ≤ N.length)
    (hbody : ∀ (cdv : Value) (A : Around) (outer : List Env) (s : Shared) (H : Hp) (E : XK), Room k (A.deeper (envOfC qual (defScope st) s.heap.objs.size f cdv)) → PBl (cxOf CX0 P w K mg base N qual (defScope st) f cdv A outer s H E).nox (defBody st) sf) :
    FnOk P w K mg base CX0 (k + 1) f fd ps (spI K (runI N.length sf) n) := by
  refine Fn.ok S (fun vs H Q E h => h.1.trans hn.symm) fun cdv A outer s H vs Q E hr h => ?_
  obtain ⟨hl, F, a, xs, ls, us, ds, d, ls', rfl, ex, ha, hfa, rl, r, hg, q⟩ := h
  obtain ⟨t, h1, h2⟩ := hbody cdv A outer s H E hr
  refine ⟨t, h1, ?_⟩
  obtain ⟨⟨fl, ρ'⟩, e1, e2⟩ := Option.bind_eq_some_iff.mp hg
  have get : ∀ (i : Nat) (b : B), (startI N.length ls ds)[i]? = some b → (i = 0 ∧ b = .io ls) ∨ b = .no ∨ ∃ d, ds[i - 1]? = some d ∧ b = .sh d ∧ 0 < i := by
    intro i b h
    cases i with
    | zero =>
      left
      exact ⟨rfl, (Option.some.inj h).symm⟩
    | succ i =>
      right
      unfold startI at h
      rw [List.getElem?_cons_succ, List.getElem?_append] at h
      split at h
      · rw [List.getElem?_map] at h
        obtain ⟨d, h1, h2⟩ := Option.map_eq_some_iff.mp h
        exact .inr ⟨d, h1, h2.symm, Nat.succ_pos _⟩
      · left
        rw [List.getElem?_replicate] at h
        split at h
        · exact (Option.some.inj h).symm
        · cases h
  have hs : ∀ i, (L2.start N (V.ref a :: us))[i + 1]? = (L2.start N.tail us)[i]? := by
    intro i
    unfold L2.start
    rw [List.map_cons, List.cons_append, List.getElem?_cons_succ]
    have : N.length - (V.ref a :: us).length = N.tail.length - us.length := by
      rw [List.length_cons, List.length_tail]
      omega
    rw [this]
  have hul : us.length = n := by
    rw [List.length_cons] at hl
    omega
  have hlen : (L2.start N (V.ref a :: us)).length = (startI N.length ls ds).length := by
    unfold L2.start startI
    have := r.length
    simp only [List.length_append, List.length_cons, List.length_map, List.length_replicate]
    omega
  have rel : Rel K F H (L2.start N (V.ref a :: us)) (startI N.length ls ds) := by
    refine ⟨ex.1, hlen, fun i b h => ?_, fun i j b c x h1 o1 h2 o2 _ _ => ?_, ex.2⟩
    · rcases get i b h with ⟨rfl, rfl⟩ | rfl | ⟨d, h1, rfl, hi⟩
      · exact ⟨a, xs, rfl, ha, hfa, rl⟩
      · trivial
      · obtain ⟨i, rfl⟩ : ∃ j, i = j + 1 := ⟨i - 1, by omega⟩
        obtain ⟨v, h2, h3⟩ := r.get h1
        refine ⟨v, ?_, h3⟩
        rw [hs]
        unfold L2.start
        rw [List.getElem?_append_left (by rw [List.length_map]; exact (List.getElem?_eq_some_iff.mp h2).1), List.getElem?_map]
        rw [show i + 1 - 1 = i from rfl] at h2
        rw [h2]
        rfl
    · rcases get i b h1 with ⟨rfl, rfl⟩ | rfl | ⟨d, _, rfl, _⟩
      · rcases get j c h2 with ⟨rfl, rfl⟩ | rfl | ⟨d, _, rfl, _⟩
        · rfl
        · cases o2
        · cases o2
      · cases o1
      · cases o1
  have own : ∀ x, ownA (L2.start N (V.ref a :: us)) (startI N.length ls ds) x → x = a := fun x ⟨i, b, h, o, s⟩ => by
    rcases get i b h with ⟨rfl, rfl⟩ | rfl | ⟨d, _, rfl, _⟩
    · exact (V.ref.inj (Option.some.inj (Option.some.inj s))).symm
    · cases o
    · cases o
  have done : ∀ v σ' F' H', ρ'[0]? = some (.io ls') → Go K F H (L2.start N (V.ref a :: us)) (startI N.length ls ds) F' H' σ' ρ' → Rp K F' v d → Q v H' := fun v σ' F' H' e0 g r' => by
    obtain ⟨_, s0⟩ := g.ioL e0
    obtain ⟨a', xs', f1, f2, f3, f4⟩ := g.rel.at_ 0 _ e0
    rw [s0] at f1
    have : a' = a := (V.ref.inj (Option.some.inj (Option.some.inj f1))).symm
    subst this
    refine q v F' H' xs' g.ex ⟨g.rel.ex, g.rel.tab⟩ (fun b o e t nb => g.keep b o e t fun z => nb (own b z)) (fun b e f => ?_) g.live f2 f4 r'
    by_cases hb : b = a'
    · rw [hb]; exact f3
    · exact g.hide b e f fun z => hb (own b z)
  refine h2 F H _ _ fl ρ' e1 rel _ (fun z σ' F' H' g => ?_) (fun z σ' F' H' g => ?_) fun d' z v σ' F' H' g r' => ?_
  · subst z
    obtain ⟨l2, e3, e4⟩ := Option.map_eq_some_iff.mp e2
    cases e4
    exact done _ σ' F' H' (ioOf_some e3) g .non
  · subst z
    cases e2
  · subst z
    obtain ⟨l2, e3, e4⟩ := Option.map_eq_some_iff.mp e2
    cases e4
    exact done _ σ' F' H' (ioOf_some e3) g r'
end
end DL
end
section
set_option Elab.async false
set_option linter.all false
set_option maxRecDepth 100000
/-! sorted(set(..)) of pairs; comprehensions with effects. -/
namespace DL
open PySem PySem.Spec PyProof.Rows L2
variable [TabT] [FnT]
/-! ### strictly ascending lists -/
theorem asc_ext {α : Type} {lt : α → α → Prop} (irr : ∀ x, ¬ lt x x) (asy : ∀ x y, lt x y → ¬ lt y x) : ∀ {l m : List α}, l.Pairwise lt → m.Pairwise lt → (∀ x, x ∈ l ↔ x ∈ m) → l = m
  | [], [], _, _, _ => rfl
  | [], y :: m, _, _, h => absurd ((h y).mpr List.mem_cons_self) List.not_mem_nil
  | x :: l, [], _, _, h => absurd ((h x).mp List.mem_cons_self) List.not_mem_nil
  | x :: l, y :: m, hl, hm, h => by
    have a := List.pairwise_cons.mp hl
    have b := List.pairwise_cons.mp hm
    have e : x = y := by
      rcases List.mem_cons.mp ((h x).mp List.mem_cons_self) with e | h1
      · exact e
      · rcases List.mem_cons.mp ((h y).mpr List.mem_cons_self) with e | h2
        · exact e.symm
        · exact absurd (a.1 y h2) (asy _ _ (b.1 x h1))
    subst e
    have : l = m := asc_ext irr asy a.2 b.2 fun z => by
      constructor
      · intro hz
        rcases List.mem_cons.mp ((h z).mp (List.mem_cons_of_mem _ hz)) with e | h1
        · subst e
          exact absurd (a.1 _ hz) (irr _)
        · exact h1
      · intro hz
        rcases List.mem_cons.mp ((h z).mpr (List.mem_cons_of_mem _ hz)) with e | h1
        · subst e
          exact absurd (b.1 _ hz) (irr _)
        · exact h1
    rw [this]
def ltPr (p q : Int × Int) : Prop := p.1 < q.1 ∨ (p.1 = q.1 ∧ p.2 < q.2)
instance (p q : Int × Int) : Decidable (ltPr p q) := inferInstanceAs (Decidable (_ ∨ _))
def insP (p : Int × Int) : List (Int × Int) → List (Int × Int)
  | [] => [p]
  | q :: r => if ltPr p q then p :: q :: r else if ltPr q p then q :: insP p r else q :: r
def ssP (ps : List (Int × Int)) : List (Int × Int) := ps.foldr insP []
theorem ltPr_or {p q : Int × Int} (h1 : ¬ ltPr p q) (h2 : ¬ ltPr q p) : p = q := by
  unfold ltPr at h1 h2
  obtain ⟨a, b⟩ := p
  obtain ⟨c, d⟩ := q
  simp only at h1 h2
  have : a = c := by omega
  have : b = d := by omega
  simp_all
theorem mem_insP {p x : Int × Int} : ∀ {l : List (Int × Int)}, x ∈ insP p l ↔ x = p ∨ x ∈ l
  | [] => by simp [insP]
  | q :: r => by
    unfold insP
    split
    · simp
    · split
      · rw [List.mem_cons, mem_insP, List.mem_cons]
        constructor
        · rintro (h | h | h)
          · exact .inr (.inl h)
          · exact .inl h
          · exact .inr (.inr h)
        · rintro (h | h | h)
          · exact .inr (.inl h)
          · exact .inl h
          · exact .inr (.inr h)
      · rename_i h1 h2
        have := ltPr_or h1 h2
        subst this
        simp
theorem insP_asc {p : Int × Int} : ∀ {l : List (Int × Int)}, l.Pairwise ltPr → (insP p l).Pairwise ltPr
  | [], _ => by simp [insP]
  | q :: r, h => by
    have a := List.pairwise_cons.mp h
    unfold insP
    split
    · rename_i hpq
      refine List.pairwise_cons.mpr ⟨fun x hx => ?_, h⟩
      rcases List.mem_cons.mp hx with e | hx
      · rw [e]; exact hpq
      · have := a.1 x hx
        unfold ltPr at *
        omega
    · split
      · rename_i hqp
        refine List.pairwise_cons.mpr ⟨fun x hx => ?_, insP_asc a.2⟩
        rcases mem_insP.mp hx with e | hx
        · rw [e]; exact hqp
        · exact a.1 x hx
      · exact h
theorem mem_ssP {x : Int × Int} : ∀ {ps : List (Int × Int)}, x ∈ ssP ps ↔ x ∈ ps
  | [] => by simp [ssP]
  | p :: ps => by
    show x ∈ insP p (ssP ps) ↔ _
    rw [mem_insP, mem_ssP, List.mem_cons]
theorem ssP_asc : ∀ (ps : List (Int × Int)), (ssP ps).Pairwise ltPr
  | [] => .nil
  | p :: ps => insP_asc (ssP_asc ps)
def pairD (p : Int × Int) : D := .tuple [.int p.1, .int p.2]
def pairsD : List D → Option (List (Int × Int))
  | [] => some []
  | .tuple [.int a, .int b] :: r => (pairsD r).map ((a, b) :: ·)
  | _ :: _ => none
def gSS : D → Option D
  | .list ds => (pairsD ds).bind fun ps => if ps.length < 64 ∧ ∀ p ∈ ps, (0 ≤ p.1 ∧ p.1 < 64) ∧ 0 ≤ p.2 ∧ p.2 < 64 then some (.list ((ssP ps).map pairD)) else none
  | _ => none
section
variable {K : PySem.W.Frag} {F H : Hp}
theorem pairs_of : ∀ {xs : List V} {ds : List D} {ps : List (Int × Int)}, RpA K F xs ds → pairsD ds = some ps → ∃ ks : List (Addr × (Int × Int)), xs = ks.map (fun k => V.ref k.1) ∧ ps = ks.map (·.2) ∧ ∀ k ∈ ks, SqZ F k.1 [V.int k.2.1, V.int k.2.2]
  | _, _, _, .nil, h => by
    cases h
    exact ⟨[], rfl, rfl, fun k hk => nomatch hk⟩
  | _, _, _, .cons (d := d) (ds := ds) r t, h => by
    unfold pairsD at h
    split at h
    · rename_i e
      cases e
    · rename_i a b r' e
      cases e
      obtain ⟨ps, h1, h2⟩ := Option.map_eq_some_iff.mp h
      obtain ⟨ks, k1, k2, k3⟩ := pairs_of t h1
      cases r with
      | tup s r =>
        cases r with
        | cons r1 r =>
          cases r with
          | cons r2 r =>
            cases r
            cases r1
            cases r2
            rename_i q
            refine ⟨(q, (a, b)) :: ks, by rw [k1]; rfl, by rw [← h2, k2]; rfl, fun k hk => ?_⟩
            rcases List.mem_cons.mp hk with e | hk
            · subst e; exact s
            · exact k3 k hk
    · cases h
theorem rp_pairs {ks : List (Addr × (Int × Int))} (h : ∀ k ∈ ks, SqZ F k.1 [V.int k.2.1, V.int k.2.2]) : RpA K F (ks.map fun k => V.ref k.1) (ks.map fun k => pairD k.2) := by
  induction ks with
  | nil => exact .nil
  | cons k ks ih => exact .cons (.tup (h k List.mem_cons_self) (.cons (.int _) (.cons (.int _) .nil))) (ih fun k hk => h k (List.mem_cons_of_mem _ hk))
end
section
variable {X : Cx} {e : Expr} {pos p p2 pos2 : Pos} {fe : Fm → Option D}
/-- sorted(set(e)), e a list of pairs -/
theorem d_ss {k : Nat} (hc : X.calm = true) (hr : Room k X.A) (B : Bt X.mg) (ha : PV X e fe) (hg : Gl X "sorted" := by rfl) (hg2 : Gl X "set" := by rfl) (hs : starEach [e] X.env = (false, eval e X.env) :: starEach [] X.env := by rfl) :
    PP X (.Call (.Name "sorted" p) [.Call (.Name "set" p2) [e] [] pos2] [] pos) (fOp1 gSS fe) := by
  obtain ⟨t, h1, h2⟩ := ha
  refine ⟨_, pe_callB (cr_sortedT hc) hg B.sorted PyProof.Rows.boot_sorted (pa_cons (pe_callTy (cr_setOfT hc hr.units) hg2 B.set PyProof.Rows.boot_set (pa_cons h1 pa_nil hs) (by decide) (by decide) hs rfl) pa_nil rfl) (by decide) (by decide) rfl rfl, fun F H σ ρ d hf hR Q q => ?_⟩
  obtain ⟨dx, e1, e2⟩ := Option.bind_eq_some_iff.mp hf
  unfold gSS at e2
  split at e2
  · rename_i ds
    obtain ⟨ps, e3, e4⟩ := Option.bind_eq_some_iff.mp e2
    split at e4
    · rename_i hz
      cases e4
      refine h2 F H σ ρ _ e1 hR _ fun v F1 H1 g1 r1 => ?_
      obtain ⟨a, xs, rfl, s1, rl⟩ := r1.list g1.in_
      obtain ⟨ks, k1, k2, k3⟩ := pairs_of rl e3
      have hk3 : ∀ k ∈ ks, SqT X.K H1 k.1 [V.int k.2.1, V.int k.2.2] := fun k hk => g1.in_.sqt (k3 k hk).sqt
      refine ⟨a, ks.map fun k => (k.1, [k.2.1, k.2.2]), rfl, ?_, ?_, ?_, fun b L hb hL1 hL2 => ?_⟩
      · rw [List.map_map]
        rw [k1] at s1
        exact s1
      · intro q hq
        obtain ⟨k, hk, rfl⟩ := List.mem_map.mp hq
        exact hk3 k hk
      · have := hz.1
        rw [k2, List.length_map] at this
        rw [List.length_map]
        exact this
      · -- the set is there
        have g2 : Gr F1 H1 F1 (upd H1 b (SetTO X.prog X.w b L)) := .newH g1.in_ hb
        have inL : ∀ q ∈ L, ∃ k ∈ ks, q = (k.1, [k.2.1, k.2.2]) := fun q hq => by
          obtain ⟨k, hk, e⟩ := List.mem_map.mp (hL1 q hq)
          exact ⟨k, hk, e.symm⟩
        have bd : ∀ k ∈ ks, (0 ≤ k.2.1 ∧ k.2.1 < 64) ∧ 0 ≤ k.2.2 ∧ k.2.2 < 64 := fun k hk => hz.2 k.2 (by rw [k2]; exact List.mem_map.mpr ⟨k, hk, rfl⟩)
        refine ⟨b, L, 2, 64, rfl, upd_same, fun q hq => ?_, by decide, fun q hq => ?_, fun L' pL hp hnd hln hpw hpn => ?_⟩
        · obtain ⟨k, hk, rfl⟩ := inL q hq
          exact g2.keep.sqt (hk3 k hk)
        · obtain ⟨k, hk, rfl⟩ := inL q hq
          refine ⟨rfl, ?_⟩
          have := bd k hk
          intro n hn
          rcases List.mem_cons.mp hn with e | hn
          · rw [e]; exact this.1
          · rw [List.mem_singleton.mp hn]; exact this.2
        · -- L' as pairs
          have inL' : ∀ q ∈ L', ∃ k ∈ ks, q = (k.1, [k.2.1, k.2.2]) := fun q hq => inL q (hp.mem_iff.mp hq)
          obtain ⟨ms, m1, m2⟩ : ∃ ms : List (Addr × (Int × Int)), L' = ms.map (fun k => (k.1, [k.2.1, k.2.2])) ∧ ∀ k ∈ ms, k ∈ ks := by
            clear hp hnd hln hpw hL2
            induction L' with
            | nil => exact ⟨[], rfl, fun k hk => nomatch hk⟩
            | cons q L' ih =>
              obtain ⟨ms, m1, m2⟩ := ih fun q hq => inL' q (List.mem_cons_of_mem _ hq)
              obtain ⟨k, hk, e⟩ := inL' q List.mem_cons_self
              refine ⟨k :: ms, by rw [m1, e]; rfl, fun x hx => ?_⟩
              rcases List.mem_cons.mp hx with e | hx
              · rw [e]; exact hk
              · exact m2 x hx
          have hasc : (ms.map (·.2)).Pairwise ltPr := by
            rw [List.pairwise_map]
            rw [m1, List.pairwise_map] at hpw
            rw [m1, List.map_map] at hnd
            have hnd' := List.pairwise_map.mp hnd
            refine (hpw.and hnd').imp_of_mem fun {x y} hx hy ⟨h1, h2⟩ => ?_
            have bx := bd x (m2 x hx)
            have by' := bd y (m2 y hy)
            exact pair_lt h1 h2 bx.1 bx.2 by'.1 by'.2
          have hmem : ∀ z, z ∈ ms.map (·.2) ↔ z ∈ ssP ps := fun z => by
            rw [mem_ssP, k2]
            constructor
            · intro hz
              obtain ⟨k, hk, rfl⟩ := List.mem_map.mp hz
              exact List.mem_map.mpr ⟨k, m2 k hk, rfl⟩
            · intro hz
              obtain ⟨k, hk, rfl⟩ := List.mem_map.mp hz
              have h1 := hL2 (k.1, [k.2.1, k.2.2]) (List.mem_map.mpr ⟨k, hk, rfl⟩)
              obtain ⟨q, hq, e⟩ := List.mem_map.mp h1
              have hq' := hp.mem_iff.mpr hq
              rw [m1] at hq'
              obtain ⟨k', hk', rfl⟩ := List.mem_map.mp hq'
              refine List.mem_map.mpr ⟨k', hk', ?_⟩
              have e' : [k'.2.1, k'.2.2] = [k.2.1, k.2.2] := e
              injection e' with e1 e2
              injection e2 with e2 _
              exact Prod.ext e1 e2
          have hlist : ms.map (·.2) = ssP ps := asc_ext (fun x h => by unfold ltPr at h; omega) (fun x y h h' => by unfold ltPr at h h'; omega) hasc (ssP_asc ps) hmem
          have hfin : RpA X.K F1 (L'.map fun q => V.ref q.1) ((ssP ps).map pairD) := by
            rw [m1, ← hlist, List.map_map, List.map_map]
            exact rp_pairs fun k hk => k3 k (m2 k hk)
          exact ((q.gr g1).gr g2).lst g2.in_ hfin pL hpn
    · cases e4
  · cases e2
end
end DL
end
section
set_option Elab.async false
set_option linter.all false
set_option maxRecDepth 100000
/-! Walks and comprehensions with effects. -/
namespace DL
open PySem PySem.Spec PyProof.Rows L2
variable [TabT] [FnT]
def SXI (K : PySem.W.Frag) (wi : TI) (f : Fm → Option (List D × Fm)) : Prop := ∀ F H σ ρ ds ρ', f ρ = some (ds, ρ') → Rel K F H σ ρ → ∀ R : It → Hp → Prop, (∀ J F' H', GoE K F H σ ρ F' H' ρ' → ItOk K J F' ds → R J H') → wi σ H R
def XIt (X : Cx) (tg e : Expr) (f : Fm → Option (List D × Fm)) : Prop := ∃ wi, PI X tg e wi ∧ SXI X.K wi f
section
variable {X : Cx} {e a b c : Expr} {es ts : List Expr} {pos p q tp vp apos cpos : Pos} {fi : Fm → Option (List D)} {xi : Fm → Option (List D × Fm)} {sf sg : Fm → Option (Fl × Fm)} {body : List Stmt} {iter : Expr} {ge ga gb : Fm → Option (D × Fm)}
theorem PIt.toX {tg : Expr} (h : PIt X tg e fi) : XIt X tg e (up fi) := let ⟨w, h1, h2⟩ := h; ⟨w, h1, fun F H σ ρ ds ρ' hf hR R k => by
  obtain ⟨e1, rfl⟩ := up_some hf
  exact h2 F H σ ρ ds e1 hR R fun J F' H' g ok => k J F' H' (.gr hR g) ok⟩
def xRg1 (f : Fm → Option (D × Fm)) (ρ : Fm) : Option (List D × Fm) := match f ρ with
  | some (.int j, ρ') => if smR j then some (rngD 0 j.toNat, ρ') else none
  | _ => none
theorem xi_rg1 {tg : Expr} (B : Bt X.mg) (h : XE X e ge) (hg : Gl X "range" := by rfl) (hs : starEach [e] X.env = (false, eval e X.env) :: starEach [] X.env := by rfl) : XIt X tg (.Call (.Name "range" p) [e] [] pos) (xRg1 ge) := by
  obtain ⟨t, h1, h2⟩ := h
  refine ⟨_, pi_range1 hg B.range (pa_cons h1 pa_nil hs) hs, fun F H σ ρ ds ρ' hf hR R k => ?_⟩
  unfold xRg1 at hf
  split at hf
  · rename_i j ρ1 e1
    split at hf
    · rename_i hz
      cases hf
      unfold smR at hz
      simp only [Bool.and_eq_true, decide_eq_true_eq] at hz
      refine h2 F H σ ρ _ _ e1 hR _ fun v F1 H1 g1 r1 => ?_
      exact ⟨j, by rw [r1.intI], hz.1, hz.2, k _ F1 H1 g1 ok_rng⟩
    · cases hf
  · cases hf
def xSeq (f : Fm → Option (D × Fm)) (ρ : Fm) : Option (List D × Fm) := (f ρ).bind fun x => (seqD x.1).map fun ds => (ds, x.2)
theorem xi_seq {tg : Expr} (h : XE X e ge) : XIt X tg e (xSeq ge) := by
  obtain ⟨t, h1, h2⟩ := h
  refine ⟨_, pi_or (pi_list h1) (pi_or (pi_tup h1) (pi_str h1)), fun F H σ ρ ds ρ' hf hR R k => ?_⟩
  obtain ⟨⟨d, ρ1⟩, e1, e2⟩ := Option.bind_eq_some_iff.mp hf
  obtain ⟨es, e2, e3⟩ := Option.map_eq_some_iff.mp e2
  cases e3
  unfold seqD at e2
  split at e2
  · rename_i xs ed
    cases e2
    have ed' : d = .list _ := ed
    subst ed'
    refine .inl (h2 F H σ ρ _ _ e1 hR _ fun v F1 H1 g1 r1 => ?_)
    cases r1 with
    | lst s r => exact ⟨_, rfl, ⟨_, g1.rel.ex.sql s⟩, k _ F1 H1 g1 (ok_list s r)⟩
  · rename_i xs ed
    cases e2
    have ed' : d = .tuple _ := ed
    subst ed'
    refine .inr (.inl (h2 F H σ ρ _ _ e1 hR _ fun v F1 H1 g1 r1 => ?_))
    cases r1 with
    | tup s r => exact ⟨_, rfl, ⟨_, g1.rel.ex.sqt s.sqt⟩, k _ F1 H1 g1 (ok_tup s.sqt r)⟩
  · rename_i x ed
    cases e2
    have ed' : d = .str x := ed
    subst ed'
    refine .inr (.inr (h2 F H σ ρ _ _ e1 hR _ fun v F1 H1 g1 r1 => ?_))
    exact ⟨_, r1.strI, k _ F1 H1 g1 ok_str⟩
  · cases e2
/-! ### for -/
def sForX (t : Tg) (fi : Fm → Option (List D × Fm)) (f : Fm → Option (Fl × Fm)) (ρ : Fm) : Option (Fl × Fm) := (fi ρ).bind fun x => forL t f x.1 x.2
theorem s_forX {t : Tg} (hp : PassesOwn (model X.prog X.w) X.A X.env X.xe) (hc : X.calm = true) (hi : XIt X e iter xi) (hg : PTg X e t) (hb : PBl X body sf) (hs : ∀ x, foldedSetIterable iter X.env x = pure x := by intro _; rfl) : PSt X (.For e iter body [] pos) (sForX t xi sf) := by
  obtain ⟨wi, a1, a2⟩ := hi
  obtain ⟨g, b1, b2⟩ := hg
  obtain ⟨tb, c1, c2⟩ := hb
  refine ⟨_, ps_for hp hc a1 b1 c1 hs, fun F H σ ρ fl ρ' hf hR E k1 k2 k3 => ?_⟩
  obtain ⟨⟨ds, ρ0⟩, e1, e2⟩ := Option.bind_eq_some_iff.mp hf
  refine a2 F H σ ρ ds ρ0 e1 hR _ fun J F0 H0 g0 ok => ?_
  refine ⟨fun i m σ' H' => m = ds.length - i ∧ i ≤ ds.length ∧ ∃ F' ρ1, Go X.K F H σ ρ F' H' σ' ρ1 ∧ Ex F0 F' ∧ forL t sf (ds.drop i) ρ1 = some (fl, ρ'), ⟨_, rfl, Nat.zero_le _, F0, ρ0, g0.go, .refl _, e2⟩, fun i m σ' H' hW => ?_⟩
  obtain ⟨rfl, hi, F', ρ1, g1, x1, e3⟩ := hW
  by_cases h : i < ds.length
  · right
    have hd : ds[i]? = some ds[i] := List.getElem?_eq_getElem h
    obtain ⟨ha, hb⟩ := (ok F' H' x1 g1.rel.ex).1 i _ hd
    rw [List.drop_eq_getElem_cons h] at e3
    obtain ⟨ρ2, e4, e5⟩ := Option.bind_eq_some_iff.mp e3
    obtain ⟨⟨f1, ρ3⟩, e6, e7⟩ := Option.bind_eq_some_iff.mp e5
    refine ⟨ha, fun σ2 H2 => f1 = .nx ∧ ∃ F2, Go X.K F H σ ρ F2 H2 σ2 ρ3 ∧ Ex F0 F2, fun σ2 H2 hN => ?_, fun x H2 hy => ?_⟩
    · obtain ⟨rfl, F2, g2, x2⟩ := hN
      exact ⟨ds.length - (i + 1), by omega, rfl, h, F2, ρ3, g2, x2, e7⟩
    · obtain ⟨F2, gr, rx⟩ := hb x H2 hy
      have g2 := g1.trans (.gr g1.rel gr)
      refine b2 F2 H2 σ' ρ1 _ ρ2 x e4 g2.rel rx _ fun σ3 g3 _ => ?_
      have g4 := g2.trans g3
      refine c2 F2 H2 σ3 ρ2 f1 ρ3 e6 g4.rel _ (fun z σ4 F4 H4 g5 => ?_) (fun z σ4 F4 H4 g5 => ?_) fun d z v σ4 F4 H4 g5 r => ?_
      · exact ⟨z, F4, g4.trans g5, (x1.trans gr.ex).trans g5.ex⟩
      · subst z
        cases e7
        exact k1 rfl σ4 F4 H4 (g4.trans g5)
      · subst z
        cases e7
        exact k3 d rfl v σ4 F4 H4 (g4.trans g5) r
  · left
    have hl : i = ds.length := by omega
    subst hl
    rw [List.drop_length] at e3
    cases e3
    exact ⟨(ok F' H' x1 g1.rel.ex).2, k1 rfl σ' F' H' g1⟩
end
/-! ### comprehensions -/
def xlcL (vs : List Nat) (t : Tg) (fc : Fm → Option (Bool × Fm)) (fe : Fm → Option (D × Fm)) : List D → Fm → Option (List D × Fm)
  | [], ρ => some ([], ρ)
  | d :: ds, ρ => (setT t d ρ).bind fun ρ1 => (fc ρ1).bind fun x => if x.1 = true then (fe x.2).bind fun y => (xlcL vs t fc fe ds (wipeB y.2 vs)).map fun r => (y.1 :: r.1, r.2) else xlcL vs t fc fe ds (wipeB x.2 vs)
/-- the names of the comprehension stand as before -/
def backB (ρ ρ' : Fm) (vs : List Nat) : Fm := (List.range ρ'.length).map fun i => if i ∈ vs then (match ρ[i]? with
  | some (.sh d) => .sh d
  | _ => .no) else (ρ'[i]?).getD .no
def xLc (vs : List Nat) (t : Tg) (fi : Fm → Option (List D × Fm)) (fc : Fm → Option (Bool × Fm)) (fe : Fm → Option (D × Fm)) (ρ : Fm) : Option (D × Fm) := (fi ρ).bind fun x => if x.1.length ≤ bigN then (xlcL vs t fc fe x.1 (wipeB x.2 vs)).map fun r => (.list r.1, backB x.2 r.2 vs) else none
section
variable {K : PySem.W.Frag} {F H F' H' : Hp} {σ σ' : L2.St} {ρ ρ' : Fm}
theorem backB_get {vs : List Nat} {i : Nat} {b : B} (h : (backB ρ ρ' vs)[i]? = some b) : (i ∈ vs ∧ (b = .no ∨ ∃ d, b = .sh d ∧ ρ[i]? = some (.sh d))) ∨ (i ∉ vs ∧ ρ'[i]? = some b) := by
  unfold backB at h
  rw [List.getElem?_map] at h
  obtain ⟨j, h1, h2⟩ := Option.map_eq_some_iff.mp h
  obtain ⟨hi, h3⟩ := List.getElem?_eq_some_iff.mp h1
  rw [List.getElem_range] at h3
  subst h3
  rw [List.length_range] at hi
  split at h2
  · rename_i hv
    left
    refine ⟨hv, ?_⟩
    split at h2
    · rename_i d e
      exact .inr ⟨d, h2.symm, e⟩
    · exact .inl h2.symm
  · rename_i hv
    right
    refine ⟨hv, ?_⟩
    rw [List.getElem?_eq_getElem hi] at h2
    rw [List.getElem?_eq_getElem hi]
    exact congrArg some h2
theorem backB_len {vs : List Nat} : (backB ρ ρ' vs).length = ρ'.length := by
  unfold backB
  rw [List.length_map, List.length_range]
theorem go_wipe (h : Rel K F H σ ρ) (vs : List Nat) : Go K F H σ ρ F H (L2.wipe σ vs) (wipeB ρ vs) := by
  refine ⟨h.wipe vs, .refl _, fun _ _ e _ _ => e, fun _ e => e, fun _ _ e _ => e, fun a o => ?_, fun i ds e => ?_, fun i e => ?_⟩
  · obtain ⟨i, b, e, ob, s⟩ := o
    rcases wipeB_get e with ⟨_, rfl⟩ | ⟨h1, h2⟩
    · cases ob
    · rw [wipe_out h1] at s
      exact .inl ⟨i, b, h2, ob, s⟩
  · intro hb
    rcases wipeB_get e with ⟨_, rfl⟩ | ⟨h1, h2⟩
    · cases hb
    · exact ⟨⟨_, h2, rfl⟩, wipe_out h1⟩
  · rcases wipeB_get e with ⟨_, z⟩ | ⟨h1, h2⟩
    · cases z
    · exact ⟨h2, wipe_out h1⟩
theorem go_updD {Dl : Addr} {o : HO} (g : Go K F H σ ρ F' H' σ' ρ') (hD : H Dl = none) (hF : F' Dl = none) (no : ¬ ownA σ' ρ' Dl) (nt : ∀ ps, H' Dl ≠ some (.tbl ps)) : Go K F H σ ρ F' (upd H' Dl o) σ' ρ' := by
  have ne : ∀ a x, H a = some x → a ≠ Dl := fun a x e z => by rw [z, hD] at e; cases e
  refine ⟨⟨fun a x e => ?_, g.rel.len, fun i b e => ?_, g.rel.sep, g.rel.tab.to (.refl _) (fun _ _ h => h) fun a ps e => by rw [upd_ne fun z => nt ps (by rw [← z]; exact e)]; exact e⟩, g.ex, fun a x e t n => ?_, fun a e => ?_, g.hide, g.sub, g.io, g.pn⟩
  · have : a ≠ Dl := fun z => by rw [z, hF] at e; cases e
    rw [upd_ne this]
    exact g.rel.ex a x e
  · have := g.rel.at_ i b e
    have key : ∀ ds, OwnL K F' H' σ'[i]? ds → b.own = true → OwnL K F' (upd H' Dl o) σ'[i]? ds := by
      intro ds ⟨a, vs, e1, e2, e3, e4⟩ ob
      have : a ≠ Dl := fun z => by
        subst z
        exact no ⟨i, b, e, ob, e1⟩
      exact ⟨a, vs, e1, by rw [upd_ne this]; exact e2, e3, e4⟩
    have keyD : ∀ t ds, OwnD K F' H' σ'[i]? t ds → b.own = true → OwnD K F' (upd H' Dl o) σ'[i]? t ds := by
      intro t ds ⟨a, e1, e3, dd⟩ ob
      have : a ≠ Dl := fun z => by
        subst z
        exact no ⟨i, b, e, ob, e1⟩
      exact ⟨a, e1, e3, dd.move (.refl _) fun u z _ => by rw [upd_ne this]; exact z⟩
    cases b with
    | no => trivial
    | pin => trivial
    | fn w => exact this
    | sh d => exact this
    | ow ds => exact key ds this rfl
    | io ds => exact key ds this rfl
    | od t ds => exact keyD t ds this rfl
    | jd t ds => exact keyD t ds this rfl
  · rw [upd_ne (ne a x e)]
    exact g.keep a x e t n
  · by_cases ha : a = Dl
    · rw [ha, upd_same]; intro z; cases z
    · rw [upd_ne ha]
      exact g.live a e
mutual
theorem setT_mono : ∀ {t : Tg} {d : D} {ρ ρ' : Fm}, setT t d ρ = some ρ' → ∀ (i : Nat) (b : B), ρ'[i]? = some b → b.own = true → ∃ c, ρ[i]? = some c ∧ c.own = true
  | .one j, d, ρ, ρ', h, i, b, e, o => by
    cases h
    by_cases hj : i = j
    · subst hj
      have hl : i < ρ.length := by
        have := (List.getElem?_eq_some_iff.mp e).1
        rwa [List.length_set] at this
      rw [List.getElem?_set_self hl] at e
      cases e
      cases o
    · rw [List.getElem?_set_ne (fun z => hj z.symm)] at e
      exact ⟨b, e, o⟩
  | .tup ts, .tuple ds, ρ, ρ', h, i, b, e, o => setTs_mono (show setTs ts ds ρ = some ρ' from h) i b e o
  | .tup ts, .none, _, _, h, _, _, _, _ => by cases h
  | .tup ts, .bool _, _, _, h, _, _, _, _ => by cases h
  | .tup ts, .int _, _, _, h, _, _, _, _ => by cases h
  | .tup ts, .str _, _, _, h, _, _, _, _ => by cases h
  | .tup ts, .list _, _, _, h, _, _, _, _ => by cases h
  | .tup ts, .dict _, _, _, h, _, _, _, _ => by cases h
theorem setTs_mono : ∀ {ts : List Tg} {ds : List D} {ρ ρ' : Fm}, setTs ts ds ρ = some ρ' → ∀ (i : Nat) (b : B), ρ'[i]? = some b → b.own = true → ∃ c, ρ[i]? = some c ∧ c.own = true
  | [], [], ρ, ρ', h, i, b, e, o => by
    cases h
    exact ⟨b, e, o⟩
  | t :: ts, d :: ds, ρ, ρ', h, i, b, e, o => by
    obtain ⟨ρ1, e1, e2⟩ := Option.bind_eq_some_iff.mp (show (setT t d ρ).bind (fun ρ' => setTs ts ds ρ') = some ρ' from h)
    obtain ⟨c, h1, h2⟩ := setTs_mono e2 i b e o
    exact setT_mono e1 i c h1 h2
  | [], _ :: _, _, _, h, _, _, _, _ => by cases h
  | _ :: _, [], _, _, h, _, _, _, _ => by cases h
end
theorem sx_lc {wi : TI} {g : TG} {tt : TT} {te : TE} {vs : List Nat} {t : Tg} {xi : Fm → Option (List D × Fm)} {fc : Fm → Option (Bool × Fm)} {fe : Fm → Option (D × Fm)} (hi : SXI K wi xi) (hg : ST K g t) (ht : SXB K tt fc) (he : SX K te fe) (hv : ∀ i ∈ slotsT t, i ∈ vs) : SX K (tLc wi g tt te vs) (xLc vs t xi fc fe) := by
  intro F H σ ρ d ρ' hf hR Q k
  obtain ⟨⟨ds, ρ0⟩, e1, e2⟩ := Option.bind_eq_some_iff.mp hf
  split at e2
  · rename_i hz
    have hz : ds.length ≤ bigN := hz
    obtain ⟨⟨rs, ρe⟩, e3, e4⟩ := Option.map_eq_some_iff.mp e2
    cases e4
    refine hi F H σ ρ ds ρ0 e1 hR _ fun J F0 H0 g0 ok => ?_
    intro Dl hD
    have relW := g0.rel.wipe vs
    have noD : ∀ x, ownA (L2.wipe σ vs) (wipeB ρ0 vs) x → x ≠ Dl := fun x o z => by
      obtain ⟨ws, h1, _⟩ := own_live relW o
      rw [z, hD] at h1
      cases h1
    refine ⟨fun i m H' => m = ds.length - i ∧ i ≤ ds.length ∧ ∃ (F' : Hp) (ρi : Fm) (acc : List V) (dacc rest : List D), GoE K F0 H0 (L2.wipe σ vs) (wipeB ρ0 vs) F' H' ρi ∧ F' Dl = none ∧ H' Dl = some (.lst acc) ∧ RpA K F' acc dacc ∧ dacc.length ≤ i ∧ xlcL vs t fc fe (ds.drop i) ρi = some (rest, ρe) ∧ dacc ++ rest = rs,
      ⟨_, rfl, Nat.zero_le _, F0, wipeB ρ0 vs, [], [], rs, .gr relW (.newH relW.ex hD), relW.ex.free hD, upd_same, .nil, Nat.le_refl _, e3, rfl⟩, fun i m H' hW => ?_⟩
    obtain ⟨rfl, hil, F', ρi, acc, dacc, rest, g1, hFD, hHD, ra, hlen, e5, e6⟩ := hW
    by_cases h : i < ds.length
    · right
      have hd : ds[i]? = some ds[i] := List.getElem?_eq_getElem h
      obtain ⟨ha, hb⟩ := (ok F' H' g1.go.ex g1.rel.ex).1 i _ hd
      rw [List.drop_eq_getElem_cons h] at e5
      obtain ⟨ρ1, e7, e8⟩ := Option.bind_eq_some_iff.mp e5
      obtain ⟨⟨b, ρ2⟩, e9, e10⟩ := Option.bind_eq_some_iff.mp e8
      refine ⟨ha, fun H2 => ∃ (F2 : Hp) (ρj : Fm) (acc2 : List V) (dacc2 rest2 : List D), GoE K F0 H0 (L2.wipe σ vs) (wipeB ρ0 vs) F2 H2 ρj ∧ F2 Dl = none ∧ H2 Dl = some (.lst acc2) ∧ RpA K F2 acc2 dacc2 ∧ dacc2.length ≤ i + 1 ∧ xlcL vs t fc fe (ds.drop (i + 1)) ρj = some (rest2, ρe) ∧ dacc2 ++ rest2 = rs, fun H2 hN => ?_, fun x H2 hy => ?_⟩
      · exact ⟨ds.length - (i + 1), by omega, rfl, h, hN⟩
      · obtain ⟨F2, gr, rx⟩ := hb x H2 hy
        have g2 := g1.trans (.gr g1.rel gr)
        refine hg F2 H2 _ _ _ ρ1 x e7 g2.rel rx _ fun σ2 gt so => ⟨wipe_same so hv, ?_⟩
        have hw2 := wipe_same so hv
        refine ht F2 H2 σ2 ρ1 b ρ2 e9 gt.rel _ fun F3 H3 g3 => ?_
        -- Dl stands through a step
        have stand : ∀ {F4 H4 : Hp} {ρ4 : Fm}, Go K F' H' (L2.wipe σ vs) ρi F4 H4 σ2 ρ4 → H4 Dl = some (.lst acc) ∧ F4 Dl = none := fun {F4 H4 ρ4} gg => by
          have no : ¬ ownA (L2.wipe σ vs) ρi Dl := fun o => noD Dl (g1.own o) rfl
          exact ⟨gg.keep Dl _ hHD (fun ps z => by cases z) no, gg.hide Dl (by rw [hHD]; intro z; cases z) hFD no⟩
        -- what is behind a turn
        have fin : ∀ {F4 H4 : Hp} {ρ4 : Fm}, Go K F' H' (L2.wipe σ vs) ρi F4 H4 σ2 ρ4 → (∀ (j : Nat) (c : B), ρ4[j]? = some c → c.own = true → ∃ c', ρi[j]? = some c' ∧ c'.own = true) → GoE K F0 H0 (L2.wipe σ vs) (wipeB ρ0 vs) F4 H4 (wipeB ρ4 vs) := fun {F4 H4 ρ4} gg mo => by
          have gw := gg.trans (go_wipe gg.rel vs)
          rw [hw2] at gw
          refine ⟨?_, fun j c ec oc => ?_⟩
          · exact g1.go.trans gw
          · rcases wipeB_get ec with ⟨_, rfl⟩ | ⟨_, ec'⟩
            · cases oc
            · obtain ⟨c', h1, h2⟩ := mo j c ec' oc
              exact g1.mono j c' h1 h2
        have goT : Go K F' H' (L2.wipe σ vs) ρi F3 H3 σ2 ρ2 := ((Go.gr g1.rel gr).trans gt).trans g3.go
        have moT : ∀ (j : Nat) (c : B), ρ2[j]? = some c → c.own = true → ∃ c', ρi[j]? = some c' ∧ c'.own = true := fun j c ec oc => by
          obtain ⟨c', h1, h2⟩ := g3.mono j c ec oc
          exact setT_mono e7 j c' h1 h2
        by_cases hbt : b = true
        · rw [if_pos hbt] at e10 ⊢
          obtain ⟨⟨y, ρ3⟩, e11, e12⟩ := Option.bind_eq_some_iff.mp e10
          obtain ⟨⟨rest2, ρf⟩, e13, e14⟩ := Option.map_eq_some_iff.mp e12
          cases e14
          refine he F3 H3 σ2 ρ2 y ρ3 e11 g3.rel _ fun w F4 H4 g4 r4 => ?_
          have goU := goT.trans g4.go
          have moU : ∀ (j : Nat) (c : B), ρ3[j]? = some c → c.own = true → ∃ c', ρi[j]? = some c' ∧ c'.own = true := fun j c ec oc => by
            obtain ⟨c', h1, h2⟩ := g4.mono j c ec oc
            exact moT j c' h1 h2
          obtain ⟨hD4, hF4⟩ := stand goU
          have gf := fin goU moU
          have nof : ¬ ownA (L2.wipe σ vs) (wipeB ρ3 vs) Dl := fun o => noD Dl (gf.own o) rfl
          refine ⟨acc, hD4, ?_, F4, wipeB ρ3 vs, acc ++ [w], dacc ++ [y], rest2, ⟨go_updD gf.go hD hF4 nof (fun ps z => by rw [hD4] at z; cases z), gf.mono⟩, hF4, upd_same, (ra.mono goU.ex).append (.one r4), ?_, e13, ?_⟩
          · rw [ra.length]
            exact Nat.lt_of_lt_of_le (by omega) big_le
          · rw [List.length_append]
            show dacc.length + 1 ≤ i + 1
            omega
          · rw [List.append_assoc]
            exact e6
        · rw [if_neg hbt] at e10 ⊢
          obtain ⟨hD4, hF4⟩ := stand goT
          exact ⟨F3, wipeB ρ2 vs, acc, dacc, rest, fin goT moT, hF4, hD4, ra.mono goT.ex, by omega, e10, e6⟩
    · left
      have hl : i = ds.length := by omega
      subst hl
      rw [List.drop_length] at e5
      cases e5
      rw [List.append_nil] at e6
      subst e6
      refine ⟨(ok F' H' g1.go.ex g1.rel.ex).2, ?_⟩
      have exD : Ex F' (upd F' Dl (.lst acc)) := .new hFD
      refine k (.ref Dl) (upd F' Dl (.lst acc)) H' (g0.trans ⟨⟨⟨fun a x e => ?_, ?_, fun i b e => ?_, fun i j b c x e1 o1 e2 o2 s1 s2 => ?_, g1.rel.tab.see hFD hHD fun ps z => by cases z⟩, g1.go.ex.trans exD, fun a x e t n => ?_, g1.go.live, fun a e f n => ?_, fun a o => ?_, fun i ds' e => ?_, fun i e => ?_⟩, fun i b e o => ?_⟩) (.lst (.inl (.inl upd_same)) (ra.mono exD))
      · by_cases hx : a = Dl
        · subst hx
          rw [upd_same] at e
          rw [← e]
          exact hHD
        · rw [upd_ne hx] at e
          exact g1.rel.ex a x e
      · rw [backB_len, ← g1.rel.len, wipe_length]
      · rcases backB_get e with ⟨hm, rfl | ⟨d', rfl, e'⟩⟩ | ⟨hm, e'⟩
        · trivial
        · obtain ⟨v, s1, r1⟩ := g0.rel.at_ i _ e'
          exact ⟨v, s1, r1.mono (g1.go.ex.trans exD)⟩
        · have := g1.rel.at_ i b e'
          rw [wipe_out hm] at this
          have key : ∀ ls, OwnL K F' H' σ[i]? ls → b.own = true → OwnL K (upd F' Dl (.lst acc)) H' σ[i]? ls := by
            intro ls ⟨a, ws, f1, f2, f3, f4⟩ ob
            have : a ≠ Dl := noD a (g1.own ⟨i, b, e', ob, by rw [wipe_out hm]; exact f1⟩)
            exact ⟨a, ws, f1, f2, by rw [upd_ne this]; exact f3, f4.mono exD⟩
          have keyD : ∀ t ls, OwnD K F' H' σ[i]? t ls → b.own = true → OwnD K (upd F' Dl (.lst acc)) H' σ[i]? t ls := by
            intro t ls ⟨a, f1, f3, dd⟩ ob
            have : a ≠ Dl := noD a (g1.own ⟨i, b, e', ob, by rw [wipe_out hm]; exact f1⟩)
            exact ⟨a, f1, by rw [upd_ne this]; exact f3, dd.move exD fun _ z _ => z⟩
          cases b with
          | no => trivial
          | pin => trivial
          | fn w =>
            obtain ⟨v, s1, r1⟩ := this
            exact ⟨v, s1, FnT.mono exD r1⟩
          | sh d' =>
            obtain ⟨v, s1, r1⟩ := this
            exact ⟨v, s1, r1.mono exD⟩
          | ow ls => exact key ls this rfl
          | io ls => exact key ls this rfl
          | od t ls => exact keyD t ls this rfl
          | jd t ls => exact keyD t ls this rfl
      · rcases backB_get e1 with ⟨hm, rfl | ⟨d', rfl, e'⟩⟩ | ⟨hm, e1'⟩
        · cases o1
        · cases o1
        · rcases backB_get e2 with ⟨hm2, rfl | ⟨d', rfl, e'⟩⟩ | ⟨hm2, e2'⟩
          · cases o2
          · cases o2
          · exact g1.rel.sep i j b c x e1' o1 e2' o2 (by rw [wipe_out hm]; exact s1) (by rw [wipe_out hm2]; exact s2)
      · refine g1.go.keep a x e t fun o => n ?_
        obtain ⟨j, b, ej, ob, s⟩ := o
        rcases wipeB_get ej with ⟨_, rfl⟩ | ⟨h1, h2⟩
        · cases ob
        · exact ⟨j, b, h2, ob, by rw [wipe_out h1] at s; exact s⟩
      · have hx : a ≠ Dl := fun z => e (by rw [z]; exact hD)
        rw [upd_ne hx]
        refine g1.go.hide a e f fun o => n ?_
        obtain ⟨j, b, ej, ob, s⟩ := o
        rcases wipeB_get ej with ⟨_, rfl⟩ | ⟨h1, h2⟩
        · cases ob
        · exact ⟨j, b, h2, ob, by rw [wipe_out h1] at s; exact s⟩
      · obtain ⟨j, b, ej, ob, s⟩ := o
        rcases backB_get ej with ⟨hm, rfl | ⟨d', rfl, e'⟩⟩ | ⟨hm, ej'⟩
        · cases ob
        · cases ob
        · obtain ⟨c, h1, h2⟩ := g1.mono j b ej' ob
          rcases wipeB_get h1 with ⟨_, rfl⟩ | ⟨h3, h4⟩
          · cases h2
          · exact .inl ⟨j, c, h4, h2, s⟩
      · intro hb
        rcases backB_get e with ⟨hm, rfl | ⟨d', rfl, e'⟩⟩ | ⟨hm, e'⟩
        · cases hb
        · cases hb
        · obtain ⟨⟨b0, h1, k0⟩, _⟩ := g1.go.io i _ e' hb
          rcases wipeB_get h1 with ⟨_, rfl⟩ | ⟨h3, h4⟩
          · rw [← k0] at hb
            cases hb
          · exact ⟨⟨b0, h4, k0⟩, rfl⟩
      · rcases backB_get e with ⟨hm, z | ⟨d', z, e'⟩⟩ | ⟨hm, e'⟩
        · cases z
        · cases z
        · obtain ⟨h1, _⟩ := g1.go.pn i e'
          rcases wipeB_get h1 with ⟨_, z⟩ | ⟨h3, h4⟩
          · cases z
          · exact ⟨h4, rfl⟩
      · rcases backB_get e with ⟨hm, rfl | ⟨d', rfl, e'⟩⟩ | ⟨hm, e'⟩
        · cases o
        · cases o
        · obtain ⟨c, h1, h2⟩ := g1.mono i b e' o
          rcases wipeB_get h1 with ⟨_, rfl⟩ | ⟨h3, h4⟩
          · cases h2
          · exact ⟨c, h4, h2⟩
  · cases e2
end
section
variable {X : Cx} {elt tg iter c : Expr} {scope : Scope} {own : List (Str × Nat)} {pos spos py : Pos} {t : Tg} {xi : Fm → Option (List D × Fm)} {gc : Fm → Option (Bool × Fm)} {ge : Fm → Option (D × Fm)}
theorem x_lc0 (hc : X.calm = true) (hN : X.N.Nodup) (hi : XIt X tg iter xi) (ok : BlkOk X.N X.env.scope scope own) (hg : ∀ a, PTg (blkOf X scope a) tg t) (he : ∀ a, XE (blkOf X scope a) elt ge) (hv : ∀ i ∈ slotsT t, i ∈ own.map (·.2)) (hs : ∀ x, foldedSetIterable iter X.env x = pure x := by intro _; rfl) :
    XE X (.ListComp elt [⟨tg, iter, [], 0⟩] scope pos) (xLc (own.map (·.2)) t xi (up fYes) ge) := by
  obtain ⟨wi, a1, a2⟩ := hi
  obtain ⟨g, b1, b2⟩ := all_PTg (Y := fun a => blkOf X scope a) (K := X.K) (fun a => rfl) hg
  obtain ⟨te, c1, c2⟩ := all_XE (Y := fun a => blkOf X scope a) (K := X.K) (fun a => rfl) he
  exact ⟨_, pe_lc hc hN a1 ok (fun s H C cl fp => b1 ⟨s, H, C, cl, fp⟩) (fun _ _ _ _ _ => pts_nil) (fun s H C cl fp => c1 ⟨s, H, C, cl, fp⟩) hs, sx_lc a2 b2 (fun F H σ ρ b ρ' hf hR Q k => by
    obtain ⟨e1, rfl⟩ := up_some hf
    cases e1
    exact k F H (.refl hR)) c2 hv⟩
theorem x_lc1 (hc : X.calm = true) (hN : X.N.Nodup) (hi : XIt X tg iter xi) (ok : BlkOk X.N X.env.scope scope own) (hg : ∀ a, PTg (blkOf X scope a) tg t) (ht : ∀ a, XB (blkOf X scope a) c gc) (he : ∀ a, XE (blkOf X scope a) elt ge) (hv : ∀ i ∈ slotsT t, i ∈ own.map (·.2)) (hs : ∀ x, foldedSetIterable iter X.env x = pure x := by intro _; rfl) :
    XE X (.ListComp elt [⟨tg, iter, [c], 0⟩] scope pos) (xLc (own.map (·.2)) t xi gc ge) := by
  obtain ⟨wi, a1, a2⟩ := hi
  obtain ⟨g, b1, b2⟩ := all_PTg (Y := fun a => blkOf X scope a) (K := X.K) (fun a => rfl) hg
  obtain ⟨te, c1, c2⟩ := all_XE (Y := fun a => blkOf X scope a) (K := X.K) (fun a => rfl) he
  obtain ⟨tt, d1, d2⟩ := all_XB (Y := fun a => blkOf X scope a) (K := X.K) (fun a => rfl) ht
  exact ⟨_, pe_lc hc hN a1 ok (fun s H C cl fp => b1 ⟨s, H, C, cl, fp⟩) (fun s H C cl fp => pts_one (d1 ⟨s, H, C, cl, fp⟩)) (fun s H C cl fp => c1 ⟨s, H, C, cl, fp⟩) hs, sx_lc a2 b2 d2 c2 hv⟩
/-- y = [..] on one line -/
theorem sx_lc0 (i : Nat) {y : Str} (hc : X.calm = true) (hN : X.N.Nodup) (hi : XIt X tg iter xi) (ok : BlkOk X.N X.env.scope scope own) (hg : ∀ a, PTg (blkOf X scope a) tg t) (he : ∀ a, XE (blkOf X scope a) elt ge) (hv : ∀ i ∈ slotsT t, i ∈ own.map (·.2))
    (hsw : swapsWith (.ListComp elt [⟨tg, iter, [], 0⟩] scope pos) (some (.Name y py)) spos.line X.env = pure true) (hy : X.N[i]? = some y := by rfl) (hyl : X.env.scope.names.lookup y = some .local := by rfl) (hs : ∀ x, foldedSetIterable iter X.env x = pure x := by intro _; rfl) :
    PSt X (.Assign [.Name y py] (.ListComp elt [⟨tg, iter, [], 0⟩] scope pos) spos) (sAsg i (mSh (xLc (own.map (·.2)) t xi (up fYes) ge))) := by
  obtain ⟨wi, a1, a2⟩ := hi
  obtain ⟨g, b1, b2⟩ := all_PTg (Y := fun a => blkOf X scope a) (K := X.K) (fun a => rfl) hg
  obtain ⟨te, c1, c2⟩ := all_XE (Y := fun a => blkOf X scope a) (K := X.K) (fun a => rfl) he
  refine ⟨_, ps_setLc hc hN hy hyl hsw a1 ok (fun s H C cl fp => b1 ⟨s, H, C, cl, fp⟩) (fun _ _ _ _ _ => pts_nil) (fun s H C cl fp => c1 ⟨s, H, C, cl, fp⟩) hs, fun F H σ ρ fl ρ' hf hR E k1 k2 k3 => ?_⟩
  obtain ⟨⟨b, ρ1⟩, e1, e2⟩ := Option.map_eq_some_iff.mp hf
  cases e2
  obtain ⟨⟨d, ρ2⟩, e3, e4⟩ := Option.map_eq_some_iff.mp e1
  cases e4
  exact sx_lc a2 b2 (fun F H σ ρ b ρ' hf hR Q k => by
    obtain ⟨e1, rfl⟩ := up_some hf
    cases e1
    exact k F H (.refl hR)) c2 hv F H σ ρ d _ e3 hR _ fun v F1 H1 g1 r1 => k1 rfl _ F1 H1 (g1.go.trans (go_set g1.rel r1))
theorem sx_lc1 (i : Nat) {y : Str} (hc : X.calm = true) (hN : X.N.Nodup) (hi : XIt X tg iter xi) (ok : BlkOk X.N X.env.scope scope own) (hg : ∀ a, PTg (blkOf X scope a) tg t) (ht : ∀ a, XB (blkOf X scope a) c gc) (he : ∀ a, XE (blkOf X scope a) elt ge) (hv : ∀ i ∈ slotsT t, i ∈ own.map (·.2))
    (hsw : swapsWith (.ListComp elt [⟨tg, iter, [c], 0⟩] scope pos) (some (.Name y py)) spos.line X.env = pure true) (hy : X.N[i]? = some y := by rfl) (hyl : X.env.scope.names.lookup y = some .local := by rfl) (hs : ∀ x, foldedSetIterable iter X.env x = pure x := by intro _; rfl) :
    PSt X (.Assign [.Name y py] (.ListComp elt [⟨tg, iter, [c], 0⟩] scope pos) spos) (sAsg i (mSh (xLc (own.map (·.2)) t xi gc ge))) := by
  obtain ⟨wi, a1, a2⟩ := hi
  obtain ⟨g, b1, b2⟩ := all_PTg (Y := fun a => blkOf X scope a) (K := X.K) (fun a => rfl) hg
  obtain ⟨te, c1, c2⟩ := all_XE (Y := fun a => blkOf X scope a) (K := X.K) (fun a => rfl) he
  obtain ⟨tt, d1, d2⟩ := all_XB (Y := fun a => blkOf X scope a) (K := X.K) (fun a => rfl) ht
  refine ⟨_, ps_setLc hc hN hy hyl hsw a1 ok (fun s H C cl fp => b1 ⟨s, H, C, cl, fp⟩) (fun s H C cl fp => pts_one (d1 ⟨s, H, C, cl, fp⟩)) (fun s H C cl fp => c1 ⟨s, H, C, cl, fp⟩) hs, fun F H σ ρ fl ρ' hf hR E k1 k2 k3 => ?_⟩
  obtain ⟨⟨b, ρ1⟩, e1, e2⟩ := Option.map_eq_some_iff.mp hf
  cases e2
  obtain ⟨⟨d, ρ2⟩, e3, e4⟩ := Option.map_eq_some_iff.mp e1
  cases e4
  exact sx_lc a2 b2 d2 c2 hv F H σ ρ d _ e3 hR _ fun v F1 H1 g1 r1 => k1 rfl _ F1 H1 (g1.go.trans (go_set g1.rel r1))
end
end DL
end
section
set_option Elab.async false
set_option linter.all false
set_option maxRecDepth 100000
/-! Chains of comparisons; where a def stands. -/
namespace DL
open PySem PySem.Spec PyProof.Rows L2
variable [TabT] [FnT]
section
variable {X : Cx} {e a b c : Expr} {es : List Expr} {pos p : Pos} {fe fa fb fc : Fm → Option D}
/-- an operator of data -/
structure OpD (X : Cx) (f : Value → Value → Sem Value) (g : D → D → Option D) (r : R2) : Prop where
  op : OpR X f r
  ok : ∀ F H x y dx dy dz, Ex F H → Vw X.K F H x dx → Vw X.K F H y dy → g dx dy = some dz → ∀ Q : VK, Res X.K F H dz Q → r x y H Q
theorem o_le {k : Nat} (hr : Room k X.A) : OpD X (compareOp .LtE) gLe (rOrd X.K fun d e => !PySem.W.dataLt e d) := ⟨op_leD hr.units, vw_ord fun _ _ => rfl⟩
theorem o_lt {k : Nat} (hr : Room k X.A) : OpD X (compareOp .Lt) gLt (rOrd X.K fun d e => PySem.W.dataLt d e) := ⟨op_ltD hr.units, vw_ord fun _ _ => rfl⟩
theorem o_ge {k : Nat} (hr : Room k X.A) : OpD X (compareOp .GtE) gGe (rOrd X.K fun d e => !PySem.W.dataLt d e) := ⟨op_geD hr.units, vw_ord fun _ _ => rfl⟩
theorem o_gt {k : Nat} (hr : Room k X.A) : OpD X (compareOp .Gt) gGt (rOrd X.K fun d e => PySem.W.dataLt e d) := ⟨op_gtD hr.units, vw_ord fun _ _ => rfl⟩
theorem o_eq {k : Nat} (hr : Room k X.A) : OpD X (compareOp .Eq) gEq (rEqD X.K) := ⟨op_eqD hr.units, vw_eq⟩
theorem o_ne {k : Nat} (hr : Room k X.A) : OpD X (compareOp .NotEq) gNe (rNeD X.K) := ⟨op_neD hr.units, vw_ne⟩
/-- a op1 b op2 c -/
def fChain (g g' : D → D → Option D) (fa fb fc : Fm → Option D) (ρ : Fm) : Option D := (fa ρ).bind fun x => (fb ρ).bind fun y => (g x y).bind fun z => match z with
  | .bool true => (fc ρ).bind fun w => g' y w
  | .bool false => some (.bool false)
  | _ => none
theorem sp_chain {g g' : D → D → Option D} {r r' : R2} {K : PySem.W.Frag} {ta tb tc : TE} (h1 : ∀ F H x y dx dy dz, Ex F H → Vw K F H x dx → Vw K F H y dy → g dx dy = some dz → ∀ Q : VK, Res K F H dz Q → r x y H Q)
    (h2 : ∀ F H x y dx dy dz, Ex F H → Vw K F H x dx → Vw K F H y dy → g' dx dy = some dz → ∀ Q : VK, Res K F H dz Q → r' x y H Q) (ha : SV K ta fa) (hb : SV K tb fb) (hc : SV K tc fc) : SP K (tChain r r' ta tb tc) (fChain g g' fa fb fc) := by
  intro F H σ ρ d hf hR Q k
  obtain ⟨dx, e1, hf⟩ := Option.bind_eq_some_iff.mp hf
  obtain ⟨dy, e2, hf⟩ := Option.bind_eq_some_iff.mp hf
  obtain ⟨dz, e3, hf⟩ := Option.bind_eq_some_iff.mp hf
  refine ha F H σ ρ dx e1 hR _ fun x F1 H1 g1 r1 => ?_
  refine hb F1 H1 σ ρ dy e2 (hR.gr g1) _ fun y F2 H2 g2 r2 => ?_
  refine h1 F2 H2 x y dx dy dz g2.in_ (r1.gr g2) r2 e3 _ fun z F3 H3 g3 r3 => ?_
  split at hf
  · refine ⟨true, r3.blI, ?_⟩
    rw [if_pos rfl]
    obtain ⟨dw, e4, e5⟩ := Option.bind_eq_some_iff.mp hf
    refine hc F3 H3 σ ρ dw e4 (hR.gr ((g1.trans g2).trans g3)) _ fun w F4 H4 g4 r4 => ?_
    exact h2 F4 H4 y w dy dw d g4.in_ ((r2.gr g3).gr g4) r4 e5 Q fun v F5 H5 g5 r5 => k v F5 H5 ((((g1.trans g2).trans g3).trans g4).trans g5) r5
  · refine ⟨false, r3.blI, ?_⟩
    rw [if_neg (by decide)]
    cases hf
    exact k _ F3 H3 ((g1.trans g2).trans g3) (.bl _)
  · cases hf
theorem d_chain {op op' : CmpOp} {g g' : D → D → Option D} {r r' : R2} (o1 : OpD X (compareOp op) g r) (o2 : OpD X (compareOp op') g' r') (ha : PV X a fa) (hb : PV X b fb) (hc : PV X c fc) (hm : lastMarks [op, op'] [b, c] = false := by with_unfolding_all rfl) :
    PP X (.Compare a [op, op'] [b, c] pos) (fChain g g' fa fb fc) := let ⟨_, h1, h2⟩ := ha; let ⟨_, h3, h4⟩ := hb; let ⟨_, h5, h6⟩ := hc; ⟨_, pe_chain o1.op o2.op h1 h3 h5 hm, sp_chain o1.ok o2.ok h2 h4 h6⟩
theorem t_chain {op op' : CmpOp} {g g' : D → D → Option D} {r r' : R2} (o1 : OpD X (compareOp op) g r) (o2 : OpD X (compareOp op') g' r') (ha : PV X a fa) (hb : PV X b fb) (hc : PV X c fc) (hm : lastMarks [op, op'] [b, c] = false := by with_unfolding_all rfl) :
    PB X (.Compare a [op, op'] [b, c] pos) (fBl (fChain g g' fa fb fc)) := let ⟨_, h1, h2⟩ := ha; let ⟨_, h3, h4⟩ := hb; let ⟨_, h5, h6⟩ := hc; ⟨_, pt_chain o1.op o2.op h1 h3 h5 hm, sb_test (sp_chain o1.ok o2.ok h2 h4 h6)⟩
end
/-! ### where a def stands -/
structure DefAt (K : PySem.W.Frag) (mg : Str → Option Value) (y x : Str) (st : Stmt) (ps : List Str) where
  a : Addr
  fd : FuncData
  F : Fun K x x st a fd
  m : mg y = some (.ref a)
  b : Binds K fd ps []
  bb : ∀ us : List Value, us.length = ps.length → bindArgs fd ⟨us, []⟩ = pure (ps.zip us)
def def_mk {K : PySem.W.Frag} {h : Heap} {mg : Str → Option Value} (X : K.In h) (G : h.Ns mainGlobals mg) {y x : Str} {st : Stmt} {ps : List Str} {f : Addr} {oc : Value} {od an : Option Addr} {osl : Array (Option Value)} {kV doc pm cdv ct : Value}
    (hb : ∀ (kV doc pm : Value) (an : Option Addr) (cdv ct : Value) (us : List Value), us.length = ps.length → bindArgs (PySem.W.fnOf x x (defArgs st) (defBody st) (defScope st) .none kV doc pm an cdv ct) ⟨us, []⟩ = pure (ps.zip us))
    (a1 : PySem.W.nsIn K mainGlobals y = some (some (.ref f))) (l1 : K.lookup f = some ⟨oc, od, .func (PySem.W.fnOf x x (defArgs st) (defBody st) (defScope st) .none kV doc pm an cdv ct), osl⟩) (c1 : PySem.W.codeIn K cdv x = true) (k1 : PySem.W.keepIn K (.ref f) = true) : DefAt K mg y x st ps :=
  ⟨f, _, fun_mk l1 c1 k1, PySem.W.mg_of X G a1, (fun_mk l1 c1 k1).binds hb, fun us hl => hb kV doc pm an cdv ct us hl⟩
/-- a def that is never asked -/
theorem fn_none {P : Program} {w : World} {K : PySem.W.Frag} {mg : Str → Option Value} {base : Heap} {k : Nat} {f : Addr} {fd : FuncData} {ps : List Str} {n : Nat} : FnOk P w K mg base CX0 k f fd ps (spP K (fun _ => none) n) := by
  refine ⟨fun vs H Q E h => ?_, fun A outer s H args us vs Q E _ _ _ _ h => ?_⟩
  · obtain ⟨_, _, _, _, _, _, z, _⟩ := h
    cases z
  · obtain ⟨_, _, _, _, _, _, z, _⟩ := h
    cases z
/-- H but the tables -/
def unTb (H : Hp) : Hp := fun b => match H b with
  | some (.tbl _) => none
  | o => o
theorem unTb_ex (H : Hp) : Ex (unTb H) H := fun b o e => by
  unfold unTb at e
  split at e
  · cases e
  · exact e
theorem unTb_at {H : Hp} {a : Addr} {o : HO} (h : H a = some o) (n : NoTb o) : unTb H a = some o := by
  unfold unTb
  split
  · rename_i ps q
    rw [h] at q
    exact absurd (Option.some.inj q) (n ps)
  · exact h
/-- the law's own promise -/
theorem sp_law {K : PySem.W.Frag} {g : List D → Option D} {m : Nat} (hg : ∀ ns : List Int, ns.length ≤ m → g [.list (ns.map .int)] = some (.bool true)) (H : Hp) (a : Addr) (ns : List Int) (hl : ns.length ≤ m) (hS : SqL K H a (ns.map V.int)) (hT : ∀ p ∈ TabT.T, H p.1 = some (.tbl #[]) := by intro p hp; cases hp) : spP K g 1 [.ref a] H (fun v _ => v = .bl true) fun _ _ _ => False := by
  have hS' : SqL K (unTb H) a (ns.map V.int) := by
    rcases hS with h | h
    · rcases h with h | ⟨o, h⟩
      · exact .inl (.inl (unTb_at h fun ps z => by cases z))
      · exact .inl (.inr ⟨o, unTb_at h fun ps z => by cases z⟩)
    · exact .inr h
  have tb : TbOk (unTb H) H := fun p hp => ⟨by unfold unTb; rw [hT p hp], #[], hT p hp, True.intro, fun pos cv hc => by
    have z : codeAmong pos [] = some cv := hc
    simp [codeAmong] at z⟩
  refine ⟨rfl, unTb H, [.list (ns.map .int)], .bool true, ⟨unTb_ex H, tb⟩, .cons (.lst hS' ?_) .nil, hg ns hl, fun v F' H' _ r => r.blI⟩
  clear hl hS hS'
  induction ns with
  | nil => exact .nil
  | cons n ns ih => exact .cons (.int n) ih
end DL
end
section
set_option Elab.async false
set_option linter.all false
set_option maxRecDepth 100000
/-! Dicts as data: what stands at a key. -/
namespace DL
open PySem PySem.Spec PyProof.Rows L2
variable [TabT] [FnT]
def tupD : D → Bool
  | .tuple _ => true
  | _ => false
def kEq (t : Bool) (k : NestedKey) (p : D × D) : Bool := decide (kOf t p.1 = some k)
def getE (t : Bool) (ds : List (D × D)) (k : NestedKey) : Option D := (ds.find? (kEq t k)).map (·.2)
def putE (t : Bool) (ds : List (D × D)) (k : NestedKey) (kd d : D) : List (D × D) := if (getE t ds k).isSome = true then ds.map (fun p => if kEq t k p = true then (p.1, d) else p) else ds ++ [(kd, d)]
/-- the dict's keys are of the sort of kd -/
def sameT (ds : List (D × D)) (kd : D) : Bool := match ds with
  | [] => true
  | p :: _ => tupD p.1 == tupD kd
def dGet (ds : List (D × D)) (kd : D) : Option (Option D) := if sameT ds kd = true then (kOf (tupD kd) kd).map (getE (tupD kd) ds) else none
/-! ### keys -/
mutual
theorem hash_w : ∀ {d : D} {k : NestedKey}, nkD d = some k → ∀ w w' : World, w.params.strHash = w'.params.strHash → k.hash w = k.hash w'
  | .none, _, h => by cases h; intro w w' _; rfl
  | .bool b, _, h => by cases h; intro w w' _; rfl
  | .int i, _, h => by cases h; intro w w' _; rfl
  | .str x, _, h => by
    cases h
    intro w w' e
    show hashStr w x = hashStr w' x
    unfold hashStr
    rw [e]
  | .list xs, _, h => by simp only [nkD] at h; cases h
  | .dict xs, _, h => by simp only [nkD] at h; cases h
  | .tuple ds, _, h => by
    obtain ⟨ks, e, rfl⟩ := Option.map_eq_some_iff.mp (show (nkDs ds).map NestedKey.tup = some _ from h)
    intro w w' e0
    show PySem.reduceHash (Builtin.Tuple.tupleHashOf (NestedKey.hashes w ks)) = PySem.reduceHash (Builtin.Tuple.tupleHashOf (NestedKey.hashes w' ks))
    rw [hashes_w e w w' e0]
theorem hashes_w : ∀ {ds : List D} {ks : List NestedKey}, nkDs ds = some ks → ∀ w w' : World, w.params.strHash = w'.params.strHash → NestedKey.hashes w ks = NestedKey.hashes w' ks
  | [], _, h => by cases h; intro w w' _; rfl
  | d :: ds, _, h => by
    obtain ⟨k, e1, h2⟩ := Option.bind_eq_some_iff.mp (show (nkD d).bind _ = some _ from h)
    obtain ⟨ks, e2, rfl⟩ := Option.map_eq_some_iff.mp h2
    intro w w' e0
    show NestedKey.hash w k :: NestedKey.hashes w ks = NestedKey.hash w' k :: NestedKey.hashes w' ks
    rw [hash_w e1 w w' e0, hashes_w e2 w w' e0]
end
theorem kOf_tup {kd : D} {k : NestedKey} (h : kOf true kd = some k) : ∃ ds ks, kd = .tuple ds ∧ nkDs ds = some ks ∧ k = .tup ks ∧ (NestedKey.tup ks).depth ≤ 8 := by
  cases kd with
  | tuple ds =>
    obtain ⟨ks, e1, e2⟩ := Option.bind_eq_some_iff.mp (show (nkDs ds).bind _ = some k from h)
    split at e2
    · rename_i hd
      cases e2
      exact ⟨ds, ks, rfl, e1, rfl, hd⟩
    · cases e2
  | _ => cases h
theorem kOf_nk {kd : D} {k : NestedKey} (h : kOf true kd = some k) : nkD kd = some k := by
  obtain ⟨ds, ks, rfl, e, rfl, _⟩ := kOf_tup h
  show (nkDs ds).map NestedKey.tup = _
  rw [e]; rfl
theorem kOf_hash {kd : D} {k : NestedKey} (h : kOf true kd = some k) (w w' : World) (e : w.params.strHash = w'.params.strHash) : k.hash w = k.hash w' := hash_w (kOf_nk h) w w' e
def nkK : Key → NestedKey
  | .inl i => .num i
  | .inr x => .text x
theorem nkK_inj {a b : Key} (h : nkK a = nkK b) : a = b := by
  cases a <;> cases b <;> cases h <;> rfl
theorem kOf_keyD (k : Key) : kOf false (keyD k) = some (nkK k) := by cases k <;> rfl
theorem tupD_keyD (k : Key) : tupD (keyD k) = false := by cases k <;> rfl
theorem kOf_plain {kd : D} {k : NestedKey} (h : kOf false kd = some k) : ∃ ky : Key, kd = keyD ky ∧ k = nkK ky := by
  cases kd with
  | int i => cases h; exact ⟨.inl i, rfl, rfl⟩
  | str x => cases h; exact ⟨.inr x, rfl, rfl⟩
  | _ => cases h
section
variable {X : Cx} {pins : List (Addr × Obj)} {σ : L2.St} {F H : Hp} {s : Shared}
mutual
theorem nest_is (I : Inv X pins σ H s) (e : Ex F H) : ∀ {v : V} {d : D} {k : NestedKey} {u : Value}, Rp X.K F v d → nkD d = some k → RelV v u → NestedIs s.heap k u
  | _, _, _, _, .non, hk, hr => by
    cases hk
    cases (show _ = Value.none from hr)
    exact .none
  | _, _, _, _, .bl b, hk, hr => by
    cases hk
    cases (show _ = Value.bool b from hr)
    exact .bool rfl
  | _, _, _, _, .int i, hk, hr => by
    cases hk
    obtain ⟨t, rfl⟩ := hr
    exact .int i t
  | _, _, _, _, .str x, hk, hr => by
    cases hk
    obtain ⟨t, rfl⟩ := hr
    exact .text x t
  | _, _, _, _, .lst _ _, hk, hr => by simp only [nkD] at hk; cases hk
  | _, _, _, _, .dk _ _ _, hk, hr => by simp only [nkD] at hk; cases hk
  | _, _, _, _, .dn _ _, hk, hr => by simp only [nkD] at hk; cases hk
  | _, _, _, _, .tup (ds := ds) h r, hk, hr => by
    obtain ⟨ks, ek, rfl⟩ := Option.map_eq_some_iff.mp (show (nkDs ds).map NestedKey.tup = some _ from hk)
    cases (show _ = Value.ref _ from hr)
    obtain ⟨its, rv, ⟨o, h1, h2, n, h3⟩, _⟩ := I.tuple (e.sqt h.sqt)
    exact .tup h1 h2 h3 (by simpa using nest_all I e r ek rv)
theorem nest_all (I : Inv X pins σ H s) (e : Ex F H) : ∀ {vs : List V} {ds : List D} {ks : List NestedKey} {us : List Value}, RpA X.K F vs ds → nkDs ds = some ks → Vals vs us → NestedAll s.heap ks us
  | _, _, _, _, .nil, hk, hr => by
    cases hk
    cases hr
    exact .nil
  | _, _, _, _, .cons (d := d) (ds := ds) r t, hk, hr => by
    obtain ⟨k, e1, h2⟩ := Option.bind_eq_some_iff.mp (show (nkD d).bind _ = some _ from hk)
    obtain ⟨ks, e2, rfl⟩ := Option.map_eq_some_iff.mp h2
    cases hr with
    | cons q qs => exact .cons (nest_is I e r e1 q) (nest_all I e t e2 qs)
end
theorem key_at (I : Inv X pins σ H s) (e : Ex F H) {q : Addr} {kd : D} {k : NestedKey} (r : Rp X.K F (.ref q) kd) (hk : kOf true kd = some k) : (nestedKind X.prog X.w).is s.heap k q := by
  refine ⟨nest_is I e r (kOf_nk hk) (show Value.ref q = Value.ref q from rfl), ?_⟩
  obtain ⟨_, _, _, _, rfl, h⟩ := kOf_tup hk
  exact h
theorem keys_at (I : Inv X pins σ H s) (e : Ex F H) : ∀ {xs : DEs} {ds : List (D × D)}, RpN X.K F xs ds → ∀ x ∈ xs, (nestedKind X.prog X.w).is s.heap x.1 x.2.1
  | _, _, .nil => fun x hx => nomatch hx
  | _, _, .cons h1 h2 _ _ r => fun x hx => by
    rcases List.mem_cons.mp hx with rfl | hx
    · exact key_at I e h1 h2
    · exact keys_at I e r x hx
theorem dn_facts [hw : WH X.w] (I : Inv X pins σ H s) (e : Ex F H) {a : Addr} {xs : DEs} {ds : List (D × D)} (h : Rd H a (DN a xs)) (r : RpN X.K F xs ds) : (a == sysModules) = false ∧ xs.length ≤ sizeLine ∧ s.heap.DictOfH (nestedKind X.prog X.w) a xs := by
  obtain ⟨⟨y, z, nd, o, es, ep, h1, h2, h3, h4⟩, _⟩ := (show ObjOk X.prog X.w H s.heap a (.ext (DPhi a xs)) from h.ok I.hok)
  exact ⟨y, z, o, es, ep, h1, h2, h3, h4 X.w hw.eq, keys_at I e r, nd⟩
/-- the same, as another world sees it that hashes texts as is known -/
def whs (w : World) : World := { w with params := { w.params with strHash := TabT.hs } }
theorem dn_raw (I : Inv X pins σ H s) (e : Ex F H) {a : Addr} {xs : DEs} {ds : List (D × D)} (h : Rd H a (DN a xs)) (r : RpN X.K F xs ds) : (a == sysModules) = false ∧ xs.length ≤ sizeLine ∧ s.heap.DictOfH (nestedKind X.prog (whs X.w)) a xs := by
  obtain ⟨⟨y, z, nd, o, es, ep, h1, h2, h3, h4⟩, _⟩ := (show ObjOk X.prog X.w H s.heap a (.ext (DPhi a xs)) from h.ok I.hok)
  exact ⟨y, z, o, es, ep, h1, h2, h3, h4 (whs X.w) rfl, keys_at I e r, nd⟩
/-- the empty dict is of both sorts -/
theorem dn_nil (I : Inv X pins σ H s) {a : Addr} (h : Rd H a (DN a [])) : (a == sysModules) = false ∧ s.heap.DictOf (mixKind X.prog X.w) a [] := by
  obtain ⟨⟨y, z, nd, o, es, ep, h1, h2, h3, h4⟩, _⟩ := (show ObjOk X.prog X.w H s.heap a (.ext (DPhi a [])) from h.ok I.hok)
  have e0 : es = #[] := by
    have := h4 (whs X.w) rfl
    simpa using this
  subst e0
  exact ⟨y, o, #[], ep, h1, h2, h3, fun x hx => by simp at hx, .nil, List.nodup_nil⟩
theorem dk_nil (I : Inv X pins σ H s) {a : Addr} (h : Rd H a (.dK [])) : (a == sysModules) = false ∧ s.heap.DictOfH (nestedKind X.prog X.w) a [] := by
  obtain ⟨z, y, vs, rel, o, es, ep, h1, h2, h3, _, hp, _⟩ := dk_rd I.hok h
  cases rel
  have e0 : es.toList = [] := by
    have := Pairs.length hp
    exact List.eq_nil_of_length_eq_zero this
  exact ⟨y, o, es, ep, h1, h2, h3, by rw [e0]; rfl, fun x hx => (nomatch hx), List.nodup_nil⟩
end
/-- what a look-up found -/
def LookR (K : PySem.W.Frag) (F : Hp) (l : Option Value) (o : Option D) : Prop := (l = none ∧ o = none) ∨ ∃ u v d, l = some u ∧ o = some d ∧ RelV v u ∧ Rp K F v d
theorem LookR.isSome {K : PySem.W.Frag} {F : Hp} {l : Option Value} {o : Option D} (h : LookR K F l o) : l.isSome = o.isSome := by
  rcases h with ⟨rfl, rfl⟩ | ⟨u, v, d, rfl, rfl, _⟩ <;> rfl
section
variable {K : PySem.W.Frag} {F : Hp}
theorem RpN.look (k : NestedKey) : ∀ {xs : DEs} {ds : List (D × D)}, RpN K F xs ds → LookR K F ((atKey xs k).map (·.2)) (getE true ds k)
  | _, _, .nil => .inl ⟨rfl, rfl⟩
  | _, _, .cons (k := k0) (q := q) (u := u) (v := v) (kd := kd) (d := d) (r := r) (ds := ds) h1 h2 h3 h4 t => by
    have ih := RpN.look k t
    unfold atKey getE at ih ⊢
    by_cases hk : k0 = k
    · subst hk
      rw [List.find?_cons_of_pos (by simp), List.find?_cons_of_pos (by unfold kEq; rw [h2]; simp)]
      exact .inr ⟨u, v, d, rfl, rfl, h3, h4⟩
    · rw [List.find?_cons_of_neg (by simp [hk]), List.find?_cons_of_neg (by unfold kEq; rw [h2]; simp [hk])]
      exact ih
theorem RpK.look (ky : Key) : ∀ {kvs : List (Key × V)} {ds : List (D × D)}, RpK K F kvs ds → (valV kvs ky = none ∧ getE false ds (nkK ky) = none) ∨ ∃ v d, valV kvs ky = some v ∧ getE false ds (nkK ky) = some d ∧ Rp K F v d
  | _, _, .nil => .inl ⟨rfl, rfl⟩
  | _, _, .cons (k := k0) (v := v) (d := d) h1 t => by
    have ih := RpK.look ky t
    unfold getE at ih ⊢
    by_cases hk : k0 = ky
    · subst hk
      rw [valV_pos rfl, List.find?_cons_of_pos (by unfold kEq; rw [kOf_keyD]; simp)]
      exact .inr ⟨v, d, rfl, rfl, h1⟩
    · have : ¬ nkK k0 = nkK ky := fun z => hk (nkK_inj z)
      rw [valV_neg hk, List.find?_cons_of_neg (by unfold kEq; rw [kOf_keyD]; simp [this])]
      exact ih
theorem RpN.tupD_head {xs : DEs} {p : D × D} {ds : List (D × D)} (h : RpN K F xs (p :: ds)) : tupD p.1 = true := by
  cases h with
  | cons h1 h2 _ _ _ =>
    obtain ⟨_, _, rfl, _⟩ := kOf_tup h2
    rfl
theorem RpK.tupD_head {xs : List (Key × V)} {p : D × D} {ds : List (D × D)} (h : RpK K F xs (p :: ds)) : tupD p.1 = false := by
  cases h with
  | cons h1 _ => exact tupD_keyD _
theorem rp_keyV {x : V} {ky : Key} (h : Rp K F x (keyD ky)) : x = kV ky := by
  cases ky with
  | inl i => exact h.intI
  | inr z => exact h.strI
theorem KV.lookV {kvs : List (Key × V)} {vs : List (Key × Value)} {ds : List (D × D)} (r : KV kvs vs) (t : RpK K F kvs ds) (ky : Key) : LookR K F (valueAt vs ky) (getE false ds (nkK ky)) := by
  have rv := r.val ky
  rcases RpK.look ky t with ⟨e1, e2⟩ | ⟨v, d, e1, e2, r2⟩
  · rw [e1] at rv
    exact .inl ⟨RelO.none_of rv, e2⟩
  · rw [e1] at rv
    obtain ⟨u, e3, r3⟩ := RelO.some_of rv
    exact .inr ⟨u, v, d, e3, e2, r3, r2⟩
end
section
variable {X : Cx} {pins : List (Addr × Obj)} {σ : L2.St} {F H : Hp} {s : Shared} {x : V} {kd : D} {a : Addr} {ds : List (D × D)} {o : Option D}
theorem dv_cases [hw : WH X.w] (I : Inv X pins σ H s) (e : Ex F H) (h : DV X.K F H a ds) (rk : Rp X.K F x kd) (g : dGet ds kd = some o) :
    (∃ (ky : Key) (vs : List (Key × Value)), x = kV ky ∧ (a == sysModules) = false ∧ s.heap.DictOf (mixKind X.prog X.w) a vs ∧ LookR X.K F (valueAt vs ky) o) ∨
    ∃ (q : Addr) (k : NestedKey) (xs : DEs), x = .ref q ∧ (nestedKind X.prog X.w).is s.heap k q ∧ (a == sysModules) = false ∧ s.heap.DictOfH (nestedKind X.prog X.w) a xs ∧ LookR X.K F ((atKey xs k).map (·.2)) o := by
  unfold dGet at g
  split at g
  · rename_i hs
    obtain ⟨k, e1, e2⟩ := Option.map_eq_some_iff.mp g
    cases ht : tupD kd with
    | false =>
      rw [ht] at e1 e2
      obtain ⟨ky, rfl, rfl⟩ := kOf_plain e1
      left
      have ex := rp_keyV rk
      rcases h with ⟨kvs, rd, r⟩ | ⟨xs, rd, r⟩
      · obtain ⟨z, hd, vs, rel, dd⟩ := dk_rd I.hok rd
        refine ⟨ky, vs, ex, hd, dd, ?_⟩
        rw [← e2]
        exact KV.lookV rel r ky
      · cases ds with
        | nil =>
          cases r
          obtain ⟨hd, dd⟩ := dn_nil I rd
          subst e2
          exact ⟨ky, [], ex, hd, dd, .inl ⟨rfl, rfl⟩⟩
        | cons p ds =>
          have h1 := r.tupD_head
          simp only [sameT, h1, ht] at hs
          cases hs
    | true =>
      rw [ht] at e1 e2
      right
      obtain ⟨_, _, e3, _⟩ := kOf_tup e1
      obtain ⟨q, rfl⟩ : ∃ q, x = .ref q := by
        subst e3
        cases rk with
        | tup _ _ => exact ⟨_, rfl⟩
      have hk := key_at I e rk e1
      rcases h with ⟨kvs, rd, r⟩ | ⟨xs, rd, r⟩
      · cases ds with
        | nil =>
          cases r
          obtain ⟨hd, dd⟩ := dk_nil I rd
          subst e2
          exact ⟨q, k, [], rfl, hk, hd, dd, .inl ⟨rfl, rfl⟩⟩
        | cons p ds =>
          have h1 := r.tupD_head
          simp only [sameT, h1, ht] at hs
          cases hs
      · obtain ⟨hd, hz, dd⟩ := dn_facts I e rd r
        refine ⟨q, k, xs, rfl, hk, hd, dd, ?_⟩
        rw [← e2]
        exact RpN.look k r
  · cases g
theorem nest_room {A : Around} (hu : A.units + 9 < cLine) : (nestedKind X.prog X.w).room A.in1 := by
  show A.units + 1 + 8 < cLine
  omega
/-- d[k] -/
theorem dv_item [hw : WH X.w] {A : Around} {E : Value → Shared → Prop} {Q : Value → Shared → Prop} {u : Value} {d : D} (hu : A.units + 9 < cLine) (I : Inv X pins σ H s) (e : Ex F H) (h : DV X.K F H a ds) (rk : Rp X.K F x kd) (ry : RelV x u) (g : dGet ds kd = some (some d))
    (q : ∀ u' v' s', Inv X pins σ H s' → RelV v' u' → Rp X.K F v' d → Q u' s') : wpAny (model X.prog X.w) A (getItem (.ref a) u) Q E s := by
  rcases dv_cases I e h rk g with ⟨ky, vs, rfl, hd, dd, l⟩ | ⟨p, k, xs, rfl, hk, hd, dd, l⟩
  · rcases l with ⟨_, z⟩ | ⟨u', v', d', e1, e2, r1, r2⟩
    · cases z
    · cases e2
      exact wpAny_getItem_of (kV_is ry) dd.mapOf e1 (q u' v' _ (I.tok _) r1 r2)
  · cases (show u = Value.ref p from ry)
    rcases l with ⟨_, z⟩ | ⟨u', v', d', e1, e2, r1, r2⟩
    · cases z
    · cases e2
      obtain ⟨w, hw, rfl⟩ := Option.map_eq_some_iff.mp e1
      exact wpAny_getItem_heap (nest_room hu) hk dd hw (q _ v' _ (I.tok _) r1 r2)
theorem dv_in [hw : WH X.w] {A : Around} {E : Value → Shared → Prop} {Q : Value → Shared → Prop} {u : Value} (hu : A.units + 9 < cLine) (I : Inv X pins σ H s) (e : Ex F H) (h : DV X.K F H a ds) (rk : Rp X.K F x kd) (ry : RelV x u) (g : dGet ds kd = some o)
    (q : ∀ s', Inv X pins σ H s' → Q (.bool o.isSome) s') : wpAny (model X.prog X.w) A (compareOp .In u (.ref a)) Q E s := by
  rcases dv_cases I e h rk g with ⟨ky, vs, rfl, hd, dd, l⟩ | ⟨p, k, xs, rfl, hk, hd, dd, l⟩
  · refine wpAny_in_of (kV_is ry) hd dd.mapOf ?_
    have := l.isSome
    rw [this]
    exact q _ (I.tok _)
  · cases (show u = Value.ref p from ry)
    refine wpAny_in_heap (nest_room hu) hk hd dd ?_
    have := l.isSome
    rw [Option.isSome_map] at this
    rw [this]
    exact q _ (I.tok _)
theorem dv_ni [hw : WH X.w] {A : Around} {E : Value → Shared → Prop} {Q : Value → Shared → Prop} {u : Value} (hu : A.units + 9 < cLine) (I : Inv X pins σ H s) (e : Ex F H) (h : DV X.K F H a ds) (rk : Rp X.K F x kd) (ry : RelV x u) (g : dGet ds kd = some o)
    (q : ∀ s', Inv X pins σ H s' → Q (.bool (!o.isSome)) s') : wpAny (model X.prog X.w) A (compareOp .NotIn u (.ref a)) Q E s := by
  rcases dv_cases I e h rk g with ⟨ky, vs, rfl, hd, dd, l⟩ | ⟨p, k, xs, rfl, hk, hd, dd, l⟩
  · refine wpAny_notIn_of (kV_is ry) hd dd.mapOf ?_
    have := l.isSome
    rw [this]
    exact q _ (I.tok _)
  · cases (show u = Value.ref p from ry)
    refine wpAny_notIn_heap (nest_room hu) hk hd dd ?_
    have := l.isSome
    rw [Option.isSome_map] at this
    rw [this]
    exact q _ (I.tok _)
/-- d.get(k, z) -/
theorem dv_get2 [hw : WH X.w] {A : Around} {E : Value → Shared → Prop} {Q : Value → Shared → Prop} {u r : Value} {z : V} {dz : D} (hu : A.units + 9 < cLine) (I : Inv X pins σ H s) (e : Ex F H) (h : DV X.K F H a ds) (rk : Rp X.K F x kd) (ry : RelV x u) (rz : RelV z r) (rd : Rp X.K F z dz) (g : dGet ds kd = some o)
    (q : ∀ u' v' s', Inv X pins σ H s' → RelV v' u' → Rp X.K F v' (o.getD dz) → Q u' s') : wpAny (model X.prog X.w) A (call (.builtin "dict.get") [.ref a, u, r]) Q E s := by
  have fin : ∀ (l : Option Value) (s' : Shared), LookR X.K F l o → Inv X pins σ H s' → Q (l.getD r) s' := by
    intro l s' hl I'
    rcases hl with ⟨rfl, rfl⟩ | ⟨u', v', d', rfl, rfl, r1, r2⟩
    · exact q r z s' I' rz rd
    · exact q u' v' s' I' r1 r2
  rcases dv_cases I e h rk g with ⟨ky, vs, rfl, hd, dd, l⟩ | ⟨p, k, xs, rfl, hk, hd, dd, l⟩
  · exact call_meetsIn PySem.F.slot_dict_get dd.typeIs PySem.F.entry_dict_get (PySem.F.args_dict_get_3 _ _ _) (meets_dict_get_default (mixKind X.prog X.w) a (kV_is ry) hd r) ⟨_, dd.mapOf, fin _ _ l (I.tok _)⟩
  · cases (show u = Value.ref p from ry)
    exact call_meetsIn PySem.F.slot_dict_get dd.typeIs PySem.F.entry_dict_get (PySem.F.args_dict_get_3 _ _ _) (meetsH_dict_get_default (nestedKind X.prog X.w) a p hd r) ⟨nest_room hu, k, xs, hk, dd, fin _ _ l (I.tok _)⟩
theorem dv_get1 [hw : WH X.w] {A : Around} {E : Value → Shared → Prop} {Q : Value → Shared → Prop} {u : Value} (hu : A.units + 9 < cLine) (I : Inv X pins σ H s) (e : Ex F H) (h : DV X.K F H a ds) (rk : Rp X.K F x kd) (ry : RelV x u) (g : dGet ds kd = some o)
    (q : ∀ u' v' s', Inv X pins σ H s' → RelV v' u' → Rp X.K F v' (o.getD .none) → Q u' s') : wpAny (model X.prog X.w) A (call (.builtin "dict.get") [.ref a, u]) Q E s := by
  have fin : ∀ (l : Option Value) (s' : Shared), LookR X.K F l o → Inv X pins σ H s' → Q (l.getD .none) s' := by
    intro l s' hl I'
    rcases hl with ⟨rfl, rfl⟩ | ⟨u', v', d', rfl, rfl, r1, r2⟩
    · exact q .none .non s' I' rfl .non
    · exact q u' v' s' I' r1 r2
  rcases dv_cases I e h rk g with ⟨ky, vs, rfl, hd, dd, l⟩ | ⟨p, k, xs, rfl, hk, hd, dd, l⟩
  · exact call_meetsIn PySem.F.slot_dict_get dd.typeIs PySem.F.entry_dict_get (PySem.F.args_dict_get_2 _ _) (meets_dict_get (mixKind X.prog X.w) a (kV_is ry) hd) ⟨_, dd.mapOf, fin _ _ l (I.tok _)⟩
  · cases (show u = Value.ref p from ry)
    exact call_meetsIn PySem.F.slot_dict_get dd.typeIs PySem.F.entry_dict_get (PySem.F.args_dict_get_2 _ _) (meetsH_dict_get (nestedKind X.prog X.w) a p hd) ⟨nest_room hu, k, xs, hk, dd, fin _ _ l (I.tok _)⟩
theorem dv_type (I : Inv X pins σ H s) (h : DV X.K F H a ds) (e : Ex F H) : s.TypeIs (.ref a) "dict" ∧ ∀ b, Value.ref a = .ref b → ∃ ob, s.heap.get? b = some ob ∧ ob.dict = none := by
  rcases h with ⟨kvs, rd, r⟩ | ⟨xs, rd, r⟩
  · obtain ⟨z, hd, vs, rel, dd⟩ := dk_rd I.hok rd
    refine ⟨dd.typeIs, fun b z => ?_⟩
    cases z
    obtain ⟨ob, _, _, h1, h2, _⟩ := dd
    exact ⟨ob, h1, h2.2.1⟩
  · obtain ⟨hd, hz, dd⟩ := dn_raw I e rd r
    refine ⟨dd.typeIs, fun b z => ?_⟩
    cases z
    obtain ⟨ob, _, _, h1, h2, _⟩ := dd
    exact ⟨ob, h1, h2.2.1⟩
end
end DL
end
section
set_option Elab.async false
set_option linter.all false
set_option maxRecDepth 100000
/-! Dicts of one's own: made, written; a dict that is seen. -/
namespace DL
open PySem PySem.Spec PyProof.Rows L2
variable [TabT] [FnT]
def dPut (t : Bool) (ds : List (D × D)) (kd d : D) : Option (List (D × D)) := (kOf t kd).map fun k => putE t ds k kd d
theorem putE_len (t : Bool) (ds : List (D × D)) (k : NestedKey) (kd d : D) : (putE t ds k kd d).length ≤ ds.length + 1 := by
  unfold putE
  split
  · rw [List.length_map]; exact Nat.le_succ _
  · rw [List.length_append]; exact Nat.le_refl _
section
variable {K : PySem.W.Frag} {F : Hp}
theorem RpN.hash : ∀ {xs : DEs} {ds : List (D × D)}, RpN K F xs ds → ∀ x ∈ xs, ∀ w w' : World, w.params.strHash = w'.params.strHash → x.1.hash w = x.1.hash w'
  | _, _, .nil => fun x hx => nomatch hx
  | _, _, .cons h1 h2 _ _ r => fun x hx => by
    rcases List.mem_cons.mp hx with rfl | hx
    · exact kOf_hash h2
    · exact RpN.hash r x hx
theorem RpN.len : ∀ {xs : DEs} {ds : List (D × D)}, RpN K F xs ds → xs.length = ds.length
  | _, _, .nil => rfl
  | _, _, .cons _ _ _ _ r => congrArg (· + 1) (RpN.len r)
theorem RpK.len : ∀ {xs : List (Key × V)} {ds : List (D × D)}, RpK K F xs ds → xs.length = ds.length
  | _, _, .nil => rfl
  | _, _, .cons _ r => congrArg (· + 1) (RpK.len r)
theorem RpN.repl {k : NestedKey} {z : V} {r : Value} {d : D} (rz : RelV z r) (rd : Rp K F z d) : ∀ {xs : DEs} {ds : List (D × D)}, RpN K F xs ds → RpN K F (xs.map (putAt k r)) (ds.map fun p => if kEq true k p = true then (p.1, d) else p)
  | _, _, .nil => .nil
  | _, _, .cons (k := k0) (q := q) (u := u) (v := v) (kd := kd) (d := d0) h1 h2 h3 h4 t => by
    rw [List.map_cons, List.map_cons]
    unfold putAt
    by_cases e : k0 = k
    · subst e
      rw [if_pos rfl, if_pos (by unfold kEq; rw [h2]; simp)]
      exact .cons h1 h2 rz rd (RpN.repl rz rd t)
    · rw [if_neg e, if_neg (by unfold kEq; rw [h2]; simp [e])]
      exact .cons h1 h2 h3 h4 (RpN.repl rz rd t)
theorem RpN.snoc {k : NestedKey} {q : Addr} {z : V} {r : Value} {kd d : D} (h1 : Rp K F (.ref q) kd) (h2 : kOf true kd = some k) (rz : RelV z r) (rd : Rp K F z d) : ∀ {xs : DEs} {ds : List (D × D)}, RpN K F xs ds → RpN K F (xs ++ [(k, q, r)]) (ds ++ [(kd, d)])
  | _, _, .nil => .cons h1 h2 rz rd .nil
  | _, _, .cons a b c e t => .cons a b c e (RpN.snoc h1 h2 rz rd t)
theorem RpN.put {xs : DEs} {ds : List (D × D)} {k : NestedKey} {q : Addr} {z : V} {r : Value} {kd d : D} (h : RpN K F xs ds) (h1 : Rp K F (.ref q) kd) (h2 : kOf true kd = some k) (rz : RelV z r) (rd : Rp K F z d) :
    RpN K F (storedH xs k q r) (putE true ds k kd d) := by
  have e := (RpN.look k h).isSome
  rw [Option.isSome_map] at e
  unfold storedH putE
  rw [e]
  split
  · exact h.repl rz rd
  · exact h.snoc h1 h2 rz rd
theorem RpK.repl {ky : Key} {z : V} {d : D} (rd : Rp K F z d) : ∀ {xs : List (Key × V)} {ds : List (D × D)}, RpK K F xs ds → RpK K F (xs.map fun kv => if kv.1 = ky then (kv.1, z) else kv) (ds.map fun p => if kEq false (nkK ky) p = true then (p.1, d) else p)
  | _, _, .nil => .nil
  | _, _, .cons (k := k0) (v := v) (d := d0) h1 t => by
    rw [List.map_cons, List.map_cons]
    by_cases e : k0 = ky
    · subst e
      rw [if_pos rfl, if_pos (by unfold kEq; rw [kOf_keyD]; simp)]
      exact .cons rd (RpK.repl rd t)
    · have : ¬ nkK k0 = nkK ky := fun z => e (nkK_inj z)
      rw [if_neg e, if_neg (by unfold kEq; rw [kOf_keyD]; simp [this])]
      exact .cons h1 (RpK.repl rd t)
theorem RpK.snoc {ky : Key} {z : V} {d : D} (rd : Rp K F z d) : ∀ {xs : List (Key × V)} {ds : List (D × D)}, RpK K F xs ds → RpK K F (xs ++ [(ky, z)]) (ds ++ [(keyD ky, d)])
  | _, _, .nil => .cons rd .nil
  | _, _, .cons a t => .cons a (RpK.snoc rd t)
theorem RpK.put {xs : List (Key × V)} {ds : List (D × D)} {ky : Key} {z : V} {d : D} (h : RpK K F xs ds) (rd : Rp K F z d) : RpK K F (putK xs ky z) (putE false ds (nkK ky) (keyD ky) d) := by
  have e : (xs.any fun kv => decide (kv.1 = ky)) = (getE false ds (nkK ky)).isSome := by
    rw [valV_any]
    rcases RpK.look ky h with ⟨e1, e2⟩ | ⟨v, d', e1, e2, _⟩ <;> rw [e1, e2] <;> rfl
  unfold putK putE
  rw [e]
  split
  · exact h.repl rd
  · exact h.snoc rd
end
theorem dphi_stay {a : Addr} {xs : DEs} {h1 h2 : Heap} (h : DPhi a xs h1) (k : ∀ o, h1.get? a = some o → h2.get? a = some o) : DPhi a xs h2 := by
  obtain ⟨y, z, nd, o, es, ep, e1, e2⟩ := h
  exact ⟨y, z, nd, o, es, ep, k o e1, e2⟩
theorem dn_ok {P : Program} {w : World} {H : Hp} {h : Heap} {a : Addr} {xs : DEs} (p : DPhi a xs h) : ObjOk P w H h a (DN a xs) := by
  refine ⟨p, ?_, fun h1 h2 q k => dphi_stay q k⟩
  obtain ⟨_, _, _, o, es, ep, e1, _⟩ := p
  exact ⟨o, e1⟩
section
variable {X : Cx} {pins : List (Addr × Obj)} {σ : L2.St} {F H : Hp} {s : Shared} {x : V} {kd : D} {a : Addr} {ds : List (D × D)} {o : Option D}
theorem dn_phi {h' : Heap} {xs : DEs} {w : World} [hw : WH w] {P : Program} (hd : (a == sysModules) = false) (hz : xs.length ≤ sizeLine) (dd : h'.DictOfH (nestedKind P w) a xs) (hh : ∀ x ∈ xs, ∀ w w' : World, w.params.strHash = w'.params.strHash → x.1.hash w = x.1.hash w') : DPhi a xs h' := by
  obtain ⟨o, es, ep, h1, h2, h3, h4, _, nd⟩ := dd
  refine ⟨hd, hz, nd, o, es, ep, h1, h2, h3, fun w' h' => ?_⟩
  rw [h4]
  refine List.map_congr_left fun x hx => ?_
  show (⟨x.1.hash w, .ref x.2.1, x.2.2⟩ : DictEntry) = _
  rw [hh x hx w w' (hw.eq.trans h'.symm)]
/-- d[k] = v, a dict of one's own -/
theorem dct_set [hw : WH X.w] {A : Around} {E : Value → Shared → Prop} {Q : Unit → Shared → Prop} {t : Bool} {u r : Value} {z : V} {d : D} {ds' : List (D × D)} (hu : A.units + 9 < cLine) (I : Inv X pins σ H s) (e : Ex F H) (hf : F a = none) (h : Dct X.K F H a t ds) (rk : Rp X.K F x kd) (ry : RelV x u) (rz : RelV z r) (rd : Rp X.K F z d) (g : dPut t ds kd d = some ds') (hz : ds.length < bigN)
    (q : ∀ o' s', Inv X pins σ (upd H a o') s' → Dct X.K F (upd H a o') a t ds' → Q () s') : wpAny (model X.prog X.w) A (setItem (.ref a) u r) Q E s := by
  have hb := big_le
  obtain ⟨k, e1, e2⟩ := Option.map_eq_some_iff.mp g
  cases t with
  | false =>
    obtain ⟨kvs, hH, rr⟩ := h
    obtain ⟨ky, rfl, rfl⟩ := kOf_plain e1
    cases rp_keyV rk
    refine d_setItem (by omega) I (DPut.k hH (by rw [rr.len]; omega)) ry rz fun s' I' => q _ s' I' ⟨_, upd_same, ?_⟩
    rw [← e2]
    exact rr.put rd
  | true =>
    obtain ⟨xs, hH, rr⟩ := h
    obtain ⟨_, _, e3, _⟩ := kOf_tup e1
    obtain ⟨p, rfl⟩ : ∃ p, x = .ref p := by
      subst e3
      cases rk with
      | tup _ _ => exact ⟨_, rfl⟩
    cases (show u = Value.ref p from ry)
    obtain ⟨hd, hz', dd⟩ := dn_facts I e (.inl hH) rr
    have hk := key_at I e rk e1
    have r2 : RpN X.K F (storedH xs k p r) ds' := by
      rw [← e2]
      exact rr.put rk e1 rz rd
    refine wpAny_setItem_heap (hsz := hz') (nest_room hu) hk dd fun h' dd' hs => ?_
    have hl : (storedH xs k p r).length ≤ sizeLine := by
      rw [r2.len, ← e2]
      have := putE_len true ds k kd d
      omega
    have ho : ∃ q, h'.get? a = some q := let ⟨q, _, _, hq, _⟩ := dd'; ⟨q, hq⟩
    exact q _ _ (d_write I (by rw [hH]; exact True.intro) hs ho (dn_ok (dn_phi hd hl dd' r2.hash))) ⟨_, upd_same, r2⟩
/-- {} -/
def tNewN : TE := fun _ H Q => ∀ p, H p = none → Q (.ref p) (upd H p (DN p []))
theorem dphi_new (h : Heap) (hb : sysModules < h.objs.size) : DPhi h.objs.size [] (h.push { cls := .type "dict", data := .dict #[] }) :=
  ⟨beq_eq_false_iff_ne.mpr (Ne.symm (Nat.ne_of_lt hb)), Nat.zero_le _, List.nodup_nil, _, #[], 0, Heap.get?_push_size _ rfl, ⟨rfl, rfl, rfl⟩, rfl, fun _ _ => rfl⟩
theorem pe_newN {pos : Pos} : PE X (.Dict [] [] pos) tNewN := ⟨fun pins s σ H Q I h =>
  wpAny_Dict_empty ⟨.ref s.heap.objs.size, _, I.laid (a := s.heap.objs.size) (o := DN s.heap.objs.size []) (t' := s.toks) (fun _ _ q => Heap.get?_push_of_some _ q) (Nat.le_refl _) (dn_ok (dphi_new s.heap I.big)), rfl, h _ (I.hok.fresh (Nat.le_refl _))⟩⟩
/-- {k: v}, k a tuple: the dict stands empty while both are made -/
def tNew1 (K : PySem.W.Frag) (tk tv : TE) : TE := fun σ H Q => ∀ p, H p = none → tk σ (upd H p (DN p [])) fun x H1 => tv σ H1 fun y H2 =>
  ∃ (F : Hp) (kd d : D) (k : NestedKey), Ex F H2 ∧ H2 p = some (DN p []) ∧ Rp K F x kd ∧ kOf true kd = some k ∧ Rp K F y d ∧ ∀ xs, RpN K F xs [(kd, d)] → Q (.ref p) (upd H2 p (DN p xs))
theorem pe_new1 [hw : WH X.w] {k v : Expr} {pos : Pos} {tk tv : TE} (hu : X.A.units + 9 < cLine) (hk : PE X k tk) (hv : PE X v tv) : PE X (.Dict [some k] [v] pos) (tNew1 X.K tk tv) := by
  refine ⟨fun pins s σ H Q I q => ?_⟩
  have hn := I.hok.fresh (Nat.le_refl s.heap.objs.size)
  have I1 := I.laid (a := s.heap.objs.size) (o := DN s.heap.objs.size []) (h' := s.heap.push { cls := .type "dict", data := .dict #[] }) (t' := s.toks) (fun _ _ q => Heap.get?_push_of_some _ q) (Nat.le_refl _) (dn_ok (dphi_new s.heap I.big))
  have sh : (evalEachOpt [some k] X.env).zip ((evalEach [v] X.env).map fun v => do let x ← v; standAt pos; pure x) = (pairTrees [some k] [v] X.env pos).map fun p => (some p.1, p.2) := zip_pairTrees [some k] [v] X.env pos rfl rfl
  rw [arm_eval_Dict, sh, dictDisplay_pairs (pairTrees [some k] [v] X.env pos) (by intro z; cases z) (by rw [pairTrees_length [some k] [v] X.env pos rfl rfl]; show 1 < 17; decide)]
  refine wpAny_bind (wpAny_standAt (wpAny_bind (wpAny_subDictH (knd := nestedKind X.prog X.w) (show X.A.units + 8 < cLine by omega) (by rw [pairTrees_length [some k] [v] X.env pos rfl rfl]; show 1 ≤ 15; decide) ?_)))
  refine pairTrees_cons_walk (thn (hk.run pins _ σ _ _ I1 (q _ hn)) fun u s1 ⟨x, H1, I2, rx, q1⟩ => thn (hv.run pins s1 σ H1 _ I2 q1) fun r s2 ⟨y, H2, I3, ry, F, kd, d, k0, e, hp, r1, r2, r3, q2⟩ => pairTrees_nil_walk ?_)
  obtain ⟨_, _, e3, _⟩ := kOf_tup r2
  obtain ⟨p, rfl⟩ : ∃ p, x = .ref p := by
    subst e3
    cases r1 with
    | tup _ _ => exact ⟨_, rfl⟩
  cases (show u = Value.ref p from rx)
  obtain ⟨hd, hz, dd⟩ := dn_facts (F := F) I3 e (.inl hp) .nil
  refine ⟨[(k0, p, r)], ⟨rfl, rfl, key_at I3 e r1 r2, trivial⟩, dd, fun h' tk dd' hs => wpAny_pure ?_⟩
  have rn : RpN X.K F [(k0, p, r)] [(kd, d)] := .cons r1 r2 ry r3 .nil
  have ho : ∃ q, h'.get? s.heap.objs.size = some q := let ⟨q, _, _, hq, _⟩ := dd'; ⟨q, hq⟩
  exact ⟨.ref s.heap.objs.size, _, d_write I3 (by rw [hp]; exact True.intro) hs ho (dn_ok (dn_phi hd (by show 1 ≤ sizeLine; decide) dd' rn.hash)), rfl, q2 _ rn⟩
/-- from here on the thing at d is known: it is read, never written -/
def tSee (t : TS) : TS := fun D σ H => ∃ d u, H d = some u ∧ Mut (some u) ∧ ∀ od, t D σ (upd H d (.frz od u))
theorem ps_see {st : Stmt} {t : TS} (h : PS X st t) : PS X st (tSee t) := by
  refine ⟨fun pins s σ H D I hw => ?_⟩
  obtain ⟨d, u, hd, mu, hw⟩ := hw
  obtain ⟨od, I1⟩ := I.lock hd mu
  exact h.run pins s σ _ _ I1 (hw od)
theorem ps_orD {st : Stmt} {t u : TS} (h : PS X st t) (h' : PS X st u) : PS X st (fun D σ H => t D σ H ∨ u D σ H) := ⟨fun pins s σ H D I q => q.elim (fun q => h.run pins s σ H D I q) fun q => h'.run pins s σ H D I q⟩
theorem pe_orD {st : Expr} {t u : TE} (h : PE X st t) (h' : PE X st u) : PE X st (fun σ H Q => t σ H Q ∨ u σ H Q) := ⟨fun pins s σ H D I q => q.elim (fun q => h.run pins s σ H D I q) fun q => h'.run pins s σ H D I q⟩
/-- an empty dict of numbers and texts, seen as one of tuples -/
theorem nil_dn (I : Inv X pins σ H s) (h : H a = some (.dK [])) : ∃ od, Inv X pins σ (upd H a (.frz od (DN a []))) s := by
  obtain ⟨z, y, vs, rel, o, es, ep, h1, h2, h3, _, hp, _⟩ := dk_rd I.hok (.inl h)
  cases rel
  have e0 : es.toList = [] := by
    have := Pairs.length hp
    exact List.eq_nil_of_length_eq_zero this
  have p : DPhi a [] s.heap := ⟨y, Nat.zero_le _, List.nodup_nil, o, es, ep, h1, h2, h3, fun w _ => by rw [e0]; rfl⟩
  have I1 : Inv X pins σ (upd H a (DN a [])) s := I.write (x := a) (e := a) (t' := s.toks) (h' := s.heap) (by rw [h]; exact True.intro) (.inl rfl) (fun b v _ q => q) ⟨o, h1⟩ (dn_ok p)
  obtain ⟨od, I2⟩ := I1.lock (u := DN a []) upd_same True.intro
  rw [upd_upd] at I2
  exact ⟨od, I2⟩
def tSee0 (t : TS) : TS := fun D σ H => ∃ d, H d = some (.dK []) ∧ ∀ od, t D σ (upd H d (.frz od (DN d [])))
theorem ps_see0 {st : Stmt} {t : TS} (h : PS X st t) : PS X st (tSee0 t) := by
  refine ⟨fun pins s σ H D I hw => ?_⟩
  obtain ⟨d, hd, hw⟩ := hw
  obtain ⟨od, I1⟩ := nil_dn I hd
  exact h.run pins s σ _ _ I1 (hw od)
end
end DL
end
section
set_option Elab.async false
set_option linter.all false
set_option maxRecDepth 100000
/-! Dicts in expressions and statements. -/
namespace DL
open PySem PySem.Spec PyProof.Rows L2
variable [TabT] [FnT]
/-! ### reading -/
def gIxD : D → D → Option D
  | .dict ds, kd => (dGet ds kd).bind id
  | _, _ => none
def gInD (neg : Bool) : D → D → Option D
  | kd, .dict ds => (dGet ds kd).map fun o => .bool (if neg then !o.isSome else o.isSome)
  | _, _ => none
def gGet1 : D → D → Option D
  | .dict ds, kd => (dGet ds kd).map fun o => o.getD .none
  | _, _ => none
def gGet2 : D → D → D → Option D
  | .dict ds, kd, z => (dGet ds kd).map fun o => o.getD z
  | _, _, _ => none
def gLenD : D → Option D
  | .dict ds => some (.int ds.length)
  | _ => none
def gKeys : D → Option (List D)
  | .dict ds => some (ds.map (·.1))
  | _ => none
def gVals : D → Option (List D)
  | .dict ds => some (ds.map (·.2))
  | _ => none
def gItems : D → Option (List D)
  | .dict ds => some (ds.map fun p => .tuple [p.1, p.2])
  | _ => none
theorem dGet_key {ds : List (D × D)} {kd : D} {o : Option D} (h : dGet ds kd = some o) : (∃ ks, kd = .tuple ks) ∨ scD kd = true := by
  unfold dGet at h
  split at h
  · obtain ⟨k, e1, _⟩ := Option.map_eq_some_iff.mp h
    cases kd with
    | tuple ks => exact .inl ⟨ks, rfl⟩
    | int i => exact .inr rfl
    | str i => exact .inr rfl
    | _ => cases e1
  · cases h
section
variable {X : Cx} {a b e f : Expr} {pos apos cpos : Pos} {fa fb fe ff : Fm → Option D}
theorem vw_key {K : PySem.W.Frag} {F H : Hp} {x : V} {kd : D} {ds : List (D × D)} {o : Option D} (h : Vw K F H x kd) (g : dGet ds kd = some o) : Rp K F x kd := by
  rcases dGet_key g with ⟨ks, rfl⟩ | hs
  · rcases h with h | ⟨_, _, _, _, q, _⟩ | ⟨_, _, _, q, _⟩
    · exact h
    · cases q
    · cases q
  · exact h.sc hs F
def tDix (K : PySem.W.Frag) (ta tb : TE) : TE := fun σ H Q => ta σ H fun x H1 => tb σ H1 fun y H2 => ∃ (F : Hp) (p : Addr) (ds : List (D × D)) (kd d : D), x = .ref p ∧ Ex F H2 ∧ DV K F H2 p ds ∧ Rp K F y kd ∧ dGet ds kd = some (some d) ∧ ∀ v, Rp K F v d → Q v H2
theorem pe_dix [hW : WH X.w] {ta tb : TE} (hu : X.A.units + 9 < cLine) (ha : PE X a ta) (hb : PE X b tb) (hs : NoSl b) : PE X (.Subscript a b pos) (tDix X.K ta tb) := by
  refine ⟨fun pins s σ H Q I h => ?_⟩
  refine subD_of PySem.F.slot_dict_getitem.lookup hs (thn (ha.run pins s σ H _ I h) fun u s1 ⟨x, H1, I1, rx, q1⟩ => thn (hb.run pins s1 σ H1 _ I1 q1) fun r s2 ⟨y, H2, I2, ry, F, p, ds, kd, d, ex, e, dv, rk, g, q2⟩ => ?_)
  subst ex
  cases (show u = Value.ref p from rx)
  exact ⟨(dv_type I2 dv e).1, dv_item hu I2 e dv rk ry g fun u' v' s3 I3 r1 r2 => ⟨v', H2, I3, r1, q2 v' r2⟩⟩
theorem d_ixD {k : Nat} (hr : Room k X.A) (ha : PV X a fa) (hb : PV X b fb) (hs : NoSl b := by exact fun _ _ => rfl) (hW : WH X.w := by assumption) : PP X (.Subscript a b pos) (fOp2 gIxD fa fb) := by
  obtain ⟨ta, h1, h2⟩ := ha
  obtain ⟨tb, h3, h4⟩ := hb
  refine ⟨_, pe_dix (by have := Room.u66 hr; omega) h1 h3 hs, fun F H σ ρ d hf hR Q q => ?_⟩
  obtain ⟨dx, e1, hf⟩ := Option.bind_eq_some_iff.mp hf
  obtain ⟨dy, e2, hf⟩ := Option.bind_eq_some_iff.mp hf
  refine h2 F H σ ρ _ e1 hR _ fun x F1 H1 g1 r1 => h4 F1 H1 σ ρ _ e2 (hR.gr g1) _ fun y F2 H2 g2 r2 => ?_
  cases dx with
  | dict ds =>
    obtain ⟨o, e3, e4⟩ := Option.bind_eq_some_iff.mp (show (dGet ds dy).bind id = some d from hf)
    cases (show o = some d from e4)
    obtain ⟨p, rfl, dv⟩ := r1.dict g1.in_
    exact ⟨F2, p, ds, dy, d, rfl, g2.in_, dv.gr g2, vw_key r2 e3, e3, fun v rv => q v F2 H2 (g1.trans g2) rv⟩
  | _ => cases hf
def rDIn (K : PySem.W.Frag) (neg : Bool) : R2 := fun x y H Q => ∃ (F : Hp) (p : Addr) (ds : List (D × D)) (kd : D) (o : Option D), y = .ref p ∧ Ex F H ∧ DV K F H p ds ∧ Rp K F x kd ∧ dGet ds kd = some o ∧ Q (.bl (if neg then !o.isSome else o.isSome)) H
theorem op_dIn [hW : WH X.w] (hu : X.A.units + 9 < cLine) : OpR X (compareOp .In) (rDIn X.K false) := by
  intro pins s σ H x y v u Q I rx ry ⟨F, p, ds, kd, o, ey, e, dv, rk, g, q⟩
  subst ey
  cases (show u = Value.ref p from ry)
  exact dv_in hu I e dv rk rx g fun s1 I1 => ⟨.bl o.isSome, H, I1, rfl, q⟩
theorem op_dNi [hW : WH X.w] (hu : X.A.units + 9 < cLine) : OpR X (compareOp .NotIn) (rDIn X.K true) := by
  intro pins s σ H x y v u Q I rx ry ⟨F, p, ds, kd, o, ey, e, dv, rk, g, q⟩
  subst ey
  cases (show u = Value.ref p from ry)
  exact dv_ni hu I e dv rk rx g fun s1 I1 => ⟨.bl (!o.isSome), H, I1, rfl, q⟩
theorem vw_dIn {K : PySem.W.Frag} {neg : Bool} : ∀ F H x y dx dy dz, Ex F H → Vw K F H x dx → Vw K F H y dy → gInD neg dx dy = some dz → ∀ Q : VK, Res K F H dz Q → rDIn K neg x y H Q := by
  intro F H x y dx dy dz e hx hy hg Q k
  cases dy with
  | dict ds =>
    obtain ⟨o, e1, e2⟩ := Option.map_eq_some_iff.mp (show (dGet ds dx).map _ = some dz from hg)
    cases e2
    obtain ⟨p, rfl, dv⟩ := hy.dict e
    exact ⟨F, p, ds, dx, o, rfl, e, dv, vw_key hx e1, e1, k.sc e fun _ => .bl _⟩
  | _ => cases hg
theorem c_inD {k : Nat} (hr : Room k X.A) (ha : PV X a fa) (hb : PV X b fb) (hW : WH X.w := by assumption) : PCm X .In a b (fOp2 (gInD false) fa fb) := let ⟨ta, h1, h2⟩ := ha; let ⟨tb, h3, h4⟩ := hb; ⟨_, ta, tb, op_dIn (by have := Room.u66 hr; omega), h1, h3, sp_op2 vw_dIn h2 h4⟩
theorem c_niD {k : Nat} (hr : Room k X.A) (ha : PV X a fa) (hb : PV X b fb) (hW : WH X.w := by assumption) : PCm X .NotIn a b (fOp2 (gInD true) fa fb) := let ⟨ta, h1, h2⟩ := ha; let ⟨tb, h3, h4⟩ := hb; ⟨_, ta, tb, op_dNi (by have := Room.u66 hr; omega), h1, h3, sp_op2 vw_dIn h2 h4⟩
/-! d.get(k), d.get(k, z) -/
def tDg1 (K : PySem.W.Frag) (ta tb : TE) : TE := fun σ H Q => ta σ H fun x H1 => ∃ (F : Hp) (p : Addr) (ds : List (D × D)), x = .ref p ∧ Ex F H1 ∧ DV K F H1 p ds ∧ tb σ H1 fun y H2 => ∃ (F : Hp) (kd : D) (o : Option D), Ex F H2 ∧ DV K F H2 p ds ∧ Rp K F y kd ∧ dGet ds kd = some o ∧ ∀ v, Rp K F v (o.getD .none) → Q v H2
def tDg2 (K : PySem.W.Frag) (ta tb tc : TE) : TE := fun σ H Q => ta σ H fun x H1 => ∃ (F : Hp) (p : Addr) (ds : List (D × D)), x = .ref p ∧ Ex F H1 ∧ DV K F H1 p ds ∧ tb σ H1 fun y H2 => tc σ H2 fun z H3 =>
  ∃ (F : Hp) (kd dz : D) (o : Option D), Ex F H3 ∧ DV K F H3 p ds ∧ Rp K F y kd ∧ Rp K F z dz ∧ dGet ds kd = some o ∧ ∀ v, Rp K F v (o.getD dz) → Q v H3
theorem pe_dg1 [hW : WH X.w] {o : Expr} {ta tb : TE} (hu : X.A.units + 9 < cLine) (ho : PE X o ta) (he : PE X e tb) (m : M1 X o "get" apos e cpos) : PE X (.Call (.Attribute o "get" apos) [e] [] cpos) (tDg1 X.K ta tb) := by
  refine ⟨fun pins s σ H Q I h => ?_⟩
  refine wpAny_Call_method m.base m.few m.line PySem.F.plainAttrs_dict PySem.F.slot_dict_get PySem.F.type_dict_get (thn (ho.run pins s σ H _ I h) fun u s1 ⟨x, H1, I1, rx, F, p, ds, ex, ef, dv, q1⟩ => ?_)
  subst ex
  cases (show u = Value.ref p from rx)
  obtain ⟨t1, t2⟩ := dv_type I1 dv ef
  refine ⟨t1, t2, ?_⟩
  rw [m.trees]
  refine Calls.callWith_builtin rfl (Calls.evalArgs_plain (Calls.spliced_cons (thn (he.run pins s1 σ H1 _ I1 q1) fun r s2 ⟨y, H2, I2, ry, F2, kd, w, ef2, dv2, rk, g, q2⟩ => Calls.spliced_nil ?_)))
  exact dv_get1 hu I2 ef2 dv2 rk ry g fun u' v' s3 I3 r1 r2 => ⟨v', H2, I3, r1, q2 v' r2⟩
theorem pe_dg2 [hW : WH X.w] {o : Expr} {ta tb tc : TE} (hu : X.A.units + 9 < cLine) (ho : PE X o ta) (he : PE X e tb) (hf : PE X f tc) (m : M2 X o "get" apos e f cpos) : PE X (.Call (.Attribute o "get" apos) [e, f] [] cpos) (tDg2 X.K ta tb tc) := by
  refine ⟨fun pins s σ H Q I h => ?_⟩
  refine wpAny_Call_method m.base m.few m.line PySem.F.plainAttrs_dict PySem.F.slot_dict_get PySem.F.type_dict_get (thn (ho.run pins s σ H _ I h) fun u s1 ⟨x, H1, I1, rx, F, p, ds, ex, ef, dv, q1⟩ => ?_)
  subst ex
  cases (show u = Value.ref p from rx)
  obtain ⟨t1, t2⟩ := dv_type I1 dv ef
  refine ⟨t1, t2, ?_⟩
  rw [m.trees]
  refine Calls.callWith_builtin rfl (Calls.evalArgs_plain (Calls.spliced_cons (thn (he.run pins s1 σ H1 _ I1 q1) fun r s2 ⟨y, H2, I2, ry, q2⟩ => Calls.spliced_cons (thn (hf.run pins s2 σ H2 _ I2 q2) fun r3 s3 ⟨z, H3, I3, rz, F3, kd, dz, w, ef2, dv2, rk, rd, g, q3⟩ => Calls.spliced_nil ?_))))
  exact dv_get2 hu I3 ef2 dv2 rk ry rz rd g fun u' v' s4 I4 r1 r2 => ⟨v', H3, I4, r1, q3 v' r2⟩
theorem d_get1 {o : Expr} {k : Nat} (hr : Room k X.A) (ha : PV X o fa) (hb : PP X e fb) (m : M1 X o "get" apos e cpos := by exact ⟨rfl, rfl, rfl, rfl⟩) (hW : WH X.w := by assumption) : PP X (.Call (.Attribute o "get" apos) [e] [] cpos) (fOp2 gGet1 fa fb) := by
  obtain ⟨ta, h1, h2⟩ := ha
  obtain ⟨tb, h3, h4⟩ := hb
  refine ⟨_, pe_dg1 (by have := Room.u66 hr; omega) h1 h3 m, fun F H σ ρ d hf hR Q q => ?_⟩
  obtain ⟨dx, e1, hf⟩ := Option.bind_eq_some_iff.mp hf
  obtain ⟨dy, e2, hf⟩ := Option.bind_eq_some_iff.mp hf
  cases dx with
  | dict ds =>
    obtain ⟨w, e3, e4⟩ := Option.map_eq_some_iff.mp (show (dGet ds dy).map _ = some d from hf)
    cases e4
    refine h2 F H σ ρ _ e1 hR _ fun x F1 H1 g1 r1 => ?_
    obtain ⟨p, rfl, dv⟩ := r1.dict g1.in_
    refine ⟨F1, p, ds, rfl, g1.in_, dv, h4 F1 H1 σ ρ _ e2 (hR.gr g1) _ fun y F2 H2 g2 r2 => ?_⟩
    exact ⟨F2, dy, w, g2.in_, dv.gr g2, r2, e3, fun v rv => q v F2 H2 (g1.trans g2) rv⟩
  | _ => cases hf
def fOp3 (g : D → D → D → Option D) (fa fb fc : Fm → Option D) (ρ : Fm) : Option D := (fa ρ).bind fun x => (fb ρ).bind fun y => (fc ρ).bind fun z => g x y z
theorem d_get2 {o : Expr} {k : Nat} (hr : Room k X.A) (ha : PV X o fa) (hb : PP X e fb) (hc : PP X f ff) (m : M2 X o "get" apos e f cpos := by exact ⟨rfl, rfl, rfl, rfl⟩) (hW : WH X.w := by assumption) : PP X (.Call (.Attribute o "get" apos) [e, f] [] cpos) (fOp3 gGet2 fa fb ff) := by
  obtain ⟨ta, h1, h2⟩ := ha
  obtain ⟨tb, h3, h4⟩ := hb
  obtain ⟨tc, h5, h6⟩ := hc
  refine ⟨_, pe_dg2 (by have := Room.u66 hr; omega) h1 h3 h5 m, fun F H σ ρ d hf hR Q q => ?_⟩
  obtain ⟨dx, e1, hf⟩ := Option.bind_eq_some_iff.mp hf
  obtain ⟨dy, e2, hf⟩ := Option.bind_eq_some_iff.mp hf
  obtain ⟨dz, e5, hf⟩ := Option.bind_eq_some_iff.mp hf
  cases dx with
  | dict ds =>
    obtain ⟨w, e3, e4⟩ := Option.map_eq_some_iff.mp (show (dGet ds dy).map _ = some d from hf)
    cases e4
    refine h2 F H σ ρ _ e1 hR _ fun x F1 H1 g1 r1 => ?_
    obtain ⟨p, rfl, dv⟩ := r1.dict g1.in_
    refine ⟨F1, p, ds, rfl, g1.in_, dv, h4 F1 H1 σ ρ _ e2 (hR.gr g1) _ fun y F2 H2 g2 r2 => h6 F2 H2 σ ρ _ e5 (hR.gr (g1.trans g2)) _ fun z F3 H3 g3 r3 => ?_⟩
    exact ⟨F3, dy, dz, w, g3.in_, (dv.gr g2).gr g3, r2.mono g3.ex, r3, e3, fun v rv => q v F3 H3 ((g1.trans g2).trans g3) rv⟩
  | _ => cases hf
end
/-! ### one's own dicts: made, written, seen -/
def mNewD (t : Bool) (ρ : Fm) : Option (B × Fm) := some (.od t [], ρ)
def mNew1 (fk fv : Fm → Option D) (ρ : Fm) : Option (B × Fm) := (fk ρ).bind fun kd => (fv ρ).bind fun d => (kOf true kd).map fun _ => (.od true [(kd, d)], ρ)
/-- x[k] = e, x a dict of one's own -/
def sDset (i : Nat) (fk : Fm → Option D) (f : Fm → Option (D × Fm)) (ρ : Fm) : Option (Fl × Fm) := (f ρ).bind fun x => match x.2[i]? with
  | some (.od t ds) => (fk x.2).bind fun kd => if ds.length < bigN then (dPut t ds kd x.1).map fun ds' => (.nx, x.2.set i (.od t ds')) else none
  | some (.jd t ds) => (fk x.2).bind fun kd => if ds.length < bigN then (dPut t ds kd x.1).map fun ds' => (.nx, x.2.set i (.jd t ds')) else none
  | _ => none
/-- x[k] op= e -/
def sDaug (i : Nat) (g : D → D → Option D) (fk f : Fm → Option D) (ρ : Fm) : Option (Fl × Fm) := match ρ[i]? with
  | some (.od t ds) => (fk ρ).bind fun kd => (dGet ds kd).bind fun o => o.bind fun v0 => (f ρ).bind fun v => (g v0 v).bind fun z => if ds.length < bigN then (dPut t ds kd z).map fun ds' => (.nx, ρ.set i (.od t ds')) else none
  | some (.jd t ds) => (fk ρ).bind fun kd => (dGet ds kd).bind fun o => o.bind fun v0 => (f ρ).bind fun v => (g v0 v).bind fun z => if ds.length < bigN then (dPut t ds kd z).map fun ds' => (.nx, ρ.set i (.jd t ds')) else none
  | _ => none
def frzD (i : Nat) (ρ : Fm) : Fm := match ρ[i]? with
  | some (.od _ ds) => ρ.set i (.sh (.dict ds))
  | _ => ρ
def sFrzD (i : Nat) (f : Fm → Option (Fl × Fm)) (ρ : Fm) : Option (Fl × Fm) := f (frzD i ρ)
section
variable {X : Cx} {a b e f k v value : Expr} {pos tp q : Pos} {fa fb fe fk fv : Fm → Option D} {ge : Fm → Option (D × Fm)}
theorem m_newT : XM X (.Dict [] [] pos) (mNewD true) := ⟨_, pe_newN, fun F H σ ρ b ρ' hf hR Q kk => by
  cases hf
  refine fun p hp => kk _ F _ (.gr hR (Gr.newH hR.ex hp)) ⟨p, rfl, hp, hR.ex.free hp, [], upd_same, .nil⟩⟩
theorem m_newK : XM X (.Dict [] [] pos) (mNewD false) := ⟨_, pe_dnewK, fun F H σ ρ b ρ' hf hR Q kk => by
  cases hf
  refine fun p hp => kk _ F _ (.gr hR (Gr.newH hR.ex hp)) ⟨p, rfl, hp, hR.ex.free hp, [], upd_same, .nil⟩⟩
theorem m_new1 {n : Nat} (hr : Room n X.A) (hk : PP X k fk) (hv : PP X v fv) (hW : WH X.w := by assumption) : XM X (.Dict [some k] [v] pos) (mNew1 fk fv) := by
  obtain ⟨tk, h1, h2⟩ := hk
  obtain ⟨tv, h3, h4⟩ := hv
  refine ⟨_, pe_new1 (by have := Room.u66 hr; omega) h1 h3, fun F H σ ρ b ρ' hf hR Q kk p hp => ?_⟩
  obtain ⟨kd, e1, hf⟩ := Option.bind_eq_some_iff.mp hf
  obtain ⟨d, e2, hf⟩ := Option.bind_eq_some_iff.mp hf
  obtain ⟨k0, e3, hf⟩ := Option.map_eq_some_iff.mp hf
  cases hf
  have g0 := Gr.newH (o := DN p []) hR.ex hp
  refine h2 F _ σ ρ _ e1 (hR.gr g0) _ fun x F1 H1 g1 r1 => h4 F1 H1 σ ρ _ e2 ((hR.gr g0).gr g1) _ fun y F2 H2 g2 r2 => ?_
  have g12 := g1.trans g2
  have hF0 : F p = none := hR.ex.free hp
  have hF2 : F2 p = none := g12.hide p (by rw [upd_same]; intro z; cases z) hF0
  refine ⟨F2, kd, d, k0, g2.in_, g12.keep _ _ upd_same noTb_ext, r1.mono g2.ex, e3, r2, fun xs rx => ?_⟩
  exact kk _ F2 _ (.gr hR ((g0.trans g12).over hp hF2 (g12.keep _ _ upd_same noTb_ext) noTb_ext)) ⟨p, rfl, hp, hF2, xs, upd_same, rx⟩
theorem own_wrD {K : PySem.W.Frag} {F H : Hp} {σ : L2.St} {ρ : Fm} {i : Nat} {t : Bool} {ds ds' : List (D × D)} {p : Addr} {o' : HO} (hR : Rel K F H σ ρ) (e : ρ[i]? = some (.od t ds)) (s : σ[i]? = some (some (.ref p))) (hf : F p = none) (r : Dct K F (upd H p o') p t ds') :
    GoE K F H σ ρ F (upd H p o') (ρ.set i (.od t ds')) :=
  goE_putB hR e rfl s (.refl _) (fun b o h => by
    have : b ≠ p := fun z => by rw [z, hf] at h; cases h
    rw [upd_ne this]
    exact hR.ex b o h) (fun c o h n => by rw [upd_ne n]; exact h) (fun c _ h => h) upd_same rfl (fun _ => ⟨p, s, hf, r⟩) fun z => by cases z
theorem own_wrJ {K : PySem.W.Frag} {F H : Hp} {σ : L2.St} {ρ : Fm} {i : Nat} {t : Bool} {ds ds' : List (D × D)} {p : Addr} {o' : HO} (hR : Rel K F H σ ρ) (e : ρ[i]? = some (.jd t ds)) (s : σ[i]? = some (some (.ref p))) (hf : F p = none) (r : Dct K F (upd H p o') p t ds') :
    GoE K F H σ ρ F (upd H p o') (ρ.set i (.jd t ds')) :=
  goE_putB hR e rfl s (.refl _) (fun b o h => by
    have : b ≠ p := fun z => by rw [z, hf] at h; cases h
    rw [upd_ne this]
    exact hR.ex b o h) (fun c o h n => by rw [upd_ne n]; exact h) (fun c _ h => h) upd_same rfl (fun _ => ⟨p, s, hf, r⟩) fun _ => rfl
def tDset (K : PySem.W.Frag) (td ty tv : TE) : TS := fun E σ H => tv σ H fun v H1 => td σ H1 fun x H2 => ty σ H2 fun y H3 => ∃ (F : Hp) (p : Addr) (t : Bool) (ds ds' : List (D × D)) (kd d : D), x = .ref p ∧ Ex F H3 ∧ F p = none ∧ Dct K F H3 p t ds ∧ Rp K F y kd ∧ Rp K F v d ∧ dPut t ds kd d = some ds' ∧ ds.length < bigN ∧
  ∀ o', Dct K F (upd H3 p o') p t ds' → E.nx σ (upd H3 p o')
theorem ps_dset [hW : WH X.w] {td ty tv : TE} (hu : X.A.units + 9 < cLine) (ho : PE X a td) (hi : PE X b ty) (hv : PE X value tv) (hs : swapsWith value (some (.Subscript a b tp)) pos.line X.env = pure false) : PS X (.Assign [.Subscript a b tp] value pos) (tDset X.K td ty tv) := by
  refine ⟨fun pins s σ H E I h => ?_⟩
  refine wpAny_Assign_Subscript (thn (hv.run pins s σ H _ I h) fun r s1 ⟨v, H1, I1, rv, q1⟩ => thn (ho.run pins s1 σ H1 _ I1 q1) fun u s2 ⟨x, H2, I2, rx, q2⟩ => thn (hi.run pins s2 σ H2 _ I2 q2) fun w s3 ⟨y, H3, I3, ry, F, p, t, ds, ds', kd, d, ex, ef, hf, dc, rk, rd, g, hz, q3⟩ => ?_) hs
  subst ex
  cases (show u = Value.ref p from rx)
  exact dct_set hu I3 ef hf dc rk ry rv rd g hz fun o' s4 I4 dc4 => ⟨σ, _, I4, q3 o' dc4⟩
theorem s_dset (i : Nat) {y : Str} {n : Nat} (hr : Room n X.A) (hk : PP X b fk) (h : XE X e ge) (hv : PE X (.Name y q) (tVar i) := by exact pv _) (hs : swapsWith e (some (.Subscript (.Name y q) b tp)) pos.line X.env = pure false := by rfl) (hW : WH X.w := by assumption) :
    PSt X (.Assign [.Subscript (.Name y q) b tp] e pos) (sDset i fk ge) := by
  obtain ⟨t, h1, h2⟩ := h
  obtain ⟨u, h3, h4⟩ := hk
  refine ⟨_, ps_dset (by have := Room.u66 hr; omega) hv h3 h1 hs, fun F H σ ρ fl ρ' hf hR E k1 k2 k3 => ?_⟩
  obtain ⟨⟨d, ρ1⟩, e1, e2⟩ := Option.bind_eq_some_iff.mp hf
  dsimp only at e2
  split at e2
  · rename_i t ds e3
    obtain ⟨kd, e4, e5⟩ := Option.bind_eq_some_iff.mp e2
    split at e5
    · rename_i hz
      obtain ⟨ds', e6, e7⟩ := Option.map_eq_some_iff.mp e5
      cases e7
      refine h2 F H σ ρ _ ρ1 e1 hR _ fun v F1 H1 g1 r1 => ?_
      obtain ⟨p, s1, hf1, dc1⟩ := g1.rel.at_ i _ e3
      refine ⟨.ref p, s1, h4 F1 H1 σ ρ1 _ e4 g1.rel _ fun w F2 H2 g2 r2 => ?_⟩
      have g12 := g1.trans (.gr g1.rel g2)
      obtain ⟨p2, s2, hf2, dc2⟩ := g12.rel.at_ i _ e3
      rw [s1] at s2
      cases s2
      exact ⟨F2, p, t, ds, ds', kd, d, rfl, g2.in_, hf2, dc2, r2, r1.mono g2.ex, e6, hz, fun o' dc3 => k1 rfl σ F2 _ (g12.go.trans (own_wrD g12.rel e3 s1 hf2 dc3).go)⟩
    · cases e5
  · rename_i t ds e3
    obtain ⟨kd, e4, e5⟩ := Option.bind_eq_some_iff.mp e2
    split at e5
    · rename_i hz
      obtain ⟨ds', e6, e7⟩ := Option.map_eq_some_iff.mp e5
      cases e7
      refine h2 F H σ ρ _ ρ1 e1 hR _ fun v F1 H1 g1 r1 => ?_
      obtain ⟨p, s1, hf1, dc1⟩ := g1.rel.at_ i _ e3
      refine ⟨.ref p, s1, h4 F1 H1 σ ρ1 _ e4 g1.rel _ fun w F2 H2 g2 r2 => ?_⟩
      have g12 := g1.trans (.gr g1.rel g2)
      obtain ⟨p2, s2, hf2, dc2⟩ := g12.rel.at_ i _ e3
      rw [s1] at s2
      cases s2
      exact ⟨F2, p, t, ds, ds', kd, d, rfl, g2.in_, hf2, dc2, r2, r1.mono g2.ex, e6, hz, fun o' dc3 => k1 rfl σ F2 _ (g12.go.trans (own_wrJ g12.rel e3 s1 hf2 dc3).go)⟩
    · cases e5
  · cases e2
def tDaug (K : PySem.W.Frag) (td ty tv : TE) (r : R2) : TS := fun E σ H => td σ H fun x H1 => ty σ H1 fun y H2 => ∃ (F : Hp) (p : Addr) (ds : List (D × D)) (kd v0 : D), x = .ref p ∧ Ex F H2 ∧ DV K F H2 p ds ∧ Rp K F y kd ∧ dGet ds kd = some (some v0) ∧
  ∀ v1, Rp K F v1 v0 → tv σ H2 fun v H3 => r v1 v H3 fun z H4 => ∃ (F : Hp) (t : Bool) (ds ds' : List (D × D)) (kd d : D), Ex F H4 ∧ F p = none ∧ Dct K F H4 p t ds ∧ Rp K F y kd ∧ Rp K F z d ∧ dPut t ds kd d = some ds' ∧ ds.length < bigN ∧
  ∀ o', Dct K F (upd H4 p o') p t ds' → E.nx σ (upd H4 p o')
theorem ps_daugU [hW : WH X.w] {op : Operator} {r : R2} {td ty tv : TE} (hu : X.A.units + 9 < cLine) (ho : PE X a td) (hi : PE X b ty) (hv : PE X value tv) (hop : OpR X (inplaceOp op) r)
    (ha : ∀ ov iv new, augStore b ov iv new = (do holding [new, ov, iv] (setItem ov iv new); release [new, ov, iv] []; pure .next)) : PS X (.AugAssign (.Subscript a b tp) op value pos) (tDaug X.K td ty tv r) := by
  refine ⟨fun pins s σ H E I h => ?_⟩
  refine wpAny_AugAssign_SubscriptAny (thn (ho.run pins s σ H _ I h) fun u s1 ⟨x, H1, I1, rx, q1⟩ => thn (hi.run pins s1 σ H1 _ I1 q1) fun w s2 ⟨y, H2, I2, ry, F, p, ds, kd, v0, ex, ef, dv, rk, g, q2⟩ => ?_) ha
  subst ex
  cases (show u = Value.ref p from rx)
  refine dv_item hu I2 ef dv rk ry g fun u1 v1 s3 I3 r1 r2 => thn (hv.run pins s3 σ H2 _ I3 (q2 v1 r2)) fun w2 s4 ⟨v, H3, I4, rv, q3⟩ => thn (hop pins s4 σ H3 v1 v u1 w2 _ I4 r1 rv q3) fun w3 s5 ⟨z, H4, I5, rz, F5, t, ds5, ds', kd5, d5, ef5, hf5, dc5, rk5, rd5, g5, hz5, q4⟩ => ?_
  exact dct_set hu I5 ef5 hf5 dc5 rk5 ry rz rd5 g5 hz5 fun o' s6 I6 dc6 => ⟨σ, _, I6, q4 o' dc6⟩
theorem s_daug (i : Nat) {y : Str} {n : Nat} {op : Operator} {g : D → D → Option D} {r : R2} (hr : Room n X.A) (ho : OpR X (inplaceOp op) r) (hg : ∀ F H x y dx dy dz, Ex F H → Vw X.K F H x dx → Vw X.K F H y dy → g dx dy = some dz → ∀ Q : VK, Res X.K F H dz Q → r x y H Q)
    (hk : PP X b fk) (he : PP X e fe) (hv : PE X (.Name y q) (tVar i) := by exact pv _)
    (ha : ∀ ov iv new, augStore b ov iv new = (do holding [new, ov, iv] (setItem ov iv new); release [new, ov, iv] []; pure .next) := by exact fun _ _ _ => rfl) (hW : WH X.w := by assumption) :
    PSt X (.AugAssign (.Subscript (.Name y q) b tp) op e pos) (sDaug i g fk fe) := by
  obtain ⟨t, h1, h2⟩ := he
  obtain ⟨u, h3, h4⟩ := hk
  refine ⟨_, ps_daugU (by have := Room.u66 hr; omega) hv h3 h1 ho ha, fun F H σ ρ fl ρ' hf hR E k1 k2 k3 => ?_⟩
  unfold sDaug at hf
  split at hf
  · rename_i t ds e3
    obtain ⟨kd, e4, q1⟩ := Option.bind_eq_some_iff.mp hf
    obtain ⟨o, e5, q2⟩ := Option.bind_eq_some_iff.mp q1
    obtain ⟨v0, e6, q3⟩ := Option.bind_eq_some_iff.mp q2
    obtain ⟨v, e7, q4⟩ := Option.bind_eq_some_iff.mp q3
    obtain ⟨z, e8, q5⟩ := Option.bind_eq_some_iff.mp q4
    clear q4 q3 q2 q1 hf
    subst e6
    split at q5
    · rename_i hz
      obtain ⟨ds', e9, q6⟩ := Option.map_eq_some_iff.mp q5
      cases q6
      obtain ⟨p, s1, hf1, dc1⟩ := hR.at_ i _ e3
      refine ⟨.ref p, s1, h4 F H σ ρ _ e4 hR _ fun w F1 H1 g1 r1 => ?_⟩
      obtain ⟨p1, s2, hf2, dc2⟩ := (hR.gr g1).at_ i _ e3
      rw [s1] at s2
      cases s2
      refine ⟨F1, p, ds, kd, v0, rfl, g1.in_, dc2.dv, r1, e5, fun v1 rv1 => h2 F1 H1 σ ρ _ e7 (hR.gr g1) _ fun v2 F2 H2 g2 r2 => ?_⟩
      refine hg F2 H2 v1 v2 v0 v z g2.in_ (.inl (rv1.mono g2.ex)) (.inl r2) e8 _ fun z3 F3 H3 g3 r3 => ?_
      have g123 := (g1.trans g2).trans g3
      obtain ⟨p3, s3, hf3, dc3⟩ := (hR.gr g123).at_ i _ e3
      rw [s1] at s3
      cases s3
      exact ⟨F3, t, ds, ds', kd, z, g3.in_, hf3, dc3, (r1.mono g2.ex).mono g3.ex, r3, e9, hz, fun o' dc4 => k1 rfl σ F3 _ ((Go.gr hR g123).trans (own_wrD (hR.gr g123) e3 s1 hf3 dc4).go)⟩
    · cases q5
  · rename_i t ds e3
    obtain ⟨kd, e4, q1⟩ := Option.bind_eq_some_iff.mp hf
    obtain ⟨o, e5, q2⟩ := Option.bind_eq_some_iff.mp q1
    obtain ⟨v0, e6, q3⟩ := Option.bind_eq_some_iff.mp q2
    obtain ⟨v, e7, q4⟩ := Option.bind_eq_some_iff.mp q3
    obtain ⟨z, e8, q5⟩ := Option.bind_eq_some_iff.mp q4
    clear q4 q3 q2 q1 hf
    subst e6
    split at q5
    · rename_i hz
      obtain ⟨ds', e9, q6⟩ := Option.map_eq_some_iff.mp q5
      cases q6
      obtain ⟨p, s1, hf1, dc1⟩ := hR.at_ i _ e3
      refine ⟨.ref p, s1, h4 F H σ ρ _ e4 hR _ fun w F1 H1 g1 r1 => ?_⟩
      obtain ⟨p1, s2, hf2, dc2⟩ := (hR.gr g1).at_ i _ e3
      rw [s1] at s2
      cases s2
      refine ⟨F1, p, ds, kd, v0, rfl, g1.in_, dc2.dv, r1, e5, fun v1 rv1 => h2 F1 H1 σ ρ _ e7 (hR.gr g1) _ fun v2 F2 H2 g2 r2 => ?_⟩
      refine hg F2 H2 v1 v2 v0 v z g2.in_ (.inl (rv1.mono g2.ex)) (.inl r2) e8 _ fun z3 F3 H3 g3 r3 => ?_
      have g123 := (g1.trans g2).trans g3
      obtain ⟨p3, s3, hf3, dc3⟩ := (hR.gr g123).at_ i _ e3
      rw [s1] at s3
      cases s3
      exact ⟨F3, t, ds, ds', kd, z, g3.in_, hf3, dc3, (r1.mono g2.ex).mono g3.ex, r3, e9, hz, fun o' dc4 => k1 rfl σ F3 _ ((Go.gr hR g123).trans (own_wrJ (hR.gr g123) e3 s1 hf3 dc4).go)⟩
    · cases q5
  · cases hf
theorem go_see {K : PySem.W.Frag} {F H : Hp} {σ : L2.St} {ρ : Fm} {i : Nat} {t : Bool} {ds : List (D × D)} {p : Addr} {o' : HO} (hR : Rel K F H σ ρ) (e : ρ[i]? = some (.od t ds)) (s1 : σ[i]? = some (some (.ref p))) (hf : F p = none) (r : Ex F (upd F p o') → Rp K (upd F p o') (.ref p) (.dict ds)) :
    Go K F H σ ρ (upd F p o') (upd H p o') σ (ρ.set i (.sh (.dict ds))) := by
  have hl : i < ρ.length := (List.getElem?_eq_some_iff.mp e).1
  have exF : Ex F (upd F p o') := .new hf
  have get : ∀ j c, (ρ.set i (.sh (.dict ds)))[j]? = some c → (j = i ∧ c = .sh (.dict ds)) ∨ (j ≠ i ∧ ρ[j]? = some c) := by
    intro j c e
    by_cases hj : j = i
    · subst hj
      rw [List.getElem?_set_self hl] at e
      exact .inl ⟨rfl, (Option.some.inj e).symm⟩
    · rw [List.getElem?_set_ne (fun z => hj z.symm)] at e
      exact .inr ⟨hj, e⟩
  have oi : ownA σ ρ p := ⟨i, _, e, rfl, s1⟩
  refine ⟨⟨hR.ex.both, by rw [List.length_set]; exact hR.len, fun j c e' => ?_, fun j k b c x e1 o1 e2 o2 s1' s2' => ?_, hR.tab.toT exF (fun a ps q f => by rw [upd_ne fun z => own_notb hR oi ps (by rw [← z]; exact q)]; exact f) fun a ps q => by rw [upd_ne fun z => own_notb hR oi ps (by rw [← z]; exact q)]; exact q⟩, exF, fun x o h _ n => ?_, fun x h => ?_, fun x h hf' n => ?_, fun x o => ?_, fun j es e' => ?_, fun j e' => ?_⟩
  · rcases get j c e' with ⟨rfl, rfl⟩ | ⟨hj, e''⟩
    · exact ⟨.ref p, s1, r exF⟩
    · have := hR.at_ j c e''
      have apart : ∀ x, σ[j]? = some (some (.ref x)) → c.own = true → x ≠ p := fun x f1 oc z => by
        subst z
        exact hj (hR.sep i j _ c x e rfl e'' oc s1 f1).symm
      have key : ∀ es, OwnL K F H σ[j]? es → c.own = true → OwnL K (upd F p o') (upd H p o') σ[j]? es := by
        intro es ⟨x, xs, f1, f2, f3, f4⟩ oc
        have hx := apart x f1 oc
        exact ⟨x, xs, f1, by rw [upd_ne hx]; exact f2, by rw [upd_ne hx]; exact f3, f4.mono exF⟩
      have keyD : ∀ t es, OwnD K F H σ[j]? t es → c.own = true → OwnD K (upd F p o') (upd H p o') σ[j]? t es := by
        intro t es ⟨x, f1, f3, dd⟩ oc
        have hx := apart x f1 oc
        exact ⟨x, f1, by rw [upd_ne hx]; exact f3, dd.move exF fun _ z _ => by rw [upd_ne hx]; exact z⟩
      cases c with
      | no => trivial
      | pin => trivial
      | fn w =>
        obtain ⟨v, f1, f2⟩ := this
        exact ⟨v, f1, FnT.mono exF f2⟩
      | sh d =>
        obtain ⟨v, f1, f2⟩ := this
        exact ⟨v, f1, f2.mono exF⟩
      | ow es => exact key es this rfl
      | io es => exact key es this rfl
      | od t es => exact keyD t es this rfl
      | jd t es => exact keyD t es this rfl
  · rcases get j b e1 with ⟨rfl, rfl⟩ | ⟨hj, e1'⟩
    · cases o1
    · rcases get k c e2 with ⟨rfl, rfl⟩ | ⟨hk, e2'⟩
      · cases o2
      · exact hR.sep j k b c x e1' o1 e2' o2 s1' s2'
  · have hx : x ≠ p := fun z => n (by rw [z]; exact oi)
    rw [upd_ne hx]
    exact h
  · by_cases hx : x = p
    · rw [hx, upd_same]; intro z; cases z
    · rw [upd_ne hx]; exact h
  · have hx : x ≠ p := fun z => n (by rw [z]; exact oi)
    rw [upd_ne hx]
    exact hf'
  · obtain ⟨j, b, e', ob, s⟩ := o
    rcases get j b e' with ⟨rfl, rfl⟩ | ⟨hj, e''⟩
    · cases ob
    · exact .inl ⟨j, b, e'', ob, s⟩
  · intro hes
    rcases get j _ e' with ⟨rfl, rfl⟩ | ⟨hj, e''⟩
    · cases hes
    · exact ⟨⟨_, e'', rfl⟩, rfl⟩
  · rcases get j _ e' with ⟨rfl, z⟩ | ⟨hj, e''⟩
    · cases z
    · exact ⟨e'', rfl⟩
theorem s_frzD (i : Nat) {st : Stmt} {sf : Fm → Option (Fl × Fm)} (h : PSt X st sf) : PSt X st (sFrzD i sf) := by
  obtain ⟨t, h1, h2⟩ := h
  refine ⟨_, ps_orD h1 (ps_orD (ps_see h1) (ps_see0 h1)), fun F H σ ρ fl ρ' hf hR E k1 k2 k3 => ?_⟩
  unfold sFrzD frzD at hf
  split at hf
  · rename_i tt ds e
    obtain ⟨p, s1, hfp, dc⟩ := hR.at_ i _ e
    right
    have fin : ∀ o', (Ex F (upd F p o') → Rp X.K (upd F p o') (.ref p) (.dict ds)) → t E σ (upd H p o') := fun o' r => by
      have g := go_see hR e s1 hfp r
      exact h2 _ _ σ _ fl ρ' hf g.rel E (fun z σ2 F2 H2 g2 => k1 z σ2 F2 H2 (g.trans g2)) (fun z σ2 F2 H2 g2 => k2 z σ2 F2 H2 (g.trans g2)) fun d z v σ2 F2 H2 g2 r => k3 d z v σ2 F2 H2 (g.trans g2) r
    cases tt with
    | true =>
      obtain ⟨xs, hH, rr⟩ := dc
      exact .inl ⟨p, _, hH, trivial, fun od => fin _ fun ex => .dn upd_same (RpN.mono ex rr)⟩
    | false =>
      obtain ⟨kvs, hH, rr⟩ := dc
      cases ds with
      | nil =>
        cases rr
        exact .inr ⟨p, hH, fun od => fin _ fun ex => .dn (xs := []) upd_same .nil⟩
      | cons q r => exact .inl ⟨p, _, hH, trivial, fun od => fin _ fun ex => .dk (by intro z; cases z) upd_same (RpK.mono ex rr)⟩
  · exact .inl (h2 F H σ ρ fl ρ' hf hR E k1 k2 k3)
end
end DL
end
section
set_option Elab.async false
set_option linter.all false
set_option maxRecDepth 100000
/-! Dicts that are walked: keys, values, pairs. -/
namespace DL
open PySem PySem.Spec PyProof.Rows L2
variable [TabT] [FnT]
theorem ent_k {P : Program} {w : World} {K : PySem.W.Frag} {F : Hp} : ∀ {es : List DictEntry} {vs : List (Key × Value)} {kvs : List (Key × V)} {ds : List (D × D)}, Pairs (mixKind P w) es vs → KV kvs vs → RpK K F kvs ds →
    ∃ (ks us : List V), RpA K F ks (ds.map (·.1)) ∧ RpA K F us (ds.map (·.2)) ∧ Paired (fun x (en : DictEntry) => RelV x en.key) ks es ∧ Paired (fun x (en : DictEntry) => RelV x en.val) us es := by
  intro es vs kvs ds h
  induction h generalizing kvs ds with
  | nil =>
    intro r q
    cases r
    cases q
    exact ⟨[], [], .nil, .nil, .nil, .nil⟩
  | cons h1 h2 t ih =>
    intro r q
    cases q with
    | nil => cases r
    | @cons k0 v d0 r1 ds1 h4 t3 =>
      cases r with
      | cons h3 t2 =>
        obtain ⟨ks, us, a, b, c, d⟩ := ih t2 t3
        refine ⟨kV k0 :: ks, v :: us, .cons ?_ a, .cons h4 b, .cons ?_ c, .cons ?_ d⟩
        · cases k0 <;> first | exact .int _ | exact .str _
        · have e : k0 = _ := h3.1
          rw [e]
          exact relV_key (show keyIs _ _ = true from h1)
        · rw [h2]; exact h3.2
theorem ent_n {K : PySem.W.Frag} {F : Hp} {w : World} : ∀ {xs : DEs} {ds : List (D × D)}, RpN K F xs ds →
    ∃ (ks us : List V), RpA K F ks (ds.map (·.1)) ∧ RpA K F us (ds.map (·.2)) ∧ Paired (fun x (en : DictEntry) => RelV x en.key) ks (xs.map fun x => ⟨x.1.hash w, .ref x.2.1, x.2.2⟩) ∧ Paired (fun x (en : DictEntry) => RelV x en.val) us (xs.map fun x => ⟨x.1.hash w, .ref x.2.1, x.2.2⟩)
  | _, _, .nil => ⟨[], [], .nil, .nil, .nil, .nil⟩
  | _, _, .cons (q := q) (v := v) h1 h2 h3 h4 t => by
    obtain ⟨ks, us, a, b, c, d⟩ := ent_n (w := w) t
    exact ⟨.ref q :: ks, v :: us, .cons h1 a, .cons h4 b, .cons rfl c, .cons h3 d⟩
/-- what a seen dict's object holds -/
structure Seen (K : PySem.W.Frag) (F H : Hp) (h : Heap) (p : Addr) (ds : List (D × D)) (o : Obj) (u : HO) (es : Array DictEntry) (ep : Nat) (ks us : List V) : Prop where
  at_ : H p = some (.frz o u)
  inF : F p = some (.frz o u)
  sys : (p == sysModules) = false
  obj : h.get? p = some o
  ex : o.ExactDict
  dat : o.data = .dict es ep
  key : RpA K F ks (ds.map (·.1))
  val : RpA K F us (ds.map (·.2))
  eks : Paired (fun x (en : DictEntry) => RelV x en.key) ks es.toList
  evs : Paired (fun x (en : DictEntry) => RelV x en.val) us es.toList
theorem Seen.nk {K : PySem.W.Frag} {F H : Hp} {h : Heap} {p : Addr} {ds : List (D × D)} {o : Obj} {u : HO} {es : Array DictEntry} {ep : Nat} {ks us : List V} (z : Seen K F H h p ds o u es ep ks us) : es.size = ks.length := by
  rw [← Array.length_toList]; exact (Paired.length z.eks).symm
theorem Seen.nv {K : PySem.W.Frag} {F H : Hp} {h : Heap} {p : Addr} {ds : List (D × D)} {o : Obj} {u : HO} {es : Array DictEntry} {ep : Nat} {ks us : List V} (z : Seen K F H h p ds o u es ep ks us) : es.size = us.length := by
  rw [← Array.length_toList]; exact (Paired.length z.evs).symm
theorem Seen.raw {K : PySem.W.Frag} {F H : Hp} {h : Heap} {p : Addr} {ds : List (D × D)} {o : Obj} {u : HO} {es : Array DictEntry} {ep : Nat} {ks us : List V} (z : Seen K F H h p ds o u es ep ks us) : h.DictRaw p es ep := ⟨o, z.obj, z.ex, z.dat⟩
section
variable {X : Cx} {pins : List (Addr × Obj)} {σ : L2.St} {F H : Hp} {s : Shared} {p : Addr} {ds : List (D × D)}
theorem seen_of (I : Inv X pins σ H s) (e : Ex F H) (r : Rp X.K F (.ref p) (.dict ds)) : ∃ o u es ep ks us, Seen X.K F H s.heap p ds o u es ep ks us := by
  cases r with
  | dk hne hF rr =>
    have hH := e _ _ hF
    obtain ⟨hd, z, hs, vs, kv, o', es, ep, ho, hx, hdt, _, pr, _⟩ := I.hok p _ hH
    rw [hd] at ho
    cases ho
    obtain ⟨ks, us, a, b, c, d⟩ := ent_k pr kv rr
    exact ⟨_, _, es, ep, ks, us, hH, hF, hs, hd, hx, hdt, a, b, c, d⟩
  | dn hF rr =>
    have hH := e _ _ hF
    obtain ⟨hd, ⟨hs, z, nd, o', es, ep, ho, hx, hdt, he⟩, _⟩ := I.hok p _ hH
    rw [hd] at ho
    cases ho
    obtain ⟨ks, us, a, b, c, d⟩ := ent_n (w := whs X.w) rr
    rw [← he (whs X.w) rfl] at c d
    exact ⟨_, _, es, ep, ks, us, hH, hF, hs, hd, hx, hdt, a, b, c, d⟩
theorem frz_obj {o : Obj} {u : HO} (I : Inv X pins σ H s) (h : H p = some (.frz o u)) : s.heap.get? p = some o := (I.hok p _ h).1
end
/-- the keys (the values) xs of the seen dict at p -/
def Itw (p : Addr) (o : Obj) (u : HO) (xs : List V) : It :=
  ⟨fun i H => H p = some (.frz o u) ∧ i < xs.length, fun i H x H' => H' = H ∧ xs[i]? = some x, fun i H => H p = some (.frz o u) ∧ xs.length ≤ i⟩
section
variable {P : Program} {w : World} {K : PySem.W.Frag} {tg : Expr} {p : Addr} {o : Obj} {u : HO} {es : Array DictEntry} {ep : Nat} {xs : List V}
theorem turn_wk (it : Addr) (hx : o.ExactDict) (hdt : o.data = .dict es ep) (hp : Paired (fun x (en : DictEntry) => RelV x en.key) xs es.toList) : Turn P w K tg (Itw p o u xs) [it] it (fun i h => h.IsKeyIter it p i es.size ep) where
  mem := List.mem_singleton.mpr rfl
  obj := fun i h st b hb => by
    cases List.mem_singleton.mp hb
    obtain ⟨z, e1, c1, d1⟩ := st
    exact ⟨z, e1, fun v q => by rw [d1] at q; cases q⟩
  keep := fun i h h' st kk => st.at fun z e1 => kk it (List.mem_singleton.mpr rfl) z e1
  item := by
    intro X hP hw hK hc i pins s σ H E I hf st hg
    subst hP hw hK
    obtain ⟨hH, hi⟩ := hg
    obtain ⟨f0, f1, f2, f3, f4, f5⟩ := hf it (List.mem_singleton.mpr rfl)
    have raw : s.heap.DictRaw p es ep := ⟨o, frz_obj I hH, hx, hdt⟩
    have hl : xs.length = es.size := by rw [← Array.length_toList]; exact Paired.length hp
    obtain ⟨x, hxi⟩ : ∃ x, xs[i]? = some x := ⟨xs[i], List.getElem?_eq_getElem hi⟩
    obtain ⟨en, hen, rx⟩ := paired_get hp hxi
    have hlt : i < es.size := by omega
    have hee : es[i] = en := by
      rw [Array.getElem?_toList, Array.getElem?_eq_getElem hlt] at hen
      exact Option.some.inj hen
    refine wpAny_pyNext_keys_item_raw st raw hlt fun h' st' sb => ?_
    have I1 : Inv X pins σ H { s with heap := h' } := I.turned (t' := s.toks) (fun b ob hb e1 => (sb.2 b hb).trans e1) f0 f1 f3 f4 f5
    obtain ⟨oi, e1, c1, d1⟩ := id st'
    exact ⟨_, rfl, go_of (s := { s with heap := h' }) e1 c1 d1 (by decide) ⟨x, H, I1, by rw [hee]; exact rx, ⟨rfl, hxi⟩, st', fun b hb => (hf b hb).1⟩⟩
  done := by
    intro X hP hw hK hc i pins s σ H E I hf st hg
    subst hP hw hK
    obtain ⟨hH, hi⟩ := hg
    obtain ⟨f0, f1, f2, f3, f4, f5⟩ := hf it (List.mem_singleton.mpr rfl)
    have raw : s.heap.DictRaw p es ep := ⟨o, frz_obj I hH, hx, hdt⟩
    have hl : xs.length = es.size := by rw [← Array.length_toList]; exact Paired.length hp
    exact wpAny_pyNext_keys_end_raw (I.ok.hd hc) st raw (by omega) fun h' eb => ⟨rfl, I.turned (t' := s.toks) (fun b ob hb e1 => eb b ob hb e1) f0 f1 f3 f4 f5⟩
  self := fun A i s Q E st h => by
    refine wpAny_pyIter_slot st.typeIs F.slot_dict_keyiterator_iter (wpAny_call_entry F.slot_dict_keyiterator_iter st.typeIs F.entry_dict_keyiterator_iter ?_ (F.args_dict_keyiterator_iter_1 _))
    show wpAny _ _ (ret (.ref it)) _ E s
    exact wpAny_pure ⟨_, rfl, "dict_keyiterator", _, st.typeIs, F.slot_dict_keyiterator_next.lookup, h⟩
theorem turn_wv (it : Addr) (hx : o.ExactDict) (hdt : o.data = .dict es ep) (hp : Paired (fun x (en : DictEntry) => RelV x en.val) xs es.toList) : Turn P w K tg (Itw p o u xs) [it] it (fun i h => h.IsValIter it p i es.size ep) where
  mem := List.mem_singleton.mpr rfl
  obj := fun i h st b hb => by
    cases List.mem_singleton.mp hb
    obtain ⟨z, e1, c1, d1⟩ := st
    exact ⟨z, e1, fun v q => by rw [d1] at q; cases q⟩
  keep := fun i h h' st kk => st.at fun z e1 => kk it (List.mem_singleton.mpr rfl) z e1
  item := by
    intro X hP hw hK hc i pins s σ H E I hf st hg
    subst hP hw hK
    obtain ⟨hH, hi⟩ := hg
    obtain ⟨f0, f1, f2, f3, f4, f5⟩ := hf it (List.mem_singleton.mpr rfl)
    have raw : s.heap.DictRaw p es ep := ⟨o, frz_obj I hH, hx, hdt⟩
    have hl : xs.length = es.size := by rw [← Array.length_toList]; exact Paired.length hp
    obtain ⟨x, hxi⟩ : ∃ x, xs[i]? = some x := ⟨xs[i], List.getElem?_eq_getElem hi⟩
    obtain ⟨en, hen, rx⟩ := paired_get hp hxi
    have hlt : i < es.size := by omega
    have hee : es[i] = en := by
      rw [Array.getElem?_toList, Array.getElem?_eq_getElem hlt] at hen
      exact Option.some.inj hen
    refine wpAny_pyNext_values_item_raw st raw hlt fun h' st' sb => ?_
    have I1 : Inv X pins σ H { s with heap := h' } := I.turned (t' := s.toks) (fun b ob hb e1 => (sb.2 b hb).trans e1) f0 f1 f3 f4 f5
    obtain ⟨oi, e1, c1, d1⟩ := id st'
    exact ⟨_, rfl, go_of (s := { s with heap := h' }) e1 c1 d1 (by decide) ⟨x, H, I1, by rw [hee]; exact rx, ⟨rfl, hxi⟩, st', fun b hb => (hf b hb).1⟩⟩
  done := by
    intro X hP hw hK hc i pins s σ H E I hf st hg
    subst hP hw hK
    obtain ⟨hH, hi⟩ := hg
    obtain ⟨f0, f1, f2, f3, f4, f5⟩ := hf it (List.mem_singleton.mpr rfl)
    have raw : s.heap.DictRaw p es ep := ⟨o, frz_obj I hH, hx, hdt⟩
    have hl : xs.length = es.size := by rw [← Array.length_toList]; exact Paired.length hp
    exact wpAny_pyNext_values_end_raw (I.ok.hd hc) st raw (by omega) fun h' eb => ⟨rfl, I.turned (t' := s.toks) (fun b ob hb e1 => eb b ob hb e1) f0 f1 f3 f4 f5⟩
  self := fun A i s Q E st h => wpAny_pyIter_valiter st h
end
def iWd (K : PySem.W.Frag) (sel : D × D → D) (td : TE) : TI := fun σ H R => td σ H fun x H1 => ∃ (F : Hp) (p : Addr) (ds : List (D × D)), x = .ref p ∧ Ex F H1 ∧ Rp K F (.ref p) (.dict ds) ∧ ∀ o u xs, F p = some (.frz o u) → RpA K F xs (ds.map sel) → R (Itw p o u xs) H1
section
variable {X : Cx} {tg e : Expr} {td : TE} {apos cpos : Pos} {fe : Fm → Option D}
theorem pi_wkeys (he : PE X e td) : PI X tg e (iWd X.K (·.1) td) := by
  refine ⟨fun pins s σ H R I h => ?_⟩
  refine thn (he.run pins s σ H _ I h) fun v s1 ⟨x, H1, I1, rx, F0, p, ds, ex, ef, r, q⟩ => ?_
  subst ex
  cases (show v = Value.ref p from rx)
  obtain ⟨o, u, es, ep, ks, us, z⟩ := seen_of I1 ef r
  refine iter_keys z.sys z.obj z.ex z.dat (pi_one (tk := s1.toks) I1 _ (turn_wk _ z.ex z.dat z.eks) ⟨_, Heap.get?_push_size _ rfl, rfl, ?_⟩ (q o u ks z.inF z.key))
  rfl
theorem pi_wkeysM (he : PE X e td) (hbase : attributeBase e "keys" X.env (eval e X.env) = eval e X.env := by rfl) (hline : (apos.endLine == cpos.line) = true := by rfl) : PI X tg (.Call (.Attribute e "keys" apos) [] [] cpos) (iWd X.K (·.1) td) := by
  refine ⟨fun pins s σ H R I h => ?_⟩
  refine wpAny_Call_method (T := "dict") (id := "dict.keys") hbase rfl hline  PySem.F.plainAttrs_dict  PySem.F.slot_dict_keys  PySem.F.type_dict_keys (thn (he.run pins s σ H _ I h) fun v s1 ⟨x, H1, I1, rx, F0, p, ds, ex, ef, r, q⟩ => ?_)
  subst ex
  cases (show v = Value.ref p from rx)
  obtain ⟨o, u, es, ep, ks, us, z⟩ := seen_of I1 ef r
  refine ⟨z.raw.typeIs, fun b w => by cases w; exact ⟨o, z.obj, z.ex.2.1⟩, ?_⟩
  have I2 : Inv X pins σ H1 { s1 with heap := s1.heap.push { cls := .type "dict_keys", data := .fields #[.ref p] } } := I1.kept (t' := s1.toks) fun b ob w => Heap.get?_push_of_some _ w
  have fin : wpAny (model X.prog X.w) X.A (pyIter (.ref s1.heap.objs.size)) (PIE X pins σ tg R) X.xe { s1 with heap := s1.heap.push { cls := .type "dict_keys", data := .fields #[.ref p] } } := by
    refine wpAny_pyIter_keys_raw (d := p) ⟨_, Heap.get?_push_size _ rfl, rfl, rfl⟩ (z.raw.at fun ob w => Heap.get?_push_of_some _ w) (pi_one (tk := s1.toks) I2 _ (turn_wk _ z.ex z.dat z.eks) ⟨_, Heap.get?_push_size _ rfl, rfl, ?_⟩ (q o u ks z.inF z.key))
    rfl
  show wpAny _ _ (callWith cpos (.builtin "dict.keys") [.ref p] [] []) _ X.xe s1
  exact method_meetsIn  PySem.F.slot_dict_keys  PySem.F.entry_dict_keys rfl (PySem.evalArgs_none ⟨rfl, z.raw.typeIs,  PySem.F.args_dict_keys_1 _, _, meets_dict_keys_raw p z.sys, ⟨es, ep, z.raw⟩, fin⟩)
theorem pi_wvalsM (he : PE X e td) (hbase : attributeBase e "values" X.env (eval e X.env) = eval e X.env := by rfl) (hline : (apos.endLine == cpos.line) = true := by rfl) : PI X tg (.Call (.Attribute e "values" apos) [] [] cpos) (iWd X.K (·.2) td) := by
  refine ⟨fun pins s σ H R I h => ?_⟩
  refine wpAny_Call_method (T := "dict") (id := "dict.values") hbase rfl hline  PySem.F.plainAttrs_dict  PySem.F.slot_dict_values  PySem.F.type_dict_values (thn (he.run pins s σ H _ I h) fun v s1 ⟨x, H1, I1, rx, F0, p, ds, ex, ef, r, q⟩ => ?_)
  subst ex
  cases (show v = Value.ref p from rx)
  obtain ⟨o, u, es, ep, ks, us, z⟩ := seen_of I1 ef r
  refine ⟨z.raw.typeIs, fun b w => by cases w; exact ⟨o, z.obj, z.ex.2.1⟩, ?_⟩
  have I2 : Inv X pins σ H1 { s1 with heap := s1.heap.push { cls := .type "dict_values", data := .fields #[.ref p] } } := I1.kept (t' := s1.toks) fun b ob w => Heap.get?_push_of_some _ w
  have fin : wpAny (model X.prog X.w) X.A (pyIter (.ref s1.heap.objs.size)) (PIE X pins σ tg R) X.xe { s1 with heap := s1.heap.push { cls := .type "dict_values", data := .fields #[.ref p] } } := by
    refine wpAny_pyIter_values_raw (d := p) ⟨_, Heap.get?_push_size _ rfl, rfl, rfl⟩ (z.raw.at fun ob w => Heap.get?_push_of_some _ w) (pi_one (tk := s1.toks) I2 _ (turn_wv _ z.ex z.dat z.evs) ⟨_, Heap.get?_push_size _ rfl, rfl, ?_⟩ (q o u us z.inF z.val))
    rfl
  show wpAny _ _ (callWith cpos (.builtin "dict.values") [.ref p] [] []) _ X.xe s1
  exact method_meetsIn  PySem.F.slot_dict_values  PySem.F.entry_dict_values rfl (PySem.evalArgs_none ⟨rfl, z.raw.typeIs,  PySem.F.args_dict_values_1 _, _, meets_dict_values_raw p z.sys, ⟨es, ep, z.raw⟩, fin⟩)
theorem ok_wd {K : PySem.W.Frag} {F : Hp} {p : Addr} {o : Obj} {u : HO} {xs : List V} {es : List D} (h : F p = some (.frz o u)) (r : RpA K F xs es) : ItOk K (Itw p o u xs) F es := fun F2 H2 e1 e2 => by
  refine ⟨fun i d hd => ⟨⟨e2 _ _ (e1 _ _ h), ?_⟩, fun x H3 hy => ?_⟩, e2 _ _ (e1 _ _ h), by rw [r.length]; exact Nat.le_refl _⟩
  · rw [r.length]; exact (List.getElem?_eq_some_iff.mp hd).1
  · obtain ⟨rfl, hx⟩ := hy
    obtain ⟨v, h1, h2⟩ := (r.mono e1).get hd
    rw [hx] at h1
    cases h1
    exact ⟨F2, .refl e2, h2⟩
theorem si_wd {sel : D × D → D} {g : D → Option (List D)} {td : TE} (hg : ∀ d es, g d = some es → ∃ ds, d = .dict ds ∧ es = ds.map sel) (h : SP X.K td fe) : SI X.K (iWd X.K sel td) (fun ρ => (fe ρ).bind g) := fun F H σ ρ es hf hR R k => by
  obtain ⟨d, e1, e2⟩ := Option.bind_eq_some_iff.mp hf
  obtain ⟨ds, rfl, rfl⟩ := hg _ _ e2
  refine h F H σ ρ _ e1 hR _ fun v F1 H1 g1 r1 => ?_
  cases hv : v with
  | ref p =>
    subst hv
    exact ⟨F1, p, ds, rfl, g1.in_, r1, fun o u xs hF rx => k _ F1 H1 g1 (ok_wd hF rx)⟩
  | _ => subst hv; cases r1
theorem gKeys_some : ∀ d es, gKeys d = some es → ∃ ds, d = .dict ds ∧ es = ds.map (·.1) := fun d es h => by
  cases d with
  | dict ds => exact ⟨ds, rfl, (Option.some.inj h).symm⟩
  | _ => cases h
theorem gVals_some : ∀ d es, gVals d = some es → ∃ ds, d = .dict ds ∧ es = ds.map (·.2) := fun d es h => by
  cases d with
  | dict ds => exact ⟨ds, rfl, (Option.some.inj h).symm⟩
  | _ => cases h
def iKeys (f : Fm → Option D) (ρ : Fm) : Option (List D) := (f ρ).bind gKeys
def iVals (f : Fm → Option D) (ρ : Fm) : Option (List D) := (f ρ).bind gVals
theorem i_keysM (h : PP X e fe) (hbase : attributeBase e "keys" X.env (eval e X.env) = eval e X.env := by rfl) (hline : (apos.endLine == cpos.line) = true := by rfl) : PIt X tg (.Call (.Attribute e "keys" apos) [] [] cpos) (iKeys fe) :=
  let ⟨_, h1, h2⟩ := h
  ⟨_, pi_wkeysM h1 hbase hline, si_wd gKeys_some h2⟩
theorem i_keys (h : PP X e fe) : PIt X tg e (iKeys fe) := let ⟨_, h1, h2⟩ := h; ⟨_, pi_wkeys h1, si_wd gKeys_some h2⟩
theorem i_valsM (h : PP X e fe) (hbase : attributeBase e "values" X.env (eval e X.env) = eval e X.env := by rfl) (hline : (apos.endLine == cpos.line) = true := by rfl) : PIt X tg (.Call (.Attribute e "values" apos) [] [] cpos) (iVals fe) :=
  let ⟨_, h1, h2⟩ := h
  ⟨_, pi_wvalsM h1 hbase hline, si_wd gVals_some h2⟩
end
end DL
end
section
set_option Elab.async false
set_option linter.all false
set_option maxRecDepth 100000
/-! Views of seen dicts, handed to list, sorted, max, sum. -/
namespace DL
open PySem PySem.Spec PyProof.Rows L2 PySem.Calls
variable [TabT] [FnT]
/-- the view at q of the keys (b: of the values) of the dict at p -/
def VwO (b : Bool) (q p : Addr) : HO := .ext fun h => h.get? q = some { cls := .type (if b = true then "dict_values" else "dict_keys"), data := .fields #[.ref p] }
def selV (b : Bool) (p : D × D) : D := if b = true then p.2 else p.1
def enV (b : Bool) (en : DictEntry) : Value := if b = true then en.val else en.key
def tVw (K : PySem.W.Frag) (b : Bool) (td : TE) : TE := fun σ H Q => td σ H fun x H1 => ∃ (F : Hp) (p : Addr) (ds : List (D × D)), x = .ref p ∧ Ex F H1 ∧ Rp K F (.ref p) (.dict ds) ∧ ∀ q, H1 q = none → Q (.ref q) (upd H1 q (VwO b q p))
section
variable {X : Cx} {e : Expr} {td : TE} {apos cpos : Pos}
theorem pe_vwK (he : PE X e td) (hbase : attributeBase e "keys" X.env (eval e X.env) = eval e X.env := by rfl) (hline : (apos.endLine == cpos.line) = true := by rfl) : PE X (.Call (.Attribute e "keys" apos) [] [] cpos) (tVw X.K false td) := by
  refine ⟨fun pins s σ H Q I h => ?_⟩
  refine wpAny_Call_method (T := "dict") (id := "dict.keys") hbase rfl hline PySem.F.plainAttrs_dict PySem.F.slot_dict_keys PySem.F.type_dict_keys (thn (he.run pins s σ H _ I h) fun v s1 ⟨x, H1, I1, rx, F0, p, ds, ex, ef, r, q⟩ => ?_)
  subst ex
  cases (show v = Value.ref p from rx)
  obtain ⟨o, u, es, ep, ks, us, z⟩ := seen_of I1 ef r
  refine ⟨z.raw.typeIs, fun b w => by cases w; exact ⟨o, z.obj, z.ex.2.1⟩, ?_⟩
  have I2 := I1.laid (a := s1.heap.objs.size) (o := VwO false s1.heap.objs.size p) (h' := s1.heap.push { cls := .type "dict_keys", data := .fields #[.ref p] }) (t' := s1.toks) (fun _ _ q => Heap.get?_push_of_some _ q) (Nat.le_refl _) ⟨Heap.get?_push_size _ rfl, ⟨_, Heap.get?_push_size _ rfl⟩, fun h1 h2 w k => k _ w⟩
  show wpAny _ _ (callWith cpos (.builtin "dict.keys") [.ref p] [] []) _ X.xe s1
  exact method_meetsIn PySem.F.slot_dict_keys PySem.F.entry_dict_keys rfl (PySem.evalArgs_none ⟨rfl, z.raw.typeIs, PySem.F.args_dict_keys_1 _, _, meets_dict_keys_raw p z.sys, ⟨es, ep, z.raw⟩, ⟨.ref s1.heap.objs.size, _, I2, rfl, q _ (I1.hok.fresh (Nat.le_refl _))⟩⟩)
theorem pe_vwV (he : PE X e td) (hbase : attributeBase e "values" X.env (eval e X.env) = eval e X.env := by rfl) (hline : (apos.endLine == cpos.line) = true := by rfl) : PE X (.Call (.Attribute e "values" apos) [] [] cpos) (tVw X.K true td) := by
  refine ⟨fun pins s σ H Q I h => ?_⟩
  refine wpAny_Call_method (T := "dict") (id := "dict.values") hbase rfl hline PySem.F.plainAttrs_dict PySem.F.slot_dict_values PySem.F.type_dict_values (thn (he.run pins s σ H _ I h) fun v s1 ⟨x, H1, I1, rx, F0, p, ds, ex, ef, r, q⟩ => ?_)
  subst ex
  cases (show v = Value.ref p from rx)
  obtain ⟨o, u, es, ep, ks, us, z⟩ := seen_of I1 ef r
  refine ⟨z.raw.typeIs, fun b w => by cases w; exact ⟨o, z.obj, z.ex.2.1⟩, ?_⟩
  have I2 := I1.laid (a := s1.heap.objs.size) (o := VwO true s1.heap.objs.size p) (h' := s1.heap.push { cls := .type "dict_values", data := .fields #[.ref p] }) (t' := s1.toks) (fun _ _ q => Heap.get?_push_of_some _ q) (Nat.le_refl _) ⟨Heap.get?_push_size _ rfl, ⟨_, Heap.get?_push_size _ rfl⟩, fun h1 h2 w k => k _ w⟩
  show wpAny _ _ (callWith cpos (.builtin "dict.values") [.ref p] [] []) _ X.xe s1
  exact method_meetsIn PySem.F.slot_dict_values PySem.F.entry_dict_values rfl (PySem.evalArgs_none ⟨rfl, z.raw.typeIs, PySem.F.args_dict_values_1 _, _, meets_dict_values_raw p z.sys, ⟨es, ep, z.raw⟩, ⟨.ref s1.heap.objs.size, _, I2, rfl, q _ (I1.hok.fresh (Nat.le_refl _))⟩⟩)
end
def vwT (b : Bool) : String := if b = true then "dict_values" else "dict_keys"
/-- the view as a source -/
structure Src (X : Cx) (F H : Hp) (s : Shared) (b : Bool) (q : Addr) (ds : List (D × D)) (es : Array DictEntry) (p : Addr) (OK : Heap → Prop) (xs : List V) : Prop where
  src : PySem.W.KdlSrc X.prog X.w (vwT b) q p es.size (fun i v => ∃ hi : i < es.size, v = enV b es[i]) OK
  ok : OK s.heap
  val : RpA X.K F xs (ds.map (selV b))
  ens : Paired (fun x (en : DictEntry) => RelV x (enV b en)) xs es.toList
section
variable {X : Cx} {pins : List (Addr × Obj)} {σ : L2.St} {F H : Hp} {s : Shared} {p q : Addr} {ds : List (D × D)} {b : Bool}
theorem src_of (I : Inv X pins σ H s) (e : Ex F H) (r : Rp X.K F (.ref p) (.dict ds)) (hq : H q = some (VwO b q p)) : ∃ es OK xs, Src X F H s b q ds es p OK xs := by
  obtain ⟨o, u, es, ep, ks, us, z⟩ := seen_of I e r
  have hv := (I.hok q _ hq).1
  cases b with
  | false => exact ⟨es, _, ks, PySem.KdlSrc.rawKeys (ep := ep), ⟨⟨_, hv, rfl, rfl⟩, z.raw⟩, z.key, z.eks⟩
  | true => exact ⟨es, _, us, PySem.KdlSrc.rawValues (ep := ep), ⟨⟨_, hv, rfl, rfl⟩, z.raw⟩, z.val, z.evs⟩
theorem src_vals {es : Array DictEntry} {xs : List V} {acc : List Value} (h : Paired (fun x (en : DictEntry) => RelV x (enV b en)) xs es.toList) (hl : acc.length = es.size) (hv : ∀ (j : Nat) (v : Value), acc[j]? = some v → ∃ hi : j < es.size, v = enV b es[j]) : Vals xs acc := by
  have key : ∀ {xs : List V} {l : List DictEntry} {acc : List Value}, Paired (fun x (en : DictEntry) => RelV x (enV b en)) xs l → acc.length = l.length → (∀ (j : Nat) (v : Value), acc[j]? = some v → ∃ hi : j < l.length, v = enV b l[j]) → Vals xs acc := by
    intro xs l acc h
    induction h generalizing acc with
    | nil =>
      intro hl _
      cases acc with
      | nil => exact .nil
      | cons _ _ => cases hl
    | cons r t ih =>
      intro hl hv
      cases acc with
      | nil => cases hl
      | cons v acc =>
        refine .cons ?_ (ih (by simpa using hl) fun j w hw => ?_)
        · obtain ⟨_, e⟩ := hv 0 v rfl
          rw [e]; exact r
        · obtain ⟨h1, e⟩ := hv (j + 1) w (by simpa using hw)
          exact ⟨by simpa using h1, by simpa using e⟩
  refine key h (by rw [hl, Array.length_toList]) fun j v hj => ?_
  obtain ⟨h1, e⟩ := hv j v hj
  exact ⟨by rw [Array.length_toList]; exact h1, by rw [e]; simp⟩
theorem Src.len {es : Array DictEntry} {OK : Heap → Prop} {xs : List V} (z : Src X F H s b q ds es p OK xs) : es.size = ds.length := by
  have h1 : xs.length = es.toList.length := Paired.length z.ens
  have h2 : xs.length = (ds.map (selV b)).length := z.val.length
  rw [Array.length_toList] at h1
  rw [List.length_map] at h2
  exact h1.symm.trans h2
end
def rVw (K : PySem.W.Frag) (b : Bool) (fin : Hp → Hp → List D → VK → Prop) : List V → Hp → VK → Prop := fun vs H Q => ∃ (F : Hp) (q p : Addr) (ds : List (D × D)), vs = [.ref q] ∧ Ex F H ∧ H q = some (VwO b q p) ∧ Rp K F (.ref p) (.dict ds) ∧ ds.length ≤ bigN ∧ fin F H (ds.map (selV b)) Q
section
variable {X : Cx} {b : Bool}
theorem cr_listVw (hc : X.calm = true) : CallR X (.type "list") (rVw X.K b fun F H es Q => ∀ l xs, H l = none → RpA X.K F xs es → Q (.ref l) (upd H l (.lst xs))) := by
  intro pins s σ H vs us Q I r h
  obtain ⟨F, q, p, ds, rfl, e, hq, rd, hz, k⟩ := h
  rw [Vals.ref1 r]
  obtain ⟨es, OK, xs, z⟩ := src_of I e rd hq
  have hn := z.len
  refine PySem.W.kdl_call z.src (I.ok.hd hc) z.ok (by rw [hn]; exact Nat.le_trans hz big_le) fun h' tk acc' c' hk hS hacc => ?_
  have rv : Vals xs acc'.toList := src_vals z.ens (by rw [Array.length_toList]; exact hacc.1) fun j v hj => hacc.2 j v (by rw [← Array.getElem?_toList]; exact hj)
  refine ⟨.ref s.heap.objs.size, upd H s.heap.objs.size (.lst xs), I.laid (t' := tk) hk (Nat.le_refl _) ⟨?_, acc'.toList, c', rv, by rw [Array.toArray_toList]; exact hS⟩, rfl, k _ xs (I.hok.fresh (Nat.le_refl _)) z.val⟩
  rw [z.val.length, List.length_map]
  exact Nat.le_trans hz big_le
def kOk (ds : List D) : Bool := okD (.list ds) && alAll ds && srtOk ds
theorem cr_sortVw (hc : X.calm = true) (hu : X.A.units + 70 < cLine) : CallR X (.builtin "sorted") (rVw X.K b fun F H es Q => kOk es = true ∧ ∀ l xs, H l = none → RpA X.K F xs (sortD es) → Q (.ref l) (upd H l (.lst xs))) := by
  intro pins s σ H vs us Q I r h
  obtain ⟨F, q, p, ds, rfl, e, hq, rd, hz, hko, k⟩ := h
  rw [Vals.ref1 r]
  obtain ⟨es, OK, xs, z⟩ := src_of I e rd hq
  have hn := z.len
  unfold kOk at hko
  rw [Bool.and_eq_true, Bool.and_eq_true] at hko
  obtain ⟨⟨c1, c2⟩, c3⟩ := hko
  have hln : (ds.map (selV b)).length ≤ bigN := by rw [List.length_map]; exact hz
  refine sorted_by (W := Rp X.K F) hu I ((z.val.mono e).dpA (okD_list' c1).1) (rpA_pair z.val) c2 c3 hln (okD_list' c1).2 (fun R E hR => ?_) fun ys p hy hp => k p ys hp (pair_rpA hy)
  refine PySem.W.kdu_collect (A := X.A.in1) z.src (I.ok.hd hc) z.ok (by rw [hn]; exact Nat.le_trans hz big_le) fun h1 tk acc hk hacc => hR h1 tk acc.toList hk ?_
  exact src_vals z.ens (by rw [Array.length_toList]; exact hacc.1) fun j v hj => hacc.2 j v (by rw [← Array.getElem?_toList]; exact hj)
end
end DL
end
section
set_option Elab.async false
set_option linter.all false
set_option maxRecDepth 100000
/-! list, sorted, max, sum of a seen dict's keys or values; its length. -/
namespace DL
open PySem PySem.Spec PyProof.Rows L2 PySem.Calls
variable [TabT] [FnT]
theorem enV_vals {b : Bool} {xs : List V} {l : List DictEntry} (h : Paired (fun x (en : DictEntry) => RelV x (enV b en)) xs l) : Vals xs (l.map (enV b)) := by
  induction h with
  | nil => exact .nil
  | cons r _ ih => exact .cons r ih
section
variable {X : Cx} {b : Bool}
theorem cr_maxVw (hc : X.calm = true) (hu : X.A.units + 66 < cLine) : CallR X (.builtin "max") (rVw X.K b fun F H es Q => ∃ y ys, es = y :: ys ∧ okD (.list es) = true ∧ alAll es = true ∧ ∀ v, Rp X.K F v (PySem.W.maxD y ys) → Q v H) := by
  intro pins s σ H vs us Q I r h
  obtain ⟨F, q, p, ds, rfl, e, hq, rd, hz, y, ys, hes, c1, c2, k⟩ := h
  rw [Vals.ref1 r]
  obtain ⟨es, OK, xs, z⟩ := src_of I e rd hq
  have zv := z.val
  rw [hes] at zv c1 c2
  have hd : DpAll X.K H xs (y :: ys) := (zv.mono e).dpA (okD_list c1).1
  have hdp := (okD_list c1).2
  have rv := enV_vals z.ens
  obtain ⟨as, r1⟩ := Dp.readsAll I _ _ _ hd rv
  have hn : es.size = ys.length + 1 := by
    have h1 : xs.length = es.toList.length := Paired.length z.ens
    have h2 : xs.length = (y :: ys).length := zv.length
    rw [Array.length_toList] at h1
    rw [List.length_cons] at h2
    exact h1.symm.trans h2
  refine PySem.call_max_walkH ?_
  obtain ⟨oI, St, hit, W, st⟩ := z.src.iter X.A.in1 s (I.ok.hd hc) z.ok
  have W2 := W.mono_item (P' := fun i v => (es.toList.map (enV b)).toArray[i]? = some v) fun i v hi hv => by
    obtain ⟨h1, rfl⟩ := hv
    simp [h1]
  refine hit _ _ ⟨s.heap.objs.size, _, _, _, es.size, _, _, s.heap, _, rfl, W2.toS, st, fun b hb => ?_, by omega, fun b o w hb => ?_, fun b o w => Heap.get?_push_of_some _ w, PySem.W.cmpIn_gt (A := X.A.in1) (by simpa using r1) (alAll_ok c2) (by show X.A.units + 1 + _ < _; omega), fun v s' hP m => ?_⟩
  · show b < (s.heap.push oI).objs.size
    rw [Heap.size_push]
    rcases List.mem_cons.mp hb with w | hb
    · rw [w]; exact Nat.lt_succ_self _
    · rw [List.mem_singleton.mp hb]
      exact Nat.lt_succ_of_lt (z.src.there _ z.ok).2
  · exact absurd (Heap.lt_size w) (by rw [List.mem_singleton.mp hb]; exact Nat.lt_irrefl _)
  · obtain ⟨h', tk, rfl, hk'⟩ := PySem.W.moved_old (s := s) (o := oI) rfl rfl m
    obtain ⟨bs, r2, _, _, _⟩ := PySem.W.readsAll_atA (vs := (es.toList.map (enV b)).toArray) (by simpa using r1) _ v hP
    have e1 : es.size - 1 = ys.length := by omega
    have e2 := (PySem.W.argBest_fold (fun a b => PySem.W.dataLt b a) PyData.none y ys ys.length (Nat.le_refl _)).2
    rw [List.take_length] at e2
    rw [e1] at r2 hP
    have r3 : Reads h' v (PySem.W.maxD y ys) bs := PySem.W.reads_keeps hk' (by unfold PySem.W.maxD; rw [← e2]; exact r2)
    exact pick_end (I := I) rv hd (okD_list c1).1 hP r3 hk' fun i v hv hd' => by
      obtain ⟨w, h1, h2⟩ := zv.get hd'
      rw [hv] at h1
      cases h1
      exact k v h2
theorem ints_enV {xs : List V} {l : List DictEntry} {ns : List Int} (h : Paired (fun x (en : DictEntry) => RelV x (enV b en)) xs l) (hx : xs = ns.map V.int) : ∀ (i : Nat) (en : DictEntry), l[i]? = some en → ∃ t : Tok, enV b en = Value.int (ns.getD i 0) t := by
  subst hx
  generalize hy : ns.map V.int = ys at h
  induction h generalizing ns with
  | nil => intro i en h; simp at h
  | cons r t ih =>
    cases ns with
    | nil => cases hy
    | cons n ns =>
      cases hy
      intro i en h
      cases i with
      | zero =>
        simp only [List.getElem?_cons_zero, Option.some.injEq] at h
        subst h
        obtain ⟨t, h⟩ := r
        exact ⟨t, h⟩
      | succ i => exact ih rfl i en (by simpa using h)
theorem cr_sumVw (hc : X.calm = true) : CallR X (.builtin "sum") (rVw X.K b fun F H es Q => ∃ ns, intsD es = some ns ∧ Q (.int ns.sum) H) := by
  intro pins s σ H vs us Q I r h
  obtain ⟨F, q, p, ds, rfl, e, hq, rd, hz, ns, hes, k⟩ := h
  rw [Vals.ref1 r]
  obtain ⟨es, OK, xs, z⟩ := src_of I e rd hq
  have hx := ints_of z.val hes
  have hn : es.size = ns.length := by
    have h1 : xs.length = es.toList.length := Paired.length z.ens
    rw [hx, List.length_map, Array.length_toList] at h1
    exact h1.symm
  have hi := ints_enV z.ens hx
  refine call_sum_walkAnyS ?_
  obtain ⟨oI, St, hit, W, st⟩ := z.src.iter X.A.in1 s (I.ok.hd hc) z.ok
  refine hit _ _ ⟨s.heap.objs.size, _, _, _, es.size, _, _, fun i => ns.getD i 0, rfl, W.toS, st, fun b hb => ?_, fun i v hv => ?_, fun s' t' hm => ?_⟩
  · show b < (s.heap.push oI).objs.size
    rw [Heap.size_push]
    rcases List.mem_cons.mp hb with w | hb
    · rw [w]; exact Nat.lt_succ_self _
    · rw [List.mem_singleton.mp hb]
      exact Nat.lt_succ_of_lt (z.src.there _ z.ok).2
  · obtain ⟨h1, rfl⟩ := hv
    exact hi i es[i] (by rw [Array.getElem?_toList]; exact Array.getElem?_eq_getElem h1)
  · have hk : ∀ b o, s.heap.get? b = some o → s'.heap.get? b = some o := fun b o w =>
      hm.heap b o (fun hI => absurd (Heap.lt_size w) (by rw [List.mem_singleton.mp hI]; exact Nat.lt_irrefl _)) (Heap.get?_push_of_some _ w)
    rw [Moved.eq_with hm]
    refine ⟨.int ns.sum, H, I.kept (t' := s'.toks) hk, ⟨t', ?_⟩, k⟩
    rw [hn, preSum_getD, List.take_length]
end
def gVw (b : Bool) : D → Option (List D)
  | .dict ds => if ds.length ≤ bigN then some (ds.map (selV b)) else none
  | _ => none
def fVw (b : Bool) (g : List D → Option D) (fe : Fm → Option D) (ρ : Fm) : Option D := (fe ρ).bind fun d => (gVw b d).bind g
def gList_ (es : List D) : Option D := some (.list es)
def gSort_ (es : List D) : Option D := if kOk es = true then some (.list (sortD es)) else none
def gMax_ : List D → Option D
  | y :: ys => if okD (.list (y :: ys)) && alAll (y :: ys) then some (PySem.W.maxD y ys) else none
  | [] => none
def gSum_ (es : List D) : Option D := (intsD es).map fun ns => .int ns.sum
section
variable {X : Cx} {b : Bool} {e v : Expr} {pos p : Pos} {fe : Fm → Option D}
theorem sp_vw {fin : Hp → Hp → List D → VK → Prop} {g : List D → Option D} {td : TE} {r : List V → Hp → VK → Prop} (hr : r = rVw X.K b fin) (hf : ∀ F H es dz, Ex F H → es.length ≤ bigN → g es = some dz → ∀ Q : VK, Res X.K F H dz Q → fin F H es Q) (h : SP X.K td fe) : SP X.K (tCB r (tCons (tVw X.K b td) tNil)) (fVw b g fe) := by
  subst hr
  intro F H σ ρ d hf' hR Q k
  obtain ⟨dx, e1, hf'⟩ := Option.bind_eq_some_iff.mp hf'
  obtain ⟨es, e2, e3⟩ := Option.bind_eq_some_iff.mp hf'
  cases dx with
  | dict ds =>
    unfold gVw at e2
    dsimp only at e2
    split at e2
    · rename_i hz
      cases e2
      refine h F H σ ρ _ e1 hR _ fun v F1 H1 g1 r1 => ?_
      obtain ⟨p, rfl⟩ : ∃ p, v = .ref p := by cases r1 <;> exact ⟨_, rfl⟩
      refine ⟨F1, p, ds, rfl, g1.in_, r1, fun q hq => ?_⟩
      have g2 := Gr.newH (o := VwO b q p) g1.in_ hq
      exact ⟨F1, q, p, ds, rfl, g2.in_, upd_same, r1, hz, hf F1 _ _ _ g2.in_ (by rw [List.length_map]; exact hz) e3 Q (k.gr (g1.trans g2))⟩
    · cases e2
  | _ => cases e2
theorem fin_list : ∀ F H es dz, Ex F H → es.length ≤ bigN → gList_ es = some dz → ∀ Q : VK, Res X.K F H dz Q → (fun (F H : Hp) (es : List D) (Q : VK) => ∀ l xs, H l = none → RpA X.K F xs es → Q (.ref l) (upd H l (.lst xs))) F H es Q := by
  intro F H es dz e hz hg Q k l xs hl r
  cases hg
  exact k.lst e r l hl
theorem fin_sort : ∀ F H es dz, Ex F H → es.length ≤ bigN → gSort_ es = some dz → ∀ Q : VK, Res X.K F H dz Q → (fun (F H : Hp) (es : List D) (Q : VK) => kOk es = true ∧ ∀ l xs, H l = none → RpA X.K F xs (sortD es) → Q (.ref l) (upd H l (.lst xs))) F H es Q := by
  intro F H es dz e hz hg Q k
  unfold gSort_ at hg
  split at hg
  · rename_i hk
    cases hg
    exact ⟨hk, fun l xs hl r => k.lst e r l hl⟩
  · cases hg
theorem fin_max : ∀ F H es dz, Ex F H → es.length ≤ bigN → gMax_ es = some dz → ∀ Q : VK, Res X.K F H dz Q → (fun (F H : Hp) (es : List D) (Q : VK) => ∃ y ys, es = y :: ys ∧ okD (.list es) = true ∧ alAll es = true ∧ ∀ v, Rp X.K F v (PySem.W.maxD y ys) → Q v H) F H es Q := by
  intro F H es dz e hz hg Q k
  cases es with
  | nil => cases hg
  | cons y ys =>
    unfold gMax_ at hg
    dsimp only at hg
    split at hg
    · rename_i hk
      cases hg
      rw [Bool.and_eq_true] at hk
      exact ⟨y, ys, rfl, hk.1, hk.2, fun v r => k.at_ e r⟩
    · cases hg
theorem fin_sum : ∀ F H es dz, Ex F H → es.length ≤ bigN → gSum_ es = some dz → ∀ Q : VK, Res X.K F H dz Q → (fun (F H : Hp) (es : List D) (Q : VK) => ∃ ns, intsD es = some ns ∧ Q (.int ns.sum) H) F H es Q := by
  intro F H es dz e hz hg Q k
  obtain ⟨ns, h1, h2⟩ := Option.map_eq_some_iff.mp hg
  cases h2
  exact ⟨ns, h1, k.sc e fun _ => .int _⟩
variable {apos cpos : Pos}
/-- PVw: the view's expression -/
def PVw (X : Cx) (b : Bool) (v : Expr) (f : Fm → Option D) : Prop := ∃ td, PE X v (tVw X.K b td) ∧ SP X.K td f
theorem v_keys (h : PP X e fe) (hbase : attributeBase e "keys" X.env (eval e X.env) = eval e X.env := by rfl) (hline : (apos.endLine == cpos.line) = true := by rfl) : PVw X false (.Call (.Attribute e "keys" apos) [] [] cpos) fe := let ⟨t, h1, h2⟩ := h; ⟨t, pe_vwK h1 hbase hline, h2⟩
theorem v_vals (h : PP X e fe) (hbase : attributeBase e "values" X.env (eval e X.env) = eval e X.env := by rfl) (hline : (apos.endLine == cpos.line) = true := by rfl) : PVw X true (.Call (.Attribute e "values" apos) [] [] cpos) fe := let ⟨t, h1, h2⟩ := h; ⟨t, pe_vwV h1 hbase hline, h2⟩
theorem d_vlist (hc : X.calm = true) (B : Bt X.mg) (h : PVw X b v fe) (hg : Gl X "list" := by rfl) (hs : starEach [v] X.env = (false, eval v X.env) :: starEach [] X.env := by rfl) : PP X (.Call (.Name "list" p) [v] [] pos) (fVw b gList_ fe) :=
  let ⟨_, h1, h2⟩ := h
  ⟨_, pe_callTy (cr_listVw hc) hg B.list PyProof.Rows.boot_list (pa_cons h1 pa_nil hs) (by decide) (by decide) hs rfl, sp_vw rfl fin_list h2⟩
theorem d_vsort {k : Nat} (hc : X.calm = true) (hr : Room k X.A) (B : Bt X.mg) (h : PVw X b v fe) (hg : Gl X "sorted" := by rfl) (hs : starEach [v] X.env = (false, eval v X.env) :: starEach [] X.env := by rfl) : PP X (.Call (.Name "sorted" p) [v] [] pos) (fVw b gSort_ fe) :=
  let ⟨_, h1, h2⟩ := h
  ⟨_, pe_callB (cr_sortVw hc (Room.u70 hr)) hg B.sorted PyProof.Rows.boot_sorted (pa_cons h1 pa_nil hs) (by decide) (by decide) hs rfl, sp_vw rfl fin_sort h2⟩
theorem d_vmax {k : Nat} (hc : X.calm = true) (hr : Room k X.A) (B : Bt X.mg) (h : PVw X b v fe) (hg : Gl X "max" := by rfl) (hs : starEach [v] X.env = (false, eval v X.env) :: starEach [] X.env := by rfl) : PP X (.Call (.Name "max" p) [v] [] pos) (fVw b gMax_ fe) :=
  let ⟨_, h1, h2⟩ := h
  ⟨_, pe_callB (cr_maxVw hc (Room.u66 hr)) hg B.max PyProof.Rows.boot_max (pa_cons h1 pa_nil hs) (by decide) (by decide) hs rfl, sp_vw rfl fin_max h2⟩
theorem d_vsum (hc : X.calm = true) (B : Bt X.mg) (h : PVw X b v fe) (hg : Gl X "sum" := by rfl) (hs : starEach [v] X.env = (false, eval v X.env) :: starEach [] X.env := by rfl) : PP X (.Call (.Name "sum" p) [v] [] pos) (fVw b gSum_ fe) :=
  let ⟨_, h1, h2⟩ := h
  ⟨_, pe_callB (cr_sumVw hc) hg B.sum PyProof.Rows.boot_sum (pa_cons h1 pa_nil hs) (by decide) (by decide) hs rfl, sp_vw rfl fin_sum h2⟩
end
/-! len(d) -/
section
variable {X : Cx} {e : Expr} {pos p : Pos} {fe : Fm → Option D}
theorem cr_lenD [hW : WH X.w] : CallR X (.builtin "len") (fun vs H Q => ∃ (F : Hp) (p : Addr) (ds : List (D × D)), vs = [.ref p] ∧ Ex F H ∧ DV X.K F H p ds ∧ ds.length ≤ bigN ∧ Q (.int ds.length) H) := by
  intro pins s σ H vs us Q I r h
  obtain ⟨F, p, ds, rfl, e, dv, hz, k⟩ := h
  rw [Vals.ref1 r]
  have hb := big_le
  rcases dv with ⟨kvs, rd, rr⟩ | ⟨xs, rd, rr⟩
  · rw [← rr.len] at k
    exact L2.d_len I rd fun t s' I' => ⟨.int kvs.length, H, I', ⟨t, rfl⟩, k⟩
  · obtain ⟨hd, hz2, dd⟩ := dn_facts I e rd rr
    have km : s.heap.DictKeyed (nestedKind X.prog X.w) p (pairsH xs) := ⟨xs, dd, rfl⟩
    have hl : (pairsH xs).length = ds.length := by rw [pairsH_length, rr.len]
    rw [← hl] at k
    refine PyProof.Rows.call_len_slot (n := (pairsH xs).length) km.typeIs PySem.F.slot_dict_len (fun Q' hq => len_keyed hd km hq) (by omega) ?_ ?_
    · rw [hl]
      have : bigN < 9223372036854775808 := by decide
      omega
    · exact ⟨.int (pairsH xs).length, H, I.tok _, ⟨_, rfl⟩, k⟩
def gLenZ : D → Option D
  | .dict ds => if ds.length ≤ bigN then some (.int ds.length) else none
  | _ => none
theorem d_lenD (B : Bt X.mg) (ha : PV X e fe) (hg : Gl X "len" := by rfl) (hs : starEach [e] X.env = (false, eval e X.env) :: starEach [] X.env := by rfl) (hW : WH X.w := by assumption) : PP X (.Call (.Name "len" p) [e] [] pos) (fOp1 gLenZ fe) :=
  d_b1 cr_lenD PySem.boot_len (fun F H x dx dz e hx hg Q k => by
    cases dx with
    | dict ds =>
      unfold gLenZ at hg
      dsimp only at hg
      split at hg
      · rename_i hz
        cases hg
        obtain ⟨p, rfl, dv⟩ := hx.dict e
        exact ⟨F, p, ds, rfl, e, dv, hz, k.sc e fun _ => .int _⟩
      · cases hg
    | _ => cases hg) hg B.len ha (by decide) (by decide) hs
end
end DL
end
section
set_option Elab.async false
set_option linter.all false
set_option maxRecDepth 100000
/-! max, min of two; dicts made and seen at once. -/
namespace DL
open PySem PySem.Spec PyProof.Rows L2 PySem.Calls
variable [TabT] [FnT]
def gMax2 : D → D → Option D
  | .int i, .int j => some (.int (if j > i then j else i))
  | _, _ => none
def gMin2 : D → D → Option D
  | .int i, .int j => some (.int (if j < i then j else i))
  | _, _ => none
section
variable {X : Cx} {a b e k v : Expr} {pos p : Pos} {fa fb fe fk fv : Fm → Option D}
theorem sp_call2 {K : PySem.W.Frag} {r : List V → Hp → VK → Prop} {g : D → D → Option D} {ta tb : TE} {fa fb : Fm → Option D} (hr : ∀ F H x y dx dy dz, Ex F H → Vw K F H x dx → Vw K F H y dy → g dx dy = some dz → ∀ Q : VK, Res K F H dz Q → r [x, y] H Q)
    (ha : SV K ta fa) (hb : SV K tb fb) : SP K (tCB r (tCons ta (tCons tb tNil))) (fOp2 g fa fb) := by
  intro F H σ ρ d hf hR Q k
  obtain ⟨dx, h1, hf⟩ := Option.bind_eq_some_iff.mp hf
  obtain ⟨dy, h2, hf⟩ := Option.bind_eq_some_iff.mp hf
  refine ha F H σ ρ dx h1 hR _ fun x F1 H1 g1 r1 => hb F1 H1 σ ρ dy h2 (hR.gr g1) _ fun y F2 H2 g2 r2 => ?_
  exact hr F2 H2 x y dx dy d g2.in_ (r1.gr g2) r2 hf Q (k.gr (g1.trans g2))
theorem d_max2 (hc : X.calm = true) (B : Bt X.mg) (ha : PV X a fa) (hb : PV X b fb) (hg : Gl X "max" := by rfl) (hs : starEach [a, b] X.env = (false, eval a X.env) :: starEach [b] X.env := by rfl) (hs2 : starEach [b] X.env = (false, eval b X.env) :: starEach [] X.env := by rfl) : PP X (.Call (.Name "max" p) [a, b] [] pos) (fOp2 gMax2 fa fb) :=
  let ⟨_, h1, h2⟩ := ha
  let ⟨_, h3, h4⟩ := hb
  ⟨_, pe_callB (call_max2 hc) hg B.max PyProof.Rows.boot_max (pa_cons h1 (pa_cons h3 pa_nil hs2) hs) (by decide) (by decide) hs (by rw [hs2]; rfl), sp_call2 (fun F H x y dx dy dz e hx hy hg Q k => by
    unfold gMax2 at hg
    split at hg
    · cases hg
      exact ⟨_, _, by rw [hx.int, hy.int], k.sc e fun _ => .int _⟩
    · cases hg) h2 h4⟩
theorem d_min2 (hc : X.calm = true) (B : Bt X.mg) (ha : PV X a fa) (hb : PV X b fb) (hg : Gl X "min" := by rfl) (hs : starEach [a, b] X.env = (false, eval a X.env) :: starEach [b] X.env := by rfl) (hs2 : starEach [b] X.env = (false, eval b X.env) :: starEach [] X.env := by rfl) : PP X (.Call (.Name "min" p) [a, b] [] pos) (fOp2 gMin2 fa fb) :=
  let ⟨_, h1, h2⟩ := ha
  let ⟨_, h3, h4⟩ := hb
  ⟨_, pe_callB (call_min2 hc) hg B.min PyProof.Rows.boot_min (pa_cons h1 (pa_cons h3 pa_nil hs2) hs) (by decide) (by decide) hs (by rw [hs2]; rfl), sp_call2 (fun F H x y dx dy dz e hx hy hg Q k => by
    unfold gMin2 at hg
    split at hg
    · cases hg
      exact ⟨_, _, by rw [hx.int, hy.int], k.sc e fun _ => .int _⟩
    · cases hg) h2 h4⟩
/-- a new thing, known from its making on -/
def tSeeE (t : TE) : TE := fun σ H Q => t σ H fun v H' => ∃ (a : Addr) (u : HO), v = .ref a ∧ H' a = some u ∧ Mut (some u) ∧ ∀ od, Q v (upd H' a (.frz od u))
theorem pe_seeE {t : TE} (h : PE X e t) : PE X e (tSeeE t) := by
  refine ⟨fun pins s σ H Q I hw => ?_⟩
  refine thn (h.run pins s σ H _ I hw) fun v s1 ⟨x, H1, I1, rx, a, u, ex, hu, mu, q⟩ => ?_
  obtain ⟨od, I2⟩ := I1.lock hu mu
  exact ⟨x, _, I2, rx, q od⟩
/-- {} seen at once -/
theorem d_new0 : PP X (.Dict [] [] pos) (fun _ => some (.dict [])) := ⟨_, pe_seeE pe_newN, fun F H σ ρ d hf hR Q q p hp => by
  cases hf
  refine ⟨p, DN p [], rfl, upd_same, trivial, fun od => ?_⟩
  rw [upd_upd]
  exact q _ _ _ (Gr.new hR.ex hp) (.dn (xs := []) upd_same .nil)⟩
/-- {k: v} seen at once -/
theorem d_new1 {n : Nat} (hr : Room n X.A) (hk : PP X k fk) (hv : PP X v fv) (hW : WH X.w := by assumption) : PP X (.Dict [some k] [v] pos) (fun ρ => (fk ρ).bind fun kd => (fv ρ).bind fun d => (kOf true kd).map fun _ => .dict [(kd, d)]) := by
  obtain ⟨tk, h1, h2⟩ := hk
  obtain ⟨tv, h3, h4⟩ := hv
  refine ⟨_, pe_seeE (pe_new1 (by have := Room.u66 hr; omega) h1 h3), fun F H σ ρ b hf hR Q kk p hp => ?_⟩
  obtain ⟨kd, e1, hf⟩ := Option.bind_eq_some_iff.mp hf
  obtain ⟨d, e2, hf⟩ := Option.bind_eq_some_iff.mp hf
  obtain ⟨k0, e3, hf⟩ := Option.map_eq_some_iff.mp hf
  cases hf
  have g0 := Gr.newH (o := DN p []) hR.ex hp
  refine h2 F _ σ ρ _ e1 (hR.gr g0) _ fun x F1 H1 g1 r1 => h4 F1 H1 σ ρ _ e2 ((hR.gr g0).gr g1) _ fun y F2 H2 g2 r2 => ?_
  have g12 := g1.trans g2
  have hF0 : F p = none := hR.ex.free hp
  have hF2 : F2 p = none := g12.hide p (by rw [upd_same]; intro z; cases z) hF0
  refine ⟨F2, kd, d, k0, g2.in_, g12.keep _ _ upd_same noTb_ext, r1.mono g2.ex, e3, r2, fun xs rx => ⟨p, DN p xs, rfl, upd_same, trivial, fun od => ?_⟩⟩
  rw [upd_upd]
  have exF : Ex F2 (upd F2 p (.frz od (DN p xs))) := .new hF2
  exact kk _ (upd F2 p (.frz od (DN p xs))) _ (((g0.trans g12).over hp hF2 (g12.keep _ _ upd_same noTb_ext) noTb_ext).seeN hp hF2 upd_same fun ps z => by cases z) (.dn upd_same (RpN.mono exF rx))
end
end DL
end
section
set_option Elab.async false
set_option linter.all false
set_option maxRecDepth 100000
/-! zip of two: lists, tuples, in any mix. -/
namespace DL
open PySem PySem.Spec PyProof.Rows L2
variable [TabT] [FnT]
/-- a list (true) or a tuple (false) of the walk -/
def SqB (k : Bool) (K : PySem.W.Frag) (H : Hp) (a : Addr) (xs : List V) : Prop := cond k (SqL K H a xs) (SqT K H a xs)
def BIs (k : Bool) (h : Heap) (a : Addr) (its : Array Value) : Prop := cond k (h.IsList a its) (h.IsTuple a its)
def BIt (k : Bool) (h : Heap) (it a : Addr) (i : Nat) : Prop := cond k (h.IsListIter it a i) (h.IsTupleIter it a i)
def bItO (k : Bool) (a : Addr) : Obj := cond k { cls := .type "list_iterator", data := .fields #[.ref a, .int 0 0] } { cls := .type "tuple_iterator", data := .fields #[.ref a, .int 0 0] }
theorem draws_b {prog : Program} {w : World} {A : Around} (hh : A.handled = none) (k : Bool) (it a : Addr) (hne : a ≠ it) (its : Array Value) :
    Draws prog w A it [it, a] its.size (fun i v => its[i]? = some v) (fun i h => BIt k h it a i ∧ BIs k h a its) := by
  cases k
  · exact Draws.tuple hh it a hne its
  · exact Draws.list hh it a hne its
theorem begins_b (k : Bool) (a : Addr) (its : Array Value) : Begins (.ref a) (bItO k a) fun h => BIs k h a its := by
  cases k
  · exact begins_tuple a its
  · exact begins_list a its
theorem BIt.new (k : Bool) {h : Heap} {it a : Addr} (e : h.get? it = some (bItO k a)) : BIt k h it a 0 := by
  cases k
  · exact ⟨_, e, rfl, rfl⟩
  · exact ⟨_, e, rfl, rfl⟩
theorem BIt.obj {k : Bool} {h : Heap} {it a : Addr} {i : Nat} (x : BIt k h it a i) : ∃ o, h.get? it = some o ∧ ∀ v q, o.data = .seq v q → False := by
  cases k
  · obtain ⟨o, h1, _, h2⟩ := x
    exact ⟨o, h1, fun v q e => by rw [h2] at e; cases e⟩
  · obtain ⟨o, h1, _, h2⟩ := x
    exact ⟨o, h1, fun v q e => by rw [h2] at e; cases e⟩
theorem BIt.keep {k : Bool} {h h' : Heap} {it a : Addr} {i : Nat} (x : BIt k h it a i) (e : ∀ o, h.get? it = some o → h'.get? it = some o) : BIt k h' it a i := by
  cases k
  · exact x.at e
  · exact x.at e
section
variable {X : Cx} {pins : List (Addr × Obj)} {σ : L2.St} {H : Hp} {s : Shared}
theorem sqB_at {k : Bool} {a : Addr} {xs : List V} (I : Inv X pins σ H s) (q : SqB k X.K H a xs) : ∃ its : List Value, Vals xs its ∧ BIs k s.heap a its.toArray ∧ a < s.heap.objs.size := by
  cases k
  · obtain ⟨its, rv, p, hz⟩ := I.tuple q
    obtain ⟨o, ho, _⟩ := id (isTup_tuple p)
    exact ⟨its, rv, isTup_tuple p, Heap.lt_size ho⟩
  · obtain ⟨its, rv, p, hz⟩ := I.list q
    exact ⟨its, rv, p.isList, p.lt⟩
theorem sqB_inj {k : Bool} {a : Addr} {xs ys : List V} (I : Inv X pins σ H s) (q : SqB k X.K H a xs) (q' : SqB k X.K H a ys) : xs = ys := by
  cases k
  · exact I.tuple_inj q q'
  · exact I.list_inj q q'
end
/-- the two as they stand at each turn, the items in new pairs -/
def ItzB (k l : Bool) (K : PySem.W.Frag) (a b : Addr) : It :=
  ⟨fun i H => ∃ (xs ys : List V) (x y : V), SqB k K H a xs ∧ SqB l K H b ys ∧ xs[i]? = some x ∧ ys[i]? = some y,
    fun i H v H' => ∃ (T : Addr) (x y : V) (ob : Obj), v = .ref T ∧ H T = none ∧ ob.dict = none ∧ H' = upd H T (.frz ob (.tup [x, y])) ∧ (∀ xs, SqB k K H a xs → xs[i]? = some x) ∧ ∀ ys, SqB l K H b ys → ys[i]? = some y,
    fun i H => ∃ xs ys : List V, SqB k K H a xs ∧ SqB l K H b ys ∧ (xs.length = i ∧ i ≤ ys.length ∨ ys.length = i ∧ i ≤ xs.length)⟩
theorem turn_zipB {P : Program} {w : World} {K : PySem.W.Frag} {elts : List Expr} {kk : Nat} {tpos : Pos} {k l : Bool} {a b z TI TO i1 i2 : Addr} (D : ZipSep2 z TI TO i1 i2 [i1, a] [i2, b]) (na : a ≠ i1) (nb : b ≠ i2) :
    Turn P w K (.Tuple elts kk tpos) (ItzB k l K a b) [z, TI, TO, i1, i2] z (fun i h => IsZip h z TI TO .none ∧ IsTupOf2 h TI (.ref i1) (.ref i2) ∧ (∃ x y, IsTupOf2 h TO x y) ∧ BIt k h i1 a i ∧ BIt l h i2 b i) where
  mem := by simp
  obj := fun i h st c hc => by
    obtain ⟨hz, hTI, ⟨x, y, hTO⟩, h1, h2⟩ := st
    obtain ⟨o1, e1, d1⟩ := h1.obj
    obtain ⟨o2, e2, d2⟩ := h2.obj
    have e' : c = z ∨ c = TI ∨ c = TO ∨ c = i1 ∨ c = i2 := by simpa using hc
    rcases e' with q | q | q | q | q
    · rw [q]; exact ⟨_, hz, fun v q => nomatch q⟩
    · rw [q]; exact ⟨_, hTI, fun v q => nomatch q⟩
    · rw [q]; exact ⟨_, hTO, fun v q => nomatch q⟩
    · rw [q]
      refine ⟨o1, e1, fun v q => ?_⟩
      cases k
      · obtain ⟨o, h5, _, h6⟩ := h1
        rw [e1] at h5; cases h5; rw [h6] at q; cases q
      · obtain ⟨o, h5, _, h6⟩ := h1
        rw [e1] at h5; cases h5; rw [h6] at q; cases q
    · rw [q]
      refine ⟨o2, e2, fun v q => ?_⟩
      cases l
      · obtain ⟨o, h5, _, h6⟩ := h2
        rw [e2] at h5; cases h5; rw [h6] at q; cases q
      · obtain ⟨o, h5, _, h6⟩ := h2
        rw [e2] at h5; cases h5; rw [h6] at q; cases q
  keep := fun i h h' st kp => by
    obtain ⟨hz, hTI, ⟨x, y, hTO⟩, h1, h2⟩ := st
    exact ⟨kp z (by simp) _ hz, kp TI (by simp) _ hTI, ⟨x, y, kp TO (by simp) _ hTO⟩, h1.keep fun o q => kp i1 (by simp) o q, h2.keep fun o q => kp i2 (by simp) o q⟩
  item := by
    intro X hP hw hK hc i pins s σ H E I hf st hg
    subst hP hw hK
    obtain ⟨hz, hTI, ⟨x0, y0, hTO⟩, h1, h2⟩ := st
    obtain ⟨xs, ys, x, y, hqx, hqy, hx, hy⟩ := hg
    obtain ⟨its, rv, p, _⟩ := sqB_at I hqx
    obtain ⟨its2, rv2, p2, _⟩ := sqB_at I hqy
    obtain ⟨u, hu, ru⟩ := rv.get hx
    obtain ⟨u2, hu2, ru2⟩ := rv2.get hy
    have hzl : z < s.heap.objs.size := Heap.lt_size hz
    have hh : X.A.in1.handled = none := I.ok.hd hc
    have lt1 : i < its.toArray.size := by simpa using (List.getElem?_eq_some_iff.mp hu).1
    have lt2 : i < its2.toArray.size := by simpa using (List.getElem?_eq_some_iff.mp hu2).1
    refine wpAny_pyNext_zipD2_item D (draws_b hh k i1 a na its.toArray) (draws_b hh l i2 b nb its2.toArray) hz hTI hTO ⟨h1, p⟩ ⟨h2, p2⟩ lt1 lt2 fun w1 w2 h' tk P1 P2 z' TO' st1 st2 hT hsz hk => ?_
    have q1 : w1 = u := by
      have e1 : its.toArray[i]? = some u := by simpa using hu
      have e2 : its.toArray[i]? = some w1 := P1
      rw [e1] at e2
      exact (Option.some.inj e2).symm
    have q2 : w2 = u2 := by
      have e1 : its2.toArray[i]? = some u2 := by simpa using hu2
      have e2 : its2.toArray[i]? = some w2 := P2
      rw [e1] at e2
      exact (Option.some.inj e2).symm
    subst q1 q2
    refine ⟨_, rfl, wpAny_letOwnedTupleGo_zip (s := { s with heap := h', toks := tk }) z' fun h'' z'' sb => ?_⟩
    have hT2 : h''.get? s.heap.objs.size = some { cls := .type "tuple", data := .seq #[w1, w2] } := (sb.2 _ (Nat.ne_of_gt hzl)).trans hT
    have new : ObjOk X.prog X.w (upd H s.heap.objs.size (.frz { cls := .type "tuple", data := .seq #[w1, w2] } (.tup [x, y]))) h'' s.heap.objs.size (.frz { cls := .type "tuple", data := .seq #[w1, w2] } (.tup [x, y])) :=
      ⟨hT2, by show 2 ≤ sizeLine; decide, [w1, w2], .cons ru (.cons ru2 .nil), ⟨_, hT2, rfl, _, rfl⟩⟩
    have I1 : Inv X pins σ (upd H s.heap.objs.size (.frz { cls := .type "tuple", data := .seq #[w1, w2] } (.tup [x, y]))) { s with heap := h'', toks := tk } :=
      I.turnedNew (t' := tk) (ch := [z, TI, TO, i1, i2]) (fun c o hb q => (sb.2 c (fun q' => hb (by simp [q']))).trans (hk c o (fun q' => hb (by simp [q'])) (fun q' => hb (by simp [q'])) (fun q' => hb (by simp [q'])) (fun q' => hb (by simp [q'])) q)) hf (Nat.le_refl _) new
    refine ⟨.ref s.heap.objs.size, _, I1, rfl, ⟨_, x, y, _, rfl, I.hok.fresh (Nat.le_refl _), rfl, rfl, fun l hl => by rw [sqB_inj I hl hqx]; exact hx, fun l hl => by rw [sqB_inj I hl hqy]; exact hy⟩, ⟨z'', ?_, ⟨w1, w2, ?_⟩, ?_, ?_⟩, fun c hcm => ?_⟩
    · exact (sb.2 _ D.TIz).trans (hk _ _ D.TIz D.TITO D.TIi1 D.TIi2 hTI)
    · exact (sb.2 _ D.TOz).trans TO'
    · exact st1.1.keep fun o q => (sb.2 _ (Ne.symm D.zi1)).trans q
    · exact st2.1.keep fun o q => (sb.2 _ (Ne.symm D.zi2)).trans q
    · have hlt : c < s.heap.objs.size := by
        have e' : c = z ∨ c = TI ∨ c = TO ∨ c = i1 ∨ c = i2 := by simpa using hcm
        rcases e' with q | q | q | q | q
        · rw [q]; exact hzl
        · rw [q]; exact Heap.lt_size hTI
        · rw [q]; exact Heap.lt_size hTO
        · rw [q]; obtain ⟨_, e1, _⟩ := h1.obj; exact Heap.lt_size e1
        · rw [q]; obtain ⟨_, e2, _⟩ := h2.obj; exact Heap.lt_size e2
      rw [upd_ne (Nat.ne_of_lt hlt)]
      exact (hf c hcm).1
  done := by
    intro X hP hw hK hc i pins s σ H E I hf st hg
    subst hP hw hK
    obtain ⟨hz, hTI, ⟨x0, y0, hTO⟩, h1, h2⟩ := st
    obtain ⟨xs, ys, hqx, hqy, hend⟩ := hg
    obtain ⟨its, rv, p, _⟩ := sqB_at I hqx
    obtain ⟨its2, rv2, p2, _⟩ := sqB_at I hqy
    have hh : X.A.in1.handled = none := I.ok.hd hc
    have l1 : its.toArray.size = xs.length := by rw [List.size_toArray, rv.length]
    have l2 : its2.toArray.size = ys.length := by rw [List.size_toArray, rv2.length]
    exact wpAny_pyNext_zipD2_end (i := i) D (draws_b hh k i1 a na its.toArray) (draws_b hh l i2 b nb its2.toArray) hz hTI hTO ⟨h1, p⟩ ⟨h2, p2⟩ (by omega) (by omega) (by omega) fun h' tk hk => ⟨rfl, I.turnedL (t' := tk) (ch := [z, TI, TO, i1, i2]) (fun c o hb q =>
      hk c o (fun q' => hb (by simp [q'])) (fun q' => hb (by simp [q'])) (fun q' => hb (by simp [q'])) (fun q' => hb (by simp [q'])) q) hf⟩
  self := fun A i s Q E st h => wpAny_pyIter_zip st.1 h
def iZipB (K : PySem.W.Frag) (ta : TA) : TI := fun σ H R => ta σ H fun vs H1 => ∃ k l a b xs ys, vs = [.ref a, .ref b] ∧ SqB k K H1 a xs ∧ SqB l K H1 b ys ∧ R (ItzB k l K a b) H1
theorem pi_zipB {X : Cx} {e e2 : Expr} {ta : TA} {p pos tpos : Pos} {elts : List Expr} {kk : Nat} (hg : Gl X "zip") (hm : X.mg "zip" = none) (ha : PA X [e, e2] ta)
    (hs : starEach [e, e2] X.env = (false, eval e X.env) :: starEach [e2] X.env := by rfl) (hpl : (backTo pos (starEach [e2] X.env)).any (·.1) = false := by rfl) :
    PI X (.Tuple elts kk tpos) (.Call (.Name "zip" p) [e, e2] [] pos) (iZipB X.K ta) := by
  refine ⟨fun pins s σ H R I h => ?_⟩
  refine Call_ (ld_blt I hg hm PyProof.Rows.boot_zip (PyProof.Rows.callWith_type1 (thn (ha.run pos pins s σ H _ I h) fun us s1 ⟨vs, H1, I1, r1, q1⟩ => ?_) hs hpl))
  obtain ⟨k, l, a, b, xs, ys, ex, hqx, hqy, q⟩ := q1
  subst ex
  cases r1 with
  | cons r rr =>
    cases rr with
    | cons r' rr =>
      cases rr
      cases r
      cases r'
      obtain ⟨its, rv, p1, la⟩ := sqB_at I1 hqx
      obtain ⟨its2, rv2, p2, lb⟩ := sqB_at I1 hqy
      refine zip_begins2 (begins_b k a its.toArray) (begins_b l b its2.toArray) p1 p2 fun h' hz hTI hTO h1 h2 hsz hk => wpAny_pyIter_zip hz ?_
      have I2 : Inv X pins σ H1 { s1 with heap := h' } := I1.kept (t' := s1.toks) hk
      have la' : (a : Nat) < s1.heap.objs.size := la
      have lb' : (b : Nat) < s1.heap.objs.size := lb
      refine ⟨s1.heap.objs.size + 4, [s1.heap.objs.size + 4, s1.heap.objs.size + 2, s1.heap.objs.size + 3, s1.heap.objs.size, s1.heap.objs.size + 1], _, _, H1, rfl, I2, turn_zipB (zip_sep2 (fp1 := [a]) (fp2 := [b]) (fun c hc => by rw [List.mem_singleton.mp hc]; exact la) (fun c hc => by rw [List.mem_singleton.mp hc]; exact lb)) (Nat.ne_of_lt la') (Nat.ne_of_lt (Nat.lt_succ_of_lt lb')), ⟨hz, hTI, ⟨_, _, hTO⟩, BIt.new k h1, BIt.new l h2⟩, fun c hcm => ?_, q⟩
      have e' : c = s1.heap.objs.size + 4 ∨ c = s1.heap.objs.size + 2 ∨ c = s1.heap.objs.size + 3 ∨ c = s1.heap.objs.size ∨ c = s1.heap.objs.size + 1 := by simpa using hcm
      have hle : s1.heap.objs.size ≤ c := by
        rcases e' with z | z | z | z | z
        · rw [z]; exact Nat.le_add_right _ _
        · rw [z]; exact Nat.le_add_right _ _
        · rw [z]; exact Nat.le_add_right _ _
        · rw [z]; exact Nat.le_refl _
        · rw [z]; exact Nat.le_add_right _ _
      exact I1.fpOk hle (I1.hok.fresh hle)
/-! ### in data -/
def seqB : D → Option (Bool × List D)
  | .list xs => some (true, xs)
  | .tuple xs => some (false, xs)
  | _ => none
theorem seqB_rp {K : PySem.W.Frag} {F : Hp} {v : V} {d : D} {k : Bool} {ds : List D} (r : Rp K F v d) (e : seqB d = some (k, ds)) : ∃ a xs, v = .ref a ∧ SqB k K F a xs ∧ RpA K F xs ds := by
  cases d <;> cases e
  · cases r with
    | lst s r => exact ⟨_, _, rfl, s, r⟩
  · cases r with
    | tup s r => exact ⟨_, _, rfl, s.sqt, r⟩
theorem sqB_ex {k : Bool} {K : PySem.W.Frag} {F H : Hp} {a : Addr} {xs : List V} (e : Ex F H) (s : SqB k K F a xs) : SqB k K H a xs := by
  cases k
  · exact e.sqt s
  · exact e.sql s
def zipD : List D → List D → List D
  | x :: xs, y :: ys => .tuple [x, y] :: zipD xs ys
  | _, _ => []
theorem zipD_get : ∀ (xs ys : List D) (i : Nat) (d : D), (zipD xs ys)[i]? = some d → ∃ x y, xs[i]? = some x ∧ ys[i]? = some y ∧ d = .tuple [x, y]
  | [], _, i, d, h => by simp [zipD] at h
  | _ :: _, [], i, d, h => by simp [zipD] at h
  | x :: xs, y :: ys, 0, d, h => by
    simp only [zipD, List.getElem?_cons_zero, Option.some.injEq] at h
    exact ⟨x, y, rfl, rfl, h.symm⟩
  | x :: xs, y :: ys, i + 1, d, h => by
    simp only [zipD, List.getElem?_cons_succ] at h
    obtain ⟨x', y', h1, h2, h3⟩ := zipD_get xs ys i d h
    exact ⟨x', y', by simpa using h1, by simpa using h2, h3⟩
theorem zipD_len : ∀ (xs ys : List D), xs.length = (zipD xs ys).length ∧ (zipD xs ys).length ≤ ys.length ∨ ys.length = (zipD xs ys).length ∧ (zipD xs ys).length ≤ xs.length
  | [], _ => .inl ⟨rfl, Nat.zero_le _⟩
  | _ :: _, [] => .inr ⟨rfl, Nat.zero_le _⟩
  | x :: xs, y :: ys => by
    simp only [zipD, List.length_cons]
    rcases zipD_len xs ys with ⟨h1, h2⟩ | ⟨h1, h2⟩
    · exact .inl ⟨by omega, by omega⟩
    · exact .inr ⟨by omega, by omega⟩
def iZp (f g : Fm → Option D) (ρ : Fm) : Option (List D) := (f ρ).bind fun d => (g ρ).bind fun e => (seqB d).bind fun x => (seqB e).map fun y => zipD x.2 y.2
theorem zp_new {K : PySem.W.Frag} {F2 H2 : Hp} {T : Addr} {v w : V} {d e : D} {ob : Obj} (ho : ob.dict = none) (e2 : Ex F2 H2) (hT : H2 T = none) (r : Rp K F2 v d) (r' : Rp K F2 w e) : ∃ F3, Gr F2 H2 F3 (upd H2 T (.frz ob (.tup [v, w]))) ∧ Rp K F3 (.ref T) (.tuple [d, e]) := by
  have g := Gr.new (o := .frz ob (.tup [v, w])) e2 hT
  exact ⟨_, g, .tup ⟨ob, upd_same, ho⟩ (.cons (r.mono g.ex) (.cons (r'.mono g.ex) .nil))⟩
section
variable {X : Cx} {e e2 : Expr} {pos p : Pos} {fe fe2 : Fm → Option D}
theorem i_zip {elts : List Expr} {kk : Nat} {tpos : Pos} (B : Bt X.mg) (h : PP X e fe) (h' : PP X e2 fe2) (hg : Gl X "zip" := by rfl) (hs : starEach [e, e2] X.env = (false, eval e X.env) :: starEach [e2] X.env := by rfl) (hs2 : starEach [e2] X.env = (false, eval e2 X.env) :: starEach [] X.env := by rfl) (hpl : (backTo pos (starEach [e2] X.env)).any (·.1) = false := by rfl) :
    PIt X (.Tuple elts kk tpos) (.Call (.Name "zip" p) [e, e2] [] pos) (iZp fe fe2) := by
  obtain ⟨t, h1, h2⟩ := h
  obtain ⟨u, h3, h4⟩ := h'
  refine ⟨_, pi_zipB hg B.zip (pa_cons h1 (pa_cons h3 pa_nil hs2) hs) hs hpl, fun F H σ ρ ds hf hR R k => ?_⟩
  obtain ⟨d, e1, hf⟩ := Option.bind_eq_some_iff.mp hf
  obtain ⟨d', e1', hf⟩ := Option.bind_eq_some_iff.mp hf
  obtain ⟨⟨b1, xs⟩, z1, hf⟩ := Option.bind_eq_some_iff.mp hf
  obtain ⟨⟨b2, ys⟩, z2, hf⟩ := Option.map_eq_some_iff.mp hf
  subst hf
  refine h2 F H σ ρ _ e1 hR _ fun v F1 H1 g1 r1 => ?_
  refine h4 F1 H1 σ ρ _ e1' (hR.gr g1) _ fun w F2 H2 g2 r2 => ?_
  obtain ⟨a, vs, rfl, s1, q1⟩ := seqB_rp (r1.mono g2.ex) z1
  obtain ⟨b, ws, rfl, s2, q2⟩ := seqB_rp r2 z2
  refine ⟨b1, b2, a, b, vs, ws, rfl, sqB_ex g2.in_ s1, sqB_ex g2.in_ s2, k _ F2 H2 (g1.trans g2) fun F3 H3 f1 f2 => ?_⟩
  have t1 := sqB_ex f2 (sqB_ex f1 s1)
  have t2 := sqB_ex f2 (sqB_ex f1 s2)
  refine ⟨fun i d hd => ?_, vs, ws, t1, t2, ?_⟩
  · obtain ⟨x, y, hx, hy, rfl⟩ := zipD_get xs ys i d hd
    obtain ⟨v1, v2, v3⟩ := q1.get hx
    obtain ⟨w1, w2, w3⟩ := q2.get hy
    refine ⟨⟨_, _, v1, w1, t1, t2, v2, w2⟩, fun x' H4 hy' => ?_⟩
    obtain ⟨T, x2, y2, ob, rfl, hT, ho, rfl, hx2, hy2⟩ := hy'
    have := (hx2 _ t1).symm.trans v2
    cases this
    have := (hy2 _ t2).symm.trans w2
    cases this
    exact zp_new ho f2 hT (v3.mono f1) (w3.mono f1)
  · rw [q1.length, q2.length]
    exact zipD_len xs ys
end
end DL
end
section
set_option Elab.async false
set_option linter.all false
set_option maxRecDepth 100000
/-! [..] * n. -/
namespace DL
open PySem PySem.Spec PyProof.Rows L2
variable [TabT] [FnT]
theorem rpA_rep {K : PySem.W.Frag} {F : Hp} {xs : List V} {ds : List D} (r : RpA K F xs ds) : ∀ n : Nat, RpA K F (List.replicate n xs).flatten (List.replicate n ds).flatten
  | 0 => .nil
  | n + 1 => by
    rw [List.replicate_succ, List.replicate_succ, List.flatten_cons, List.flatten_cons]
    exact r.append (rpA_rep r n)
def repD (ds : List D) : Nat → List D
  | 0 => []
  | n + 1 => ds ++ repD ds n
theorem repD_eq (ds : List D) : ∀ n, repD ds n = (List.replicate n ds).flatten
  | 0 => rfl
  | n + 1 => by rw [repD, repD_eq ds n, List.replicate_succ, List.flatten_cons]
def fRepL (fs : Fm → Option (List D)) (fb : Fm → Option D) (ρ : Fm) : Option (List D) := (fs ρ).bind fun ds => if ds.length ≤ bigN then (fb ρ).bind fun d => match d with
  | .int k => if decide (-1000000 ≤ k) && decide (k ≤ 1000000) && decide (ds.length * k.toNat ≤ bigN) then some (repD ds k.toNat) else none
  | _ => none else none
section
variable {X : Cx} {e b : Expr} {es : List Expr} {pos p : Pos} {fb : Fm → Option D} {fs : Fm → Option (List D)}
theorem pe_rep (h : PAs X es fs) (h' : PP X b fb) : ∃ t, PE X (.BinOp (.List es p) .Mult b pos) t ∧ ∀ F H σ ρ ds, fRepL fs fb ρ = some ds → Rel X.K F H σ ρ → ∀ Q : VK, (∀ F1 H1 vs q, Gr F H F1 H1 → RpA X.K F1 vs ds → H1 q = none → Q (.ref q) (upd H1 q (.lst vs))) → t σ H Q := by
  obtain ⟨t, h1, h2, _⟩ := h
  obtain ⟨u, h3, h4⟩ := h'
  refine ⟨_, pe_op op_rep (pe_lst h1) h3, fun F H σ ρ ds hf hR Q k => ?_⟩
  obtain ⟨es', e1, hf⟩ := Option.bind_eq_some_iff.mp hf
  split at hf
  · rename_i hz
    obtain ⟨d, e2, hf⟩ := Option.bind_eq_some_iff.mp hf
    split at hf
    · rename_i k0
      split at hf
      · rename_i hb
        cases hf
        simp only [Bool.and_eq_true, decide_eq_true_eq] at hb
        obtain ⟨⟨b1, b2⟩, b3⟩ := hb
        refine h2 F H σ ρ _ e1 hR _ fun vs F1 H1 g1 r1 => ⟨by rw [r1.length]; exact Nat.le_trans hz big_le, fun p hp => ?_⟩
        have g2 := Gr.newH (o := .lst vs) g1.in_ hp
        refine h4 F1 _ σ ρ _ e2 (hR.gr (g1.trans g2)) _ fun v F2 H2 g3 r2 => ?_
        refine ⟨p, k0, vs, rfl, r2.intI, g3.keep p _ upd_same (fun ps z => by cases z), by omega, by omega, by rw [r1.length]; exact Nat.le_trans b3 big_le, fun q hq => ?_⟩
        refine k F2 H2 _ q ((g1.trans g2).trans g3) ?_ hq
        rw [repD_eq]
        exact rpA_rep (r1.mono g3.ex) k0.toNat
      · cases hf
    · cases hf
  · cases hf
def fRep (fs : Fm → Option (List D)) (fb : Fm → Option D) (ρ : Fm) : Option D := (fRepL fs fb ρ).map .list
theorem d_rep (h : PAs X es fs) (h' : PP X b fb) : PP X (.BinOp (.List es p) .Mult b pos) (fRep fs fb) := by
  obtain ⟨t, h1, h2⟩ := pe_rep (p := p) (pos := pos) h h'
  refine ⟨t, h1, fun F H σ ρ d hf hR Q k => ?_⟩
  obtain ⟨ds, e1, rfl⟩ := Option.map_eq_some_iff.mp hf
  exact h2 F H σ ρ ds e1 hR Q fun F1 H1 vs q g r hq => (k.gr g).lst g.in_ r q hq
def mRep (fs : Fm → Option (List D)) (fb : Fm → Option D) (ρ : Fm) : Option (B × Fm) := (fRepL fs fb ρ).map fun ds => (.ow ds, ρ)
theorem m_rep (h : PAs X es fs) (h' : PP X b fb) : XM X (.BinOp (.List es p) .Mult b pos) (mRep fs fb) := by
  obtain ⟨t, h1, h2⟩ := pe_rep (p := p) (pos := pos) h h'
  refine ⟨t, h1, fun F H σ ρ b ρ' hf hR Q k => ?_⟩
  obtain ⟨ds, e1, e2⟩ := Option.map_eq_some_iff.mp hf
  cases e2
  refine h2 F H σ ρ ds e1 hR Q fun F1 H1 vs q g r hq => ?_
  have hq0 : H q = none := g.live.free hq
  exact k _ _ _ (.gr hR (g.trans (Gr.newH (o := .lst vs) g.in_ hq))) ⟨q, vs, rfl, hq0, upd_same, g.in_.free hq, r⟩
end
end DL
end
section
set_option Elab.async false
set_option linter.all false
set_option maxRecDepth 100000
/-! Slices of lists and tuples. -/
namespace DL
open PySem PySem.Spec PyProof.Rows L2
variable [TabT] [FnT]
def cutD (ds : List D) (lo hi : Option Int) : List D := (ds.drop (HT.sIx ds.length 0 lo)).take (HT.sIx ds.length ds.length hi - HT.sIx ds.length 0 lo)
def gSl (d : D) (lo hi : Option Int) : Option D := match d with
  | .list ds => some (.list (cutD ds lo hi))
  | .tuple ds => some (.tuple (cutD ds lo hi))
  | _ => none
def fPart (f : Fm → Option D) (ρ : Fm) : Option (Option Int) := match f ρ with
  | some (.int i) => some (some i)
  | _ => none
def fNoP (_ : Fm) : Option (Option Int) := some none
def fSl (f : Fm → Option D) (fl fh : Fm → Option (Option Int)) (ρ : Fm) : Option D := (f ρ).bind fun d => (fl ρ).bind fun l => (fh ρ).bind fun h => gSl d l h
def SO (K : PySem.W.Frag) (t : TO) (f : Fm → Option (Option Int)) : Prop := ∀ F H σ ρ o, f ρ = some o → Rel K F H σ ρ → ∀ Q : Option Int → Hp → Prop, (∀ F' H', Gr F H F' H' → Q o H') → t σ H Q
def PPo (X : Cx) (e : Option Expr) (f : Fm → Option (Option Int)) : Prop := ∃ t, PO X e t ∧ SO X.K t f
theorem cut_rp {K : PySem.W.Frag} {F : Hp} {xs : List V} {ds : List D} (r : RpA K F xs ds) (lo hi : Option Int) : RpA K F (cutV xs lo hi) (cutD ds lo hi) := by
  unfold cutV cutD
  rw [r.length]
  exact (r.drop _).take _
theorem cut_whole {ds : List D} {lo hi : Option Int} (h : HT.sIx ds.length 0 lo = 0 ∧ HT.sIx ds.length ds.length hi = ds.length) : cutD ds lo hi = ds := by
  unfold cutD
  rw [h.1, h.2, List.drop_zero, Nat.sub_zero, List.take_length]
section
variable {X : Cx} {e : Expr} {lo hi : Option Expr} {pos p2 : Pos} {fe : Fm → Option D} {fl fh : Fm → Option (Option Int)}
theorem po_no : PPo X none fNoP := ⟨_, po_none, fun F H σ ρ o hf hR Q k => by
  cases hf
  exact k F H (.refl hR.ex)⟩
theorem po_at (h : PP X e fe) : PPo X (some e) (fPart fe) := by
  obtain ⟨t, h1, h2⟩ := h
  refine ⟨_, po_some h1, fun F H σ ρ o hf hR Q k => ?_⟩
  unfold fPart at hf
  split at hf
  · rename_i i e1
    cases hf
    exact h2 F H σ ρ _ e1 hR _ fun v F1 H1 g1 r1 => ⟨i, r1.intI, k F1 H1 g1⟩
  · cases hf
theorem d_slice (h : PP X e fe) (hl : PPo X lo fl) (hh : PPo X hi fh) : PP X (.Subscript e (.Slice lo hi none p2) pos) (fSl fe fl fh) := by
  obtain ⟨t, h1, h2⟩ := h
  obtain ⟨u, h3, h4⟩ := hl
  obtain ⟨w, h5, h6⟩ := hh
  refine ⟨_, pe_slice (SlR.or sl_list sl_tupZ) h1 h3 h5, fun F H σ ρ d hf hR Q k => ?_⟩
  obtain ⟨d0, e1, hf⟩ := Option.bind_eq_some_iff.mp hf
  obtain ⟨l0, e2, hf⟩ := Option.bind_eq_some_iff.mp hf
  obtain ⟨h0, e3, hf⟩ := Option.bind_eq_some_iff.mp hf
  refine h2 F H σ ρ _ e1 hR _ fun v F1 H1 g1 r1 => h4 F1 H1 σ ρ _ e2 (hR.gr g1) _ fun F2 H2 g2 => h6 F2 H2 σ ρ _ e3 (hR.gr (g1.trans g2)) _ fun F3 H3 g3 => ?_
  have g := (g1.trans g2).trans g3
  have r3 := (r1.mono g2.ex).mono g3.ex
  cases d0 <;> cases hf
  · cases r3 with
    | lst s r => exact .inl ⟨_, _, rfl, g3.in_.sql s, fun p hp => (k.gr g).lst g.in_ (cut_rp r l0 h0) p hp⟩
  · cases r3 with
    | tup s r =>
      refine .inr ⟨_, _, rfl, g3.in_.sqt s.sqt, fun hw => ?_, fun _ => (k.gr g).tup g.in_ (cut_rp r l0 h0)⟩
      rw [r.length] at hw
      rw [cut_whole hw] at k
      exact k _ F3 H3 g (.tup s r)
end
end DL
end
section
set_option Elab.async false
set_option linter.all false
set_option maxRecDepth 100000
/-! range(i, j, -1). -/
namespace DL
open PySem PySem.Spec PyProof.Rows L2
variable [TabT] [FnT]
def dwnD (i : Int) (n : Nat) : List D := (List.range n).map fun k => .int (i - (k : Nat))
def iRgD (f g h : Fm → Option D) (ρ : Fm) : Option (List D) := match f ρ, g ρ, h ρ with
  | some (.int i), some (.int j), some (.int c) => if smR i && smR j && decide (c = -1) then some (dwnD i (i - j).toNat) else none
  | _, _, _ => none
theorem ok_dwn {K : PySem.W.Frag} {F : Hp} {i : Int} {n : Nat} : ItOk K (Itc i (-1) n) F (dwnD i n) := fun F2 H2 e1 e2 => by
  have hl : (dwnD i n).length = n := by unfold dwnD; rw [List.length_map, List.length_range]
  refine ⟨fun k d h => ?_, Nat.le_of_eq hl.symm⟩
  have hi : k < n := by rw [← hl]; exact (List.getElem?_eq_some_iff.mp h).1
  refine ⟨hi, fun x H3 hy => ?_⟩
  obtain ⟨rfl, rfl⟩ := hy
  unfold dwnD at h
  rw [List.getElem?_map, List.getElem?_range hi] at h
  cases h
  have e : i + ((k : Nat) : Int) * -1 = i - (k : Nat) := by omega
  rw [e]
  exact ⟨F2, .refl e2, .int _⟩
section
variable {X : Cx} {a b c : Expr} {pos p : Pos} {fa fb fc : Fm → Option D}
theorem i_rgd {tg : Expr} (B : Bt X.mg) (h : PP X a fa) (h' : PP X b fb) (h'' : PP X c fc) (hg : Gl X "range" := by rfl) (hs : starEach [a, b, c] X.env = (false, eval a X.env) :: starEach [b, c] X.env := by rfl) (hs2 : starEach [b, c] X.env = (false, eval b X.env) :: starEach [c] X.env := by rfl) (hs3 : starEach [c] X.env = (false, eval c X.env) :: starEach [] X.env := by rfl) (hpl : (backTo pos (starEach [b, c] X.env)).any (·.1) = false := by rfl) :
    PIt X tg (.Call (.Name "range" p) [a, b, c] [] pos) (iRgD fa fb fc) := by
  obtain ⟨t, h1, h2⟩ := h
  obtain ⟨u, h3, h4⟩ := h'
  obtain ⟨w, h5, h6⟩ := h''
  refine ⟨_, pi_range3 hg B.range (pa_cons h1 (pa_cons h3 (pa_cons h5 pa_nil hs3) hs2) hs) hs hpl, fun F H σ ρ ds hf hR R k => ?_⟩
  unfold iRgD at hf
  split at hf
  · rename_i i j c' e1 e2 e3
    split at hf
    · rename_i hz
      cases hf
      unfold smR at hz
      simp only [Bool.and_eq_true, decide_eq_true_eq] at hz
      obtain ⟨⟨⟨z1, z2⟩, z3, z4⟩, rfl⟩ := hz
      refine h2 F H σ ρ _ e1 hR _ fun v F1 H1 g1 r1 => ?_
      refine h4 F1 H1 σ ρ _ e2 (hR.gr g1) _ fun v2 F2 H2 g2 r2 => ?_
      refine h6 F2 H2 σ ρ _ e3 (hR.gr (g1.trans g2)) _ fun v3 F3 H3 g3 r3 => ?_
      refine ⟨i, j, -1, (i - j).toNat, by rw [r1.intI, r2.intI, r3.intI], RgC.neg (by omega) (by omega) (by omega) (by omega), k _ F3 H3 ((g1.trans g2).trans g3) ok_dwn⟩
    · cases hf
  · cases hf
end
end DL
end
section
set_option Elab.async false
set_option linter.all false
set_option maxRecDepth 100000
/-! dict(xs), xs a list of pairs with apart keys that are numbers or texts. -/
namespace DL
open PySem PySem.Spec PyProof.Rows L2
variable [TabT] [FnT]
def dpairs : List D → Option (List (Key × D))
  | [] => some []
  | .tuple [.int i, d] :: r => (dpairs r).map fun s => (.inl i, d) :: s
  | .tuple [.str x, d] :: r => (dpairs r).map fun s => (.inr x, d) :: s
  | _ :: _ => none
theorem putK_new {kvs : List (Key × V)} {k : Key} {v : V} (h : k ∉ kvs.map (·.1)) : putK kvs k v = kvs ++ [(k, v)] := by
  unfold putK
  rw [if_neg]
  rw [List.any_eq_true]
  rintro ⟨x, hx, e⟩
  exact h (List.mem_map.mpr ⟨x, hx, of_decide_eq_true e⟩)
theorem mergeK_nd : ∀ (kvs acc : List (Key × V)), ((acc ++ kvs).map (·.1)).Nodup → mergeK acc kvs = acc ++ kvs
  | [], acc, _ => by rw [List.append_nil]; rfl
  | (k, v) :: kvs, acc, h => by
    have h' : ((acc ++ [(k, v)] ++ kvs).map (·.1)).Nodup := by rw [List.append_assoc]; exact h
    have hk : k ∉ acc.map (·.1) := by
      rw [List.map_append, List.map_cons] at h
      exact fun z => (List.nodup_append.mp h).2.2 k z k (.head _) rfl
    show mergeK (putK acc k v) kvs = _
    rw [putK_new hk, mergeK_nd kvs _ h', List.append_assoc]
    rfl
theorem pairs_rp {K : PySem.W.Frag} {F : Hp} : ∀ {vs : List V} {ds : List D} {kds : List (Key × D)}, RpA K F vs ds → dpairs ds = some kds →
    ∃ (ps : List Addr) (kvs : List (Key × V)), vs = ps.map V.ref ∧ Paired (fun p kv => SqT K F p [kV kv.1, kv.2]) ps kvs ∧ kvs.map (·.1) = kds.map (·.1) ∧ RpK K F kvs (kds.map fun x => (keyD x.1, x.2))
  | _, _, kds, .nil, e => by
    cases e
    exact ⟨[], [], rfl, .nil, rfl, .nil⟩
  | _, _, kds, .cons (d := d) (ds := ds) h t, e => by
    unfold dpairs at e
    split at e
    · rename_i heq
      cases heq
    · rename_i i d' r heq
      cases heq
      obtain ⟨s, e1, rfl⟩ := Option.map_eq_some_iff.mp e
      obtain ⟨ps, kvs, rfl, p1, p2, p3⟩ := pairs_rp t e1
      cases h with
      | @tup a xs _ sq ra =>
        cases ra with
        | cons r1 ra =>
          cases ra with
          | cons r2 ra =>
            cases ra
            rename_i v1 v2
            have := r1.intI
            subst this
            exact ⟨a :: ps, (.inl i, v2) :: kvs, rfl, .cons sq.sqt p1, by rw [List.map_cons, List.map_cons, p2], .cons r2 p3⟩
    · rename_i x d' r heq
      cases heq
      obtain ⟨s, e1, rfl⟩ := Option.map_eq_some_iff.mp e
      obtain ⟨ps, kvs, rfl, p1, p2, p3⟩ := pairs_rp t e1
      cases h with
      | @tup a xs _ sq ra =>
        cases ra with
        | cons r1 ra =>
          cases ra with
          | cons r2 ra =>
            cases ra
            rename_i v1 v2
            cases r1
            exact ⟨a :: ps, (.inr x, v2) :: kvs, rfl, .cons sq.sqt p1, by rw [List.map_cons, List.map_cons, p2], .cons r2 p3⟩
    · cases e
def gDictP : D → Option D
  | .list xs => (dpairs xs).bind fun kds => if !kds.isEmpty && decide (kds.map (·.1)).Nodup then some (.dict (kds.map fun x => (keyD x.1, x.2))) else none
  | _ => none
section
variable {X : Cx} {e : Expr} {pos p : Pos} {fe : Fm → Option D}
theorem d_dictP (hc : X.calm = true) (B : Bt X.mg) (ha : PP X e fe) (hg : Gl X "dict" := by rfl) (hs : starEach [e] X.env = (false, eval e X.env) :: starEach [] X.env := by rfl) : PP X (.Call (.Name "dict" p) [e] [] pos) (fOp1 gDictP fe) := by
  obtain ⟨t, h1, h2⟩ := ha
  refine ⟨_, pe_seeE (pe_callTy (call_dictP hc) hg B.dict PyProof.Rows.boot_dict (pa_cons h1 pa_nil hs) (by decide) (by decide) hs rfl), fun F H σ ρ d hf hR Q k => ?_⟩
  obtain ⟨d0, e1, e2⟩ := Option.bind_eq_some_iff.mp hf
  unfold gDictP at e2
  split at e2
  · rename_i xs
    obtain ⟨kds, e3, e4⟩ := Option.bind_eq_some_iff.mp e2
    split at e4
    · rename_i hz
      cases e4
      rw [Bool.and_eq_true, decide_eq_true_eq, Bool.not_eq_true'] at hz
      refine h2 F H σ ρ _ e1 hR _ fun v F1 H1 g1 r1 => ?_
      cases r1 with
      | @lst a vs _ sq ra =>
        obtain ⟨ps, kvs, rfl, p1, p2, p3⟩ := pairs_rp ra e3
        refine ⟨a, ps, kvs, rfl, g1.in_.sql sq, ?_, fun q hq => ⟨q, _, rfl, upd_same, trivial, fun od => ?_⟩⟩
        · clear p2 p3 e3 ra sq k hz
          induction p1 with
          | nil => exact .nil
          | cons a _ ih => exact .cons (g1.in_.sqt a) ih
        · have hnd : ((([] : List (Key × V)) ++ kvs).map (·.1)).Nodup := by rw [List.nil_append, p2]; exact hz.2
          rw [upd_upd, mergeK_nd kvs [] hnd, List.nil_append]
          have g2 := Gr.new (o := .frz od (.dK kvs)) g1.in_ hq
          refine k _ _ _ (g1.trans g2) (.dk ?_ upd_same (RpK.mono g2.ex p3))
          intro z
          rw [List.map_eq_nil_iff] at z
          rw [z] at hz
          exact absurd hz.1 (by decide)
    · cases e4
  · cases e2
end
end DL
end
section
set_option Elab.async false
set_option linter.all false
set_option maxRecDepth 100000
/-! xs[::-1] of lists and tuples. -/
namespace DL
open PySem PySem.Spec PyProof.Rows L2
variable [TabT] [FnT]
section
variable {prog : Program} {w : World} {A : Around} {E : Value → Shared → Prop} {s : Shared}
theorem adj_rev (n : Nat) : Builtin.Slice.sliceAdjust none none (-1) (n : Int) = ((n : Int) - 1, -1) := rfl
theorem pla_rev (n : Nat) : Builtin.Slice.slicePlaces ((n : Int) - 1) (-1) (-1) = n := by
  unfold Builtin.Slice.slicePlaces
  have h1 : ¬ ((-1 : Int) > 0) := by omega
  simp only [h1, if_false]
  have e : -(-1 : Int) = 1 := rfl
  rw [e, Int.ediv_one]
  split <;> omega
theorem applied_rev {sl : Addr} {t : Tok} {n : Nat} {Q : Int × Int × Nat → Shared → Prop} (hs : s.heap.IsSliceOf sl .none .none (.int (-1) t)) (h : Q ((n : Int) - 1, -1, n) s) : wpAny (model prog w) A (Builtin.Slice.sliceApplied (.ref sl) (pure (n : Int))) Q E s := by
  obtain ⟨os, hos, hcs, hds⟩ := id hs
  unfold Builtin.Slice.sliceApplied Builtin.Slice.sliceFields
  refine wpAny_bind (wpAny_bind (wpAny_field hos hds (x := .none) rfl (wpAny_bind (wpAny_field hos hds (x := .none) rfl (wpAny_bind (wpAny_field hos hds (x := .int (-1) t) rfl (wpAny_pure ?_)))))))
  refine wpAny_bind (HT.slicePart_ (.int (-1) t) ?_)
  show wpAny _ _ (if ((-1 : Int) == 0) = true then _ else _) _ _ s
  rw [if_neg (by decide)]
  refine wpAny_bind (HT.slicePart_ .none (wpAny_bind (HT.slicePart_ .none (wpAny_bind (wpAny_pure ?_)))))
  show wpAny _ _ (pure ((n : Int) - 1, (-1 : Int), Builtin.Slice.slicePlaces ((n : Int) - 1) (-1) (-1))) _ _ s
  rw [pla_rev]
  exact wpAny_pure h
theorem fm_some {α β : Type} {f : α → Option β} {g : α → β} : ∀ {L : List α}, (∀ m ∈ L, f m = some (g m)) → L.filterMap f = L.map g
  | [], _ => rfl
  | m :: L, h => by
    rw [List.filterMap_cons, h m (.head _), List.map_cons, fm_some fun x hx => h x (.tail _ hx)]
theorem pick_rev (xs : Array Value) : ((List.range xs.size).filterMap fun (m : Nat) => xs[(((xs.size : Int) - 1) + (m : Int) * -1).toNat]?).toArray = xs.toList.reverse.toArray := by
  congr 1
  have e : ((List.range xs.size).filterMap fun (m : Nat) => xs[(((xs.size : Int) - 1) + (m : Int) * -1).toNat]?) = (List.range xs.size).map fun m => xs.toList.reverse.getD m .none := by
    refine fm_some fun m hm => ?_
    have hm := List.mem_range.mp hm
    have e1 : (((xs.size : Int) - 1) + (m : Int) * -1).toNat = xs.size - 1 - m := by omega
    rw [e1]
    rw [List.getD_eq_getElem?_getD, List.getElem?_reverse (by simpa using hm)]
    simp only [Array.length_toList, Array.getElem?_toList]
    rw [Array.getElem?_eq_getElem (by omega)]
    rfl
  rw [e]
  refine List.ext_getElem? fun i => ?_
  rw [List.getElem?_map]
  by_cases h : i < xs.size
  · rw [List.getElem?_range h, Option.map_some, List.getD_eq_getElem?_getD, List.getElem?_eq_getElem (by simpa using h)]
    rfl
  · rw [List.getElem?_eq_none (by simpa using h), List.getElem?_eq_none (by simpa using h)]
    rfl
theorem getItem_tuple_rev {t sl : Addr} {items : Array Value} {u : Tok} {Q : Value → Shared → Prop} (ht : IsTup s.heap t items) (hs : s.heap.IsSliceOf sl .none .none (.int (-1) u))
    (h : Q (.ref s.heap.objs.size) { s with heap := s.heap.push { cls := .type "tuple", data := .seq items.toList.reverse.toArray } })
    (hsz : items.size ≤ sizeLine) : wpAny (model prog w) A (getItem (.ref t) (.ref sl)) Q E s := by
  have htake : sizeOk (.seq items.toList.reverse.toArray) := by
    show items.toList.reverse.toArray.size ≤ sizeLine
    rw [List.size_toArray, List.length_reverse, Array.length_toList]
    exact hsz
  obtain ⟨os, hos, hcs, hds⟩ := id hs
  have hTs : s.TypeIs (.ref sl) "slice" := ⟨os, hos, hcs⟩
  unfold getItem
  try with_reducible refine wpAny_holding ?_
  first | refine wpAny_bind (wpAny_pure ?_) | skip
  refine wpAny_bind (wpAny_sequenceKey ht.typeIs (by decide) ?_)
  refine wpAny_bind (wpAny_callSpecial?_slot (name := Str.ofString "__getitem__") ht.typeIs PyProof.Rows.slot_tuple_getitem
    (wpAny_call_entry PyProof.Rows.slot_tuple_getitem ht.typeIs entry_tuple_getitem ?_ (args_tuple_getitem _ _)))
  show wpAny _ _ (Builtin.Tuple.tupleItemsOf (.ref t) >>= _) _ _ s
  refine wpAny_bind (tupleItemsOf_ ht ?_)
  refine wpAny_bind (wpAny_typeOf hTs ?_)
  rw [if_pos (by decide)]
  refine wpAny_bind (applied_rev hs ?_)
  have hno : ¬ ((((items.size : Int) - 1) == 0 && (-1 : Int) == 1 && items.size == items.size) = true) := by
    intro q
    rw [Bool.and_eq_true, Bool.and_eq_true] at q
    exact absurd q.1.2 (by decide)
  show wpAny _ _ (if (((items.size : Int) - 1) == 0 && (-1 : Int) == 1 && items.size == items.size) = true then _ else _) _ _ s
  rw [if_neg hno, pick_rev]
  first
    | exact wpAny_bind (m := Builtin.Tuple.tupleExact _) (wpAny_newObj_type (wpAny_pure ⟨_, rfl, wpAny_pure h⟩) htake)
    | exact wpAny_bind (m := Builtin.Tuple.tupleExact _) (wpAny_newObj_type (wpAny_bind (wpAny_pure (wpAny_pure ⟨_, rfl, wpAny_pure h⟩))) htake)
    | exact wpAny_bind (wpAny_bind (m := Builtin.Tuple.tupleExact _) (wpAny_newObj_type (wpAny_pure (wpAny_pure ⟨_, rfl, wpAny_pure h⟩)) htake))
    | exact wpAny_bind (wpAny_bind (m := Builtin.Tuple.tupleExact _) (wpAny_newObj_type (wpAny_pure ⟨_, rfl, wpAny_pure h⟩) htake))
end
/-! ### in the walk -/
def tRevA (K : PySem.W.Frag) (te : TE) : TE := fun σ H Q => te σ H fun x H1 => ∃ a xs, x = .ref a ∧ ((SqL K H1 a xs ∧ ∀ p, H1 p = none → Q (.ref p) (upd H1 p (.lst xs.reverse))) ∨ (SqT K H1 a xs ∧ NwT H1 xs.reverse Q))
theorem pe_revA {X : Cx} {e : Expr} {te : TE} {k : Nat} {p1 p2 p3 pos : Pos} (he : PE X e te) : PE X (.Subscript e (.Slice none none (some (.UnaryOp .USub (.Constant (.int 1) k p1) p2)) p3) pos) (tRevA X.K te) := by
  refine ⟨fun pins s σ H Q I h => ?_⟩
  refine Subscript_ (thn (he.run pins s σ H _ I h) fun v s1 ⟨x, H1, I1, r1, q1⟩ => ?_)
  obtain ⟨a, xs, ex, q⟩ := q1
  subst ex
  cases r1
  have hst : PO X (some (.UnaryOp .USub (.Constant (.int 1) k p1) p2)) (tPart (tUn (rU fun i => .int (-i)) (tC (.int 1)))) := po_some (pe_un un_neg pe_int)
  refine wpAny_Slice (thn (po_none.run pins s1 σ H1 (fun o H2 => o = none ∧ H2 = H1) I1 ⟨rfl, rfl⟩) fun vl s2 ⟨l, H2, I2, pl, el, e2⟩ => ?_)
  subst el e2
  refine thn (po_none.run pins s2 σ H2 (fun o H3 => o = none ∧ H3 = H2) I2 ⟨rfl, rfl⟩) fun vu s3 ⟨u, H3, I3, pu, eu, e3⟩ => ?_
  subst eu e3
  refine thn (hst.run pins s3 σ H3 (fun o H4 => o = some (-1) ∧ H4 = H3) I3 ⟨1, rfl, -1, rfl, rfl, rfl⟩) fun vs s4 ⟨o, H4, I4, ps, eo, e4⟩ => ?_
  subst eo e4
  have I5 : Inv X pins σ H4 { s4 with heap := s4.heap.push { cls := .type "slice", data := .fields #[vl, vu, vs] } } := I4.kept (t' := s4.toks) fun b ob q => Heap.get?_push_of_some _ q
  show wpAny (model X.prog X.w) X.A (subscriptTail e (.Slice none none (some (.UnaryOp .USub (.Constant (.int 1) k p1) p2)) p3) (.ref a) (.ref s4.heap.objs.size)) (EP X pins σ Q) X.xe { s4 with heap := s4.heap.push { cls := .type "slice", data := .fields #[vl, vu, vs] } }
  rcases q with ⟨hx, q⟩ | ⟨hx, q⟩
  · obtain ⟨its, r, ht, hz⟩ := I5.list hx
    have hlen := r.length
    refine tail_any (ops := [.ref a, .ref s4.heap.objs.size]) ht.isList.typeIs (PySem.slot_list_getitem.lookup) ?_ (by with_unfolding_all rfl)
    refine wpAny_getItem_list_slice ht.isList (Heap.IsSliceOf.new _ vl vu vs) pl pu ps (by decide) ?_ (by rw [List.size_toArray]; omega)
    rw [PySem.W.krv_pick]
    refine ⟨.ref _, _, I5.laid (t' := s4.toks) (o := .lst xs.reverse) (fun b ob q => Heap.get?_push_of_some _ q) (Nat.le_refl _) ?_, rfl, q _ (I5.hok.fresh (Nat.le_refl _))⟩
    exact ⟨by rw [List.length_reverse]; exact hz, _, 0, r.reverse, Heap.get?_push_size _ rfl⟩
  · obtain ⟨its, r, ht, hz⟩ := I5.tuple hx
    have hlen := r.length
    cases pl
    cases pu
    cases ps
    refine tail_any (ops := [.ref a, .ref s4.heap.objs.size]) ht.typeIs (PyProof.Rows.slot_tuple_getitem.lookup) ?_ (by with_unfolding_all rfl)
    refine getItem_tuple_rev ht (Heap.IsSliceOf.new _ _ _ _) ?_ (by rw [List.size_toArray]; omega)
    exact ⟨.ref _, _, Inv.nwt (tk := s4.toks) (s0 := s4) I5 r.reverse (by rw [List.length_reverse]; exact hz), rfl, q _ _ rfl (I5.hok.fresh (Nat.le_refl _))⟩
def gRev : D → Option D
  | .list ds => some (.list ds.reverse)
  | .tuple ds => some (.tuple ds.reverse)
  | _ => none
theorem RpA.rev {K : PySem.W.Frag} {F : Hp} : ∀ {xs : List V} {ds : List D}, RpA K F xs ds → RpA K F xs.reverse ds.reverse
  | _, _, .nil => .nil
  | _, _, .cons h t => by
    rw [List.reverse_cons, List.reverse_cons]
    exact (RpA.rev t).append (.one h)
theorem d_rev {X : Cx} {e : Expr} {fe : Fm → Option D} {k : Nat} {p1 p2 p3 pos : Pos} (h : PP X e fe) : PP X (.Subscript e (.Slice none none (some (.UnaryOp .USub (.Constant (.int 1) k p1) p2)) p3) pos) (fOp1 gRev fe) := by
  obtain ⟨t, h1, h2⟩ := h
  refine ⟨_, pe_revA h1, fun F H σ ρ d hf hR Q k => ?_⟩
  obtain ⟨d0, e1, e2⟩ := Option.bind_eq_some_iff.mp hf
  refine h2 F H σ ρ _ e1 hR _ fun v F1 H1 g1 r1 => ?_
  cases d0 <;> cases e2
  · cases r1 with
    | lst s r => exact ⟨_, _, rfl, .inl ⟨g1.in_.sql s, fun p hp => (k.gr g1).lst g1.in_ (RpA.rev r) p hp⟩⟩
  · cases r1 with
    | tup s r => exact ⟨_, _, rfl, .inr ⟨g1.in_.sqt s.sqt, (k.gr g1).tup g1.in_ (RpA.rev r)⟩⟩
end DL
end
section
set_option Elab.async false
set_option linter.all false
set_option maxRecDepth 100000
set_option maxHeartbeats 4000000
/-! tuple * n, for any small n. -/
namespace DL
open PySem PySem.Spec PyProof.Rows L2
variable [TabT] [FnT]
theorem tmul_same (l : Addr) (items : Array Value) (n : Nat) (dd : Option Addr) (sl : Array (Option Value)) (x : Int) (u : Tok) (c0 : (decide (x < -(2 ^ 63)) || decide (x ≥ 2 ^ 63)) = false) (c1 : (items.isEmpty || x == 1) = true) :
    Meets (Builtin.«tuple.__mul__» ⟨[.ref l, .int x u], []⟩) (fun _ R s => s.heap.get? l = some { cls := .type "tuple", dict := dd, data := .seq items n, slots := sl } ∧ R (.ok (.ret (Value.ref l))) s) :=
  .of_wp fun prog w A R s h => by
    obtain ⟨hp, g, d, tk, os⟩ := s
    obtain ⟨hl, h⟩ := h
    have f1 := AutoSeq1.idx_int
    wp_walk using wpAny_loadPart' hl
    repeat (first
      | (refine wpAny_ite_false (decide_eq_false (by rw [c0]; exact Bool.false_ne_true)) ?_; wp_walk using wpAny_loadPart' hl)
      | (refine wpAny_ite_true (decide_eq_true (by rw [c1])) ?_; wp_walk using wpAny_loadPart' hl))
    exact ⟨_, rfl, h⟩
theorem tmul_none (l : Addr) (items : Array Value) (n : Nat) (dd : Option Addr) (sl : Array (Option Value)) (x : Int) (u : Tok) (c0 : (decide (x < -(2 ^ 63)) || decide (x ≥ 2 ^ 63)) = false) (c1 : (items.isEmpty || x == 1) = false) (c2 : (decide (x ≤ 0) || items.isEmpty) = true) :
    Meets (Builtin.«tuple.__mul__» ⟨[.ref l, .int x u], []⟩) (fun _ R s => s.heap.get? l = some { cls := .type "tuple", dict := dd, data := .seq items n, slots := sl } ∧
      R (.ok (.ret (Value.ref s.heap.objs.size))) { s with heap := s.heap.push { cls := Value.type "tuple", data := Data.seq #[] }, toks := s.toks }) :=
  .of_wp fun prog w A R s h => by
    obtain ⟨hp, g, d, tk, os⟩ := s
    obtain ⟨hl, h⟩ := h
    have f1 := AutoSeq1.idx_int
    wp_walk using wpAny_loadPart' hl
    repeat (first
      | (refine wpAny_ite_false (decide_eq_false (by rw [c0]; exact Bool.false_ne_true)) ?_; wp_walk using wpAny_loadPart' hl)
      | (refine wpAny_ite_false (decide_eq_false (by rw [c1]; exact Bool.false_ne_true)) ?_; wp_walk using wpAny_loadPart' hl)
      | (refine wpAny_ite_true (decide_eq_true (by rw [c2])) ?_; wp_walk using wpAny_loadPart' hl))
    exact ⟨_, rfl, h⟩
def rRepZ (K : PySem.W.Frag) : R2 := fun x y G Q => ∃ b m zs, x = .ref b ∧ y = .int m ∧ SqT K G b zs ∧ zs ≠ [] ∧ 2 ≤ m ∧ m ≤ 1000 ∧ zs.length ≤ 1000 ∧ NwT G (List.replicate m.toNat zs).flatten Q
section
variable {X : Cx}
theorem op_repZ : OpR X (binaryOp .Mult) (rRepZ X.K) := by
  intro pins s0 σ G x y v0 u0 Q J rx ry hh
  obtain ⟨b, m, zs, rfl, rfl, bT, zne, p1, p2, zle, qq⟩ := hh
  cases rx
  obtain ⟨tk0, rfl⟩ := ry
  obtain ⟨ws, rr, ⟨⟨cl, dy, da, so⟩, bo, bc, n0, bd⟩, bs⟩ := J.tuple bT
  simp only at bc bd
  subst bc bd
  have eql : ws.length = zs.length := rr.length.symm
  have wne : ws ≠ [] := fun e => zne (by
    rw [e] at eql
    exact List.eq_nil_of_length_eq_zero eql.symm)
  have wie : ws.toArray.isEmpty = false := by
    cases ws with
    | nil => exact absurd rfl wne
    | cons a b => rfl
  have wsz : ws.toArray.size = zs.length := by rw [List.size_toArray, eql]
  have wm : ((ws.toArray.size : Nat) : Int) * m ≤ 1000000 := by
    rw [wsz]
    have y1 : ((zs.length : Nat) : Int) * m ≤ 1000 * m := Int.mul_le_mul_of_nonneg_right (by omega) (by omega)
    omega
  have wfl : (List.replicate m.toNat ws).flatten.length ≤ sizeLine := by
    rw [PyProof.Rows.lm_len_rep_flat, eql, sizeLine_eq]
    have y1 : m.toNat * zs.length ≤ 1000 * 1000 := Nat.mul_le_mul (by omega) zle
    omega
  have g0 : (decide (m < -(2 ^ 63)) || decide (m ≥ 2 ^ 63)) = false := by
    rw [decide_eq_false (by omega), decide_eq_false (by omega)] <;> rfl
  have g1 : (ws.toArray.isEmpty || m == 1) = false := by
    rw [wie, Bool.false_or]
    exact beq_eq_false_iff_ne.mpr (by omega)
  have g2 : (decide (m ≤ 0) || ws.toArray.isEmpty) = false := by
    rw [wie, Bool.or_false]
    exact decide_eq_false (by omega)
  have g4 : Builtin.Tuple.tupleTooMany (((ws.toArray.size : Nat) : Int) * m) = false := by
    unfold Builtin.Tuple.tupleTooMany
    rw [sizeLine_eq]
    exact decide_eq_false (by omega)
  refine wpAny_binaryOp_repeat_ref (T := "tuple") (U := "int") (by decide) ⟨_, bo, rfl⟩ (fun s' => typeIs_int s' m tk0) noFill_tuple_mul F.fills_int_mul F.slot_int_rmul repeat_tuple F.slot_int_index.lookup
    (call_meets F.slot_int_rmul (typeIs_int s0 m tk0) F.entry_int_rmul (F.args_int_rmul_2 _ _) (int_rmul_tuple m tk0 b ws.toArray n0 dy so)
      ⟨bo, rfl, ⟨_, bo, rfl⟩, call_meets F.slot_tuple_mul ⟨_, bo, rfl⟩ F.entry_tuple_mul (F.args_tuple_mul_2 _ _) (tuple_mulW b ws.toArray n0 dy so m tk0 g0 g1 g2 (by omega) g4 (by rw [size_rep, List.size_toArray]; exact wfl)) ⟨bo, ?_⟩⟩)
  rw [size_rep]
  exact ⟨.ref s0.heap.objs.size, _, Inv.nwt (tk := s0.toks) (s0 := s0) J (rr.rep m.toNat) (by rw [PyProof.Rows.lm_len_rep_flat, sizeLine_eq]; have y1 : m.toNat * zs.length ≤ 1000 * 1000 := Nat.mul_le_mul (by omega) zle; omega), rfl, qq _ _ rfl (J.hok.fresh (Nat.le_refl _))⟩
end
def rRepT2 (K : PySem.W.Frag) : R2 := fun x y H Q => ∃ l k xs, x = .ref l ∧ y = .int k ∧ SqT K H l xs ∧ -1000 ≤ k ∧ k ≤ 1000 ∧ xs.length ≤ 1000 ∧ ((xs = [] ∨ k = 1) → Q (.ref l) H) ∧ (xs ≠ [] → k ≠ 1 → NwT H (List.replicate k.toNat xs).flatten Q)
section
variable {X : Cx}
theorem op_repT2 : OpR X (binaryOp .Mult) (rRepT2 X.K) := by
  intro pins s σ H x y v u Q I rx ry h
  obtain ⟨l, k, xs, rfl, rfl, hT, h1, h2, hz, qs, q⟩ := h
  by_cases hb : xs ≠ [] ∧ 2 ≤ k
  · exact op_repZ pins s σ H _ _ v u Q I rx ry ⟨l, k, xs, rfl, rfl, hT, hb.1, hb.2, h2, hz, q hb.1 (by omega)⟩
  cases rx
  obtain ⟨t, rfl⟩ := ry
  obtain ⟨its, r, ⟨⟨cls, dd, data, sl⟩, ho, hc, n, hd⟩, hs⟩ := I.tuple hT
  simp only at hc hd
  subst hc hd
  have hle : its.length = xs.length := r.length.symm
  have c0 : (decide (k < -(2 ^ 63)) || decide (k ≥ 2 ^ 63)) = false := by
    rw [decide_eq_false (by omega), decide_eq_false (by omega)] <;> rfl
  by_cases hsame : xs = [] ∨ k = 1
  · have c1 : (its.toArray.isEmpty || k == 1) = true := by
      rcases hsame with e | e
      · rw [e] at hle
        rw [List.eq_nil_of_length_eq_zero hle]
        rfl
      · subst e
        rw [beq_self_eq_true, Bool.or_true]
    refine wpAny_binaryOp_repeat_ref (T := "tuple") (U := "int") (by decide) ⟨_, ho, rfl⟩ (fun s' => typeIs_int s' k t) noFill_tuple_mul F.fills_int_mul F.slot_int_rmul repeat_tuple F.slot_int_index.lookup
      (call_meets F.slot_int_rmul (typeIs_int s k t) F.entry_int_rmul (F.args_int_rmul_2 _ _) (int_rmul_tuple k t l its.toArray n dd sl)
        ⟨ho, rfl, ⟨_, ho, rfl⟩, call_meets F.slot_tuple_mul ⟨_, ho, rfl⟩ F.entry_tuple_mul (F.args_tuple_mul_2 _ _) (tmul_same l its.toArray n dd sl k t c0 c1) ⟨ho, ?_⟩⟩)
    exact ⟨.ref l, _, I, rfl, qs hsame⟩
  · have hne : xs ≠ [] := fun e => hsame (.inl e)
    have hk1 : k ≠ 1 := fun e => hsame (.inr e)
    have hk0 : k ≤ 0 := by
      have : ¬ 2 ≤ k := fun z => hb ⟨hne, z⟩
      omega
    have hi : its.toArray.isEmpty = false := by
      cases its with
      | nil => exact absurd (List.eq_nil_of_length_eq_zero hle.symm) hne
      | cons a b => rfl
    have c1 : (its.toArray.isEmpty || k == 1) = false := by
      rw [hi, Bool.false_or]
      exact beq_eq_false_iff_ne.mpr hk1
    have c2 : (decide (k ≤ 0) || its.toArray.isEmpty) = true := by
      rw [decide_eq_true hk0, Bool.true_or]
    refine wpAny_binaryOp_repeat_ref (T := "tuple") (U := "int") (by decide) ⟨_, ho, rfl⟩ (fun s' => typeIs_int s' k t) noFill_tuple_mul F.fills_int_mul F.slot_int_rmul repeat_tuple F.slot_int_index.lookup
      (call_meets F.slot_int_rmul (typeIs_int s k t) F.entry_int_rmul (F.args_int_rmul_2 _ _) (int_rmul_tuple k t l its.toArray n dd sl)
        ⟨ho, rfl, ⟨_, ho, rfl⟩, call_meets F.slot_tuple_mul ⟨_, ho, rfl⟩ F.entry_tuple_mul (F.args_tuple_mul_2 _ _) (tmul_none l its.toArray n dd sl k t c0 c1 c2) ⟨ho, ?_⟩⟩)
    have hk : k.toNat = 0 := by omega
    have e0 : (List.replicate k.toNat xs).flatten = [] := by rw [hk]; rfl
    have q' := q hne hk1
    rw [e0] at q'
    exact ⟨.ref s.heap.objs.size, _, Inv.nwt (tk := s.toks) (s0 := s) (its := []) I .nil (by rw [sizeLine_eq]; exact Nat.zero_le _), rfl, q' _ _ rfl (I.hok.fresh (Nat.le_refl _))⟩
end
/-- a tuple times a number -/
def gMulT : D → D → Option D
  | .tuple ds, .int k => if decide (-1000 ≤ k) && decide (k ≤ 1000) && decide (ds.length ≤ 1000) then some (.tuple (repD ds k.toNat)) else none
  | _, _ => none
theorem vw_mulT {K : PySem.W.Frag} : ∀ F H x y dx dy dz, Ex F H → Vw K F H x dx → Vw K F H y dy → gMulT dx dy = some dz → ∀ Q : VK, Res K F H dz Q → rRepT2 K x y H Q := by
  intro F H x y dx dy dz e hx hy hg Q k
  unfold gMulT at hg
  split at hg
  · rename_i ds k0
    split at hg
    · rename_i hb
      cases hg
      simp only [Bool.and_eq_true, decide_eq_true_eq] at hb
      obtain ⟨⟨b1, b2⟩, b3⟩ := hb
      have hx' := hx
      obtain ⟨a, xs, rfl, s1, r1⟩ := hx.tuple e
      refine ⟨a, k0, xs, rfl, hy.int, s1, b1, b2, by rw [r1.length]; exact b3, fun hs => ?_, fun hne hk1 => ?_⟩
      · have hds : repD ds k0.toNat = ds := by
          rcases hs with rfl | rfl
          · cases r1
            generalize k0.toNat = m
            clear k
            induction m with
            | zero => rfl
            | succ m ih => rw [repD, ih]; rfl
          · show ds ++ [] = ds
            rw [List.append_nil]
        rw [hds] at k
        rcases hx' with hx' | ⟨_, _, _, _, q, _⟩ | ⟨_, _, _, q, _⟩
        · exact k.at_ e hx'
        · cases q
        · cases q
      · rw [repD_eq] at k
        exact k.tup e (rpA_rep r1 k0.toNat)
    · cases hg
  · cases hg
theorem d_mulT {X : Cx} {a b : Expr} {pos : Pos} {fa fb : Fm → Option D} (ha : PV X a fa) (hb : PV X b fb) : PP X (.BinOp a .Mult b pos) (fOp2 gMulT fa fb) := let ⟨_, h1, h2⟩ := ha; let ⟨_, h3, h4⟩ := hb; ⟨_, pe_op op_repT2 h1 h3, sp_op2 vw_mulT h2 h4⟩
/-- sorted(..) that one goes on with -/
def mSort (f : Fm → Option D) (ρ : Fm) : Option (B × Fm) := (f ρ).bind fun d => (gSorted d).bind fun r => match r with
  | .list ds => some (.ow ds, ρ)
  | _ => none
theorem m_sorted {X : Cx} {e : Expr} {pos p : Pos} {fe : Fm → Option D} {k : Nat} (hr : Room k X.A) (B : Bt X.mg) (ha : PV X e fe) (hg : Gl X "sorted" := by rfl) (hs : starEach [e] X.env = (false, eval e X.env) :: starEach [] X.env := by rfl) : XM X (.Call (.Name "sorted" p) [e] [] pos) (mSort fe) := by
  obtain ⟨t, h1, h2⟩ := ha
  refine ⟨_, pe_callB (cr_sortD (Room.u70 hr)) hg B.sorted PyProof.Rows.boot_sorted (pa_cons h1 pa_nil hs) (by decide) (by decide) hs rfl, fun F H σ ρ b ρ' hf hR Q k => ?_⟩
  obtain ⟨d, e1, hf⟩ := Option.bind_eq_some_iff.mp hf
  obtain ⟨r, e2, hf⟩ := Option.bind_eq_some_iff.mp hf
  refine h2 F H σ ρ d e1 hR _ fun x F1 H1 g1 r1 => ?_
  unfold gSorted at e2
  split at e2
  · split at e2
    · rename_i hc
      cases e2
      cases hf
      simp only [Bool.and_eq_true, decide_eq_true_eq] at hc
      obtain ⟨⟨⟨c1, c2⟩, c3⟩, c4⟩ := hc
      obtain ⟨a, xs, rfl, s1, r2⟩ := r1.list g1.in_
      exact ⟨a, xs, _, Rp X.K F1, rfl, .inl s1, (r2.mono g1.in_).dpA (okD_list c1).1, rpA_pair r2, c2, c3, c4, (okD_list c1).2, fun ys q hy hq => k _ _ _ (.gr hR (g1.trans (Gr.newH (o := .lst ys) g1.in_ hq))) ⟨q, ys, rfl, g1.live.free hq, upd_same, g1.in_.free hq, pair_rpA hy⟩⟩
    · cases e2
  · split at e2
    · rename_i hc
      cases e2
      cases hf
      simp only [Bool.and_eq_true, decide_eq_true_eq] at hc
      obtain ⟨⟨⟨c1, c2⟩, c3⟩, c4⟩ := hc
      obtain ⟨a, xs, rfl, s1, r2⟩ := r1.tuple g1.in_
      exact ⟨a, xs, _, Rp X.K F1, rfl, .inr s1, (r2.mono g1.in_).dpA (okD_tuple c1).1, rpA_pair r2, c2, c3, c4, (okD_tuple c1).2, fun ys q hy hq => k _ _ _ (.gr hR (g1.trans (Gr.newH (o := .lst ys) g1.in_ hq))) ⟨q, ys, rfl, g1.live.free hq, upd_same, g1.in_.free hq, pair_rpA hy⟩⟩
    · cases e2
  · cases e2
/-- is, is not of two bools -/
def gIsB (neg : Bool) : D → D → Option D
  | .bool a, .bool b => some (.bool (if neg then !decide (a = b) else decide (a = b)))
  | _, _ => none
section
variable {X : Cx} {a b : Expr} {fa fb : Fm → Option D}
theorem vw_isB {K : PySem.W.Frag} : ∀ F H x y dx dy dz, Ex F H → Vw K F H x dx → Vw K F H y dy → gIsB false dx dy = some dz → ∀ Q : VK, Res K F H dz Q → (∃ a b, x = .bl a ∧ y = .bl b ∧ Q (.bl (decide (a = b))) H) := by
  intro F H x y dx dy dz e hx hy hg Q k
  unfold gIsB at hg
  split at hg
  · cases hg
    exact ⟨_, _, hx.bl, hy.bl, k.sc e fun _ => .bl _⟩
  · cases hg
theorem vw_noB {K : PySem.W.Frag} : ∀ F H x y dx dy dz, Ex F H → Vw K F H x dx → Vw K F H y dy → gIsB true dx dy = some dz → ∀ Q : VK, Res K F H dz Q → (∃ a b, x = .bl a ∧ y = .bl b ∧ Q (.bl (!decide (a = b))) H) := by
  intro F H x y dx dy dz e hx hy hg Q k
  unfold gIsB at hg
  split at hg
  · cases hg
    exact ⟨_, _, hx.bl, hy.bl, k.sc e fun _ => .bl _⟩
  · cases hg
theorem c_isb (ha : PV X a fa) (hb : PV X b fb) : PCm X .Is a b (fOp2 (gIsB false) fa fb) := let ⟨ta, h1, h2⟩ := ha; let ⟨tb, h3, h4⟩ := hb; ⟨_, ta, tb, op_is_bl, h1, h3, sp_op2 vw_isB h2 h4⟩
theorem c_nob (ha : PV X a fa) (hb : PV X b fb) : PCm X .IsNot a b (fOp2 (gIsB true) fa fb) := let ⟨ta, h1, h2⟩ := ha; let ⟨tb, h3, h4⟩ := hb; ⟨_, ta, tb, op_isnot_bl, h1, h3, sp_op2 vw_noB h2 h4⟩
end
end DL
end
section
set_option Elab.async false
set_option linter.all false
set_option maxRecDepth 100000
/-! sorted(set(xs)), xs a list of whole numbers. -/
namespace DL
open PySem PySem.Spec PyProof.Rows L2
variable [TabT] [FnT]
section
variable {P : Program} {w : World} {A : Around} {E : Value → Shared → Prop} {s : Shared}
/-- a new set -/
abbrev emO (w : World) : Obj := { cls := .type "set", dict := none, data := .set #[] 0 (.fresh 0 0 (!w.params.followText "set-order")) }
set_option maxRecDepth 100000 in
set_option maxHeartbeats 3200000 in
theorem set_listI {l : Addr} {arr : Array Value} (zs : List Int) {Q : Value → Shared → Prop} (hh : A.handled = none) (hla : s.heap.IsList l arr) (hin0 : IntsAre arr.toList zs) (hb : zs.length + 1 < scanBound)
    (h : ∀ (hp1 : Heap) (tq c : Nat), SetR w hp1 s.heap.objs.size (fun j => decide (j ∈ zs)) c → c ≤ zs.length → (∀ b o, s.heap.get? b = some o → hp1.get? b = some o) → Q (.ref s.heap.objs.size) { s with heap := hp1, toks := tq }) :
    wpAny (model P w) A (call (.type "set") [.ref l]) Q E s := by
  have hsz0 : arr.size = zs.length := by
    have q := IntsAre.length hin0
    rw [Array.length_toList] at q
    exact q
  obtain ⟨c, tl, hm0⟩ := F.called_set.mro
  have hmd := F.called_set.made
  have hsub := F.called_set.sub
  refine wpAny_call (codeAny_of_tree ?_)
  show wpAny _ _ (callAny (.type "set") _) _ _ _
  refine wpAny_pure ⟨Code.quiet_builtin _ (by decide +kernel), codeAny_builtin F.entry_type_call ?_⟩
  rw [Around.under_plain (weight_type_call_type "set" [.ref l] []) rfl]
  have h1 := F.called_set.notType
  have h2 := F.called_set.canCreate
  have hct0 := F.typeCall_set_1 (.ref l)
  repeat (any_goals (first | assumption | wp_step))

  refine codeAny_mono (code_set_led1 (.ref l) (E := E) (Q₁ := fun obj ss1 => obj = .ref s.heap.objs.size ∧ ss1 = { s with heap := s.heap.push (emO w) }) ⟨rfl, rfl⟩) fun r ss1 hr => ?_
  cases r with
  | error e => exact hr
  | ok fl =>
    cases fl with
    | ret obj =>
      obtain ⟨rfl, rfl⟩ := hr
      have hS : (s.heap.push (emO w)).get? s.heap.objs.size = some (emO w) := Heap.get?_push_size _ rfl
      have hTy : Shared.TypeIs { s with heap := s.heap.push (emO w) } (.ref s.heap.objs.size) "set" := ⟨_, hS, rfl⟩
      have hli := F.called_set.init.lookup
      have hbi := F.called_set.init.bind (.ref s.heap.objs.size)
      repeat (any_goals (first | assumption | wp_step))

      refine codeAny_mono (codeAny_call_builtin (R := wants (fun r ss2 => r = .none ∧ ∃ hp1 tq c, ss2 = { s with heap := hp1, toks := tq } ∧ SetR w hp1 s.heap.objs.size (fun j => decide (j ∈ zs)) c ∧ c ≤ zs.length ∧
          (∀ b o, s.heap.get? b = some o → hp1.get? b = some o)) E) F.called_set.init.plain F.entry_set_init (check_set_init_1 hTy ?_)) fun rr2 ss2 hr2 => ?_
      · obtain ⟨ol, hol, hcl, nl, hdl⟩ := hla
        obtain ⟨ocls, odict, odata, oslots⟩ := ol
        simp only at hcl hdl
        subst hcl; subst hdl
        have hob1 : (s.heap.push (emO w)).get? l = some { cls := .type "list", dict := odict, data := .seq arr nl, slots := oslots } := Heap.get?_push_of_some _ hol
        have hsls := F.sub_list_set
        have hslf := F.sub_list_frozenset
        have hne : (Value.type "list" == Value.type "dict") = false := by decide
        have hla1 : (s.heap.push (emO w)).IsList l arr := ⟨_, hob1, rfl, nl, rfl⟩
        unfold Builtin.«set.__init__» noKeywords Builtin.Frozenset.updateFrom
        generalize hPI : pyIter = PI
        wp_walk
        subst hPI

        refine wpAny_pyIter_list hla1 ?_
        refine wpAny_bind (wpAny_runValue ?_)
        have hlS1 : l < s.heap.objs.size := Heap.lt_size hol
        have hh3 : A.in1.in1.in1.handled = none := by simp [hh]
        have hz1 : (s.heap.push (emO w)).objs.size = s.heap.objs.size + 1 := Heap.size_push ..
        have hne1 : l ≠ (s.heap.push (emO w)).objs.size := by
          rw [Heap.size_push]; exact Nat.ne_of_lt (Nat.lt_succ_of_lt hlS1)
        have hSf1 : s.heap.objs.size ∉ [(s.heap.push (emO w)).objs.size, l] := by
          rw [Heap.size_push]; simp only [List.mem_cons, List.mem_singleton, List.not_mem_nil, or_false, not_or]
          exact ⟨Nat.ne_of_lt (Nat.lt_succ_self _), Nat.ne_of_gt hlS1⟩
        have hvals : ∀ (i : Nat) (v : Value), arr[i]? = some v → ∃ k t, zs[i]? = some k ∧ v = .int k t := fun i v hv => by
          have hi : i < zs.length := by rw [← hsz0]; exact (Array.getElem?_eq_some_iff.mp hv).1
          obtain ⟨t, e⟩ := PyProof.Rows.IntsAre.int_at hin0 i v (by rw [Array.getElem?_toList]; exact hv)
          refine ⟨zs[i], t, List.getElem?_eq_getElem hi, ?_⟩
          rw [e, List.getD_eq_getElem?_getD, List.getElem?_eq_getElem hi] <;> rfl
        refine set_update_ints ((Walks.list hh3 _ l hne1 arr).toS) s.heap.objs.size
          hSf1 zs hsz0 hb hvals (arr.size - 0) 0 _ (by omega) (Nat.zero_le _)
          ⟨⟨_, Heap.get?_push_size _ rfl, rfl, rfl⟩, (hla1.push _)⟩ ?hS0 ?hR
        case hS0 =>
          have hget : ((s.heap.push (emO w)).push { cls := .type "list_iterator", data := .fields #[.ref l, .int 0 0] }).get? s.heap.objs.size
              = some (emO w) := Heap.get?_push_of_some _ hS
          exact ⟨0, Nat.le_refl 0, setR_new_at hget⟩
        case hR =>
          intro s' c' hm hcp hSp
          obtain ⟨hp1, g2, d', tk', os'⟩ := s'
          have eg : g2 = s.gens := hm.gens
          have ed : d' = s.drawn := hm.drawn
          have eo : os' = s.os := hm.os
          subst eg; subst ed; subst eo
          show wpAny _ _ _ _ _ _
          refine wpAny_pure ?_
          show wpAny _ _ (ret Value.none) _ _ _
          rw [hsz0] at hcp
          refine wpAny_pure ⟨rfl, hp1, tk', c', rfl, hSp, hcp, fun b o e => ?_⟩
          have hn0 : b < s.heap.objs.size := Heap.lt_size e
          have hn1 : b ≠ s.heap.objs.size := Nat.ne_of_lt hn0
          have hn2 : b ≠ (s.heap.push (emO w)).objs.size := by
            rw [Heap.size_push]; exact Nat.ne_of_lt (Nat.lt_succ_of_lt hn0)
          exact hm.heap b o (by simp only [List.mem_cons, List.mem_singleton, List.not_mem_nil, or_false, not_or]; exact ⟨hn1, hn2⟩) (Heap.get?_push_of_some _ (Heap.get?_push_of_some _ e))

      · cases rr2 with
        | error e => exact hr2
        | ok fl2 =>
          cases fl2 with
          | ret r =>
            obtain ⟨rfl, hp1, tq, c', rfl, hSp, hcp, hkp⟩ := hr2
            repeat (any_goals (first | assumption | wp_step))
            exact h _ _ _ hSp hcp hkp
          | _ => exact hr2.elim
    | _ => exact hr.elim

end
end DL
end
section
set_option Elab.async false
set_option linter.all false
set_option maxRecDepth 100000
/-! sorted(set(xs)), xs a list of whole numbers, or of pairs. -/
namespace DL
open PySem PySem.Spec PyProof.Rows L2
variable [TabT] [FnT]
def insI (p : Int) : List Int → List Int
  | [] => [p]
  | q :: r => if p < q then p :: q :: r else if q < p then q :: insI p r else q :: r
def ssI (ns : List Int) : List Int := ns.foldr insI []
theorem mem_insI {x p : Int} : ∀ {l : List Int}, x ∈ insI p l ↔ x = p ∨ x ∈ l
  | [] => by simp [insI]
  | q :: r => by
    unfold insI
    split
    · rw [List.mem_cons]
    · split
      · rw [List.mem_cons, mem_insI, List.mem_cons]
        constructor
        · rintro (h | h | h)
          · exact .inr (.inl h)
          · exact .inl h
          · exact .inr (.inr h)
        · rintro (h | h | h)
          · exact .inr (.inl h)
          · exact .inl h
          · exact .inr (.inr h)
      · have : p = q := by omega
        subst this
        simp
theorem insI_asc {p : Int} : ∀ {l : List Int}, l.Pairwise (· < ·) → (insI p l).Pairwise (· < ·)
  | [], _ => by simp [insI]
  | q :: r, h => by
    have a := List.pairwise_cons.mp h
    unfold insI
    split
    · rename_i hpq
      refine List.pairwise_cons.mpr ⟨fun x hx => ?_, h⟩
      rcases List.mem_cons.mp hx with e | hx
      · rw [e]; exact hpq
      · exact Int.lt_trans hpq (a.1 x hx)
    · split
      · rename_i hqp
        refine List.pairwise_cons.mpr ⟨fun x hx => ?_, insI_asc a.2⟩
        rcases mem_insI.mp hx with e | hx
        · rw [e]; exact hqp
        · exact a.1 x hx
      · exact h
theorem mem_ssI {x : Int} : ∀ {ps : List Int}, x ∈ ssI ps ↔ x ∈ ps
  | [] => by simp [ssI]
  | p :: ps => by
    show x ∈ insI p (ssI ps) ↔ _
    rw [mem_insI, mem_ssI, List.mem_cons]
theorem ssI_asc : ∀ (ps : List Int), (ssI ps).Pairwise (· < ·)
  | [] => .nil
  | p :: ps => insI_asc (ssI_asc ps)
def wholeD : List D → Option (List Int)
  | [] => some []
  | .int a :: r => (wholeD r).map (a :: ·)
  | _ :: _ => none
def ssW (ds : List D) : Option D := (wholeD ds).bind fun ns => if ns.length < 1000 ∧ (ssI ns).length < 62 then some (.list ((ssI ns).map .int)) else none
def gSSI : D → Option D
  | .list ds => ssW ds
  | .tuple ds => ssW ds
  | _ => none
def gSS2 (d : D) : Option D := (gSSI d).or (gSS d)
theorem rp_ints {K : PySem.W.Frag} {F : Hp} : ∀ {xs : List V} {ds : List D} {ns : List Int}, RpA K F xs ds → wholeD ds = some ns → xs = ns.map V.int
  | _, _, _, .nil, h => by cases h; rfl
  | _, _, _, .cons (d := d) (ds := ds) r t, h => by
    unfold wholeD at h
    split at h
    · rename_i e; cases e
    · rename_i a r' e
      cases e
      obtain ⟨ps, h1, h2⟩ := Option.map_eq_some_iff.mp h
      have ih := rp_ints t h1
      cases r
      subst ih
      rw [← h2]; rfl
    · cases h
theorem ints_rp {K : PySem.W.Frag} {F : Hp} : ∀ (ns : List Int), RpA K F (ns.map V.int) (ns.map .int)
  | [] => .nil
  | n :: ns => .cons (.int n) (ints_rp ns)
theorem nd_le : ∀ {l m : List Int}, l.Nodup → (∀ x ∈ l, x ∈ m) → l.length ≤ m.length
  | [], _, _, _ => Nat.zero_le _
  | x :: l, m, hn, h => by
    have hx : x ∈ m := h x List.mem_cons_self
    have h1 := List.nodup_cons.mp hn
    have ih := nd_le (l := l) (m := m.erase x) h1.2 fun y hy => (List.mem_erase_of_ne (fun e => h1.1 (by rw [← e]; exact hy))).mpr (h y (List.mem_cons_of_mem _ hy))
    rw [List.length_erase_of_mem hx] at ih
    have := List.length_pos_of_mem hx
    rw [List.length_cons]
    omega
theorem setR_le {w : World} {h : Heap} {a : Addr} {ns : List Int} {n : Nat} (R : SetR w h a (fun j => decide (j ∈ ns)) n) : n ≤ (ssI ns).length := by
  obtain ⟨o, es, ep, t, _, _, _, _, nd, mem, _, _, e, _⟩ := R
  have := nd_le (m := ssI ns) nd fun x hx => mem_ssI.mpr (of_decide_eq_true ((mem x).mpr hx))
  rw [List.length_map, Array.length_toList, e] at this
  exact this
def rSetOfI (K : PySem.W.Frag) (w : World) : List V → Hp → VK → Prop := fun xs H Q => ∃ (l : Addr) (ns : List Int), xs = [V.ref l] ∧ (SqL K H l (ns.map V.int) ∨ SqT K H l (ns.map V.int)) ∧ ns.length < 1000 ∧
  ∀ (a : Addr) (S : Int → Bool) (n : Nat), H a = none → (∀ k, S k = true ↔ k ∈ ns) → n ≤ (ssI ns).length → Q (.ref a) (upd H a (SetO w a S n))
section
variable {X : Cx} {e : Expr} {pos p p2 pos2 : Pos} {fe f1 f2 f : Fm → Option D}
theorem cr_setOfI (hc : X.calm = true) : CallR X (.type "set") (rSetOfI X.K X.w) := by
  intro pins s σ H xs us Q I r h
  obtain ⟨l, ns, rfl, hl, hf, q⟩ := h
  rw [Vals.ref1 r]
  have hn : H s.heap.objs.size = none := I.hok.fresh (Nat.le_refl _)
  have fin : ∀ (h' : Heap) (tk c : Nat), SetR X.w h' s.heap.objs.size (fun j => decide (j ∈ ns)) c → c ≤ ns.length → (∀ b o, s.heap.get? b = some o → h'.get? b = some o) → EP X pins σ Q (.ref s.heap.objs.size) { s with heap := h', toks := tk } := fun h' tk c R g k =>
    ⟨.ref s.heap.objs.size, upd H s.heap.objs.size (SetO X.w s.heap.objs.size (fun j => decide (j ∈ ns)) c), I.laid (t' := tk) k (Nat.le_refl _) (setO_new R), rfl, q _ _ c hn (fun k => decide_eq_true_iff) (setR_le R)⟩
  rcases hl with hl | hl
  · obtain ⟨its, rv, pl, hz⟩ := I.list hl
    exact set_listI (P := X.prog) (w := X.w) ns (I.ok.hd hc) pl.isList (by simpa using ints_of_vals rv) (by unfold scanBound; omega) fin
  · obtain ⟨its, rv, pl, hz⟩ := I.tuple hl
    exact call_set_tupI (P := X.prog) (w := X.w) ns (I.ok.hd hc) (show s.heap.IsTuple l its.toArray from pl) (by simpa using ints_of_vals rv) (by unfold scanBound; omega) fin
theorem d_ssI (hc : X.calm = true) (B : Bt X.mg) (ha : PV X e fe) (hg : Gl X "sorted" := by rfl) (hg2 : Gl X "set" := by rfl) (hs : starEach [e] X.env = (false, eval e X.env) :: starEach [] X.env := by rfl) :
    PP X (.Call (.Name "sorted" p) [.Call (.Name "set" p2) [e] [] pos2] [] pos) (fOp1 gSSI fe) := by
  obtain ⟨t, h1, h2⟩ := ha
  refine ⟨_, pe_callB (cr_sortedSet hc) hg B.sorted PyProof.Rows.boot_sorted (pa_cons (pe_callTy (cr_setOfI hc) hg2 B.set PyProof.Rows.boot_set (pa_cons h1 pa_nil hs) (by decide) (by decide) hs rfl) pa_nil rfl) (by decide) (by decide) rfl rfl, fun F H σ ρ d hf hR Q q => ?_⟩
  obtain ⟨dx, e1, e2⟩ := Option.bind_eq_some_iff.mp hf
  have key : ∀ ds : List D, ssW ds = some d → ∀ (a : Addr) (xs : List V) (F1 H1 : Hp), Gr F H F1 H1 → (SqL X.K H1 a xs ∨ SqT X.K H1 a xs) → RpA X.K F1 xs ds → rSetOfI X.K X.w [.ref a] H1 fun v H2 => rSortedSet X.w [v] H2 Q := fun ds e2 a xs F1 H1 g1 s1 rl => by
    unfold ssW at e2
    obtain ⟨ns, e3, e4⟩ := Option.bind_eq_some_iff.mp e2
    split at e4
    · rename_i hz
      cases e4
      have k1 := rp_ints rl e3
      subst k1
      refine ⟨a, ns, rfl, s1, hz.1, fun b S n hb hS hn => ?_⟩
      have hz2 := hz.2
      have g2 : Gr F1 H1 F1 (upd H1 b (SetO X.w b S n)) := .newH g1.in_ hb
      refine ⟨b, S, n, rfl, upd_same, by omega, fun L pL hasc hm hln hpn => ?_⟩
      have hlist : L = ssI ns := asc_ext (fun x h => by omega) (fun x y h h' => by omega) hasc (ssI_asc ns) fun k => by rw [hm, hS, mem_ssI]
      subst hlist
      exact ((q.gr g1).gr g2).lst g2.in_ (ints_rp _) pL hpn
    · cases e4
  unfold gSSI at e2
  split at e2
  · refine h2 F H σ ρ _ e1 hR _ fun v F1 H1 g1 r1 => ?_
    obtain ⟨a, xs, rfl, s1, rl⟩ := r1.list g1.in_
    exact key _ e2 a xs F1 H1 g1 (.inl s1) rl
  · refine h2 F H σ ρ _ e1 hR _ fun v F1 H1 g1 r1 => ?_
    obtain ⟨a, xs, rfl, s1, rl⟩ := r1.tuple g1.in_
    exact key _ e2 a xs F1 H1 g1 (.inr s1) rl
  · cases e2
theorem pp_or (h1 : PP X e f1) (h2 : PP X e f2) (h : ∀ ρ d, f ρ = some d → f1 ρ = some d ∨ f2 ρ = some d) : PP X e f := by
  obtain ⟨t1, a1, b1⟩ := h1
  obtain ⟨t2, a2, b2⟩ := h2
  refine ⟨fun σ H Q => t1 σ H Q ∨ t2 σ H Q, ⟨fun pins s σ H Q I h => ?_⟩, fun F H σ ρ d hf hR Q q => ?_⟩
  · rcases h with h | h
    · exact a1.run pins s σ H Q I h
    · exact a2.run pins s σ H Q I h
  · rcases h ρ d hf with h | h
    · exact .inl (b1 F H σ ρ d h hR Q q)
    · exact .inr (b2 F H σ ρ d h hR Q q)
theorem d_ss2 {k : Nat} (hc : X.calm = true) (hr : Room k X.A) (B : Bt X.mg) (ha : PV X e fe) (hg : Gl X "sorted" := by rfl) (hg2 : Gl X "set" := by rfl) (hs : starEach [e] X.env = (false, eval e X.env) :: starEach [] X.env := by rfl) :
    PP X (.Call (.Name "sorted" p) [.Call (.Name "set" p2) [e] [] pos2] [] pos) (fOp1 gSS2 fe) :=
  pp_or (d_ssI hc B ha hg hg2 hs) (d_ss hc hr B ha hg hg2 hs) fun ρ d hf => by
    obtain ⟨dx, e1, e2⟩ := Option.bind_eq_some_iff.mp hf
    unfold gSS2 at e2
    cases h : gSSI dx with
    | some y =>
      rw [h] at e2
      exact .inl (by unfold fOp1; rw [e1]; exact h.trans e2)
    | none =>
      rw [h] at e2
      exact .inr (by unfold fOp1; rw [e1]; exact e2)
end
end DL
end
section
set_option Elab.async false
set_option linter.all false
set_option maxRecDepth 100000
/-! ranges as values; count, index of whole numbers. -/
namespace DL
open PySem PySem.Spec PyProof.Rows L2
variable [TabT] [FnT]
def rgOk (j : Int) : Bool := decide (0 ≤ j) && decide (j ≤ 1000000)
def gRgL : D → Option D
  | .int j => if rgOk j then some (.list (rngD 0 j.toNat)) else none
  | _ => none
def gRgT : D → Option D
  | .int j => if rgOk j then some (.tuple (rngD 0 j.toNat)) else none
  | _ => none
theorem rg_rp {K : PySem.W.Frag} {F : Hp} (j : Int) : RpA K F (rgV 0 j) (rngD 0 j.toNat) := by
  unfold rgV rngD
  rw [Int.sub_zero]
  generalize j.toNat = n
  have : ∀ (l : List Nat), RpA K F (l.map fun i => V.int (0 + (i : Nat))) (l.map fun (i : Nat) => PyData.int (0 + (i : Int))) := by
    intro l
    induction l with
    | nil => exact .nil
    | cons x l ih => exact .cons (.int _) ih
  exact this _
theorem smR_rg {j : Int} (h : rgOk j = true) : RgOk 0 j := by
  unfold rgOk at h
  simp only [Bool.and_eq_true, decide_eq_true_eq] at h
  have h1 := h.1
  have h2 := h.2
  have h3 : (2 : Nat) ^ 24 = 16777216 := by decide
  exact ⟨by omega, by omega, by omega, by omega, by rw [h3]; omega⟩
section
variable {X : Cx} {e o : Expr} {pos p p2 pos2 apos cpos : Pos} {fe fo : Fm → Option D}
theorem d_rgL (hc : X.calm = true) (B : Bt X.mg) (ha : PP X e fe) (hg : Gl X "list" := by rfl) (hg2 : Gl X "range" := by rfl) (hs : starEach [e] X.env = (false, eval e X.env) :: starEach [] X.env := by rfl)
    (hs2 : starEach [.Call (.Name "range" p2) [e] [] pos2] X.env = (false, eval (.Call (.Name "range" p2) [e] [] pos2) X.env) :: starEach [] X.env := by rfl) :
    PP X (.Call (.Name "list" p) [.Call (.Name "range" p2) [e] [] pos2] [] pos) (fOp1 gRgL fe) := by
  obtain ⟨t, h1, h2⟩ := ha
  refine ⟨_, pe_listRg hc hg B.list (prg_1 hg2 B.range h1 hs) hs2, fun F H σ ρ d hf hR Q q => ?_⟩
  obtain ⟨dx, e1, e2⟩ := Option.bind_eq_some_iff.mp hf
  unfold gRgL at e2
  split at e2
  · rename_i j
    split at e2
    · rename_i hz
      cases e2
      refine h2 F H σ ρ _ e1 hR _ fun v F1 H1 g1 r1 => ?_
      exact ⟨j, r1.intI, smR_rg hz, fun b hb => (q.gr g1).lst g1.in_ (rg_rp j) b hb⟩
    · cases e2
  · cases e2
theorem d_rgT (hc : X.calm = true) (B : Bt X.mg) (ha : PP X e fe) (hg : Gl X "tuple" := by rfl) (hg2 : Gl X "range" := by rfl) (hs : starEach [e] X.env = (false, eval e X.env) :: starEach [] X.env := by rfl)
    (hs2 : starEach [.Call (.Name "range" p2) [e] [] pos2] X.env = (false, eval (.Call (.Name "range" p2) [e] [] pos2) X.env) :: starEach [] X.env := by rfl) :
    PP X (.Call (.Name "tuple" p) [.Call (.Name "range" p2) [e] [] pos2] [] pos) (fOp1 gRgT fe) := by
  obtain ⟨t, h1, h2⟩ := ha
  refine ⟨_, pe_tupRgZ hc hg B.tuple (prg_1 hg2 B.range h1 hs) hs2, fun F H σ ρ d hf hR Q q => ?_⟩
  obtain ⟨dx, e1, e2⟩ := Option.bind_eq_some_iff.mp hf
  unfold gRgT at e2
  split at e2
  · rename_i j
    split at e2
    · rename_i hz
      cases e2
      refine h2 F H σ ρ _ e1 hR _ fun v F1 H1 g1 r1 => ?_
      exact ⟨j, r1.intI, smR_rg hz, (q.gr g1).tup g1.in_ (rg_rp j)⟩
    · cases e2
  · cases e2
/-- a list's own method of one argument -/
theorem d_lmeth {name : Str} {id : String} {r : V → List V → Hp → VK → Prop} {g : D → D → Option D} (slot : Slot "list" name id) (hty : typeOf (.builtin id) = pure (.type "method_descriptor")) (hm : MtR X id r)
    (hl : ∀ dx dy dz, g dx dy = some dz → ∃ ds, dx = .list ds) (hv : ∀ F H x y dx dy dz, Ex F H → Vw X.K F H x dx → Vw X.K F H y dy → g dx dy = some dz → ∀ Q : VK, Res X.K F H dz Q → r x [y] H Q)
    (ho : PV X o fo) (ha : PV X e fe) (hbase : attributeBase o name X.env (eval o X.env) = eval o X.env := by rfl)
    (hfew : ((backTo cpos (starEach [e] X.env)).all (fun x => !x.1) && (backToKw cpos (keywordEach [] X.env)).all (fun x => x.1.isSome)
      && decide (([e] : List Expr).length + ([] : List Keyword).length + (if ([] : List Keyword).isEmpty then 0 else 1) < 30)) = true := by rfl)
    (hline : (apos.endLine == cpos.line) = true := by rfl) (hs : starEach [e] X.env = (false, eval e X.env) :: starEach [] X.env := by rfl) :
    PP X (.Call (.Attribute o name apos) [e] [] cpos) (fOp2 g fo fe) := by
  obtain ⟨t, h1, h2⟩ := ho
  obtain ⟨u, h3, h4⟩ := ha
  refine ⟨_, pe_bm PySem.F.plainAttrs_list slot hty hm h1 (pa_cons h3 pa_nil hs) hbase hfew hline hs rfl, fun F H σ ρ d hf hR Q q => ?_⟩
  obtain ⟨dx, e1, e2⟩ := Option.bind_eq_some_iff.mp hf
  obtain ⟨dy, e3, e4⟩ := Option.bind_eq_some_iff.mp e2
  obtain ⟨ds, rfl⟩ := hl _ _ _ e4
  refine h2 F H σ ρ _ e1 hR _ fun v F1 H1 g1 r1 => ?_
  obtain ⟨a, xs, rfl, s1, rl⟩ := r1.list g1.in_
  refine ⟨.inl ⟨rfl, xs, s1⟩, ?_⟩
  refine h4 F1 H1 σ ρ _ e3 (hR.gr g1) _ fun y F2 H2 g2 r2 => ?_
  exact hv F2 H2 (.ref a) y _ _ _ g2.in_ (r1.gr g2) r2 e4 Q ((q.gr g1).gr g2)
def gCount : D → D → Option D
  | .list ds, .int k => (wholeD ds).map fun ns => .int ((ns.count k : Nat) : Int)
  | _, _ => none
theorem d_count (ho : PV X o fo) (ha : PV X e fe) (hbase : attributeBase o "count" X.env (eval o X.env) = eval o X.env := by rfl)
    (hfew : ((backTo cpos (starEach [e] X.env)).all (fun x => !x.1) && (backToKw cpos (keywordEach [] X.env)).all (fun x => x.1.isSome)
      && decide (([e] : List Expr).length + ([] : List Keyword).length + (if ([] : List Keyword).isEmpty then 0 else 1) < 30)) = true := by rfl)
    (hline : (apos.endLine == cpos.line) = true := by rfl) (hs : starEach [e] X.env = (false, eval e X.env) :: starEach [] X.env := by rfl) :
    PP X (.Call (.Attribute o "count" apos) [e] [] cpos) (fOp2 gCount fo fe) := by
  refine d_lmeth PySem.F.slot_list_count PySem.F.type_list_count mt_lcount (fun dx dy dz h => ?_) (fun F H x y dx dy dz ex vx vy h Q q => ?_) ho ha hbase hfew hline hs
  · unfold gCount at h
    split at h
    · exact ⟨_, rfl⟩
    · cases h
  · unfold gCount at h
    split at h
    · obtain ⟨ns, h1, h2⟩ := Option.map_eq_some_iff.mp h
      obtain ⟨a, xs, rfl, s1, rl⟩ := vx.list ex
      have k1 := rp_ints rl h1
      subst k1
      rw [vy.int]
      refine ⟨a, ns, _, rfl, rfl, s1, ?_⟩
      rw [← h2] at q
      exact q.sc ex fun _ => .int _
    · cases h
theorem idx_ne {k : Int} : ∀ {ns : List Int} {m : Nat} {h : m < ns.length}, m < ns.idxOf k → ¬ ns[m] = k
  | [], m, h, _ => by simp at h
  | x :: ns, 0, h, hm => by
    intro e
    have e : x = k := e
    subst e
    simp at hm
  | x :: ns, m + 1, h, hm => by
    rw [List.idxOf_cons] at hm
    rw [List.getElem_cons_succ]
    by_cases hx : (x == k) = true
    · rw [hx] at hm; simp at hm
    · rw [Bool.not_eq_true] at hx
      rw [hx] at hm
      exact idx_ne (by simpa using hm)
def gIndex : D → D → Option D
  | .list ds, .int k => (wholeD ds).bind fun ns => if k ∈ ns then some (.int ((ns.idxOf k : Nat) : Int)) else none
  | _, _ => none
theorem d_index (ho : PV X o fo) (ha : PV X e fe) (hbase : attributeBase o "index" X.env (eval o X.env) = eval o X.env := by rfl)
    (hfew : ((backTo cpos (starEach [e] X.env)).all (fun x => !x.1) && (backToKw cpos (keywordEach [] X.env)).all (fun x => x.1.isSome)
      && decide (([e] : List Expr).length + ([] : List Keyword).length + (if ([] : List Keyword).isEmpty then 0 else 1) < 30)) = true := by rfl)
    (hline : (apos.endLine == cpos.line) = true := by rfl) (hs : starEach [e] X.env = (false, eval e X.env) :: starEach [] X.env := by rfl) :
    PP X (.Call (.Attribute o "index" apos) [e] [] cpos) (fOp2 gIndex fo fe) := by
  refine d_lmeth PySem.F.slot_list_index PySem.F.type_list_index mt_index (fun dx dy dz h => ?_) (fun F H x y dx dy dz ex vx vy h Q q => ?_) ho ha hbase hfew hline hs
  · unfold gIndex at h
    split at h
    · exact ⟨_, rfl⟩
    · cases h
  · unfold gIndex at h
    split at h
    · obtain ⟨ns, h1, h2⟩ := Option.bind_eq_some_iff.mp h
      split at h2
      · rename_i k hk
        cases h2
        obtain ⟨a, xs, rfl, s1, rl⟩ := vx.list ex
        have k1 := rp_ints rl h1
        subst k1
        rw [vy.int]
        have hlt : ns.idxOf k < ns.length := List.idxOf_lt_length_of_mem hk
        refine ⟨a, ns.map V.int, .int k, ns.idxOf k, .int k, rfl, rfl, s1, rfl, ?_, ?_, ?_, ?_, ?_⟩
        · rw [List.all_eq_true]
          intro z hz
          obtain ⟨i, _, rfl⟩ := List.mem_map.mp hz
          rfl
        · rw [List.getElem?_map, List.getElem?_eq_getElem hlt, List.getElem_idxOf hlt]; rfl
        · exact decide_eq_true rfl
        · intro m z hm hz
          rw [List.getElem?_map, List.getElem?_eq_getElem (by omega)] at hz
          cases hz
          have := idx_ne (h := Nat.lt_trans hm hlt) hm
          exact decide_eq_false this
        · exact q.sc ex fun _ => .int _
      · cases h2
    · cases h
/-- a target of names and tuples of names = e -/
def sTgt (t : Tg) (f : Fm → Option (D × Fm)) (ρ : Fm) : Option (Fl × Fm) := (f ρ).bind fun x => (setT t x.1 x.2).map fun ρ' => (.nx, ρ')
theorem s_tgt {t : Tg} {tg : Expr} {ge : Fm → Option (D × Fm)} (hg : PTg X tg t) (ha : XE X e ge) (hs : swapsWithSole [tg] e pos.line X.env = pure false := by rfl) (hw : swappedStores [tg] e X.env = pure none := by rfl)
    (hm : (assignEach [tg] X.env).map (·.2) = [assign tg X.env] := by rfl) : PSt X (.Assign [tg] e pos) (sTgt t ge) := by
  obtain ⟨u, h1, h2⟩ := ha
  obtain ⟨g, b1, b2⟩ := hg
  refine ⟨_, ps_asg h1 b1 hs hw hm, fun F H σ ρ fl ρ' hf hR E k1 k2 k3 => ?_⟩
  obtain ⟨⟨d, ρ1⟩, e1, e2⟩ := Option.bind_eq_some_iff.mp hf
  obtain ⟨ρ2, e3, e4⟩ := Option.map_eq_some_iff.mp e2
  cases e4
  refine h2 F H σ ρ _ ρ1 e1 hR _ fun v F1 H1 g1 r1 => ?_
  exact b2 F1 H1 σ ρ1 d ρ' v e3 g1.rel r1 _ fun σ3 g3 _ => k1 rfl σ3 F1 H1 (g1.go.trans g3)
end
end DL
end
section
set_option Elab.async false
set_option linter.all false
set_option maxRecDepth 100000
/-! count, index of any data. -/
namespace DL
open PySem PySem.Spec PyProof.Rows L2
variable [TabT] [FnT]
def rCntD (K : PySem.W.Frag) : V → List V → Hp → VK → Prop := fun x xs H Q => ∃ (a : Addr) (y : V) (d : PyData) (ds : List PyData), x = V.ref a ∧ xs = [y] ∧ Dp K H (V.ref a) (.list ds) ∧ Dp K H y d ∧
  SeqAt.shaped (.list ds) = true ∧ SeqAt.shaped d = true ∧ Q (.int ((ds.countP fun z => PyData.eqv z d : Nat) : Int)) H
section
variable {X : Cx}
theorem mt_countD (hu : X.A.units + 65 < cLine) : MtR X "list.count" (rCntD X.K) := by
  intro pins s σ H x xs v us Q I rx rxs h
  obtain ⟨a, y, d, ds, rfl, rfl, hl, hy, sl, sd, q⟩ := h
  cases rx
  cases rxs with
  | cons ry rt =>
    rename_i uy ut
    cases rt
    obtain ⟨bs, r1⟩ := Dp.reads I d y uy hy ry
    have hxs : PyData.canLayAll0 ds = true := SeqAt.canLay_of_shaped sl
    have hroom : X.A.units + 1 + min (PyData.depthAll ds) d.depth < cLine := room_in_shaped sd hu
    cases hl with
    | lst hs ha =>
      obtain ⟨its, rv, ⟨⟨cls, dd, data, sls⟩, n, ho, hc, hdn, hdt⟩, hlen⟩ := I.list hs
      simp only at hc hdt
      subst hc hdt
      obtain ⟨as, h4⟩ := Dp.readsAll I ds _ its ha rv
      have hmap : its.map (SeqAt.readOf s.heap) = ds := SeqAt.readsAll_map ds its as hxs h4
      refine call_meets PySem.F.slot_list_count ⟨_, ho, rfl⟩ PySem.F.entry_list_count (PySem.F.args_list_count_2 _ _)
        (SeqAt.list_countAt a its.toArray n dd sls uy (fun u => PyData.eqv (SeqAt.readOf s.heap u) d)) ⟨ho, SeqAt.items_eqAt (vs := its.toArray) (show ReadsAll s.heap its.toArray.toList ds as from h4) r1 hxs (SeqAt.canLay_of_shaped sd) hroom, ?_⟩
      have ec : its.toArray.toList.countP (fun u => PyData.eqv (SeqAt.readOf s.heap u) d) = ds.countP fun z => PyData.eqv z d := by
        rw [← hmap, List.countP_map]
        rfl
      refine ⟨.int ((ds.countP fun z => PyData.eqv z d : Nat) : Int), H, I.tok _, ⟨s.toks, ?_⟩, q⟩
      show Value.int ((its.toArray.toList.countP (fun u => PyData.eqv (SeqAt.readOf s.heap u) d) : Nat) : Int) s.toks = Value.int ((ds.countP fun z => PyData.eqv z d : Nat) : Int) s.toks
      rw [ec]
end
def gCountD : D → D → Option D
  | .list ds, y => if okD (.list ds) && okD y then some (.int ((ds.countP fun z => PyData.eqv z y : Nat) : Int)) else none
  | _, _ => none
section
variable {X : Cx} {e o : Expr} {pos p p2 pos2 apos cpos : Pos} {fe fo : Fm → Option D}
theorem d_countD {k : Nat} (hr : Room k X.A) (ho : PV X o fo) (ha : PV X e fe) (hbase : attributeBase o "count" X.env (eval o X.env) = eval o X.env := by rfl)
    (hfew : ((backTo cpos (starEach [e] X.env)).all (fun x => !x.1) && (backToKw cpos (keywordEach [] X.env)).all (fun x => x.1.isSome)
      && decide (([e] : List Expr).length + ([] : List Keyword).length + (if ([] : List Keyword).isEmpty then 0 else 1) < 30)) = true := by rfl)
    (hline : (apos.endLine == cpos.line) = true := by rfl) (hs : starEach [e] X.env = (false, eval e X.env) :: starEach [] X.env := by rfl) :
    PP X (.Call (.Attribute o "count" apos) [e] [] cpos) (fOp2 gCountD fo fe) := by
  refine d_lmeth PySem.F.slot_list_count PySem.F.type_list_count (mt_countD (by have := Room.u66 hr; omega)) (fun dx dy dz h => ?_) (fun F H x y dx dy dz ex vx vy h Q q => ?_) ho ha hbase hfew hline hs
  · unfold gCountD at h
    split at h
    · exact ⟨_, rfl⟩
    · cases h
  · unfold gCountD at h
    split at h
    · split at h
      · rename_i ds hc
        cases h
        simp only [Bool.and_eq_true] at hc
        obtain ⟨a, xs, e1, s1, rl⟩ := vx.list ex
        subst e1
        exact ⟨a, y, _, ds, rfl, rfl, (vx.rp ex (nd_ok hc.1)).dp (nd_ok hc.1), (vy.rp ex (nd_ok hc.2)).dp (nd_ok hc.2), hc.1, hc.2, q.sc ex fun _ => .int _⟩
      · cases h
    · cases h
end
end DL
end
section
set_option Elab.async false
set_option linter.all false
set_option maxRecDepth 100000
/-! A dict against an empty one; t.index(x) of any data. -/
namespace DL
open PySem PySem.Spec PyProof.Rows L2
variable [TabT] [FnT]
def Dsz (h : Heap) (a : Addr) (m : Nat) : Prop := (a == sysModules) = false ∧ ∃ o es ep, h.get? a = some o ∧ o.ExactDict ∧ o.data = .dict es ep ∧ es.size = m
theorem Dsz.typeIs {s : Shared} {a : Addr} {m : Nat} (h : Dsz s.heap a m) : s.TypeIs (.ref a) "dict" := by
  obtain ⟨_, o, _, _, h1, h2, _⟩ := h
  exact ⟨o, h1, h2.1⟩
section
variable {prog : Program} {w : World} {A : Around} {E : Value → Shared → Prop} {s : Shared}
theorem same_sz {nm : String} {a b : Addr} {m : Nat} {Q : Bool → Shared → Prop} (da : Dsz s.heap a m) (db : Dsz s.heap b 0) (h : Q (m == 0) s) :
    wpAny (model prog w) A (Builtin.Dict.samePairs nm a b) Q E s := by
  obtain ⟨ha, oa, es, ep, hoa, _, hda, hla⟩ := da
  obtain ⟨hb, ob, es', ep', hob, _, hdb, hlb⟩ := db
  unfold Builtin.Dict.samePairs Builtin.Dict.showsAll
  rw [if_neg (show ¬ (a == sysModules) = true by rw [ha]; exact Bool.false_ne_true), if_neg (show ¬ (b == sysModules) = true by rw [hb]; exact Bool.false_ne_true)]
  refine wpAny_bind (wpAny_pure (wpAny_bind (wpAny_pure ?_)))
  refine wpAny_bind (wpAny_dictEntries hoa hda ?_)
  dsimp only
  refine wpAny_bind (wpAny_dictEntries hob hdb ?_)
  by_cases hsz : es.size = es'.size
  case neg =>
    rw [if_pos (by simpa using hsz)]
    have hbf : (m == 0) = false := by
      rw [beq_eq_false_iff_ne]
      omega
    rw [hbf] at h
    exact wpAny_bind (wpAny_rule (wpAny_pure h))
  case pos =>
    have h' : Q true s := by
      have : (m == 0) = true := by rw [beq_iff_eq]; omega
      rw [this] at h
      exact h
    have h0 : es.size = 0 := by omega
    rw [if_neg (by rw [hsz]; simp)]
    refine wpAny_bind (wpAny_dictEpoch hoa hda ?_)
    refine wpAny_bind ?_
    rw [Std.Legacy.Range.forIn_eq_forIn_range']
    simp only [Std.Legacy.Range.size, Nat.sub_zero, Nat.add_sub_cancel, Nat.div_one]
    refine wpAny_forIn_list _
      (fun rest q s' => s' = s ∧ q = (none, ()) ∧ rest = [])
      _ ?_ ?_ _ _ ⟨rfl, rfl, by rw [h0]; rfl⟩
    · rintro x rest q s' ⟨_, _, hr⟩
      cases hr
    · rintro q s' ⟨rfl, rfl, _⟩
      exact wpAny_pure h'
theorem ne_sz {a b : Addr} {m : Nat} {Q : Value → Shared → Prop} (da : Dsz s.heap a m) (db : Dsz s.heap b 0) (hu : A.units < cLine) (h : Q (.bool (!(m == 0))) s) :
    wpAny (model prog w) A (compareOp .NotEq (.ref a) (.ref b)) Q E s := by
  refine wpAny_richCompare_same_room (op := .NotEq) da.typeIs db.typeIs PySem.F.slot_dict_ne (wpAny_call_entry PySem.F.slot_dict_ne da.typeIs PySem.F.entry_dict_ne ?_ (PySem.F.args_dict_ne_2 _ _)) hu
  show wpAny _ _ (Builtin.Dict.dictSlotArgs "__ne__" ⟨[.ref a, .ref b], []⟩ >>= _) _ _ s
  refine wpAny_bind ?_
  unfold Builtin.Dict.dictSlotArgs
  refine wpAny_bind (wpAny_notOrdered_dict da.typeIs ?_)
  show wpAny _ _ (pure (Value.ref a, Value.ref b)) _ _ s
  refine wpAny_pure ?_
  refine wpAny_bind (wpAny_isInstance (T := "dict") db.typeIs PySem.F.sub_dict_dict ?_)
  simp only [Bool.not_true, Bool.false_eq_true, if_false]
  refine wpAny_bind (wpAny_pure (wpAny_bind (wpAny_pure ?_)))
  refine wpAny_bind (same_sz da db ?_)
  refine wpAny_pure ⟨_, rfl, ?_, ?_⟩
  · exact fun x => nomatch x
  · simpa using h
end
section
variable {X : Cx} {pins : List (Addr × Obj)} {σ : L2.St} {F H : Hp} {s : Shared} {a : Addr} {ds : List (D × D)}
theorem rpN_len {K : PySem.W.Frag} : ∀ {xs : DEs} {ds : List (D × D)}, RpN K F xs ds → xs.length = ds.length
  | _, _, .nil => rfl
  | _, _, .cons _ _ _ _ t => by rw [List.length_cons, List.length_cons, rpN_len t]
theorem dv_sz (I : Inv X pins σ H s) (h : DV X.K F H a ds) (e : Ex F H) : Dsz s.heap a ds.length := by
  rcases h with ⟨kvs, rd, r⟩ | ⟨xs, rd, r⟩
  · obtain ⟨z, hd, vs, rel, dd⟩ := dk_rd I.hok rd
    obtain ⟨o, es, ep, h1, h2, h3, _, hp, _⟩ := dd
    refine ⟨hd, o, es, ep, h1, h2, h3, ?_⟩
    have := hp.length
    rw [Array.length_toList] at this
    rw [this, ← rel.length, r.len]
  · obtain ⟨hd, hz, dd⟩ := dn_raw I e rd r
    obtain ⟨o, es, ep, h1, h2, h3, h4, _⟩ := dd
    refine ⟨hd, o, es, ep, h1, h2, h3, ?_⟩
    rw [size_of_entries h4, rpN_len r]
end
def rNeE (K : PySem.W.Frag) : R2 := fun x y H Q => ∃ (F : Hp) (p q : Addr) (ds : List (D × D)), x = .ref p ∧ y = .ref q ∧ Ex F H ∧ DV K F H p ds ∧ DV K F H q [] ∧ Q (.bl (!(ds.length == 0))) H
def gNeE : D → D → Option D
  | .dict ds, .dict [] => some (.bool (!(ds.length == 0)))
  | _, _ => none
section
variable {X : Cx} {e o a b : Expr} {pos apos cpos : Pos} {fe fo fa fb : Fm → Option D}
theorem op_neE (hu : X.A.units < cLine) : OpR X (compareOp .NotEq) (rNeE X.K) := by
  intro pins s σ H x y v u Q I rx ry ⟨F, p, q, ds, ex, ey, e, d1, d2, k⟩
  subst ex
  subst ey
  cases (show v = Value.ref p from rx)
  cases (show u = Value.ref q from ry)
  exact ne_sz (dv_sz I d1 e) (dv_sz I d2 e) hu ⟨.bl (!(ds.length == 0)), H, I, rfl, k⟩
theorem vw_neE {K : PySem.W.Frag} : ∀ F H x y dx dy dz, Ex F H → Vw K F H x dx → Vw K F H y dy → gNeE dx dy = some dz → ∀ Q : VK, Res K F H dz Q → rNeE K x y H Q := by
  intro F H x y dx dy dz e hx hy hg Q k
  unfold gNeE at hg
  split at hg
  · rename_i ds
    cases hg
    obtain ⟨p, rfl, d1⟩ := hx.dict e
    obtain ⟨q, rfl, d2⟩ := hy.dict e
    exact ⟨F, p, q, ds, rfl, rfl, e, d1, d2, k.sc e fun _ => .bl _⟩
  · cases hg
theorem c_neE {k : Nat} (hr : Room k X.A) (ha : PV X a fa) (hb : PV X b fb) : PCm X .NotEq a b (fOp2 gNeE fa fb) := let ⟨ta, h1, h2⟩ := ha; let ⟨tb, h3, h4⟩ := hb; ⟨_, ta, tb, op_neE (by have := Room.u66 hr; omega), h1, h3, sp_op2 vw_neE h2 h4⟩
end
end DL
end
section
set_option Elab.async false
set_option linter.all false
set_option maxRecDepth 100000
/-! A list added up, kept as the frame's own. -/
namespace DL
open PySem PySem.Spec PyProof.Rows L2
variable [TabT] [FnT]
def fCat (fa fb : Fm → Option D) (ρ : Fm) : Option (List D × Fm) := match fa ρ, fb ρ with
  | some (.list xs), some (.list ys) => some (xs ++ ys, ρ)
  | _, _ => none
section
variable {X : Cx} {a b : Expr} {pos : Pos} {fa fb : Fm → Option D}
theorem m_cat (ha : PV X a fa) (hb : PV X b fb) : XM X (.BinOp a .Add b pos) (mOw (fCat fa fb)) := by
  obtain ⟨ta, h1, h2⟩ := ha
  obtain ⟨tb, h3, h4⟩ := hb
  refine ⟨_, pe_op op_catS h1 h3, fun F H σ ρ b ρ' hf hR Q k => ?_⟩
  obtain ⟨⟨ds, ρ1⟩, e1, e2⟩ := Option.bind_eq_some_iff.mp hf
  split at e2
  · rename_i hz
    cases e2
    unfold fCat at e1
    split at e1
    · rename_i xs ys e3 e4
      cases e1
      refine h2 F H σ ρ _ e3 hR _ fun x F1 H1 g1 r1 => ?_
      refine h4 F1 H1 σ ρ _ e4 (hR.gr g1) _ fun y F2 H2 g2 r2 => ?_
      have g := g1.trans g2
      obtain ⟨a1, vs, q1, s1, rl1⟩ := (r1.gr g2).list g2.in_
      obtain ⟨a2, ws, q2, s2, rl2⟩ := r2.list g2.in_
      have rl : RpA X.K F2 (vs ++ ws) (xs ++ ys) := rl1.append rl2
      refine ⟨a1, a2, vs, ws, q1, q2, s1, s2, ?_, fun p hp => ?_⟩
      · rw [rl1.length, rl2.length, ← List.length_append]
        exact Nat.le_trans hz big_le
      · have hp0 : H p = none := Classical.byContradiction fun z => (GoE.gr hR g).go.live p z hp
        exact k _ _ _ (.gr hR (g.trans (Gr.newH (o := .lst (vs ++ ws)) g2.in_ hp))) ⟨p, vs ++ ws, rfl, hp0, upd_same, g2.in_.free hp, rl⟩
    · cases e1
  · cases e2
end
end DL
end
section
set_option Elab.async false
set_option linter.all false
set_option maxRecDepth 100000
/-! A comprehension kept as the frame's own list. -/
namespace DL
open PySem PySem.Spec PyProof.Rows L2
variable [TabT] [FnT]
def mLc (vs : List Nat) (t : Tg) (fi : Fm → Option (List D)) (fc : Fm → Option Bool) (fe : Fm → Option D) (ρ : Fm) : Option (B × Fm) := (fi ρ).bind fun ds => if ds.length ≤ bigN then (lcP t fc fe (wipeB ρ vs) ds).map fun rs => (.ow rs, ρ) else none
theorem sm_lc {K : PySem.W.Frag} {wi : TI} {g : TG} {tt : TT} {te : TE} {vs : List Nat} {t : Tg} {fi : Fm → Option (List D)} {fc : Fm → Option Bool} {fe : Fm → Option D} (hi : SI K wi fi) (hg : ST K g t) (ht : SB K tt fc) (he : SP K te fe) (hv : ∀ i ∈ slotsT t, i ∈ vs) : SM K (tLc wi g tt te vs) (mLc vs t fi fc fe) := by
  intro F H σ ρ d ρz hf hR Q k
  obtain ⟨ds, e1, e2⟩ := Option.bind_eq_some_iff.mp hf
  split at e2
  · rename_i hz
    obtain ⟨rs, e3, e4⟩ := Option.map_eq_some_iff.mp e2
    cases e4
    refine hi F H σ ρ ds e1 hR _ fun J F0 H0 g0 ok => ?_
    intro Dl hD
    refine ⟨fun i m H' => m = ds.length - i ∧ i ≤ ds.length ∧ ∃ (F' : Hp) (acc : List V) (dacc rest : List D), Ex F0 F' ∧ Ex F' H' ∧ Gr F0 H0 F' H' ∧ True ∧ F' Dl = none ∧ H' Dl = some (.lst acc) ∧ RpA K F' acc dacc ∧ dacc.length ≤ i ∧ lcP t fc fe (wipeB ρ vs) (ds.drop i) = some rest ∧ dacc ++ rest = rs,
      ⟨_, rfl, Nat.zero_le _, F0, [], [], rs, .refl _, g0.in_.trans (.new hD), .newH g0.in_ hD, trivial, g0.in_.free hD, upd_same, .nil, Nat.le_refl _, e3, rfl⟩, fun i m H' hW => ?_⟩
    obtain ⟨rfl, hil, F', acc, dacc, rest, x1, x2, x3, hh, hFD, hHD, ra, hlen, e5, e6⟩ := hW
    by_cases h : i < ds.length
    · right
      have hd : ds[i]? = some ds[i] := List.getElem?_eq_getElem h
      obtain ⟨ha, hb⟩ := (ok F' H' x1 x2).1 i _ hd
      rw [List.drop_eq_getElem_cons h] at e5
      obtain ⟨ρ1, e7, e8⟩ := Option.bind_eq_some_iff.mp e5
      obtain ⟨b, e9, e10⟩ := Option.bind_eq_some_iff.mp e8
      refine ⟨ha, fun H2 => ∃ (F2 : Hp) (acc2 : List V) (dacc2 rest2 : List D), Ex F0 F2 ∧ Ex F2 H2 ∧ Gr F0 H0 F2 H2 ∧ True ∧ F2 Dl = none ∧ H2 Dl = some (.lst acc2) ∧ RpA K F2 acc2 dacc2 ∧ dacc2.length ≤ i + 1 ∧ lcP t fc fe (wipeB ρ vs) (ds.drop (i + 1)) = some rest2 ∧ dacc2 ++ rest2 = rs, fun H2 hN => ?_, fun x H2 hy => ?_⟩
      · exact ⟨ds.length - (i + 1), by omega, rfl, h, hN⟩
      · obtain ⟨F2, gr, rx⟩ := hb x H2 hy
        have relw : Rel K F' H' (L2.wipe σ vs) (wipeB ρ vs) := by
          refine Rel.gr (Rel.wipe (hR.gr g0) vs) ?_ |> fun z => z
          exact x3
        have relw2 := relw.gr gr
        refine hg F2 H2 _ _ _ ρ1 x e7 relw2 rx _ fun σ2 g2 so => ⟨wipe_same so hv, ?_⟩
        refine ht F2 H2 σ2 ρ1 b e9 g2.rel _ fun F3 H3 g3 => ?_
        have g23 := gr.trans g3
        by_cases hbt : b = true
        · rw [if_pos hbt] at e10 ⊢
          obtain ⟨y, e11, e12⟩ := Option.bind_eq_some_iff.mp e10
          obtain ⟨rest2, e13, e14⟩ := Option.map_eq_some_iff.mp e12
          refine he F3 H3 σ2 ρ1 y e11 (g2.rel.gr g3) _ fun w F4 H4 g4 r4 => ?_
          have g24 := g23.trans g4
          have hD4 : H4 Dl = some (.lst acc) := g24.keep _ _ hHD fun ps z => by cases z
          have hF4 : F4 Dl = none := g24.hide Dl (by rw [hHD]; intro z; cases z) hFD
          refine ⟨acc, hD4, ?_, F4, acc ++ [w], dacc ++ [y], rest2, x1.trans g24.ex, fun q o hq => ?_, (x3.trans g24).over hD hF4 hD4 (fun ps z => by cases z), trivial, hF4, upd_same, (ra.mono g24.ex).append (.one r4), ?_, e13, ?_⟩
          · rw [ra.length]
            exact Nat.lt_of_lt_of_le (by omega) big_le
          · have : q ≠ Dl := fun z => by rw [z, hF4] at hq; cases hq
            rw [upd_ne this]
            exact g24.in_ q o hq
          · rw [List.length_append]
            show dacc.length + 1 ≤ i + 1
            omega
          · rw [List.append_assoc]
            show dacc ++ (y :: rest2) = rs
            rw [e14]
            exact e6
        · rw [if_neg hbt] at e10 ⊢
          exact ⟨F3, acc, dacc, rest, x1.trans g23.ex, g23.in_, x3.trans g23, trivial, g23.hide Dl (by rw [hHD]; intro z; cases z) hFD, g23.keep _ _ hHD (fun ps z => by cases z), ra.mono g23.ex, by omega, e10, e6⟩
    · left
      have hl : i = ds.length := by omega
      subst hl
      rw [List.drop_length] at e5
      cases e5
      rw [List.append_nil] at e6
      subst e6
      refine ⟨(ok F' H' x1 x2).2, ?_⟩
      have gr : Gr F H F' H' := g0.trans x3
      have hD0 : H Dl = none := Classical.byContradiction fun z => (GoE.gr hR g0).go.live Dl z hD
      exact k (.ref Dl) F' H' (.gr hR gr) ⟨Dl, acc, rfl, hD0, hHD, hFD, ra⟩
  · cases e2
section
variable {X : Cx} {elt tg iter c : Expr} {scope : Scope} {own : List (Str × Nat)} {pos spos py : Pos} {t : Tg} {fi : Fm → Option (List D)} {fc : Fm → Option Bool} {fe : Fm → Option D}
theorem s_mlc0 (i : Nat) {y : Str} (hc : X.calm = true) (hN : X.N.Nodup) (hi : PIt X tg iter fi) (ok : BlkOk X.N X.env.scope scope own) (hg : ∀ a, PTg (blkOf X scope a) tg t) (he : ∀ a, PP (blkOf X scope a) elt fe) (hv : ∀ i ∈ slotsT t, i ∈ own.map (·.2))
    (hsw : swapsWith (.ListComp elt [⟨tg, iter, [], 0⟩] scope pos) (some (.Name y py)) spos.line X.env = pure true) (hy : X.N[i]? = some y := by rfl) (hyl : X.env.scope.names.lookup y = some .local := by rfl) (hs : ∀ x, foldedSetIterable iter X.env x = pure x := by intro _; rfl) :
    PSt X (.Assign [.Name y py] (.ListComp elt [⟨tg, iter, [], 0⟩] scope pos) spos) (sAsg i (mLc (own.map (·.2)) t fi fYes fe)) := by
  obtain ⟨wi, a1, a2⟩ := hi
  obtain ⟨g, b1, b2⟩ := all_PTg (Y := fun a => blkOf X scope a) (K := X.K) (fun a => rfl) hg
  obtain ⟨te, c1, c2⟩ := all_PP (Y := fun a => blkOf X scope a) (K := X.K) (fun a => rfl) he
  refine ⟨_, ps_setLc hc hN hy hyl hsw a1 ok (fun s H C cl fp => b1 ⟨s, H, C, cl, fp⟩) (fun _ _ _ _ _ => pts_nil) (fun s H C cl fp => c1 ⟨s, H, C, cl, fp⟩) hs, fun F H σ ρ fl ρ' hf hR E k1 k2 k3 => ?_⟩
  obtain ⟨⟨b, ρ1⟩, e1, e2⟩ := Option.map_eq_some_iff.mp hf
  cases e2
  exact sm_lc a2 b2 sb_yes c2 hv F H σ ρ b ρ1 e1 hR _ fun v F1 H1 g1 r1 => k1 rfl _ F1 H1 (go_store hR g1 r1)
theorem m_lc0 (hc : X.calm = true) (hN : X.N.Nodup) (hi : PIt X tg iter fi) (ok : BlkOk X.N X.env.scope scope own) (hg : ∀ a, PTg (blkOf X scope a) tg t) (he : ∀ a, PP (blkOf X scope a) elt fe) (hv : ∀ i ∈ slotsT t, i ∈ own.map (·.2)) (hs : ∀ x, foldedSetIterable iter X.env x = pure x := by intro _; rfl) :
    XM X (.ListComp elt [⟨tg, iter, [], 0⟩] scope pos) (mLc (own.map (·.2)) t fi fYes fe) := by
  obtain ⟨wi, a1, a2⟩ := hi
  obtain ⟨g, b1, b2⟩ := all_PTg (Y := fun a => blkOf X scope a) (K := X.K) (fun a => rfl) hg
  obtain ⟨te, c1, c2⟩ := all_PP (Y := fun a => blkOf X scope a) (K := X.K) (fun a => rfl) he
  exact ⟨_, pe_lc hc hN a1 ok (fun s H C cl fp => b1 ⟨s, H, C, cl, fp⟩) (fun _ _ _ _ _ => pts_nil) (fun s H C cl fp => c1 ⟨s, H, C, cl, fp⟩) hs, sm_lc a2 b2 sb_yes c2 hv⟩
end
end DL
end
section
set_option Elab.async false
set_option linter.all false
set_option maxRecDepth 100000
/-! The sum of a tuple of numbers. -/
namespace DL
open PySem PySem.Spec PyProof.Rows L2
variable [TabT] [FnT]
def rSumT (K : PySem.W.Frag) : List V → Hp → VK → Prop := fun vs H Q => ∃ (a : Addr) (ns : List Int), vs = [V.ref a] ∧ SqT K H a (ns.map V.int) ∧ Q (.int ns.sum) H
section
variable {prog : Program} {w : World} {A : Around} {E : Value → Shared → Prop} {s : Shared} {l : Addr} {its : List Value} {ns : List Int} {Q : Value → Shared → Prop}
theorem sum_rawT (hh : A.handled = none) (hl : s.heap.IsTuple l its.toArray) (hi : IntsAre its ns)
    (h : ∀ h' tk t', (∀ b o, s.heap.get? b = some o → h'.get? b = some o) → Q (.int ns.sum t') { s with heap := h', toks := tk }) : wpAny (model prog w) A (call (.builtin "sum") [.ref l]) Q E s := by
  obtain ⟨xs, e⟩ := hi.allInts.items
  have hn : numsOf (intItems xs).toList = ns := by rw [← e]; exact hi.numsOf
  rw [nums_intItems] at hn
  rw [e] at hl
  refine PySem.W.ktm_sumG hh hl fun h' tk t' hk => ?_
  have := h h' tk t' hk
  rw [preSum_eq, List.take_of_length_le (by simp), hn]; exact this
end
section
variable {X : Cx}
theorem cr_sumT (hc : X.calm = true) : CallR X (.builtin "sum") (rSumT X.K) := by
  intro pins s σ H vs us Q I r h
  obtain ⟨a, ns, rfl, hs, q⟩ := h
  obtain ⟨its, rv, hl, _⟩ := I.tuple hs
  rw [Vals.ref1 r]
  exact sum_rawT (I.ok.hd hc) hl rv.ints fun h' tk t' hk => ⟨.int _, H, I.kept hk, ⟨_, rfl⟩, q⟩
end
def gSumT : D → Option D
  | .tuple xs => (intsD xs).map fun ns => .int ns.sum
  | _ => none
section
variable {K : PySem.W.Frag}
theorem vw_sumT : ∀ F H x dx dz, Ex F H → Vw K F H x dx → gSumT dx = some dz → ∀ Q : VK, Res K F H dz Q → rSumT K [x] H Q := by
  intro F H x dx dz e hx hg Q k
  unfold gSumT at hg
  split at hg
  · obtain ⟨ns, h1, h2⟩ := Option.map_eq_some_iff.mp hg
    subst h2
    obtain ⟨a, xs, rfl, s1, r1⟩ := hx.tuple e
    rw [ints_of r1 h1] at s1
    exact ⟨a, ns, rfl, s1, k.sc e fun _ => .int _⟩
  · cases hg
end
section
variable {X : Cx} {e : Expr} {pos p : Pos} {fe : Fm → Option D}
theorem d_sumT (hc : X.calm = true) (B : Bt X.mg) (ha : PV X e fe) (hg : Gl X "sum" := by rfl) (hs : starEach [e] X.env = (false, eval e X.env) :: starEach [] X.env := by rfl) : PP X (.Call (.Name "sum" p) [e] [] pos) (fOp1 gSumT fe) :=
  d_b1 (cr_sumT hc) PyProof.Rows.boot_sum vw_sumT hg B.sum ha (by decide) (by decide) hs
end
/-! max of two values of which some have effects -/
section
variable {X : Cx} {a b : Expr} {pos p : Pos} {ga gb : Fm → Option (D × Fm)}
theorem sx_call2 {K : PySem.W.Frag} {r : List V → Hp → VK → Prop} {g : D → D → Option D} {ta tb : TE} (hr : ∀ F H x y dx dy dz, Ex F H → Vw K F H x dx → Vw K F H y dy → g dx dy = some dz → ∀ Q : VK, Res K F H dz Q → r [x, y] H Q)
    (ha : SX K ta ga) (hb : SX K tb gb) : SX K (tCB r (tCons ta (tCons tb tNil))) (xOp2 g ga gb) := by
  intro F H σ ρ d ρ' hf hR Q k
  obtain ⟨⟨dx, ρ1⟩, h1, hf⟩ := Option.bind_eq_some_iff.mp hf
  obtain ⟨⟨dy, ρ2⟩, h2, hf⟩ := Option.bind_eq_some_iff.mp hf
  obtain ⟨dz, h3, hf⟩ := Option.map_eq_some_iff.mp hf
  cases hf
  refine ha F H σ ρ dx ρ1 h1 hR _ fun x F1 H1 g1 r1 => ?_
  refine hb F1 H1 σ ρ1 dy ρ2 h2 g1.rel _ fun y F2 H2 g2 r2 => ?_
  exact hr F2 H2 x y dx dy d g2.rel.ex (.inl (r1.mono g2.go.ex)) (.inl r2) h3 Q fun v F3 H3 g3 r3 => k v F3 H3 ((g1.trans g2).trans (.gr g2.rel g3)) r3
theorem x_max2 (hc : X.calm = true) (B : Bt X.mg) (ha : XE X a ga) (hb : XE X b gb) (hg : Gl X "max" := by rfl) (hs : starEach [a, b] X.env = (false, eval a X.env) :: starEach [b] X.env := by rfl) (hs2 : starEach [b] X.env = (false, eval b X.env) :: starEach [] X.env := by rfl) : XE X (.Call (.Name "max" p) [a, b] [] pos) (xOp2 gMax2 ga gb) :=
  let ⟨_, h1, h2⟩ := ha
  let ⟨_, h3, h4⟩ := hb
  ⟨_, pe_callB (call_max2 hc) hg B.max PyProof.Rows.boot_max (pa_cons h1 (pa_cons h3 pa_nil hs2) hs) (by decide) (by decide) hs (by rw [hs2]; rfl), sx_call2 (fun F H x y dx dy dz e hx hy hg Q k => by
    unfold gMax2 at hg
    split at hg
    · cases hg
      exact ⟨_, _, by rw [hx.int, hy.int], k.sc e fun _ => .int _⟩
    · cases hg) h2 h4⟩
end
end DL
end
section
set_option Elab.async false
set_option linter.all false
set_option maxRecDepth 100000
/-! x //= e; x[k], y[k] = e. -/
namespace DL
open PySem PySem.Spec PyProof.Rows L2
variable [TabT] [FnT]
def gDivS : D → D → Option D := gI2 (fun _ j => decide (0 < j) && decide (j < 1073741824)) fun i j => i / j
theorem cdiv_ok {i j : Int} (h : (decide (0 < j) && decide (j < 1073741824)) = true) : CDiv i j := by
  rw [Bool.and_eq_true, decide_eq_true_eq, decide_eq_true_eq] at h
  exact h
def tsetD (K : PySem.W.Frag) : TSet := fun o i v H Q => ∃ (F : Hp) (p : Addr) (t : Bool) (ds ds' : List (D × D)) (kd d : D), o = .ref p ∧ Ex F H ∧ F p = none ∧ Dct K F H p t ds ∧ Rp K F i kd ∧ Rp K F v d ∧ dPut t ds kd d = some ds' ∧ ds.length < bigN ∧ ∀ o', Dct K F (upd H p o') p t ds' → Q (upd H p o')
def putOd (i : Nat) (kd d : D) (ρ : Fm) : Option Fm := match ρ[i]? with
  | some (.od t ds) => if ds.length < bigN then (dPut t ds kd d).map fun ds' => ρ.set i (.od t ds') else none
  | _ => none
def sDset2 (i j : Nat) (fk fk2 : Fm → Option D) (f : Fm → Option (D × Fm)) (ρ : Fm) : Option (Fl × Fm) := (f ρ).bind fun x => match x.1 with
  | .tuple [d1, d2] => (fk x.2).bind fun k1 => (putOd i k1 d1 x.2).bind fun ρ1 => (fk2 ρ1).bind fun k2 => (putOd j k2 d2 ρ1).map fun ρ2 => (.nx, ρ2)
  | _ => none
section
variable {X : Cx} {e b b2 : Expr} {pos tp tp2 q q2 tpos : Pos} {fk fk2 : Fm → Option D} {ge : Fm → Option (D × Fm)}
theorem pset_dct [hW : WH X.w] (hu : X.A.units + 9 < cLine) : PSet X (tsetD X.K) := by
  intro pins s σ H o i v ov iv u Q I ro ri rv h
  obtain ⟨F, p, t, ds, ds', kd, d, rfl, ef, hf, dc, rk, rd, g, hz, k⟩ := h
  cases (show ov = Value.ref p from ro)
  exact dct_set hu I ef hf dc rk ri rv rd g hz fun o' s4 I4 dc4 => ⟨_, I4, k o' dc4⟩
theorem s_dset2 (i j : Nat) {y y2 : Str} {n kt : Nat} (hc : X.calm = true) (hr : Room n X.A) (hk : PP X b fk) (hk2 : PP X b2 fk2) (h : XE X e ge) (hv : PE X (.Name y q) (tVar i) := by exact pv _) (hv2 : PE X (.Name y2 q2) (tVar j) := by exact pv _)
    (ha : ∀ v, assign (.Subscript (.Name y q) b tp) X.env v = (do
      let ov ← holding [v] (eval (.Name y q) X.env)
      let iv ← holding [v, ov] (eval b X.env)
      standAt tp
      holding [v, ov, iv] (setItem ov iv v)
      release [v, ov, iv] []) := by intro _; rfl)
    (ha2 : ∀ v, assign (.Subscript (.Name y2 q2) b2 tp2) X.env v = (do
      let ov ← holding [v] (eval (.Name y2 q2) X.env)
      let iv ← holding [v, ov] (eval b2 X.env)
      standAt tp2
      holding [v, ov, iv] (setItem ov iv v)
      release [v, ov, iv] []) := by intro _; rfl)
    (h1s : (assignEach [.Subscript (.Name y q) b tp, .Subscript (.Name y2 q2) b2 tp2] X.env).map (·.2) = assign (.Subscript (.Name y q) b tp) X.env :: (assignEach [.Subscript (.Name y2 q2) b2 tp2] X.env).map (·.2) := by rfl)
    (h2s : (assignEach [.Subscript (.Name y2 q2) b2 tp2] X.env).map (·.2) = assign (.Subscript (.Name y2 q2) b2 tp2) X.env :: (assignEach [] X.env).map (·.2) := by rfl)
    (hl : (assignEach [.Subscript (.Name y q) b tp, .Subscript (.Name y2 q2) b2 tp2] X.env).length = 2 := by rfl) (hst : (assignEach [.Subscript (.Name y q) b tp, .Subscript (.Name y2 q2) b2 tp2] X.env).findIdx? (·.1) = none := by rfl)
    (hs : swapsWithSole [.Tuple [.Subscript (.Name y q) b tp, .Subscript (.Name y2 q2) b2 tp2] kt tpos] e pos.line X.env = pure false := by rfl) (hw : swappedStores [.Tuple [.Subscript (.Name y q) b tp, .Subscript (.Name y2 q2) b2 tp2] kt tpos] e X.env = pure none := by rfl) (hW : WH X.w := by assumption) :
    PSt X (.Assign [.Tuple [.Subscript (.Name y q) b tp, .Subscript (.Name y2 q2) b2 tp2] kt tpos] e pos) (sDset2 i j fk fk2 ge) := by
  obtain ⟨t, h1, h2⟩ := h
  obtain ⟨u, h3, h4⟩ := hk
  obtain ⟨u2, h5, h6⟩ := hk2
  have hu : X.A.units + 9 < cLine := by have := Room.u66 hr; omega
  refine ⟨_, ps_asg h1 (pg_tup hc (pgs_cons (pg_sub hv h3 (pset_dct hu) ha) (pgs_cons (pg_sub hv2 h5 (pset_dct hu) ha2) pgs_nil h2s) h1s) hl hst) hs hw rfl, fun F H σ ρ fl ρ' hf hR E k1 k2 k3 => ?_⟩
  obtain ⟨⟨d, ρ1⟩, e1, e2⟩ := Option.bind_eq_some_iff.mp hf
  dsimp only at e2
  split at e2
  · rename_i d1 d2
    obtain ⟨kd, e3, e2⟩ := Option.bind_eq_some_iff.mp e2
    obtain ⟨ρa, e4, e2⟩ := Option.bind_eq_some_iff.mp e2
    obtain ⟨kd2, e5, e2⟩ := Option.bind_eq_some_iff.mp e2
    obtain ⟨ρb, e6, e2⟩ := Option.map_eq_some_iff.mp e2
    cases e2
    unfold putOd at e4 e6
    split at e4
    · rename_i t1 ds1 a1
      split at e4
      · rename_i z1
        obtain ⟨ds1', a2, a3⟩ := Option.map_eq_some_iff.mp e4
        subst a3
        split at e6
        · rename_i t2 ds2 b1
          split at e6
          · rename_i z2
            obtain ⟨ds2', b3, b4⟩ := Option.map_eq_some_iff.mp e6
            subst b4
            refine h2 F H σ ρ _ ρ1 e1 hR _ fun v F1 H1 g1 r1 => ?_
            cases r1 with
            | tup hs r =>
              cases r with
              | cons rv1 r =>
                cases r with
                | cons rv2 r =>
                  cases r
                  refine ⟨_, _, rfl, g1.rel.ex.sqt hs.sqt, rfl, _, _, rfl, ?_⟩
                  obtain ⟨p, s1, hf1, dc1⟩ := g1.rel.at_ i _ a1
                  refine ⟨.ref p, s1, h4 F1 H1 σ ρ1 _ e3 g1.rel _ fun w F2 H2 g2 r2 => ?_⟩
                  have g12 := g1.trans (.gr g1.rel g2)
                  obtain ⟨p2, s2, hf2, dc2⟩ := g12.rel.at_ i _ a1
                  rw [s1] at s2
                  cases s2
                  refine ⟨F2, p, t1, ds1, ds1', kd, d1, rfl, g2.in_, hf2, dc2, r2, rv1.mono g2.ex, a2, z1, fun o' dc3 => ?_⟩
                  have w1 := own_wrD g12.rel a1 s1 hf2 dc3
                  refine ⟨_, _, rfl, ?_⟩
                  obtain ⟨p', s1', hf1', dc1'⟩ := w1.rel.at_ j _ b1
                  refine ⟨.ref p', s1', h6 F2 _ σ _ _ e5 w1.rel _ fun w' F3 H3 g3 r3 => ?_⟩
                  have g13 := w1.trans (.gr w1.rel g3)
                  obtain ⟨p3, s3, hf3, dc4⟩ := g13.rel.at_ j _ b1
                  rw [s1'] at s3
                  cases s3
                  refine ⟨F3, p', t2, ds2, ds2', kd2, d2, rfl, g3.in_, hf3, dc4, r3, (rv2.mono g2.ex).mono g3.ex, b3, z2, fun o'' dc5 => ?_⟩
                  have w2 := own_wrD g13.rel b1 s1' hf3 dc5
                  exact ⟨rfl, k1 rfl σ F3 _ (g12.go.trans (g13.go.trans w2.go))⟩
          · cases e6
        · cases e6
      · cases e4
    · cases e4
  · cases e2
end
end DL
end
section
set_option Elab.async false
set_option linter.all false
set_option maxRecDepth 100000
/-! dict(xs) of one's own, xs a list of pairs with apart keys that are tuples. -/
namespace DL
open PySem PySem.Spec PyProof.Rows L2
variable [TabT] [FnT]
def tpairs : List D → Option (List (D × D))
  | [] => some []
  | .tuple [kd, d] :: r => (kOf true kd).bind fun _ => (tpairs r).map fun s => (kd, d) :: s
  | _ :: _ => none
section
variable {X : Cx} {pins : List (Addr × Obj)} {σ : L2.St} {F H : Hp} {s : Shared}
theorem npairs_of (I : Inv X pins σ H s) (e : Ex F H) : ∀ {vs : List V} {ds : List D} {kds : List (D × D)}, RpA X.K F vs ds → tpairs ds = some kds →
    ∃ (ps : List Addr) (xs : DEs), vs = ps.map V.ref ∧ RpN X.K F xs kds ∧ xs.length = ps.length ∧ xs.map (fun x => some x.1) = kds.map (fun p => kOf true p.1) ∧ ∀ (j : Nat) (x : NestedKey × Addr × Value), xs[j]? = some x → ∃ p, ps[j]? = some p ∧ PairAt s.heap p (.ref x.2.1) x.2.2
  | _, _, kds, .nil, h => by
    cases h
    exact ⟨[], [], rfl, .nil, rfl, rfl, fun j x q => by cases q⟩
  | _, _, kds, .cons (d := d) (ds := ds) r t, h => by
    unfold tpairs at h
    split at h
    · rename_i heq
      cases heq
    · rename_i kd d' rr heq
      cases heq
      obtain ⟨k, e1, h2⟩ := Option.bind_eq_some_iff.mp h
      obtain ⟨s1, e2, rfl⟩ := Option.map_eq_some_iff.mp h2
      obtain ⟨ps, xs, rfl, p1, p2, p3, p4⟩ := npairs_of I e t e2
      cases r with
      | @tup a vv _ sq ra =>
        cases ra with
        | cons r1 ra =>
          cases ra with
          | cons r2 ra =>
            cases ra
            rename_i v1 v2
            obtain ⟨_, _, e3, _⟩ := kOf_tup e1
            obtain ⟨q, rfl⟩ : ∃ q, v1 = .ref q := by
              subst e3
              cases r1 with
              | tup _ _ => exact ⟨_, rfl⟩
            obtain ⟨its, rv, ht, _⟩ := I.tuple (e.sqt sq.sqt)
            obtain ⟨u, y, ei, ru, ry⟩ := vals2 rv
            subst ei
            cases (show u = Value.ref q from ru)
            refine ⟨a :: ps, (k, q, y) :: xs, rfl, .cons r1 e1 ry r2 p1, by rw [List.length_cons, List.length_cons, p2], by rw [List.map_cons, List.map_cons, p3, e1], fun j x hx => ?_⟩
            cases j with
            | zero =>
              cases (show (k, q, y) = x from Option.some.inj hx)
              exact ⟨a, rfl, .inl ht⟩
            | succ j => exact p4 j x (by simpa using hx)
    · cases h
end
section
variable {X : Cx}
def rDictN (K : PySem.W.Frag) : List V → Hp → VK → Prop := fun vs H Q => ∃ (F : Hp) (a : Addr) (us : List V) (ds : List D) (kds : List (D × D)), vs = [.ref a] ∧ Ex F H ∧ SqL K H a us ∧ RpA K F us ds ∧ tpairs ds = some kds ∧ (kds.map fun p => kOf true p.1).Nodup ∧
  ∀ p, H p = none → ∀ xs, RpN K F xs kds → Q (.ref p) (upd H p (DN p xs))
theorem call_dictN [hW : WH X.w] (hc : X.calm = true) (hu : X.A.units + 20 < cLine) : CallR X (.type "dict") (rDictN X.K) := by
  intro pins s σ H xs us Q I r q
  obtain ⟨F, a, vs, ds, kds, ex, e, sq, ra, tp, nd, q⟩ := q
  subst ex
  obtain ⟨u, eu, rx⟩ := vals1 r
  subst eu
  cases rx
  obtain ⟨its, rv, pl, hz⟩ := I.list sq
  obtain ⟨ps, xs, rfl, rn, hl, hk, hp⟩ := npairs_of I e ra tp
  have ei := refs_at rv
  subst ei
  rw [List.length_map] at hz
  obtain ⟨o, n, ho, hcl, hd, hdat⟩ := pl
  have hnd : (xs.map (·.1)).Nodup := by
    rw [← hk] at nd
    have : xs.map (fun x => some x.1) = (xs.map (·.1)).map some := by rw [List.map_map]; rfl
    rw [this] at nd
    exact (List.pairwise_map.mp nd).imp fun h z => h (congrArg some z)
  have hsz : (xs.map fun x => ((Value.ref x.2.1, x.2.2) : Value × Value)).length = xs.length := List.length_map ..
  have ok : PlainSeq "list" s.heap a (ps.map Value.ref).toArray ∧ PairItems s.heap (ps.map Value.ref).toArray (fun j => ps.getD j 0) (xs.map fun x => (Value.ref x.2.1, x.2.2)) := by
    refine ⟨⟨o, n, ho, hcl, hd, hdat⟩, by simp [hl], fun j k v hj => ?_⟩
    rw [List.getElem?_map] at hj
    obtain ⟨x, hx, ex⟩ := Option.map_eq_some_iff.mp hj
    cases ex
    obtain ⟨p, e1, e2⟩ := hp j x hx
    show (ps.map Value.ref).toArray[j]? = some (Value.ref (ps.getD j 0)) ∧ PairAt s.heap (ps.getD j 0) (.ref x.2.1) x.2.2
    rw [List.getD_eq_getElem?_getD, e1]
    exact ⟨by simp [e1], e2⟩
  have P := PairArg.list (prog := X.prog) (w := X.w) a (ps.map Value.ref).toArray (fun j => ps.getD j 0) (xs.map fun x => (Value.ref x.2.1, x.2.2))
  refine call_dict_pairsH (knd := nestedKind X.prog X.w) (ps := xs) P (I.ok.hd hc) ?_ ok ⟨by rw [hsz], fun i key v hr => ?_⟩ (fun h' hk' x hx => ?_) (by rw [hsz, hl]; exact hz) fun h' tk dd k => ?_
  · show X.A.units + 1 + 1 + 8 < cLine
    omega
  · have hr : (xs.map fun x => ((Value.ref x.2.1, x.2.2) : Value × Value))[i]? = some (key, v) := hr
    rw [List.getElem?_map] at hr
    obtain ⟨x, hx, ex⟩ := Option.map_eq_some_iff.mp hr
    cases ex
    exact ⟨x.1, x.2.1, hx, rfl⟩
  · exact nestedKind_stays.stays (fun b ob vs' n' hb _ => hk' b ob (Nat.ne_of_lt (Heap.lt_size hb)) (fun z => nomatch z) hb) (keys_at I e rn x hx)
  · rw [storedAllH_nil_of_nodup xs hnd] at dd
    have hm : (s.heap.objs.size == sysModules) = false := beq_eq_false_iff_ne.mpr (Nat.ne_of_gt I.big)
    have k2 : ∀ b o, s.heap.get? b = some o → h'.get? b = some o := fun b o hb => k b o (fun z => nomatch z) hb
    exact ⟨.ref s.heap.objs.size, upd H s.heap.objs.size (DN s.heap.objs.size xs), I.laid (t' := tk) k2 (Nat.le_refl _) (dn_ok (dn_phi hm (by rw [hl]; exact hz) dd rn.hash)), rfl, q _ (I.hok.fresh (Nat.le_refl _)) xs rn⟩
end
/-- dict(xs) of one's own -/
def mDictT (f : Fm → Option D) (ρ : Fm) : Option (B × Fm) := (f ρ).bind fun d => match d with
  | .list xs => (tpairs xs).bind fun kds => if decide ((kds.map fun p => kOf true p.1).Nodup) = true then some (.od true kds, ρ) else none
  | _ => none
section
variable {X : Cx} {e : Expr} {pos p : Pos} {fe : Fm → Option D}
theorem m_dictT {k : Nat} (hc : X.calm = true) (hr : Room k X.A) (B : Bt X.mg) (ha : PP X e fe) (hg : Gl X "dict" := by rfl) (hs : starEach [e] X.env = (false, eval e X.env) :: starEach [] X.env := by rfl) (hW : WH X.w := by assumption) : XM X (.Call (.Name "dict" p) [e] [] pos) (mDictT fe) := by
  obtain ⟨t, h1, h2⟩ := ha
  refine ⟨_, pe_callTy (call_dictN hc (by have := Room.u66 hr; omega)) hg B.dict PyProof.Rows.boot_dict (pa_cons h1 pa_nil hs) (by decide) (by decide) hs rfl, fun F H σ ρ b ρ' hf hR Q kk => ?_⟩
  obtain ⟨d0, e1, e2⟩ := Option.bind_eq_some_iff.mp hf
  split at e2
  · rename_i xs
    obtain ⟨kds, e3, e4⟩ := Option.bind_eq_some_iff.mp e2
    split at e4
    · rename_i hz
      cases e4
      refine h2 F H σ ρ _ e1 hR _ fun v F1 H1 g1 r1 => ?_
      cases r1 with
      | @lst a vs _ sq ra =>
        refine ⟨F1, a, vs, xs, kds, rfl, g1.in_, g1.in_.sql sq, ra, e3, of_decide_eq_true hz, fun q hq zs rz => ?_⟩
        have g2 : Gr F1 H1 F1 (upd H1 q (DN q zs)) := Gr.newH g1.in_ hq
        exact kk _ F1 _ (.gr hR (g1.trans g2)) ⟨q, rfl, g1.live.free hq, g1.in_.free hq, zs, upd_same, rz⟩
    · cases e4
  · cases e2
end
end DL
end
section
set_option Elab.async false
set_option linter.all false
set_option maxRecDepth 100000
/-! Defs that raise one own error without fields; a call of such a def in a try. -/
namespace DL
open PySem PySem.Spec PyProof.Rows L2
variable [TabT] [FnT]
/-- X() -/
theorem pmk_own0 {X : Cx} {C : Addr} {bmB : List Value} {B newId initId : String} {x : Str} {p pos : Pos} (F : ExcBaseFacts B newId initId bmB) (q : PySem.W.excIn X.K C bmB newId = true) (gC : X.mg x = some (.ref C)) (kC : PySem.W.keepIn X.K (.ref C) = true) (r : Raises X (.ref C)) (hg : Gl X x := by rfl)
    (hdb : (x == ("__debug__" : Str)) = false := by decide) : PMk X (.Call (.Name x p) [] [] pos) (fun _ H Q => Q (.ref C) none H) := by
  intro pins s σ H Q I h
  refine wpAny_Call_Name_kw (ld_glob I hg gC ?_ hdb)
  refine PySem.W.callWith_K0 I.kIn kC ?_
  show wpAny _ _ (call (.ref C) []) _ _ _
  obtain ⟨bm, N, nm, qn, bs, hdct, sn, sub, ab, col, dd, k0, k1, k2, k3, k5, mN, hC, hN, hni, T⟩ := exc_obj I.kIn q
  exact wpAny_call_exc_subT F T hC hN hni (fun h' e hm => mk_of I hm r h (I.hok.gone hm.new)) (Nat.zero_le _)
/-- the class x, caught as y -/
structure ExT (K : PySem.W.Frag) (mg : Str → Option Value) (x y : Str) where
  C : Addr
  Y : Addr
  gC : mg x = some (.ref C)
  gY : mg y = some (.ref Y)
  q : PySem.W.excIn K C [.type "ValueError", .type "Exception", .type "BaseException", .type "object"] "ValueError.__new__" = true
  kC : PySem.W.keepIn K (.ref C) = true
  eC : PySem.W.subIn K (.ref C) (.type "BaseException") = some true
  tC : PySem.W.typeIn K (.ref C) = some (.type "type")
  ex : PySem.W.exmOne K (.ref C) (.ref Y) = some true
  cc : ExcC K C
  ki : PySem.W.kitOne K (.ref C) (.ref C) = some true
/-! ### bodies: none: the error is raised -/
def SR (K : PySem.W.Frag) (cls : Value) (W : WX) (t : TS) (f : Fm → Option (Option Fl × Fm)) : Prop := ∀ F H σ ρ fl ρ', f ρ = some (fl, ρ') → Rel K F H σ ρ → ∀ E : Ends,
  (fl = some .nx → ∀ σ' F' H', Go K F H σ ρ F' H' σ' ρ' → E.nx σ' H') → (fl = some .bk → ∀ σ' F' H', Go K F H σ ρ F' H' σ' ρ' → E.bk σ' H') →
  (∀ d, fl = some (.rt d) → ∀ v σ' F' H', Go K F H σ ρ F' H' σ' ρ' → Rp K F' v d → E.rt v H') → (fl = none → ∀ σ' F' H', Go K F H σ ρ F' H' σ' ρ' → W cls none σ' H') → t E σ H
def PR (X : Cx) (cls : Value) (W : WX) (s : Stmt) (f : Fm → Option (Option Fl × Fm)) : Prop := ∃ t, PS X s t ∧ SR X.K cls W t f
def PRs (X : Cx) (cls : Value) (W : WX) (s : List Stmt) (f : Fm → Option (Option Fl × Fm)) : Prop := ∃ t, PSs X s t ∧ SR X.K cls W t f
def rOf (f : Fm → Option (Fl × Fm)) (ρ : Fm) : Option (Option Fl × Fm) := (f ρ).map fun x => (some x.1, x.2)
def rRaise (ρ : Fm) : Option (Option Fl × Fm) := some (none, ρ)
def rSeq (f g : Fm → Option (Option Fl × Fm)) (ρ : Fm) : Option (Option Fl × Fm) := (f ρ).bind fun x => match x.1 with
  | some .nx => g x.2
  | r => some (r, x.2)
def rIf (c : Fm → Option (Bool × Fm)) (f g : Fm → Option (Option Fl × Fm)) (ρ : Fm) : Option (Option Fl × Fm) := (c ρ).bind fun x => if x.1 = true then f x.2 else g x.2
section
variable {X : Cx} {cls : Value} {W : WX} {st : Stmt} {sts ss1 ss2 : List Stmt} {sf : Fm → Option (Fl × Fm)} {f g : Fm → Option (Option Fl × Fm)} {c : Expr} {gt : Fm → Option (Bool × Fm)} {pos : Pos}
theorem sr_of {K : PySem.W.Frag} {t : TS} (h : SS K t sf) : SR K cls W t (rOf sf) := fun F H σ ρ fl ρ' hf hR E k1 k2 k3 k4 => by
  obtain ⟨⟨f1, ρ1⟩, e1, e2⟩ := Option.map_eq_some_iff.mp hf
  cases e2
  exact h F H σ ρ f1 ρ1 e1 hR E (fun z => k1 (congrArg some z)) (fun z => k2 (congrArg some z)) fun d z => k3 d (congrArg some z)
theorem r_of (h : PSt X st sf) : PR X cls W st (rOf sf) := let ⟨_, h1, h2⟩ := h; ⟨_, h1, sr_of h2⟩
theorem rs_of (h : PBl X sts sf) : PRs X cls W sts (rOf sf) := let ⟨_, h1, h2⟩ := h; ⟨_, h1, sr_of h2⟩
theorem sr_seq {K : PySem.W.Frag} {t u : TS} (h : SR K cls W t f) (h' : SR K cls W u g) : SR K cls W (tSeq t u) (rSeq f g) := by
  intro F H σ ρ fl ρ' hf hR E k1 k2 k3 k4
  obtain ⟨⟨f1, ρ1⟩, e1, e2⟩ := Option.bind_eq_some_iff.mp hf
  cases f1 with
  | none =>
    cases e2
    exact h F H σ ρ _ _ e1 hR _ (fun z => by cases z) (fun z => by cases z) (fun d z => by cases z) fun z => k4 rfl
  | some f1 =>
    cases f1 with
    | nx =>
      refine h F H σ ρ _ ρ1 e1 hR _ (fun _ σ1 F1 H1 g1 => ?_) (fun z => by cases z) (fun d z => by cases z) fun z => by cases z
      exact h' F1 H1 σ1 ρ1 fl ρ' e2 g1.rel E (fun z σ2 F2 H2 g2 => k1 z σ2 F2 H2 (g1.trans g2)) (fun z σ2 F2 H2 g2 => k2 z σ2 F2 H2 (g1.trans g2)) (fun d z v σ2 F2 H2 g2 r => k3 d z v σ2 F2 H2 (g1.trans g2) r) fun z σ2 F2 H2 g2 => k4 z σ2 F2 H2 (g1.trans g2)
    | bk =>
      cases e2
      exact h F H σ ρ _ _ e1 hR _ (fun z => by cases z) (fun z σ1 F1 H1 g1 => k2 rfl σ1 F1 H1 g1) (fun d z => by cases z) fun z => by cases z
    | rt d =>
      cases e2
      exact h F H σ ρ _ _ e1 hR _ (fun z => by cases z) (fun z => by cases z) (fun d' z v σ1 F1 H1 g1 r => k3 d' z v σ1 F1 H1 g1 r) fun z => by cases z
theorem rs_cons (h : PR X cls W st f) (h' : PRs X cls W sts g) : PRs X cls W (st :: sts) (rSeq f g) := let ⟨_, h1, h2⟩ := h; let ⟨_, h3, h4⟩ := h'; ⟨_, pss_cons h1 h3, sr_seq h2 h4⟩
theorem rs_one (h : PR X cls W st f) : PRs X cls W [st] f := let ⟨_, h1, h2⟩ := h; ⟨_, pss_one h1, h2⟩
theorem r_if (hc : XB X c gt) (ha : PRs X cls W ss1 f) (hb : PRs X cls W ss2 g) : PR X cls W (.If c ss1 ss2 pos) (rIf gt f g) := by
  obtain ⟨_, h1, h2⟩ := hc
  obtain ⟨_, h3, h4⟩ := ha
  obtain ⟨_, h5, h6⟩ := hb
  refine ⟨_, ps_if h1 h3 h5, fun F H σ ρ fl ρ' hf hR E k1 k2 k3 k4 => ?_⟩
  obtain ⟨⟨b1, ρ1⟩, e1, e2⟩ := Option.bind_eq_some_iff.mp hf
  refine h2 F H σ ρ _ ρ1 e1 hR _ fun F1 H1 g => ?_
  split at e2
  · rename_i e
    rw [if_pos e]
    exact h4 F1 H1 σ ρ1 fl ρ' e2 g.rel E (fun z σ2 F2 H2 g2 => k1 z σ2 F2 H2 (g.go.trans g2)) (fun z σ2 F2 H2 g2 => k2 z σ2 F2 H2 (g.go.trans g2)) (fun d z v σ2 F2 H2 g2 r => k3 d z v σ2 F2 H2 (g.go.trans g2) r) fun z σ2 F2 H2 g2 => k4 z σ2 F2 H2 (g.go.trans g2)
  · rename_i e
    rw [if_neg e]
    exact h6 F1 H1 σ ρ1 fl ρ' e2 g.rel E (fun z σ2 F2 H2 g2 => k1 z σ2 F2 H2 (g.go.trans g2)) (fun z σ2 F2 H2 g2 => k2 z σ2 F2 H2 (g.go.trans g2)) (fun d z v σ2 F2 H2 g2 r => k3 d z v σ2 F2 H2 (g.go.trans g2) r) fun z σ2 F2 H2 g2 => k4 z σ2 F2 H2 (g.go.trans g2)
/-- raise X() -/
theorem r_raise {cls : Value} {x y : Str} {p pos' : Pos} (T : ExT X.K X.mg x y) (hc : X.calm = true) (tk : Takes X W) (e : cls = .ref T.C := by rfl) (hg : Gl X x := by rfl) (hdb : (x == ("__debug__" : Str)) = false := by decide) : PR X cls W (.Raise (some (.Call (.Name x p) [] [] pos)) none pos') rRaise :=
  ⟨_, ps_raise hc tk (pmk_own0 PySem.F.excBase_ValueError T.q T.gC T.kC (raises_own T.eC T.tC) hg hdb), fun F H σ ρ fl ρ' hf hR E k1 k2 k3 k4 => by
    cases hf
    subst e
    exact k4 rfl σ F H (.refl hR)⟩
end
/-! ### defs -/
def runR (n : Nat) (f : Fm → Option (Option Fl × Fm)) (ds : List D) : Option (Option D) := (f (startB n ds)).bind fun x => match x.1 with
  | some (.rt d) => some (some d)
  | some .nx => some (some .none)
  | some .bk => none
  | none => some none
def spR (K : PySem.W.Frag) (cls : Value) (g : List D → Option (Option D)) (n : Nat) : Sp := fun vs H Q E => vs.length = n ∧ ∃ (F : Hp) (ds : List D) (o : Option D), ExB F H ∧ RpA K F vs ds ∧ g ds = some o ∧ (∀ d, o = some d → Res K F H d Q) ∧ (o = none → ∀ F' H', Gr F H F' H' → E cls none H')
section
variable {P : Program} {w : World} {K : PySem.W.Frag} {mg : Str → Option Value} {base : Heap}
theorem def_R {cls : Value} {x qual : Str} {st : Stmt} {f : Addr} {fd : FuncData} {N ps : List Str} {k n : Nat} {sf : Fm → Option (Option Fl × Fm)} (Fn : Fun K x qual st f fd) (S : FnScope N ps (defScope st)) (hn : ps.length = n)
    (hbody : ∀ (cdv : Value) (A : Around) (outer : List Env) (s : Shared) (H : Hp) (E : XK), Room k (A.deeper (envOfC qual (defScope st) s.heap.objs.size f cdv)) → PRs (cxOf (L2.CX P w) P w K mg base N qual (defScope st) f cdv A outer s H E) cls (fun cls d _ H => E cls d H) (defBody st) sf) :
    FnOk P w K mg base (L2.CX P w) (k + 1) f fd ps (spR K cls (runR N.length sf) n) := by
  refine Fn.okX S (fun vs H Q E h => h.1.trans hn.symm) fun cdv A outer s H vs Q E hr h => ?_
  obtain ⟨hl, F, ds, o, ex, r, hg, q, qx⟩ := h
  obtain ⟨t, h1, h2⟩ := hbody cdv A outer s H E hr
  refine ⟨t, h1, ?_⟩
  obtain ⟨⟨fl, ρ'⟩, e1, e2⟩ := Option.bind_eq_some_iff.mp hg
  have toGr : ∀ {σ' F' H'}, Go K F H (L2.start N vs) (startB N.length ds) F' H' σ' ρ' → Gr F H F' H' := fun g => ⟨g.ex, g.rel.ex, fun a o e t => g.keep a o e t no_own, fun a e f => g.hide a e f no_own, g.live, fun _ => g.rel.tab⟩
  refine h2 F H (L2.start N vs) (startB N.length ds) fl ρ' e1 (rel_start N ex r) _ (fun z σ' F' H' g => ?_) (fun z σ' F' H' g => ?_) (fun d' z v σ' F' H' g r' => ?_) fun z σ' F' H' g => ?_
  · subst z
    cases e2
    exact q _ rfl _ F' H' (toGr g) .non
  · subst z
    cases e2
  · subst z
    cases e2
    exact q _ rfl v F' H' (toGr g) r'
  · subst z
    cases e2
    exact qx rfl F' H' (toGr g)
end
/-! ### x = f(..) in a try -/
section
variable {K : PySem.W.Frag} {F H F' H' : Hp} {σ σ' : L2.St} {ρ ρ' : Fm}
/-- slot i is emptied -/
theorem go_clr {i : Nat} (h : Rel K F H σ ρ) : Go K F H σ ρ F H (σ.set i none) (ρ.set i .no) := by
  have get : ∀ j c, (ρ.set i .no)[j]? = some c → (j = i ∧ c = .no ∧ i < ρ.length) ∨ (j ≠ i ∧ ρ[j]? = some c) := by
    intro j c e
    by_cases hj : j = i
    · subst hj
      have hl : j < ρ.length := by
        have := (List.getElem?_eq_some_iff.mp e).1
        rwa [List.length_set] at this
      rw [List.getElem?_set_self hl] at e
      exact .inl ⟨rfl, (Option.some.inj e).symm, hl⟩
    · rw [List.getElem?_set_ne (fun z => hj z.symm)] at e
      exact .inr ⟨hj, e⟩
  have gs : ∀ j, j ≠ i → (σ.set i none)[j]? = σ[j]? := fun j hj => List.getElem?_set_ne (fun z => hj z.symm)
  refine ⟨⟨h.ex, by rw [List.length_set, List.length_set]; exact h.len, fun j c e => ?_, fun j k b c x e1 o1 e2 o2 s1 s2 => ?_, h.tab⟩, .refl _, fun c o e _ _ => e, fun c e => e, fun c e f _ => f, fun x o => ?_, fun j ds e => ?_, fun j e => ?_⟩
  · rcases get j c e with ⟨rfl, rfl, hl⟩ | ⟨hj, e'⟩
    · exact True.intro
    · rw [gs j hj]
      exact h.at_ j c e'
  · rcases get j b e1 with ⟨rfl, rfl, _⟩ | ⟨hj, e1'⟩
    · cases o1
    · rcases get k c e2 with ⟨rfl, rfl, _⟩ | ⟨hk, e2'⟩
      · cases o2
      · rw [gs j hj] at s1
        rw [gs k hk] at s2
        exact h.sep j k b c x e1' o1 e2' o2 s1 s2
  · obtain ⟨j, b, e, ob, s⟩ := o
    rcases get j b e with ⟨rfl, rfl, _⟩ | ⟨hj, e'⟩
    · cases ob
    · rw [gs j hj] at s
      exact .inl ⟨j, b, e', ob, s⟩
  · intro hes
    rcases get j _ e with ⟨rfl, rfl, _⟩ | ⟨hj, e'⟩
    · cases hes
    · exact ⟨⟨_, e', rfl⟩, gs j hj⟩
  · rcases get j _ e with ⟨rfl, z, _⟩ | ⟨hj, e'⟩
    · cases z
    · exact ⟨e', gs j hj⟩
end
def sTry (i j : Nat) (g : List D → Option (Option D)) (fs : Fm → Option (List D)) (h : D) (ρ : Fm) : Option (Fl × Fm) := (fs ρ).bind fun ds => if j < ρ.length then (g ds).map fun o => match o with
  | some d => (.nx, ρ.set i (.sh d))
  | none => (.nx, (ρ.set i (.sh h)).set j .no) else none
section
variable {α : Type} {Y : α → Cx} {K : PySem.W.Frag} {e : Expr} {es : List Expr}
theorem all_PAs {f : Fm → Option (List D)} (hK : ∀ a, (Y a).K = K) (h : ∀ a, PAs (Y a) es f) : ∃ t, (∀ a, PA (Y a) es t) ∧ SA K t f := by
  have h' : ∀ a, ∃ t, PA (Y a) es t ∧ SA K t f := fun a => let ⟨t, h1, h2, _⟩ := h a; ⟨t, h1, hK a ▸ h2⟩
  exact ⟨fun σ H Q => ∀ a, (h' a).choose σ H Q, fun a => ⟨fun pos pins s σ H Q I q => (h' a).choose_spec.1.run pos pins s σ H Q I (q a)⟩, fun F H σ ρ d hf hR Q k a => (h' a).choose_spec.2 F H σ ρ d hf hR Q k⟩
end
section
variable {X : Cx} {pos : Pos}
/-- isinstance(error, c) of the error that the suite holds, in slot j -/
def tIsE (K : PySem.W.Frag) (a : Addr) (cls : Value) (d : Option Addr) (C : Addr) (j : Nat) : TE := fun σ H Q => cls = .ref C ∧ d = none ∧ tCB (rIsE K C a) (tCons (tVar j) (tCons (tC (.ref C)) tNil)) σ H Q
abbrev tsTry (K : PySem.W.Frag) (i j : Nat) (C : Addr) (s1 s2 : Str) (a : Addr) (cls : Value) (d : Option Addr) : TS := tAsg (tIf (tB (tIsE K a cls d C j)) (tC (.str s1)) (tC (.str s2))) (gName i)
/-- what the two parts of a try are run in -/
structure TryA where
  pn : List (Addr × Obj)
  xe : Value → Shared → Prop
theorem s_try (i j : Nat) {x en cn yn fn : Str} {py np pc p1 p2 p3 p4 p5 p6 p7 p8 p9 p10 p11 p12 : Pos} {j1 j2} {s1 s2 : Str} {e : Expr} {es : List Expr} {fs : Fm → Option (List D)} {g : List D → Option (Option D)} {k n : Nat} {f : Addr} {fd : FuncData} {ps : List Str}
    (T : ExT X.K X.mg cn yn) (B : Bt X.mg) (G : FnOk X.prog X.w X.K X.mg X.base (L2.CX X.prog X.w) k f fd ps (spR X.K (.ref T.C) g n)) (hr : Room k X.A) (hm : X.mg fn = some (.ref f)) (hk : PySem.W.keepIn X.K (.ref f) = true) (hb : Binds X.K fd ps [])
    (ha : ∀ a : TryA, PAs (X.tr a.pn a.xe) (e :: es) fs) (hN : X.N.Nodup) (hn : n = (e :: es).length := by rfl)
    (hij : i ≠ j := by decide) (hi : X.N[i]? = some x := by rfl) (hj : X.N[j]? = some en := by rfl) (hx : Loc X.env.scope x := by exact .inl rfl) (hxl : X.env.scope.names.lookup x = some .local := by rfl) (hlj : X.env.kindOf en = some .local := by rfl) (hvj : Vis X.env.scope en := by exact .inl rfl)
    (hs : X.stack = X.env :: X.outer := by rfl) (hfr : X.env.frame = some X.env.locals := by rfl) (hgf : Gl X fn := by rfl) (hgy : Gl X yn := by rfl) (hgc : Gl X cn := by rfl) (hgi : Gl X "isinstance" := by rfl) (hyd : (yn == ("__debug__" : Str)) = false := by decide) (hfd : (fn == ("__debug__" : Str)) = false := by decide) (hcd : (cn == ("__debug__" : Str)) = false := by decide) (hed : (en == ("__debug__" : Str)) = false := by decide) (hec : (en == ("__classdict__" : Str)) = false := by decide)
    (he : starEach (e :: es) X.env = (false, eval e X.env) :: starEach es X.env := by rfl) (hpl : (backTo p2 (starEach es X.env)).any (·.1) = false := by rfl)
    (hsw : swapsWith (.Call (.Name fn p1) (e :: es) [] p2) (some (.Name x py)) p3.line X.env = pure false := by rfl)
    (hsw2 : swapsWith (.IfExp (.Call (.Name "isinstance" p4) [.Name en p5, .Name cn p6] [] p7) (.Constant (.str s1) j1 p8) (.Constant (.str s2) j2 p9) p10) (some (.Name x p11)) p12.line X.env = pure false := by rfl)
    (hst : starEach [.Name en p5, .Name cn p6] X.env = (false, eval (.Name en p5) X.env) :: starEach [.Name cn p6] X.env := by rfl) (hst2 : starEach [.Name cn p6] X.env = (false, eval (.Name cn p6) X.env) :: starEach [] X.env := by rfl) (hpl2 : (backTo p7 (starEach [.Name cn p6] X.env)).any (·.1) = false := by rfl) :
    PSt X (.Try [.Assign [.Name x py] (.Call (.Name fn p1) (e :: es) [] p2) p3] [.ExceptHandler (some (.Name yn np)) (some en) [.Assign [.Name x p11] (.IfExp (.Call (.Name "isinstance" p4) [.Name en p5, .Name cn p6] [] p7) (.Constant (.str s1) j1 p8) (.Constant (.str s2) j2 p9) p10) p12] pc] [] [] pos) (sTry i j g fs (.str s1)) := by
  obtain ⟨ta, a1, a2⟩ := all_PAs (Y := fun a : TryA => X.tr a.pn a.xe) (K := X.K) (fun a => rfl) ha
  refine ⟨_, ps_try_as (i := j) (tb := fun W => tAsg (tCallS (spR X.K (.ref T.C) g n) (WE W) ta) (gName i)) (ts := tsTry X.K i j T.C s1 s2) (Wout := fun _ _ _ _ => False) hs hfr hN hj hlj ⟨hgy, hyd, .inl T.gY⟩ takes0
    (fun W pn xe tk _ => pss_one (ps_set (X := X.tr pn xe) hN hi hx (pe_callS (X := X.tr pn xe) G hr hgf hm hk hb (fun σ => passAt tk σ) (a1 ⟨pn, xe⟩) hfd he hpl) hsw (.inr hxl)))
    (fun a oe cls d pn hz hf => pss_one (ps_set (X := X.suite a ((a, oe) :: pn)) hN hi hx (pe_ifExp (pt_val (t := tIsE X.K a cls d T.C j) ?_) pe_str pe_str) hsw2 (.inr hxl))), fun F H σ ρ fl ρ' hf hR E k1 k2 k3 => ?_⟩
  · refine ⟨fun pins s σ H Q I h => ?_⟩
    obtain ⟨rfl, rfl, h⟩ := h
    exact (pe_callB (X := X.suite a ((a, oe) :: pn)) (call_isE T.cc hz hf) hgi B.isinstance PyProof.Rows.boot_isinstance (pa_cons (pe_var (X := X.suite a ((a, oe) :: pn)) hj hvj hed hec) (pa_cons (pe_glob (X := X.suite a ((a, oe) :: pn)) (v := .ref T.C) hgc T.gC rfl hcd) pa_nil hst2) hst) (by decide) (by decide) hst hpl2).run pins s σ H Q I h
  · obtain ⟨ds, e1, e2⟩ := Option.bind_eq_some_iff.mp hf
    split at e2
    · rename_i hjl
      obtain ⟨o, e3, e4⟩ := Option.map_eq_some_iff.mp e2
      refine a2 F H σ ρ ds e1 hR _ fun vs F1 H1 g1 r1 => ?_
      have hlen : vs.length = n := by
        obtain ⟨_, _, _, hl⟩ := ha ⟨[], fun _ _ => True⟩
        rw [r1.length, hn]
        exact hl ρ ds e1
      refine ⟨hlen, F1, ds, o, ⟨g1.in_, (hR.gr g1).tab⟩, r1, e3, fun d hd => ?_, fun hd => ?_⟩
      · subst hd
        cases e4
        exact fun v F2 H2 g2 r2 => k1 rfl _ F2 H2 ((Go.gr hR (g1.trans g2)).trans (go_set (hR.gr (g1.trans g2)) r2))
      · subst hd
        cases e4
        intro F2 H2 g2
        have gg := g1.trans g2
        have hR2 := hR.gr gg
        refine ⟨true, T.ex, fun _ a ha' => ?_, fun z => Bool.noConfusion z⟩
        have hjs : j < σ.length := by rw [hR.len]; exact hjl
        refine ⟨rfl, rfl, .ref a, by rw [List.getElem?_set_self hjs], .ref T.C, .ref T.C, true, rfl, fun u hu => hu, T.ki, true, rfl, ?_⟩
        show E.nx ((((σ.set j (some (.ref a))).set i (some (.str s1)))).set j none) H2
        have es : ((σ.set j (some (V.ref a))).set i (some (.str s1))).set j none = (σ.set i (some (.str s1))).set j none := by
          rw [List.set_comm _ _ (fun z => hij z.symm), List.set_set]
        rw [es]
        exact k1 rfl _ F2 H2 (((Go.gr hR gg).trans (go_set (i := i) (v := .str s1) (d := .str s1) hR2 (.str s1))).trans (go_clr (go_set (i := i) (v := .str s1) (d := .str s1) hR2 (.str s1)).rel))
    · cases e2
end
end DL
end
section
set_option Elab.async false
set_option linter.all false
set_option maxRecDepth 100000
/-! index, count of a tuple of any data. -/
namespace DL
open PySem PySem.Spec PyProof.Rows L2
variable [TabT] [FnT]
/-- a method of one argument of a tuple of a known object -/
def tBMZ (r : V → List V → Hp → VK → Prop) (to : TE) (t : TA) : TE := fun τ G Q => to τ G fun x G1 => (∃ a zs, x = .ref a ∧ SqZ G1 a zs) ∧ t τ G1 fun xs G2 => r x xs G2 Q
section
variable {X : Cx} {o e : Expr} {to : TE} {t : TA} {name : Str} {apos cpos : Pos} {id : String} {r : V → List V → Hp → VK → Prop}
theorem sqZ_obj {pins : List (Addr × Obj)} {τ : L2.St} {G : Hp} {s0 : Shared} (J : Inv X pins τ G s0) {a : Addr} {zs : List V} (h : SqZ G a zs) : s0.TypeIs (.ref a) "tuple" ∧ ∃ ob, s0.heap.get? a = some ob ∧ ob.dict = none := by
  obtain ⟨its, rv, ht, hz⟩ := J.tuple (h.sqt (K := X.K))
  obtain ⟨ob, h1, h2⟩ := h
  exact ⟨ht.typeIs, ob, (J.hok a _ h1).1, h2⟩
theorem pe_bmZ (slot : Slot "tuple" name id) (hty : typeOf (.builtin id) = pure (.type "method_descriptor")) (hm : MtR X id r) (ho : PE X o to) (ha : PA X [e] t)
    (hbase : attributeBase o name X.env (eval o X.env) = eval o X.env := by rfl)
    (hfew : ((backTo cpos (starEach [e] X.env)).all (fun x => !x.1) && (backToKw cpos (keywordEach [] X.env)).all (fun x => x.1.isSome)
      && decide (([e] : List Expr).length + ([] : List Keyword).length + (if ([] : List Keyword).isEmpty then 0 else 1) < 30)) = true := by rfl)
    (hline : (apos.endLine == cpos.line) = true := by rfl) (hs : starEach [e] X.env = (false, eval e X.env) :: starEach [] X.env := by rfl) :
    PE X (.Call (.Attribute o name apos) [e] [] cpos) (tBMZ r to t) := by
  refine ⟨fun pins s0 τ G Q J h => wpAny_Call_method_late hbase hfew hline rfl (thn (ho.run pins s0 τ G _ J h) fun v s1 ⟨x, G1, J1, r1, ty, q1⟩ => ?_)⟩
  obtain ⟨a, zs, rfl, hz⟩ := ty
  cases r1
  obtain ⟨h1, h2⟩ := sqZ_obj J1 hz
  refine ⟨"tuple", id, PySem.F.plainAttrs_tuple, slot, hty, h1, fun b hb => by cases hb; exact h2, ?_⟩
  have hA := ha.run cpos pins s1 τ G1 _ J1 q1
  rw [hs] at hA ⊢
  exact Calls.callWith_builtin rfl (Calls.evalArgs_plain (thn hA fun us s2 ⟨vs, G2, J2, r2, q2⟩ => hm pins s2 τ G2 (.ref a) vs (.ref a) us Q J2 rfl r2 q2))
end
def rTcD (K : PySem.W.Frag) : V → List V → Hp → VK → Prop := fun x xs G Q => ∃ (a : Addr) (y : V) (d : PyData) (ds : List PyData), x = V.ref a ∧ xs = [y] ∧ Dp K G (V.ref a) (.tuple ds) ∧ Dp K G y d ∧
  SeqAt.shaped (.tuple ds) = true ∧ SeqAt.shaped d = true ∧ Q (.int ((ds.countP fun z => PyData.eqv z d : Nat) : Int)) G
def rTxD (K : PySem.W.Frag) : V → List V → Hp → VK → Prop := fun x xs G Q => ∃ (a : Addr) (y : V) (d : PyData) (ds : List PyData) (j : Nat), x = V.ref a ∧ xs = [y] ∧ Dp K G (V.ref a) (.tuple ds) ∧ Dp K G y d ∧
  SeqAt.shaped (.tuple ds) = true ∧ SeqAt.shaped d = true ∧ ds.findIdx? (fun z => PyData.eqv z d) = some j ∧ Q (.int (j : Int)) G
section
variable {X : Cx}
theorem mt_tcD (hu : X.A.units + 65 < cLine) : MtR X "tuple.count" (rTcD X.K) := by
  intro pins s0 τ G x xs v us Q J rx rxs h
  obtain ⟨a, y, d, ds, rfl, rfl, hl, hy, sl, sd, q⟩ := h
  cases rx
  cases rxs with
  | cons ry rt =>
    rename_i uy ut
    cases rt
    obtain ⟨bs, r1⟩ := Dp.reads J d y uy hy ry
    have hxs : PyData.canLayAll0 ds = true := SeqAt.canLay_of_shaped sl
    have hroom : X.A.units + 1 + min (PyData.depthAll ds) d.depth < cLine := room_in_shaped sd hu
    cases hl with
    | tup hs ha =>
      obtain ⟨its, rv, ⟨⟨cl, dy, da, so⟩, ho, hc, n0, hd⟩, hlen⟩ := J.tuple hs
      simp only at hc hd
      subst hc hd
      obtain ⟨as, h4⟩ := Dp.readsAll J ds _ its ha rv
      have hmap : its.map (SeqAt.readOf s0.heap) = ds := SeqAt.readsAll_map ds its as hxs h4
      refine call_meets PySem.F.slot_tuple_count ⟨_, ho, rfl⟩ PySem.F.entry_tuple_count (PySem.F.args_tuple_count_2 _ _)
        (SeqAt.tuple_countAt a its.toArray n0 dy so uy (fun u => PyData.eqv (SeqAt.readOf s0.heap u) d)) ⟨ho, SeqAt.items_eqAt (vs := its.toArray) (show ReadsAll s0.heap its.toArray.toList ds as from h4) r1 hxs (SeqAt.canLay_of_shaped sd) hroom, ?_⟩
      have ec : its.toArray.toList.countP (fun u => PyData.eqv (SeqAt.readOf s0.heap u) d) = ds.countP fun z => PyData.eqv z d := by
        rw [← hmap, List.countP_map]
        rfl
      refine ⟨.int ((ds.countP fun z => PyData.eqv z d : Nat) : Int), G, J.tok _, ⟨s0.toks, ?_⟩, q⟩
      show Value.int ((its.toArray.toList.countP (fun u => PyData.eqv (SeqAt.readOf s0.heap u) d) : Nat) : Int) s0.toks = _
      rw [ec]
theorem mt_txD (hu : X.A.units + 65 < cLine) : MtR X "tuple.index" (rTxD X.K) := by
  intro pins s0 τ G x xs v us Q J rx rxs h
  obtain ⟨a, y, d, ds, j, rfl, rfl, hl, hy, sl, sd, hj, q⟩ := h
  cases rx
  cases rxs with
  | cons ry rt =>
    rename_i uy ut
    cases rt
    obtain ⟨bs, r1⟩ := Dp.reads J d y uy hy ry
    have hxs : PyData.canLayAll0 ds = true := SeqAt.canLay_of_shaped sl
    have hroom : X.A.units + 1 + min (PyData.depthAll ds) d.depth < cLine := room_in_shaped sd hu
    cases hl with
    | tup hs ha =>
      obtain ⟨its, rv, ⟨⟨cl, dy, da, so⟩, ho, hc, n0, hd⟩, hlen⟩ := J.tuple hs
      simp only at hc hd
      subst hc hd
      obtain ⟨as, h4⟩ := Dp.readsAll J ds _ its ha rv
      have hmap : its.map (SeqAt.readOf s0.heap) = ds := SeqAt.readsAll_map ds its as hxs h4
      have hlm : its.length = ds.length := by rw [← hmap, List.length_map]
      obtain ⟨hjl, hj1, hj2⟩ := List.findIdx?_eq_some_iff_getElem.mp hj
      have at_ : ∀ (m : Nat) (hm : m < its.toArray.size) (hm2 : m < ds.length), SeqAt.readOf s0.heap its.toArray[m] = ds[m] := fun m hm hm2 => by
        have e1 : ds[m]? = (its[m]?).map (SeqAt.readOf s0.heap) := by rw [← hmap, List.getElem?_map]
        have hm3 : m < its.length := by omega
        rw [List.getElem?_eq_getElem hm2, List.getElem?_eq_getElem hm3, Option.map_some] at e1
        exact (Option.some.inj e1).symm
      have hjs : j < its.toArray.size := by
        rw [List.size_toArray]
        omega
      refine call_meets PySem.F.slot_tuple_index ⟨_, ho, rfl⟩ PySem.F.entry_tuple_index (PySem.F.args_tuple_index_2 _ _)
        (TI.tuple_indexAt a its.toArray n0 dy so uy (fun u => PyData.eqv (SeqAt.readOf s0.heap u) d) j hjs ?_ fun m hm hmj => ?_) ⟨ho, SeqAt.items_eqAt (vs := its.toArray) (show ReadsAll s0.heap its.toArray.toList ds as from h4) r1 hxs (SeqAt.canLay_of_shaped sd) hroom, ⟨.int (j : Int), G, J.tok _, ⟨s0.toks, rfl⟩, q⟩⟩
      · show PyData.eqv (SeqAt.readOf s0.heap its.toArray[j]) d = true
        rw [at_ j hjs hjl]
        exact hj1
      · show PyData.eqv (SeqAt.readOf s0.heap its.toArray[m]) d = false
        rw [at_ m hm (by omega)]
        have := hj2 m hmj
        simpa using this
end
/-! ### in data -/
def gTcD : D → D → Option D
  | .tuple ds, y => if okD (.tuple ds) && okD y then some (.int ((ds.countP fun z => PyData.eqv z y : Nat) : Int)) else none
  | _, _ => none
def gTxD : D → D → Option D
  | .tuple ds, y => if okD (.tuple ds) && okD y then (ds.findIdx? fun z => PyData.eqv z y).map (fun j : Nat => PyData.int (j : Int)) else none
  | _, _ => none
/-- index of a list of numbers or of a tuple -/
def gIndex2 (x y : D) : Option D := (gIndex x y).or (gTxD x y)
theorem Vw.tupleZ {K : PySem.W.Frag} {F H : Hp} {v : V} {ds : List D} (h : Vw K F H v (.tuple ds)) (e : Ex F H) : ∃ (a : Addr) (xs : List V), v = .ref a ∧ SqZ H a xs ∧ RpA K F xs ds := by
  rcases h with h | ⟨a, vs, es, rfl, q, h1, h2⟩ | ⟨a, ds, rfl, q, h1⟩
  · cases h with
    | tup hs r => exact ⟨_, _, rfl, e.sqz hs, r⟩
  · cases q
  · cases q
section
variable {X : Cx} {e o : Expr} {apos cpos : Pos} {fe fo : Fm → Option D}
/-- a tuple's own method of one argument -/
theorem d_tmeth {name : Str} {id : String} {r : V → List V → Hp → VK → Prop} {g : D → D → Option D} (slot : Slot "tuple" name id) (hty : typeOf (.builtin id) = pure (.type "method_descriptor")) (hm : MtR X id r)
    (hl : ∀ dx dy dz, g dx dy = some dz → ∃ ds, dx = .tuple ds) (hv : ∀ F H x y dx dy dz, Ex F H → Vw X.K F H x dx → Vw X.K F H y dy → g dx dy = some dz → ∀ Q : VK, Res X.K F H dz Q → r x [y] H Q)
    (ho : PV X o fo) (ha : PV X e fe) (hbase : attributeBase o name X.env (eval o X.env) = eval o X.env := by rfl)
    (hfew : ((backTo cpos (starEach [e] X.env)).all (fun x => !x.1) && (backToKw cpos (keywordEach [] X.env)).all (fun x => x.1.isSome)
      && decide (([e] : List Expr).length + ([] : List Keyword).length + (if ([] : List Keyword).isEmpty then 0 else 1) < 30)) = true := by rfl)
    (hline : (apos.endLine == cpos.line) = true := by rfl) (hs : starEach [e] X.env = (false, eval e X.env) :: starEach [] X.env := by rfl) :
    PP X (.Call (.Attribute o name apos) [e] [] cpos) (fOp2 g fo fe) := by
  obtain ⟨t, h1, h2⟩ := ho
  obtain ⟨u, h3, h4⟩ := ha
  refine ⟨_, pe_bmZ slot hty hm h1 (pa_cons h3 pa_nil hs) hbase hfew hline hs, fun F H σ ρ d hf hR Q q => ?_⟩
  obtain ⟨dx, e1, e2⟩ := Option.bind_eq_some_iff.mp hf
  obtain ⟨dy, e3, e4⟩ := Option.bind_eq_some_iff.mp e2
  obtain ⟨ds, rfl⟩ := hl _ _ _ e4
  refine h2 F H σ ρ _ e1 hR _ fun v F1 H1 g1 r1 => ?_
  obtain ⟨a, xs, rfl, s1, rl⟩ := r1.tupleZ g1.in_
  refine ⟨⟨a, xs, rfl, s1⟩, ?_⟩
  refine h4 F1 H1 σ ρ _ e3 (hR.gr g1) _ fun y F2 H2 g2 r2 => ?_
  exact hv F2 H2 (.ref a) y _ _ _ g2.in_ (r1.gr g2) r2 e4 Q ((q.gr g1).gr g2)
theorem d_tcD {k : Nat} (hr : Room k X.A) (ho : PV X o fo) (ha : PV X e fe) (hbase : attributeBase o "count" X.env (eval o X.env) = eval o X.env := by rfl)
    (hfew : ((backTo cpos (starEach [e] X.env)).all (fun x => !x.1) && (backToKw cpos (keywordEach [] X.env)).all (fun x => x.1.isSome)
      && decide (([e] : List Expr).length + ([] : List Keyword).length + (if ([] : List Keyword).isEmpty then 0 else 1) < 30)) = true := by rfl)
    (hline : (apos.endLine == cpos.line) = true := by rfl) (hs : starEach [e] X.env = (false, eval e X.env) :: starEach [] X.env := by rfl) :
    PP X (.Call (.Attribute o "count" apos) [e] [] cpos) (fOp2 gTcD fo fe) := by
  refine d_tmeth PySem.F.slot_tuple_count PySem.F.type_tuple_count (mt_tcD (by have := Room.u66 hr; omega)) (fun dx dy dz h => ?_) (fun F H x y dx dy dz ex vx vy h Q q => ?_) ho ha hbase hfew hline hs
  · unfold gTcD at h
    split at h
    · exact ⟨_, rfl⟩
    · cases h
  · unfold gTcD at h
    split at h
    · split at h
      · rename_i ds hc
        cases h
        simp only [Bool.and_eq_true] at hc
        obtain ⟨a, xs, e1, s1, rl⟩ := vx.tuple ex
        subst e1
        exact ⟨a, y, _, ds, rfl, rfl, (vx.rp ex (nd_ok hc.1)).dp (nd_ok hc.1), (vy.rp ex (nd_ok hc.2)).dp (nd_ok hc.2), hc.1, hc.2, q.sc ex fun _ => .int _⟩
      · cases h
    · cases h
theorem d_txD {k : Nat} (hr : Room k X.A) (ho : PV X o fo) (ha : PV X e fe) (hbase : attributeBase o "index" X.env (eval o X.env) = eval o X.env := by rfl)
    (hfew : ((backTo cpos (starEach [e] X.env)).all (fun x => !x.1) && (backToKw cpos (keywordEach [] X.env)).all (fun x => x.1.isSome)
      && decide (([e] : List Expr).length + ([] : List Keyword).length + (if ([] : List Keyword).isEmpty then 0 else 1) < 30)) = true := by rfl)
    (hline : (apos.endLine == cpos.line) = true := by rfl) (hs : starEach [e] X.env = (false, eval e X.env) :: starEach [] X.env := by rfl) :
    PP X (.Call (.Attribute o "index" apos) [e] [] cpos) (fOp2 gTxD fo fe) := by
  refine d_tmeth PySem.F.slot_tuple_index PySem.F.type_tuple_index (mt_txD (by have := Room.u66 hr; omega)) (fun dx dy dz h => ?_) (fun F H x y dx dy dz ex vx vy h Q q => ?_) ho ha hbase hfew hline hs
  · unfold gTxD at h
    split at h
    · exact ⟨_, rfl⟩
    · cases h
  · unfold gTxD at h
    split at h
    · split at h
      · rename_i ds hc
        simp only [Bool.and_eq_true] at hc
        obtain ⟨j, hj, rfl⟩ := Option.map_eq_some_iff.mp h
        obtain ⟨a, xs, e1, s1, rl⟩ := vx.tuple ex
        subst e1
        exact ⟨a, y, _, ds, j, rfl, rfl, (vx.rp ex (nd_ok hc.1)).dp (nd_ok hc.1), (vy.rp ex (nd_ok hc.2)).dp (nd_ok hc.2), hc.1, hc.2, hj, q.sc ex fun _ => .int _⟩
      · cases h
    · cases h
theorem d_index2 {k : Nat} (hr : Room k X.A) (ho : PV X o fo) (ha : PV X e fe) (hbase : attributeBase o "index" X.env (eval o X.env) = eval o X.env := by rfl)
    (hfew : ((backTo cpos (starEach [e] X.env)).all (fun x => !x.1) && (backToKw cpos (keywordEach [] X.env)).all (fun x => x.1.isSome)
      && decide (([e] : List Expr).length + ([] : List Keyword).length + (if ([] : List Keyword).isEmpty then 0 else 1) < 30)) = true := by rfl)
    (hline : (apos.endLine == cpos.line) = true := by rfl) (hs : starEach [e] X.env = (false, eval e X.env) :: starEach [] X.env := by rfl) :
    PP X (.Call (.Attribute o "index" apos) [e] [] cpos) (fOp2 gIndex2 fo fe) :=
  pp_or (d_index ho ha hbase hfew hline hs) (d_txD hr ho ha hbase hfew hline hs) fun ρ d hf => by
    obtain ⟨dx, e1, e2⟩ := Option.bind_eq_some_iff.mp hf
    obtain ⟨dy, e3, e4⟩ := Option.bind_eq_some_iff.mp e2
    unfold gIndex2 at e4
    cases h : gIndex dx dy with
    | some z =>
      rw [h] at e4
      refine .inl ?_
      unfold fOp2
      rw [e1, Option.bind_some, e3, Option.bind_some]
      exact h.trans e4
    | none =>
      rw [h] at e4
      refine .inr ?_
      unfold fOp2
      rw [e1, Option.bind_some, e3, Option.bind_some]
      exact e4
end
end DL
end
section
set_option Elab.async false
set_option linter.all false
set_option maxRecDepth 100000
/-! dict(t), t a tuple of pairs with apart keys that are tuples. -/
namespace DL
open PySem PySem.Spec PyProof.Rows L2
variable [TabT] [FnT]
section
variable {X : Cx}
def rDictZ (K : PySem.W.Frag) : List V → Hp → VK → Prop := fun vs H Q => ∃ (F : Hp) (a : Addr) (us : List V) (ds : List D) (kds : List (D × D)), vs = [.ref a] ∧ Ex F H ∧ SqZ H a us ∧ RpA K F us ds ∧ tpairs ds = some kds ∧ (kds.map fun p => kOf true p.1).Nodup ∧
  ∀ p, H p = none → ∀ xs, RpN K F xs kds → Q (.ref p) (upd H p (DN p xs))
theorem call_dictZ [hW : WH X.w] (hc : X.calm = true) (hu : X.A.units + 20 < cLine) : CallR X (.type "dict") (rDictZ X.K) := by
  intro pins s σ H xs us Q I r q
  obtain ⟨F, a, vs, ds, kds, ex, e, sq, ra, tp, nd, q⟩ := q
  subst ex
  obtain ⟨u, eu, rx⟩ := vals1 r
  subst eu
  cases rx
  obtain ⟨its, rv, pl, hz⟩ := I.tuple (sq.sqt (K := X.K))
  obtain ⟨_, ob, hob, hdn⟩ := sqZ_obj I sq
  obtain ⟨ps, xs, rfl, rn, hl, hk, hp⟩ := npairs_of I e ra tp
  have ei := refs_at rv
  subst ei
  rw [List.length_map] at hz
  obtain ⟨o, ho, hcl, n, hdat⟩ := pl
  have hd : o.dict = none := by
    rw [ho] at hob
    cases hob
    exact hdn
  have hnd : (xs.map (·.1)).Nodup := by
    rw [← hk] at nd
    have : xs.map (fun x => some x.1) = (xs.map (·.1)).map some := by rw [List.map_map]; rfl
    rw [this] at nd
    exact (List.pairwise_map.mp nd).imp fun h z => h (congrArg some z)
  have hsz : (xs.map fun x => ((Value.ref x.2.1, x.2.2) : Value × Value)).length = xs.length := List.length_map ..
  have ok : PlainSeq "tuple" s.heap a (ps.map Value.ref).toArray ∧ PairItems s.heap (ps.map Value.ref).toArray (fun j => ps.getD j 0) (xs.map fun x => (Value.ref x.2.1, x.2.2)) := by
    refine ⟨⟨o, n, ho, hcl, hd, hdat⟩, by simp [hl], fun j k v hj => ?_⟩
    rw [List.getElem?_map] at hj
    obtain ⟨x, hx, ex⟩ := Option.map_eq_some_iff.mp hj
    cases ex
    obtain ⟨p, e1, e2⟩ := hp j x hx
    show (ps.map Value.ref).toArray[j]? = some (Value.ref (ps.getD j 0)) ∧ PairAt s.heap (ps.getD j 0) (.ref x.2.1) x.2.2
    rw [List.getD_eq_getElem?_getD, e1]
    exact ⟨by simp [e1], e2⟩
  have P := PairArg.tuple (prog := X.prog) (w := X.w) a (ps.map Value.ref).toArray (fun j => ps.getD j 0) (xs.map fun x => (Value.ref x.2.1, x.2.2))
  refine call_dict_pairsH (knd := nestedKind X.prog X.w) (ps := xs) P (I.ok.hd hc) ?_ ok ⟨by rw [hsz], fun i key v hr => ?_⟩ (fun h' hk' x hx => ?_) (by rw [hsz, hl]; exact hz) fun h' tk dd k => ?_
  · show X.A.units + 1 + 1 + 8 < cLine
    omega
  · have hr : (xs.map fun x => ((Value.ref x.2.1, x.2.2) : Value × Value))[i]? = some (key, v) := hr
    rw [List.getElem?_map] at hr
    obtain ⟨x, hx, ex⟩ := Option.map_eq_some_iff.mp hr
    cases ex
    exact ⟨x.1, x.2.1, hx, rfl⟩
  · exact nestedKind_stays.stays (fun b ob vs' n' hb _ => hk' b ob (Nat.ne_of_lt (Heap.lt_size hb)) (fun z => nomatch z) hb) (keys_at I e rn x hx)
  · rw [storedAllH_nil_of_nodup xs hnd] at dd
    have hm : (s.heap.objs.size == sysModules) = false := beq_eq_false_iff_ne.mpr (Nat.ne_of_gt I.big)
    have k2 : ∀ b o, s.heap.get? b = some o → h'.get? b = some o := fun b o hb => k b o (fun z => nomatch z) hb
    exact ⟨.ref s.heap.objs.size, upd H s.heap.objs.size (DN s.heap.objs.size xs), I.laid (t' := tk) k2 (Nat.le_refl _) (dn_ok (dn_phi hm (by rw [hl]; exact hz) dd rn.hash)), rfl, q _ (I.hok.fresh (Nat.le_refl _)) xs rn⟩
end
def gDictZ : D → Option D
  | .tuple xs => (tpairs xs).bind fun kds => if decide ((kds.map fun p => kOf true p.1).Nodup) = true then some (.dict kds) else none
  | _ => none
section
variable {X : Cx} {e : Expr} {pos p : Pos} {fe : Fm → Option D}
theorem d_dictZ {k : Nat} (hc : X.calm = true) (hr : Room k X.A) (B : Bt X.mg) (ha : PP X e fe) (hg : Gl X "dict" := by rfl) (hs : starEach [e] X.env = (false, eval e X.env) :: starEach [] X.env := by rfl) (hW : WH X.w := by assumption) : PP X (.Call (.Name "dict" p) [e] [] pos) (fOp1 gDictZ fe) := by
  obtain ⟨t, h1, h2⟩ := ha
  refine ⟨_, pe_seeE (pe_callTy (call_dictZ hc (by have := Room.u66 hr; omega)) hg B.dict PyProof.Rows.boot_dict (pa_cons h1 pa_nil hs) (by decide) (by decide) hs rfl), fun F H σ ρ d hf hR Q kk => ?_⟩
  obtain ⟨d0, e1, e2⟩ := Option.bind_eq_some_iff.mp hf
  unfold gDictZ at e2
  split at e2
  · rename_i xs
    obtain ⟨kds, e3, e4⟩ := Option.bind_eq_some_iff.mp e2
    split at e4
    · rename_i hz
      cases e4
      refine h2 F H σ ρ _ e1 hR _ fun v F1 H1 g1 r1 => ?_
      cases r1 with
      | @tup a vs _ sq ra =>
        refine ⟨F1, a, vs, xs, kds, rfl, g1.in_, g1.in_.sqz sq, ra, e3, of_decide_eq_true hz, fun q hq zs rz => ⟨q, _, rfl, upd_same, trivial, fun od => ?_⟩⟩
        rw [upd_upd]
        have g2 := Gr.new (o := .frz od (DN q zs)) g1.in_ hq
        exact kk _ _ _ (g1.trans g2) (.dn upd_same (RpN.mono g2.ex rz))
    · cases e4
  · cases e2
end
end DL
end
section
set_option Elab.async false
set_option linter.all false
set_option maxRecDepth 100000
/-! min(a, b) of two things of any data. -/
namespace PySem.W
open PySem PySem.Spec
section
variable {prog : Program} {w : World} {A : Around} {E : Value → Shared → Prop} {s : Shared}
theorem readsAll_kp {h h' : Heap} (k : ∀ c o, h.get? c = some o → h'.get? c = some o) : ∀ {vs : List Value} {ds : List PyData} {as : List Addr}, ReadsAll h vs ds as → ReadsAll h' vs ds as
  | _, _, _, .nil => .nil
  | _, _, _, .cons r rs => .cons (reads_keeps k r) (readsAll_kp k rs)
theorem min_two_dataZ {a b : Value} {x y : PyData} {as : List Addr} {Q : Value → Shared → Prop} (hh : A.handled = none) (hr : ReadsAll s.heap [a, b] [x, y] as) (ha : AlikeAll [x, y]) (hu : A.units + 1 + PyData.depthAll [x, y] < cLine)
    (h : ∀ (i : Nat) v h' tk bs, [a, b][i]? = some v → Reads h' v (minD x [y]) bs → (∀ c o, s.heap.get? c = some o → h'.get? c = some o) → Q v { s with heap := h', toks := tk }) :
    wpAny (model prog w) A (call (.builtin "min") [a, b]) Q E s := by
  have hlp : (toString "min" ++ toString ".loop" : String) = "min.loop" := by decide
  refine call_function_tree F.kind_min F.plain_min F.entry_min (F.args_min2 _ _) ?_
  show wpAny _ A.in1 (Builtin.Builtins.bindParams "min" ["key", "default"] 0 ⟨[], []⟩ >>= _) _ _ s
  refine wpAny_bind (wpAny_of_eq (show Builtin.Builtins.bindParams "min" ["key", "default"] 0 ⟨[], []⟩ = pure [none, none] from rfl) ?_)
  show wpAny _ A.in1 (newTuple [a, b] >>= _) _ _ s
  refine wpAny_bind (wpAny_newObj_type ?_)
  have kp : ∀ c o, s.heap.get? c = some o → (s.heap.push { cls := .type "tuple", data := .seq #[a, b] }).get? c = some o := fun c o e => Heap.get?_push_of_some _ e
  have hT : (s.heap.push { cls := .type "tuple", data := .seq #[a, b] }).IsTuple s.heap.objs.size #[a, b] := ⟨_, Heap.get?_push_size _ rfl, rfl, 0, rfl⟩
  have hr2 : ReadsAll (s.heap.push { cls := .type "tuple", data := .seq #[a, b] }) (#[a, b] : Array Value).toList [x, y] as := readsAll_kp kp hr
  refine wpAny_bind (iter_tupleW (A := A.in1) hh hT fun s₂ e W st hfp hw hk => ?_)
  refine wpAny_bind (wpAny_newObj_type ?_)
  have hSf : s₂.heap.objs.size ∉ [(s.heap.push { cls := .type "tuple", data := .seq #[a, b] }).objs.size, s.heap.objs.size] := fun hm => Nat.lt_irrefl _ (hfp _ hm)
  rw [hlp]
  have hcmp := cmpIn_lt (s := { s with heap := s.heap.push { cls := .type "tuple", data := .seq #[a, b] } }) (prog := prog) (w := w) (A := A.in1) (vs := #[a, b]) hr2 ha (by show A.units + 1 + _ < _; exact hu)
  refine wpAny_pure ⟨plainId_quiet F.plain_min_loop _, codeAny_min_loop_firstH W _ hw _ hcmp s₂.heap.objs.size hSf (fresh_in hk) _ (by simp) (fun c o q => Heap.get?_push_of_some _ (hk c o q)) (W.frame 0 s₂ _ s₂.toks st (Nat.le_refl _) fun c _ o q => Heap.get?_push_of_some _ q) (Heap.get?_push_size _ rfl) fun v s' hP hm => ?_⟩
  obtain ⟨h', tk, rfl, hk'⟩ := moved_old e rfl (Moved.drop_new (tk := s₂.toks) hm (Nat.le_refl _))
  obtain ⟨bs, r, _, _, _⟩ := readsAll_atA hr2 _ v hP
  have e2 := (argBest_fold dataLt PyData.none x [y] 1 (Nat.le_refl _)).2
  rw [show List.take 1 [y] = [y] from rfl] at e2
  exact h (argBest (fun i j => dataLt ([x, y].getD i PyData.none) ([x, y].getD j PyData.none)) 1) v h' tk bs (by rw [← List.getElem?_toArray]; exact hP) (reads_keeps hk' (by unfold minD; rw [← e2]; exact r)) fun c o q => hk' c o (kp c o q)
end
end PySem.W
namespace DL
open PySem PySem.Spec PyProof.Rows L2
variable [TabT] [FnT]
/-- the answer is one of the two, which is worth d -/
def rMin2 (K : PySem.W.Frag) : List V → Hp → VK → Prop := fun vs G Q => ∃ (x y : V) (d e : D), vs = [x, y] ∧ Dp K G x d ∧ Dp K G y e ∧ PySem.W.AlikeAll [d, e] ∧ PyData.canLayAll0 [d, e] = true ∧ PyData.depthAll [d, e] ≤ 64 ∧
  ∀ (i : Nat) (v : V), [x, y][i]? = some v → [d, e][i]? = some (PySem.W.minD d [e]) → Q v G
section
variable {X : Cx}
theorem cr_min2 (hc : X.calm = true) (hu : X.A.units + 66 < cLine) : CallR X (.builtin "min") (rMin2 X.K) := by
  intro pins s σ H vs us Q I r h
  obtain ⟨x, y, d, e, rfl, hx, hy, ha, hl, hdp, q⟩ := h
  have hd : DpAll X.K H [x, y] [d, e] := .cons hx (.cons hy .nil)
  obtain ⟨as, r1⟩ := Dp.readsAll I [d, e] [x, y] us hd r
  obtain ⟨u, v', rfl, _, _⟩ := vals2 r
  exact PySem.W.min_two_dataZ (I.ok.hd hc) r1 ha (by omega) fun i v h' tk bs hv rd kp => pick_end I r hd hl (by simpa using hv) rd kp q
end
def gMin2D : D → D → Option D
  | .tuple as, .tuple bs => gMin (.list [.tuple as, .tuple bs])
  | _, _ => none
theorem Vw.rpT {K : PySem.W.Frag} {F H : Hp} {v : V} {ds : List D} (h : Vw K F H v (.tuple ds)) : Rp K F v (.tuple ds) := by
  rcases h with h | ⟨_, _, _, _, q, _⟩ | ⟨_, _, _, q, _⟩
  · exact h
  · cases q
  · cases q
section
variable {X : Cx} {a b : Expr} {pos p : Pos} {fa fb : Fm → Option D}
theorem d_min2D (hc : X.calm = true) {k : Nat} (hr : Room k X.A) (B : Bt X.mg) (ha : PV X a fa) (hb : PV X b fb) (hg : Gl X "min" := by rfl) (hs : starEach [a, b] X.env = (false, eval a X.env) :: starEach [b] X.env := by rfl) (hs2 : starEach [b] X.env = (false, eval b X.env) :: starEach [] X.env := by rfl) : PP X (.Call (.Name "min" p) [a, b] [] pos) (fOp2 gMin2D fa fb) :=
  let ⟨_, h1, h2⟩ := ha
  let ⟨_, h3, h4⟩ := hb
  ⟨_, pe_callB (cr_min2 hc (Room.u66 hr)) hg B.min PyProof.Rows.boot_min (pa_cons h1 (pa_cons h3 pa_nil hs2) hs) (by decide) (by decide) hs (by rw [hs2]; rfl), sp_call2 (fun F H x y dx dy dz e hx hy hg Q k => by
    unfold gMin2D at hg
    split at hg
    · rename_i as bs
      unfold gMin at hg
      simp only at hg
      split at hg
      · rename_i hc
        cases hg
        simp only [Bool.and_eq_true] at hc
        have hn := nd_ok hc.1
        simp only [nd, ndA, Bool.and_eq_true, and_true] at hn
        have rx := hx.rpT
        have ry := hy.rpT
        refine ⟨x, y, _, _, rfl, (rx.mono e).dp (by simp only [nd]; exact hn.1), (ry.mono e).dp (by simp only [nd]; exact hn.2), alAll_ok hc.2, (okD_list hc.1).1, (okD_list hc.1).2, fun i v hv hd => ?_⟩
        match i, hv, hd with
        | 0, hv, hd =>
          cases hv
          have e3 : PyData.tuple as = _ := Option.some.inj hd
          rw [← e3] at k
          exact k.at_ e rx
        | 1, hv, hd =>
          cases hv
          have e3 : PyData.tuple bs = _ := Option.some.inj hd
          rw [← e3] at k
          exact k.at_ e ry
      · cases hg
    · cases hg) h2 h4⟩
end
end DL
end
section
set_option Elab.async false
set_option linter.all false
set_option maxRecDepth 100000
/-! Comprehensions of two clauses. -/
namespace DL
open PySem PySem.Spec PyProof.Rows L2
variable [TabT] [FnT]
section
variable {K : PySem.W.Frag} {F H F' H' : Hp} {σ : L2.St} {ρ : Fm}
/-- what a frame stands for, kept where its own objects are kept -/
theorem rel_keep (h : Rel K F H σ ρ) (e : Ex F F') (e2 : Ex F' H') (k : ∀ a, ownA σ ρ a → H' a = H a ∧ F' a = none) (tb : TbOk F' H') : Rel K F' H' σ ρ := by
  refine ⟨e2, h.len, fun i b hb => ?_, h.sep, tb⟩
  have q := h.at_ i b hb
  cases b with
  | no => trivial
  | pin => trivial
  | fn w =>
    obtain ⟨v, e1, r⟩ := q
    exact ⟨v, e1, FnT.mono e r⟩
  | sh d =>
    obtain ⟨v, e1, r⟩ := q
    exact ⟨v, e1, r.mono e⟩
  | ow ds =>
    obtain ⟨a, vs, e1, e3, e4, r⟩ := q
    obtain ⟨k1, k2⟩ := k a ⟨i, _, hb, rfl, e1⟩
    exact ⟨a, vs, e1, k1.trans e3, k2, r.mono e⟩
  | io ds =>
    obtain ⟨a, vs, e1, e3, e4, r⟩ := q
    obtain ⟨k1, k2⟩ := k a ⟨i, _, hb, rfl, e1⟩
    exact ⟨a, vs, e1, k1.trans e3, k2, r.mono e⟩
  | od t ds =>
    obtain ⟨a, e1, e3, e4⟩ := q
    obtain ⟨k1, k2⟩ := k a ⟨i, _, hb, rfl, e1⟩
    refine ⟨a, e1, k2, ?_⟩
    cases t with
    | false =>
      obtain ⟨kvs, f1, r⟩ := e4
      exact ⟨kvs, k1.trans f1, r.mono e⟩
    | true =>
      obtain ⟨xs, f1, r⟩ := e4
      exact ⟨xs, k1.trans f1, r.mono e⟩
  | jd t ds =>
    obtain ⟨a, e1, e3, e4⟩ := q
    obtain ⟨k1, k2⟩ := k a ⟨i, _, hb, rfl, e1⟩
    refine ⟨a, e1, k2, ?_⟩
    cases t with
    | false =>
      obtain ⟨kvs, f1, r⟩ := e4
      exact ⟨kvs, k1.trans f1, r.mono e⟩
    | true =>
      obtain ⟨xs, f1, r⟩ := e4
      exact ⟨xs, k1.trans f1, r.mono e⟩
end
def lcP2 (t : Tg) (fc : Fm → Option Bool) (vs1 : List Nat) (t1 : Tg) (fi1 : Fm → Option (List D)) (fc1 : Fm → Option Bool) (fe : Fm → Option D) (ρ : Fm) : List D → Option (List D)
  | [] => some []
  | d :: ds => (setT t d ρ).bind fun ρ1 => (fc ρ1).bind fun b => if b = true then (fi1 ρ1).bind fun ds1 => (lcP t1 fc1 fe (wipeB ρ1 vs1) ds1).bind fun xs => (lcP2 t fc vs1 t1 fi1 fc1 fe ρ ds).map (xs ++ ·) else lcP2 t fc vs1 t1 fi1 fc1 fe ρ ds
def fLc2 (vs : List Nat) (t : Tg) (fi : Fm → Option (List D)) (fc : Fm → Option Bool) (vs1 : List Nat) (t1 : Tg) (fi1 : Fm → Option (List D)) (fc1 : Fm → Option Bool) (fe : Fm → Option D) (ρ : Fm) : Option D :=
  (fi ρ).bind fun ds => (lcP2 t fc vs1 t1 fi1 fc1 fe (wipeB ρ vs) ds).bind fun rs => if rs.length ≤ bigN then some (.list rs) else none
theorem sp_lc2 {K : PySem.W.Frag} {wi wi1 : TI} {g g1 : TG} {tt tt1 : TT} {te : TE} {vs vs1 : List Nat} {t t1 : Tg} {fi fi1 : Fm → Option (List D)} {fc fc1 : Fm → Option Bool} {fe : Fm → Option D} (hi : SI K wi fi) (hg : ST K g t) (ht : SB K tt fc) (hi1 : SI K wi1 fi1) (hg1 : ST K g1 t1) (ht1 : SB K tt1 fc1) (he : SP K te fe) (hv : ∀ i ∈ slotsT t, i ∈ vs) (hv1 : ∀ i ∈ slotsT t1, i ∈ vs1) : SP K (tLc2 wi g tt wi1 g1 tt1 te vs vs1) (fLc2 vs t fi fc vs1 t1 fi1 fc1 fe) := by
  intro F H σ ρ d hf hR Q k
  obtain ⟨ds, e1, e2⟩ := Option.bind_eq_some_iff.mp hf
  obtain ⟨rs, e3, e4⟩ := Option.bind_eq_some_iff.mp e2
  split at e4
  · rename_i hz
    cases e4
    refine hi F H σ ρ ds e1 hR _ fun J F0 H0 g0 ok => ?_
    intro Dl hD
    refine ⟨fun i m H' => m = ds.length - i ∧ i ≤ ds.length ∧ ∃ (F' : Hp) (acc : List V) (dacc rest : List D), Ex F0 F' ∧ Ex F' H' ∧ Gr F0 H0 F' H' ∧ True ∧ F' Dl = none ∧ H' Dl = some (.lst acc) ∧ RpA K F' acc dacc ∧ lcP2 t fc vs1 t1 fi1 fc1 fe (wipeB ρ vs) (ds.drop i) = some rest ∧ dacc ++ rest = rs,
      ⟨_, rfl, Nat.zero_le _, F0, [], [], rs, .refl _, g0.in_.trans (.new hD), .newH g0.in_ hD, trivial, g0.in_.free hD, upd_same, .nil, e3, rfl⟩, fun i m H' hW => ?_⟩
    obtain ⟨rfl, hil, F', acc, dacc, rest, x1, x2, x3, hh, hFD, hHD, ra, e5, e6⟩ := hW
    by_cases h : i < ds.length
    · right
      have hd : ds[i]? = some ds[i] := List.getElem?_eq_getElem h
      obtain ⟨ha, hb⟩ := (ok F' H' x1 x2).1 i _ hd
      rw [List.drop_eq_getElem_cons h] at e5
      obtain ⟨ρ1, e7, e8⟩ := Option.bind_eq_some_iff.mp e5
      obtain ⟨b, e9, e10⟩ := Option.bind_eq_some_iff.mp e8
      refine ⟨ha, fun H2 => ∃ (F2 : Hp) (acc2 : List V) (dacc2 rest2 : List D), Ex F0 F2 ∧ Ex F2 H2 ∧ Gr F0 H0 F2 H2 ∧ True ∧ F2 Dl = none ∧ H2 Dl = some (.lst acc2) ∧ RpA K F2 acc2 dacc2 ∧ lcP2 t fc vs1 t1 fi1 fc1 fe (wipeB ρ vs) (ds.drop (i + 1)) = some rest2 ∧ dacc2 ++ rest2 = rs, fun H2 hN => ?_, fun x H2 hy => ?_⟩
      · exact ⟨ds.length - (i + 1), by omega, rfl, h, hN⟩
      · obtain ⟨F2, gr, rx⟩ := hb x H2 hy
        have rel0 : Rel K F0 H0 (L2.wipe σ vs) (wipeB ρ vs) := Rel.wipe (hR.gr g0) vs
        have relw : Rel K F' H' (L2.wipe σ vs) (wipeB ρ vs) := Rel.gr rel0 x3
        have relw2 := relw.gr gr
        refine hg F2 H2 _ _ _ ρ1 x e7 relw2 rx _ fun σ2 g2 so => ⟨wipe_same so hv, ?_⟩
        refine ht F2 H2 σ2 ρ1 b e9 g2.rel _ fun F3 H3 g3 => ?_
        have g23 := gr.trans g3
        have own0 : ∀ a, ownA σ2 ρ1 a → ∃ u, H0 a = some u ∧ F0 a = none ∧ NoTb u := fun a o => by
          rcases g2.sub a o with o1 | z
          · obtain ⟨u, z1, z2⟩ := own_live rel0 o1
            exact ⟨u, z1, z2, fun ps z => own_notb rel0 o1 ps (by rw [z1, z])⟩
          · obtain ⟨u, h1, _⟩ := own_live g2.rel o
            rw [z] at h1
            cases h1
        by_cases hbt : b = true
        · rw [if_pos hbt] at e10 ⊢
          obtain ⟨ds1, e11, e12⟩ := Option.bind_eq_some_iff.mp e10
          obtain ⟨xs, e13, e14⟩ := Option.bind_eq_some_iff.mp e12
          obtain ⟨rest2, e15, e16⟩ := Option.map_eq_some_iff.mp e14
          refine hi1 F3 H3 σ2 ρ1 ds1 e11 (g2.rel.gr g3) _ fun J1 F4 H4 g4 ok1 => ?_
          have rel4 : Rel K F4 H4 σ2 ρ1 := (g2.rel.gr g3).gr g4
          have g24 := g23.trans g4
          have hD4 : H4 Dl = some (.lst acc) := g24.keep _ _ hHD fun ps z => by cases z
          have hF4 : F4 Dl = none := g24.hide Dl (by rw [hHD]; intro z; cases z) hFD
          refine ⟨fun j k H' => k = ds1.length - j ∧ j ≤ ds1.length ∧ ∃ (F' : Hp) (acc : List V) (dacc rest1 : List D), Ex F4 F' ∧ Ex F' H' ∧ Gr F0 H0 F' H' ∧ True ∧ F' Dl = none ∧ H' Dl = some (.lst acc) ∧ RpA K F' acc dacc ∧ lcP t1 fc1 fe (wipeB ρ1 vs1) (ds1.drop j) = some rest1 ∧ dacc ++ rest1 ++ rest2 = rs,
            ⟨_, rfl, Nat.zero_le _, F4, acc, dacc, xs, .refl _, g24.in_, x3.trans g24, trivial, hF4, hD4, ra.mono g24.ex, e13, by rw [List.append_assoc, e16]; exact e6⟩, fun j m1 H5 hW1 => ?_⟩
          obtain ⟨rfl, hjl, F5, acc1, dacc1, rest1, y1, y2, y3, hh1, hFD1, hHD1, ra1, f5, f6⟩ := hW1
          by_cases h1 : j < ds1.length
          · right
            have hd1 : ds1[j]? = some ds1[j] := List.getElem?_eq_getElem h1
            obtain ⟨ha1, hb1⟩ := (ok1 F5 H5 y1 y2).1 j _ hd1
            rw [List.drop_eq_getElem_cons h1] at f5
            obtain ⟨ρ2, f7, f8⟩ := Option.bind_eq_some_iff.mp f5
            obtain ⟨b1, f9, f10⟩ := Option.bind_eq_some_iff.mp f8
            refine ⟨ha1, fun H2 => ∃ (F2 : Hp) (acc2 : List V) (dacc2 rest1 : List D), Ex F4 F2 ∧ Ex F2 H2 ∧ Gr F0 H0 F2 H2 ∧ True ∧ F2 Dl = none ∧ H2 Dl = some (.lst acc2) ∧ RpA K F2 acc2 dacc2 ∧ lcP t1 fc1 fe (wipeB ρ1 vs1) (ds1.drop (j + 1)) = some rest1 ∧ dacc2 ++ rest1 ++ rest2 = rs, fun H6 hN => ?_, fun x1' H6 hy1 => ?_⟩
            · exact ⟨ds1.length - (j + 1), by omega, rfl, h1, hN⟩
            · obtain ⟨F6, gr1, rx1⟩ := hb1 x1' H6 hy1
              have rel5 : Rel K F5 H5 σ2 ρ1 := rel_keep rel4 y1 y2 (fun a o => by
                obtain ⟨u, h1, h2, h3⟩ := own0 a o
                have hne : H0 a ≠ none := by rw [h1]; intro z; cases z
                exact ⟨(y3.keep a u h1 h3).trans ((x3.trans g24).keep a u h1 h3).symm, y3.hide a hne h2⟩) (y3.tab rel0.tab)
              have rel6 : Rel K F6 H6 (L2.wipe σ2 vs1) (wipeB ρ1 vs1) := (Rel.wipe rel5 vs1).gr gr1
              refine hg1 F6 H6 _ _ _ ρ2 x1' f7 rel6 rx1 _ fun σ3 g5 so1 => ⟨wipe_same so1 hv1, ?_⟩
              refine ht1 F6 H6 σ3 ρ2 b1 f9 g5.rel _ fun F7 H7 g7 => ?_
              have g67 := gr1.trans g7
              by_cases hbt1 : b1 = true
              · rw [if_pos hbt1] at f10 ⊢
                obtain ⟨y, f11, f12⟩ := Option.bind_eq_some_iff.mp f10
                obtain ⟨rest3, f13, f14⟩ := Option.map_eq_some_iff.mp f12
                refine he F7 H7 σ3 ρ2 y f11 (g5.rel.gr g7) _ fun w F8 H8 g8 r8 => ?_
                have g68 := g67.trans g8
                have hD8 : H8 Dl = some (.lst acc1) := g68.keep _ _ hHD1 fun ps z => by cases z
                have hF8 : F8 Dl = none := g68.hide Dl (by rw [hHD1]; intro z; cases z) hFD1
                refine ⟨acc1, hD8, ?_, F8, acc1 ++ [w], dacc1 ++ [y], rest3, y1.trans g68.ex, fun q o hq => ?_, (y3.trans g68).over hD hF8 hD8 (fun ps z => by cases z), trivial, hF8, upd_same, (ra1.mono g68.ex).append (.one r8), f13, ?_⟩
                · rw [ra1.length]
                  have hl := congrArg List.length f6
                  rw [← f14, List.length_append, List.length_append, List.length_cons] at hl
                  exact Nat.lt_of_lt_of_le (by omega) big_le
                · have : q ≠ Dl := fun z => by rw [z, hF8] at hq; cases hq
                  rw [upd_ne this]
                  exact g68.in_ q o hq
                · rw [List.append_assoc dacc1]
                  show dacc1 ++ (y :: rest3) ++ rest2 = rs
                  rw [f14]
                  exact f6
              · rw [if_neg hbt1] at f10 ⊢
                exact ⟨F7, acc1, dacc1, rest1, y1.trans g67.ex, g67.in_, y3.trans g67, trivial, g67.hide Dl (by rw [hHD1]; intro z; cases z) hFD1, g67.keep _ _ hHD1 (fun ps z => by cases z), ra1.mono g67.ex, f10, f6⟩
          · left
            have hl : j = ds1.length := by omega
            subst hl
            rw [List.drop_length] at f5
            cases f5
            rw [List.append_nil] at f6
            refine ⟨(ok1 F5 H5 y1 y2).2, ?_⟩
            exact ⟨F5, acc1, dacc1, rest2, (x1.trans g24.ex).trans y1, y2, y3, hh1, hFD1, hHD1, ra1, e15, f6⟩
        · rw [if_neg hbt] at e10 ⊢
          exact ⟨F3, acc, dacc, rest, x1.trans g23.ex, g23.in_, x3.trans g23, trivial, g23.hide Dl (by rw [hHD]; intro z; cases z) hFD, g23.keep _ _ hHD (fun ps z => by cases z), ra.mono g23.ex, e10, e6⟩
    · left
      have hl : i = ds.length := by omega
      subst hl
      rw [List.drop_length] at e5
      cases e5
      rw [List.append_nil] at e6
      subst e6
      refine ⟨(ok F' H' x1 x2).2, ?_⟩
      exact k (.ref Dl) (upd F' Dl (.lst acc)) H' (g0.trans (x3.seeN hD hFD hHD fun ps z => by cases z)) (.lst (.inl (.inl upd_same)) (ra.mono (.new hFD)))
  · cases e4
/-- a clause's tests -/
def PBs (X : Cx) (cs : List Expr) (f : Fm → Option Bool) : Prop := ∃ t, PTs X cs t ∧ SB X.K t f
theorem bs_nil {X : Cx} : PBs X [] fYes := ⟨_, pts_nil, sb_yes⟩
theorem bs_one {X : Cx} {c : Expr} {f : Fm → Option Bool} (h : PB X c f) : PBs X [c] f := let ⟨_, a, b⟩ := h; ⟨_, pts_one a, b⟩
section
variable {α : Type} {Y : α → Cx} {K : PySem.W.Frag} {e tg : Expr} {es : List Expr}
theorem all_PBs {f : Fm → Option Bool} (hK : ∀ a, (Y a).K = K) (h : ∀ a, PBs (Y a) es f) : ∃ t, (∀ a, PTs (Y a) es t) ∧ SB K t f := by
  have h' : ∀ a, ∃ t, PTs (Y a) es t ∧ SB K t f := fun a => let ⟨t, h1, h2⟩ := h a; ⟨t, h1, hK a ▸ h2⟩
  exact ⟨fun σ H Q => ∀ a, (h' a).choose σ H Q, fun a => ⟨fun pins s σ H Q I q => (h' a).choose_spec.1.run pins s σ H Q I (q a)⟩, fun F H σ ρ d hf hR Q k a => (h' a).choose_spec.2 F H σ ρ d hf hR Q k⟩
theorem all_PIt {f : Fm → Option (List D)} (hK : ∀ a, (Y a).K = K) (h : ∀ a, PIt (Y a) tg e f) : ∃ t, (∀ a, PI (Y a) tg e t) ∧ SI K t f := by
  have h' : ∀ a, ∃ t, PI (Y a) tg e t ∧ SI K t f := fun a => let ⟨t, h1, h2⟩ := h a; ⟨t, h1, hK a ▸ h2⟩
  exact ⟨fun σ H R => ∀ a, (h' a).choose σ H R, fun a => ⟨fun pins s σ H R I q => (h' a).choose_spec.1.run pins s σ H R I (q a)⟩, fun F H σ ρ d hf hR R k a => (h' a).choose_spec.2 F H σ ρ d hf hR R k⟩
end
section
variable {X : Cx} {elt tg iter tg1 iter1 : Expr} {cs cs1 : List Expr} {scope : Scope} {own : List (Str × Nat)} {vs1 : List Nat} {pos spos py : Pos} {t t1 : Tg} {fi fi1 : Fm → Option (List D)} {fc fc1 : Fm → Option Bool} {fe : Fm → Option D}
theorem d_lc2 (hc : X.calm = true) (hN : X.N.Nodup) (hi : PIt X tg iter fi) (ok : BlkOk X.N X.env.scope scope own) (hg : ∀ a, PTg (blkOf X scope a) tg t) (ht : ∀ a, PBs (blkOf X scope a) cs fc)
    (hi1 : ∀ a, PIt (blkOf X scope a) tg1 iter1 fi1) (hg1 : ∀ a, PTg (blkOf X scope a) tg1 t1) (ht1 : ∀ a, PBs (blkOf X scope a) cs1 fc1) (he : ∀ a, PP (blkOf X scope a) elt fe) (hv : ∀ i ∈ slotsT t, i ∈ own.map (·.2)) (hv1 : ∀ i ∈ slotsT t1, i ∈ vs1) (hvs : ∀ i ∈ vs1, i ∈ own.map (·.2))
    (hs : ∀ x, foldedSetIterable iter X.env x = pure x := by intro _; rfl) (hs1 : ∀ env x, foldedSetIterable iter1 env x = pure x := by intro _ _; rfl) :
    PP X (.ListComp elt [⟨tg, iter, cs, 0⟩, ⟨tg1, iter1, cs1, 0⟩] scope pos) (fLc2 (own.map (·.2)) t fi fc vs1 t1 fi1 fc1 fe) := by
  obtain ⟨wi, a1, a2⟩ := hi
  obtain ⟨g, b1, b2⟩ := all_PTg (Y := fun a => blkOf X scope a) (K := X.K) (fun a => rfl) hg
  obtain ⟨te, c1, c2⟩ := all_PP (Y := fun a => blkOf X scope a) (K := X.K) (fun a => rfl) he
  obtain ⟨tt, d1, d2⟩ := all_PBs (Y := fun a => blkOf X scope a) (K := X.K) (fun a => rfl) ht
  obtain ⟨wi1, i1, i2⟩ := all_PIt (Y := fun a => blkOf X scope a) (K := X.K) (fun a => rfl) hi1
  obtain ⟨g1, j1, j2⟩ := all_PTg (Y := fun a => blkOf X scope a) (K := X.K) (fun a => rfl) hg1
  obtain ⟨tt1, k1, k2⟩ := all_PBs (Y := fun a => blkOf X scope a) (K := X.K) (fun a => rfl) ht1
  exact ⟨_, pe_lc2 hc hN a1 ok hvs (fun s H C cl fp => b1 ⟨s, H, C, cl, fp⟩) (fun s H C cl fp => d1 ⟨s, H, C, cl, fp⟩) (fun s H C cl fp => i1 ⟨s, H, C, cl, fp⟩) (fun s H C cl fp => j1 ⟨s, H, C, cl, fp⟩) (fun s H C cl fp => k1 ⟨s, H, C, cl, fp⟩) (fun s H C cl fp => c1 ⟨s, H, C, cl, fp⟩) hs hs1, sp_lc2 a2 b2 d2 i2 j2 k2 c2 hv hv1⟩
/-- y = [.. for .. for ..] on one line -/
theorem s_lc2 (i : Nat) {y : Str} (hc : X.calm = true) (hN : X.N.Nodup) (hi : PIt X tg iter fi) (ok : BlkOk X.N X.env.scope scope own) (hg : ∀ a, PTg (blkOf X scope a) tg t) (ht : ∀ a, PBs (blkOf X scope a) cs fc)
    (hi1 : ∀ a, PIt (blkOf X scope a) tg1 iter1 fi1) (hg1 : ∀ a, PTg (blkOf X scope a) tg1 t1) (ht1 : ∀ a, PBs (blkOf X scope a) cs1 fc1) (he : ∀ a, PP (blkOf X scope a) elt fe) (hv : ∀ i ∈ slotsT t, i ∈ own.map (·.2)) (hv1 : ∀ i ∈ slotsT t1, i ∈ vs1) (hvs : ∀ i ∈ vs1, i ∈ own.map (·.2))
    (hsw : swapsWith (.ListComp elt [⟨tg, iter, cs, 0⟩, ⟨tg1, iter1, cs1, 0⟩] scope pos) (some (.Name y py)) spos.line X.env = pure true) (hy : X.N[i]? = some y := by rfl) (hyl : X.env.scope.names.lookup y = some .local := by rfl)
    (hs : ∀ x, foldedSetIterable iter X.env x = pure x := by intro _; rfl) (hs1 : ∀ env x, foldedSetIterable iter1 env x = pure x := by intro _ _; rfl) :
    PSt X (.Assign [.Name y py] (.ListComp elt [⟨tg, iter, cs, 0⟩, ⟨tg1, iter1, cs1, 0⟩] scope pos) spos) (sAsg i (mSh (up (fLc2 (own.map (·.2)) t fi fc vs1 t1 fi1 fc1 fe)))) := by
  obtain ⟨wi, a1, a2⟩ := hi
  obtain ⟨g, b1, b2⟩ := all_PTg (Y := fun a => blkOf X scope a) (K := X.K) (fun a => rfl) hg
  obtain ⟨te, c1, c2⟩ := all_PP (Y := fun a => blkOf X scope a) (K := X.K) (fun a => rfl) he
  obtain ⟨tt, d1, d2⟩ := all_PBs (Y := fun a => blkOf X scope a) (K := X.K) (fun a => rfl) ht
  obtain ⟨wi1, i1, i2⟩ := all_PIt (Y := fun a => blkOf X scope a) (K := X.K) (fun a => rfl) hi1
  obtain ⟨g1, j1, j2⟩ := all_PTg (Y := fun a => blkOf X scope a) (K := X.K) (fun a => rfl) hg1
  obtain ⟨tt1, k1', k2'⟩ := all_PBs (Y := fun a => blkOf X scope a) (K := X.K) (fun a => rfl) ht1
  refine ⟨_, ps_setLc2 hc hN hy hyl hsw a1 ok hvs (fun s H C cl fp => b1 ⟨s, H, C, cl, fp⟩) (fun s H C cl fp => d1 ⟨s, H, C, cl, fp⟩) (fun s H C cl fp => i1 ⟨s, H, C, cl, fp⟩) (fun s H C cl fp => j1 ⟨s, H, C, cl, fp⟩) (fun s H C cl fp => k1' ⟨s, H, C, cl, fp⟩) (fun s H C cl fp => c1 ⟨s, H, C, cl, fp⟩) hs hs1, fun F H σ ρ fl ρ' hf hR E k1 k2 k3 => ?_⟩
  obtain ⟨⟨b, ρ1⟩, e1, e2⟩ := Option.map_eq_some_iff.mp hf
  cases e2
  obtain ⟨⟨d, ρ2⟩, e3, e4⟩ := Option.map_eq_some_iff.mp e1
  cases e4
  obtain ⟨e5, rfl⟩ := up_some e3
  exact sp_lc2 a2 b2 d2 i2 j2 k2' c2 hv hv1 F H σ ρ d e5 hR _ fun v F1 H1 g1 r1 => k1 rfl _ F1 H1 ((Go.gr hR g1).trans (go_set (hR.gr g1) r1))
end
end DL
end
section
set_option Elab.async false
set_option linter.all false
set_option maxRecDepth 100000
/-! tuple(range(a, b)). -/
namespace DL
open PySem PySem.Spec PyProof.Rows L2
variable [TabT] [FnT]
def gRgT2 : D → D → Option D
  | .int i, .int j => if decide (0 ≤ i) && decide (i ≤ 1000000) && rgOk j then some (.tuple (rngD i (j - i).toNat)) else none
  | _, _ => none
theorem rg_rp2 {K : PySem.W.Frag} {F : Hp} (i j : Int) : RpA K F (rgV i j) (rngD i (j - i).toNat) := by
  unfold rgV rngD
  generalize (j - i).toNat = n
  have : ∀ (l : List Nat), RpA K F (l.map fun k => V.int (i + (k : Nat))) (l.map fun (k : Nat) => PyData.int (i + (k : Int))) := by
    intro l
    induction l with
    | nil => exact .nil
    | cons x l ih => exact .cons (.int _) ih
  exact this _
section
variable {X : Cx} {a b : Expr} {pos p p2 pos2 : Pos} {fa fb : Fm → Option D} {ga gb : Fm → Option (D × Fm)}
theorem xc_isn (ha : XE X a ga) (hb : XE X b gb) : XCm X .IsNot a b (xOp2 (gIsN true) ga gb) := xc_of op_notN vw_notN ha hb
theorem d_rgT2 (hc : X.calm = true) (B : Bt X.mg) (ha : PP X a fa) (hb : PP X b fb) (hg : Gl X "tuple" := by rfl) (hg2 : Gl X "range" := by rfl) (na : starEach [a, b] X.env = (false, eval a X.env) :: starEach [b] X.env := by rfl)
    (nb : starEach [b] X.env = (false, eval b X.env) :: starEach [] X.env := by rfl) (hp : (backTo pos2 (starEach [b] X.env)).any (·.1) = false := by rfl)
    (hs2 : starEach [.Call (.Name "range" p2) [a, b] [] pos2] X.env = (false, eval (.Call (.Name "range" p2) [a, b] [] pos2) X.env) :: starEach [] X.env := by rfl) :
    PP X (.Call (.Name "tuple" p) [.Call (.Name "range" p2) [a, b] [] pos2] [] pos) (fOp2 gRgT2 fa fb) := by
  obtain ⟨t, h1, h2⟩ := ha
  obtain ⟨u, h3, h4⟩ := hb
  refine ⟨_, pe_tupRgZ hc hg B.tuple (prg_2 hg2 B.range h1 h3 na nb hp) hs2, fun F H σ ρ d hf hR Q q => ?_⟩
  unfold fOp2 at hf
  obtain ⟨dx, e1, e2⟩ := Option.bind_eq_some_iff.mp hf
  obtain ⟨dy, e3, e4⟩ := Option.bind_eq_some_iff.mp e2
  unfold gRgT2 at e4
  split at e4
  · rename_i i j
    split at e4
    · rename_i hz
      cases e4
      simp only [Bool.and_eq_true, decide_eq_true_eq] at hz
      refine h2 F H σ ρ _ e1 hR _ fun v F1 H1 g1 r1 => ?_
      refine h4 F1 H1 σ ρ _ e3 (hR.gr g1) _ fun w F2 H2 g2 r2 => ?_
      have z := smR_rg hz.2
      unfold RgOk at z
      exact ⟨i, j, r1.intI, r2.intI, ⟨by omega, by omega, z.2.2.1, z.2.2.2.1, by omega⟩, ((q.gr g1).gr g2).tup (g1.trans g2).in_ (rg_rp2 i j)⟩
    · cases e4
  · cases e4
end
end DL
end
section
set_option Elab.async false
set_option linter.all false
set_option maxRecDepth 100000
/-! list(..) that one goes on with. -/
namespace DL
open PySem PySem.Spec PyProof.Rows L2
variable [TabT] [FnT]
def mLst1 (f : Fm → Option D) (ρ : Fm) : Option (B × Fm) := (f ρ).bind fun d => (gList d).bind fun r => match r with
  | .list ds => some (.ow ds, ρ)
  | _ => none
theorem m_list {X : Cx} {e : Expr} {pos p : Pos} {fe : Fm → Option D} (B : Bt X.mg) (ha : PV X e fe) (hg : Gl X "list" := by rfl) (hs : starEach [e] X.env = (false, eval e X.env) :: starEach [] X.env := by rfl) : XM X (.Call (.Name "list" p) [e] [] pos) (mLst1 fe) := by
  obtain ⟨t, h1, h2⟩ := ha
  refine ⟨_, pe_callTy call_list_of hg B.list PyProof.Rows.boot_list (pa_cons h1 pa_nil hs) (by decide) (by decide) hs rfl, fun F H σ ρ b ρ' hf hR Q k => ?_⟩
  obtain ⟨d, e1, hf⟩ := Option.bind_eq_some_iff.mp hf
  obtain ⟨r, e2, hf⟩ := Option.bind_eq_some_iff.mp hf
  refine h2 F H σ ρ d e1 hR _ fun x F1 H1 g1 r1 => ?_
  have fin : ∀ (a : Addr) (xs : List V) (ds : List D), RpA X.K F1 xs ds → b = .ow ds → ρ' = ρ → ∀ l, H1 l = none → Q (.ref l) (upd H1 l (.lst xs)) := fun a xs ds rl hb hρ l hl => by
    subst hb hρ
    have hp0 : H l = none := Classical.byContradiction fun z => (GoE.gr hR g1).go.live l z hl
    exact k _ _ _ (.gr hR (g1.trans (Gr.newH (o := .lst xs) g1.in_ hl))) ⟨l, xs, rfl, hp0, upd_same, g1.in_.free hl, rl⟩
  unfold gList at e2
  split at e2
  · cases e2
    cases hf
    obtain ⟨a, xs, rfl, s1, r2⟩ := r1.list g1.in_
    exact ⟨a, xs, rfl, .inl s1, fin a xs _ r2 rfl rfl⟩
  · cases e2
    cases hf
    obtain ⟨a, xs, rfl, s1, r2⟩ := r1.tuple g1.in_
    exact ⟨a, xs, rfl, .inr s1, fin a xs _ r2 rfl rfl⟩
  · cases e2
end DL
end
section
set_option Elab.async false
set_option linter.all false
set_option maxRecDepth 100000
/-! len(set(xs)), xs a list or tuple of whole numbers. -/
namespace DL
open PySem PySem.Spec PyProof.Rows L2
variable [TabT] [FnT]
def rLenSet (w : World) : List V → Hp → VK → Prop := fun vs H Q => ∃ (a : Addr) (S : Int → Bool) (n : Nat) (ns : List Int), vs = [V.ref a] ∧ H a = some (SetO w a S n) ∧ (∀ k, S k = true ↔ k ∈ ns) ∧ ns.length < 1000 ∧ Q (.int ((ssI ns).length : Nat)) H
theorem ssI_nd (ns : List Int) : (ssI ns).Nodup := (ssI_asc ns).imp fun h e => by omega
section
variable {X : Cx} {e : Expr} {pos p p2 pos2 : Pos} {fe f : Fm → Option D}
theorem cr_lenSet : CallR X (.builtin "len") (rLenSet X.w) := by
  intro pins s σ H vs us Q I r h
  obtain ⟨a, S, n, ns, rfl, ha, hS, hz, q⟩ := h
  rw [Vals.ref1 r]
  obtain ⟨o, es, ep, t, ho, hex, hd, hg, nd, hk, hb, hf, hn, _⟩ := setO_get I ha
  have sz : es.size = (ssI ns).length := by
    have e1 : (es.toList.map keyOf).length = es.size := by rw [List.length_map, Array.length_toList]
    rw [← e1]
    refine Nat.le_antisymm (nd_le nd fun x hx => mem_ssI.mpr ((hS x).mp ((hk x).mpr hx))) (nd_le (ssI_nd ns) fun x hx => (hk x).mp ((hS x).mpr (mem_ssI.mp hx)))
  have le : (ssI ns).length ≤ ns.length := nd_le (ssI_nd ns) fun x hx => mem_ssI.mp hx
  rw [← sz] at q le
  exact PySem.call_len_set ho hex hd hf (by omega) ⟨.int (es.size : Nat), H, I.tok _, ⟨_, rfl⟩, q⟩
def slW (ds : List D) : Option D := (wholeD ds).bind fun ns => if ns.length < 1000 then some (.int ((ssI ns).length : Nat)) else none
def gLenSet : D → Option D
  | .list ds => slW ds
  | .tuple ds => slW ds
  | _ => none
theorem d_lenSet (hc : X.calm = true) (B : Bt X.mg) (ha : PV X e fe) (hg : Gl X "len" := by rfl) (hg2 : Gl X "set" := by rfl) (hs : starEach [e] X.env = (false, eval e X.env) :: starEach [] X.env := by rfl) :
    PP X (.Call (.Name "len" p) [.Call (.Name "set" p2) [e] [] pos2] [] pos) (fOp1 gLenSet fe) := by
  obtain ⟨t, h1, h2⟩ := ha
  refine ⟨_, pe_callB cr_lenSet hg B.len PySem.boot_len (pa_cons (pe_callTy (cr_setOfI hc) hg2 B.set PyProof.Rows.boot_set (pa_cons h1 pa_nil hs) (by decide) (by decide) hs rfl) pa_nil rfl) (by decide) (by decide) rfl rfl, fun F H σ ρ d hf hR Q q => ?_⟩
  obtain ⟨dx, e1, e2⟩ := Option.bind_eq_some_iff.mp hf
  have key : ∀ ds : List D, slW ds = some d → ∀ (a : Addr) (xs : List V) (F1 H1 : Hp), Gr F H F1 H1 → (SqL X.K H1 a xs ∨ SqT X.K H1 a xs) → RpA X.K F1 xs ds → rSetOfI X.K X.w [.ref a] H1 fun v H2 => rLenSet X.w [v] H2 Q := fun ds e2 a xs F1 H1 g1 s1 rl => by
    unfold slW at e2
    obtain ⟨ns, e3, e4⟩ := Option.bind_eq_some_iff.mp e2
    split at e4
    · rename_i hz
      cases e4
      have k1 := rp_ints rl e3
      subst k1
      refine ⟨a, ns, rfl, s1, hz, fun b S n hb hS hn => ?_⟩
      have g2 : Gr F1 H1 F1 (upd H1 b (SetO X.w b S n)) := .newH g1.in_ hb
      exact ⟨b, S, n, ns, rfl, upd_same, hS, hz, ((q.gr g1).gr g2).sc g2.in_ fun _ => .int _⟩
    · cases e4
  unfold gLenSet at e2
  split at e2
  · refine h2 F H σ ρ _ e1 hR _ fun v F1 H1 g1 r1 => ?_
    obtain ⟨a, xs, rfl, s1, rl⟩ := r1.list g1.in_
    exact key _ e2 a xs F1 H1 g1 (.inl s1) rl
  · refine h2 F H σ ρ _ e1 hR _ fun v F1 H1 g1 r1 => ?_
    obtain ⟨a, xs, rfl, s1, rl⟩ := r1.tuple g1.in_
    exact key _ e2 a xs F1 H1 g1 (.inr s1) rl
  · cases e2
end
end DL
end
section
set_option Elab.async false
set_option linter.all false
set_option maxRecDepth 100000
/-! A list of own dicts that is filled in a loop and given back. -/
namespace DL
open PySem PySem.Spec PyProof.Rows L2
variable [TabT] [FnT]
/-! ### what it means -/
def lvIx (n : Nat) : D → Option Nat
  | .int c => ixN n c
  | _ => none
/-- one turn: the list's dict at fa gets at fb its number at fc, fd and fv more -/
def lvSt (fa fb fc fd fv : Fm → Option D) (L : List (List (D × D))) (ρ : Fm) : Option (List (List (D × D))) :=
  (fc ρ).bind fun c => (lvIx L.length c).bind fun k0 => (L[k0]?).bind fun ds0 => (fd ρ).bind fun kd0 => (gGet2 (.dict ds0) kd0 (.int 0)).bind fun g0 => (fv ρ).bind fun v => (gAdd g0 v).bind fun z =>
  (fa ρ).bind fun a => (lvIx L.length a).bind fun k => (L[k]?).bind fun ds => (fb ρ).bind fun kd => if ds.length < bigN then (dPut false ds kd z).map fun ds' => L.set k ds' else none
def isPin : Option B → Bool
  | some .pin => true
  | _ => false
theorem isPin_eq {o : Option B} (h : isPin o = true) : o = some .pin := by
  cases o with
  | none => cases h
  | some b => cases b <;> first | rfl | cases h
def nxO : Option (Fl × Fm) → Option Fm
  | some (.nx, ρ) => some ρ
  | _ => none
theorem nxO_eq {o : Option (Fl × Fm)} {ρ : Fm} (h : nxO o = some ρ) : o = some (.nx, ρ) := by
  cases o with
  | none => cases h
  | some x =>
    obtain ⟨f, r⟩ := x
    cases f <;> cases h
    rfl
def lvL (j : Nat) (t : Tg) (s1 s2 : Fm → Option (Fl × Fm)) (step : List (List (D × D)) → Fm → Option (List (List (D × D)))) : List D → List (List (D × D)) → Fm → Option (List (List (D × D)) × Fm)
  | [], L, ρ => some (L, ρ)
  | d :: ds, L, ρ => (setT t d ρ).bind fun ρ1 => (nxO (s1 ρ1)).bind fun ρ2 => (nxO (s2 ρ2)).bind fun ρ3 => if isPin ρ3[j]? then (step L ρ3).bind fun L' => lvL j t s1 s2 step ds L' ρ3 else none
def sLv (i j : Nat) (f1 : Fm → Option D) (vs : List Nat) (t0 : Tg) (fn : Fm → Option (List D)) (t : Tg) (fi : Fm → Option (List D)) (s1 s2 : Fm → Option (Fl × Fm)) (step : List (List (D × D)) → Fm → Option (List (List (D × D)))) (ρ : Fm) : Option (Fl × Fm) :=
  (f1 ρ).bind fun d1 => (fn ρ).bind fun ns => if ns.length ≤ bigN then (lcP t0 fYes (fC .none) (wipeB ρ vs) ns).bind fun _ => if isPin ((ρ.set i (.sh d1)).set j .pin)[j]? then (fi ((ρ.set i (.sh d1)).set j .pin)).bind fun ds =>
    (lvL j t s1 s2 step ds (ns.map fun _ => []) ((ρ.set i (.sh d1)).set j .pin)).map fun x => (.rt (.list (x.1.map .dict)), x.2.set j .no) else none else none
section
variable {K : PySem.W.Frag} {F H F' H' F0 H0 : Hp} {σ σ' σ0 : L2.St} {ρ ρ' ρ0 : Fm} {j : Nat} {a : Addr} {ps : List Addr} {L : List (List (D × D))}
/-! ### the list's dicts -/
def LdD (K : PySem.W.Frag) (F H : Hp) (σ : L2.St) (ρ : Fm) (p : Addr) (l : List (D × D)) : Prop := F p = none ∧ ¬ ownA σ ρ p ∧ Dct K F H p false l
structure LdI (K : PySem.W.Frag) (F H : Hp) (σ : L2.St) (ρ : Fm) (j : Nat) (a : Addr) (ps : List Addr) (L : List (List (D × D))) : Prop where
  pin : ρ[j]? = some .pin
  at_ : σ[j]? = some (some (.ref a))
  lst : H a = some (.lst (ps.map V.ref))
  own : ¬ ownA σ ρ a
  hid : F a = none
  nd : ps.Nodup
  ds : Paired (LdD K F H σ ρ) ps L
theorem LdI.go (I : LdI K F H σ ρ j a ps L) (g : Go K F H σ ρ F' H' σ' ρ') (hp : ρ'[j]? = some .pin) : LdI K F' H' σ' ρ' j a ps L where
  pin := hp
  at_ := (g.pn j hp).2.trans I.at_
  lst := g.keep a _ I.lst (fun ps z => by cases z) I.own
  own := fun o => (g.sub a o).elim I.own fun z => by rw [I.lst] at z; cases z
  hid := g.hide a (by rw [I.lst]; intro z; cases z) I.hid I.own
  nd := I.nd
  ds := Paired.mapP I.ds fun p l ⟨h1, h2, h3⟩ => by
    obtain ⟨u, hu, _⟩ := h3.live
    exact ⟨g.hide p (by rw [hu]; intro z; cases z) h1 h2, fun o => (g.sub p o).elim h2 fun z => (by rw [hu] at z; cases z), h3.move g.ex fun v e n => g.keep p v e n h2⟩
theorem own_unpin (hp : ρ[j]? = some .pin) {x : Addr} : ownA σ (ρ.set j .no) x ↔ ownA σ ρ x := by
  have hl : j < ρ.length := (List.getElem?_eq_some_iff.mp hp).1
  constructor
  · rintro ⟨i, b, e, o, s⟩
    by_cases hj : i = j
    · subst hj
      rw [List.getElem?_set_self hl] at e
      cases e
      cases o
    · rw [List.getElem?_set_ne (fun z => hj z.symm)] at e
      exact ⟨i, b, e, o, s⟩
  · rintro ⟨i, b, e, o, s⟩
    by_cases hj : i = j
    · subst hj
      rw [hp] at e
      cases e
      cases o
    · exact ⟨i, b, by rw [List.getElem?_set_ne (fun z => hj z.symm)]; exact e, o, s⟩
theorem set_get {i : Nat} {b c : B} (h : (ρ.set j b)[i]? = some c) : (i = j ∧ c = b) ∨ (i ≠ j ∧ ρ[i]? = some c) := by
  by_cases hj : i = j
  · subst hj
    have hl : i < ρ.length := by
      have := (List.getElem?_eq_some_iff.mp h).1
      rwa [List.length_set] at this
    rw [List.getElem?_set_self hl] at h
    exact .inl ⟨rfl, (Option.some.inj h).symm⟩
  · rw [List.getElem?_set_ne (fun z => hj z.symm)] at h
    exact .inr ⟨hj, h⟩
theorem rel_unpin (h : Rel K F H σ ρ) : Rel K F H σ (ρ.set j .no) := by
  refine ⟨h.ex, by rw [List.length_set]; exact h.len, fun i b e => ?_, fun i k b c x e1 o1 e2 o2 s1 s2 => ?_, h.tab⟩
  · rcases set_get e with ⟨_, rfl⟩ | ⟨_, e'⟩
    · exact trivial
    · exact h.at_ i b e'
  · rcases set_get e1 with ⟨_, rfl⟩ | ⟨_, e1'⟩
    · cases o1
    · rcases set_get e2 with ⟨_, rfl⟩ | ⟨_, e2'⟩
      · cases o2
      · exact h.sep i k b c x e1' o1 e2' o2 s1 s2
theorem rel_pin (h : Rel K F H σ (ρ.set j .no)) (hp : ρ[j]? = some .pin) : Rel K F H σ ρ := by
  have get : ∀ (i : Nat) (b : B), ρ[i]? = some b → b.own = true → (ρ.set j .no)[i]? = some b := fun i b e o => by
    have : i ≠ j := fun z => by
      subst z
      rw [hp] at e
      cases e
      cases o
    rw [List.getElem?_set_ne (fun z => this z.symm)]
    exact e
  refine ⟨h.ex, by rw [← h.len.symm, List.length_set], fun i b e => ?_, fun i k b c x e1 o1 e2 o2 s1 s2 => h.sep i k b c x (get i b e1 o1) o1 (get k c e2 o2) o2 s1 s2, h.tab⟩
  by_cases hj : i = j
  · subst hj
    rw [hp] at e
    cases e
    exact trivial
  · exact h.at_ i b (by rw [List.getElem?_set_ne (fun z => hj z.symm)]; exact e)
theorem go_unpin (g : Go K F H σ ρ F' H' σ' ρ') (h : ρ[j]? = some .pin) (h' : ρ'[j]? = some .pin) : Go K F H σ (ρ.set j .no) F' H' σ' (ρ'.set j .no) where
  rel := rel_unpin g.rel
  ex := g.ex
  keep := fun x o e t n => g.keep x o e t fun z => n ((own_unpin h).mpr z)
  live := g.live
  hide := fun x e f n => g.hide x e f fun z => n ((own_unpin h).mpr z)
  sub := fun x o => (g.sub x ((own_unpin h').mp o)).imp (own_unpin h).mpr id
  io := fun i c e hc => by
    rcases set_get e with ⟨_, rfl⟩ | ⟨hj, e'⟩
    · cases hc
    · obtain ⟨⟨d0, h1, k0⟩, h2⟩ := g.io i c e' hc
      exact ⟨⟨d0, by rw [List.getElem?_set_ne (fun z => hj z.symm)]; exact h1, k0⟩, h2⟩
  pn := fun i e => by
    rcases set_get e with ⟨_, z⟩ | ⟨hj, e'⟩
    · cases z
    · obtain ⟨h1, h2⟩ := g.pn i e'
      exact ⟨by rw [List.getElem?_set_ne (fun z => hj z.symm)]; exact h1, h2⟩
/-- slot j is emptied, whatever it holds from now on -/
theorem go_noV {v : Option V} (h : Rel K F H σ ρ) : Go K F H σ ρ F H (σ.set j v) (ρ.set j .no) := by
  have gs : ∀ k, k ≠ j → (σ.set j v)[k]? = σ[k]? := fun k hk => List.getElem?_set_ne (fun z => hk z.symm)
  refine ⟨⟨h.ex, by rw [List.length_set, List.length_set]; exact h.len, fun i b e => ?_, fun i k b c x e1 o1 e2 o2 s1 s2 => ?_, h.tab⟩, .refl _, fun _ _ e _ _ => e, fun _ e => e, fun _ _ e _ => e, fun x o => ?_, fun i ds e => ?_, fun i e => ?_⟩
  · rcases set_get e with ⟨_, rfl⟩ | ⟨hj, e'⟩
    · exact trivial
    · rw [gs i hj]
      exact h.at_ i b e'
  · rcases set_get e1 with ⟨_, rfl⟩ | ⟨hj, e1'⟩
    · cases o1
    · rcases set_get e2 with ⟨_, rfl⟩ | ⟨hk, e2'⟩
      · cases o2
      · rw [gs i hj] at s1
        rw [gs k hk] at s2
        exact h.sep i k b c x e1' o1 e2' o2 s1 s2
  · obtain ⟨i, b, e, o, s⟩ := o
    rcases set_get e with ⟨_, rfl⟩ | ⟨hj, e'⟩
    · cases o
    · rw [gs i hj] at s
      exact .inl ⟨i, b, e', o, s⟩
  · intro hb
    rcases set_get e with ⟨_, rfl⟩ | ⟨hj, e'⟩
    · cases hb
    · exact ⟨⟨_, e', rfl⟩, gs i hj⟩
  · rcases set_get e with ⟨_, z⟩ | ⟨hj, e'⟩
    · cases z
    · exact ⟨e', gs i hj⟩
/-- a new thing is seen from now on -/
theorem go_updFH {p : Addr} {o : HO} (g : Go K F0 H0 σ0 ρ0 F H σ ρ) (hD : H0 p = none) (hF : F p = none) (no : ¬ ownA σ ρ p) (nt : ∀ ps, H p ≠ some (.tbl ps)) : Go K F0 H0 σ0 ρ0 (upd F p o) (upd H p o) σ ρ := by
  have g1 := go_updD (o := o) g hD hF no nt
  have exF : Ex F (upd F p o) := .new hF
  have ne : ∀ x, ownA σ ρ x → x ≠ p := fun x ox z => no (z ▸ ox)
  refine ⟨⟨fun x u e => ?_, g.rel.len, fun i b e => ?_, g.rel.sep, g.rel.tab.toT exF (fun a ps q f => by rw [upd_ne fun z => nt ps (by rw [← z]; exact q)]; exact f) fun a ps q => by rw [upd_ne fun z => nt ps (by rw [← z]; exact q)]; exact q⟩, g.ex.trans exF, g1.keep, g1.live, fun x e f n => ?_, g.sub, g.io, g.pn⟩
  · by_cases hx : x = p
    · subst hx
      rw [upd_same] at e ⊢
      exact e
    · rw [upd_ne hx] at e
      rw [upd_ne hx]
      exact g.rel.ex x u e
  · have := g1.rel.at_ i b e
    have key : ∀ ds, OwnL K F (upd H p o) σ[i]? ds → b.own = true → OwnL K (upd F p o) (upd H p o) σ[i]? ds := by
      intro ds ⟨x, vs, e1, e2, e3, e4⟩ ob
      have := ne x ⟨i, b, e, ob, e1⟩
      exact ⟨x, vs, e1, e2, by rw [upd_ne this]; exact e3, e4.mono exF⟩
    have keyD : ∀ t ds, OwnD K F (upd H p o) σ[i]? t ds → b.own = true → OwnD K (upd F p o) (upd H p o) σ[i]? t ds := by
      intro t ds ⟨x, e1, e3, dd⟩ ob
      have := ne x ⟨i, b, e, ob, e1⟩
      exact ⟨x, e1, by rw [upd_ne this]; exact e3, dd.move exF fun _ z _ => z⟩
    cases b with
    | no => trivial
    | pin => trivial
    | fn w =>
      obtain ⟨v, e1, r⟩ := this
      exact ⟨v, e1, FnT.mono exF r⟩
    | sh d =>
      obtain ⟨v, e1, r⟩ := this
      exact ⟨v, e1, r.mono exF⟩
    | ow ds => exact key ds this rfl
    | io ds => exact key ds this rfl
    | od t ds => exact keyD t ds this rfl
    | jd t ds => exact keyD t ds this rfl
  · have hx : x ≠ p := fun z => e (by rw [z]; exact hD)
    rw [upd_ne hx]
    exact g.hide x e f n
/-! ### seen at the end -/
def SeeL : List Addr → (Hp → Prop) → Hp → Prop
  | [], k, H => k H
  | p :: ps, k, H => (∃ u, H p = some u ∧ Mut (some u) ∧ ∀ od, SeeL ps k (upd H p (.frz od u))) ∨ (H p = some (.dK []) ∧ ∀ od, SeeL ps k (upd H p (.frz od (DN p []))))
def tSeeL (t : TS) : TS := fun D σ H => ∃ ps, SeeL ps (t D σ) H
theorem ps_seeL {X : Cx} {st : Stmt} {t : TS} (h : PS X st t) : PS X st (tSeeL t) := by
  have key : ∀ (ps : List Addr) (pins : List (Addr × Obj)) (s : Shared) (σ : L2.St) (D : Ends) (H : Hp), Inv X pins σ H s → SeeL ps (t D σ) H → wpAny (model X.prog X.w) X.A (exec st X.env) (L2.SP X pins D) X.xe s := fun ps => by
    induction ps with
    | nil => exact fun pins s σ D H I q => h.run pins s σ H D I q
    | cons p ps ih =>
      intro pins s σ D H I q
      rcases q with ⟨u, hu, mu, q⟩ | ⟨hu, q⟩
      · obtain ⟨od, I1⟩ := I.lock hu mu
        exact ih pins s σ D _ I1 (q od)
      · obtain ⟨od, I1⟩ := nil_dn I hu
        exact ih pins s σ D _ I1 (q od)
  exact ⟨fun pins s σ H D I ⟨ps, q⟩ => key ps pins s σ D H I q⟩
/-- all of the list's dicts are seen from now on -/
theorem see_all (k : Hp → Prop) : ∀ (ps : List Addr) (L : List (List (D × D))) (F H : Hp), Go K F0 H0 σ0 ρ0 F H σ ρ → (∀ p ∈ ps, H0 p = none) → ps.Nodup → Paired (LdD K F H σ ρ) ps L →
    (∀ F' H', Go K F0 H0 σ0 ρ0 F' H' σ ρ → Ex F F' → (∀ x, x ∉ ps → F' x = F x ∧ H' x = H x) → Paired (fun p l => Rp K F' (.ref p) (.dict l)) ps L → k H') → SeeL ps k H
  | [], _, F, H, g, _, _, .nil, q => q F H g (.refl _) (fun _ _ => ⟨rfl, rfl⟩) .nil
  | p :: ps, l :: L, F, H, g, hn, nd, .cons ⟨h1, h2, h3⟩ r, q => by
    obtain ⟨n1, n2⟩ := List.nodup_cons.mp nd
    have step : ∀ o, (Ex F (upd F p o) → Rp K (upd F p o) (.ref p) (.dict l)) → SeeL ps k (upd H p o) := fun o rp => by
      have nt : ∀ qs, H p ≠ some (.tbl qs) := by
        obtain ⟨kvs, z, _⟩ := h3
        intro qs y
        rw [z] at y
        cases y
      have g1 := go_updFH (o := o) g (hn p List.mem_cons_self) h1 h2 nt
      have exF : Ex F (upd F p o) := .new h1
      have rest : Paired (LdD K (upd F p o) (upd H p o) σ ρ) ps L := by
        have ne : ∀ x ∈ ps, x ≠ p := fun x hx z => n1 (z ▸ hx)
        clear q nd hn
        induction r with
        | nil => exact .nil
        | @cons x y xs ys hxy t ih =>
          obtain ⟨a1, a2, a3⟩ := hxy
          have := ne x List.mem_cons_self
          exact .cons ⟨by rw [upd_ne this]; exact a1, a2, a3.move exF fun u e _ => by rw [upd_ne this]; exact e⟩ (ih (fun z => n1 (List.mem_cons_of_mem _ z)) (List.nodup_cons.mp n2).2 fun z hz => ne z (List.mem_cons_of_mem _ hz))
      refine see_all k ps L _ _ g1 (fun x hx => hn x (List.mem_cons_of_mem _ hx)) n2 rest fun F' H' g2 ex2 out pr => q F' H' g2 (exF.trans ex2) (fun x hx => ?_) (.cons ?_ pr)
      · have hp : x ≠ p := fun z => hx (z ▸ List.mem_cons_self)
        obtain ⟨o1, o2⟩ := out x fun z => hx (List.mem_cons_of_mem _ z)
        rw [upd_ne hp] at o1 o2
        exact ⟨o1, o2⟩
      · exact (rp exF).mono ex2
    obtain ⟨kvs, hH, rr⟩ := h3
    cases l with
    | nil =>
      cases rr
      exact .inr ⟨hH, fun od => step _ fun _ => .dn (xs := []) upd_same .nil⟩
    | cons x l => exact .inl ⟨_, hH, trivial, fun od => step _ fun ex => .dk (by intro z; cases z) upd_same (RpK.mono ex rr)⟩
/-! ### made -/
theorem yes_if {σ : L2.St} {H : Hp} {A B : Hp → Prop} (h : A H) : tYes σ H (fun b H3 => if b = true then A H3 else B H3) := by
  show if true = true then A H else B H
  rw [if_pos rfl]
  exact h
theorem sd_new {wi : TI} {g : TG} {vs : List Nat} {t : Tg} {fi : Fm → Option (List D)} {ds rs : List D} (hi : SI K wi fi) (hg : ST K g t) (hv : ∀ i ∈ slotsT t, i ∈ vs) (e1 : fi ρ = some ds) (hz : ds.length ≤ bigN) (e3 : lcP t fYes (fC .none) (wipeB ρ vs) ds = some rs) (hR : Rel K F H σ ρ) {Q : VK}
    (k : ∀ (a : Addr) (ps : List Addr) (F' H' : Hp), Gr F H F' H' → H a = none → H' a = some (.lst (ps.map V.ref)) → F' a = none → ps.Nodup → ps.length = ds.length → (∀ p ∈ ps, p ≠ a ∧ H p = none ∧ F' p = none ∧ H' p = some (.dK [])) → Q (.ref a) H') : tLc wi g tYes tDNewK vs σ H Q := by
  refine hi F H σ ρ ds e1 hR _ fun J F0 H0 g0 ok => ?_
  intro Dl hD
  refine ⟨fun i m H' => m = ds.length - i ∧ i ≤ ds.length ∧ ∃ (F' : Hp) (ps : List Addr) (rest : List D), Ex F0 F' ∧ Ex F' H' ∧ Gr F0 H0 F' H' ∧ True ∧ F' Dl = none ∧ H' Dl = some (.lst (ps.map V.ref)) ∧ ps.Nodup ∧ ps.length = i ∧ (∀ p ∈ ps, p ≠ Dl ∧ H0 p = none ∧ F' p = none ∧ H' p = some (.dK [])) ∧ lcP t fYes (fC .none) (wipeB ρ vs) (ds.drop i) = some rest,
    ⟨_, rfl, Nat.zero_le _, F0, [], rs, .refl _, g0.in_.trans (.new hD), .newH g0.in_ hD, trivial, g0.in_.free hD, upd_same, .nil, rfl, fun _ h => (by cases h), e3⟩, fun i m H' hW => ?_⟩
  obtain ⟨rfl, hil, F', ps, rest, x1, x2, x3, hh, hFD, hHD, nd, hlen, hps, e5⟩ := hW
  by_cases h : i < ds.length
  · right
    have hd : ds[i]? = some ds[i] := List.getElem?_eq_getElem h
    obtain ⟨ha, hb⟩ := (ok F' H' x1 x2).1 i _ hd
    rw [List.drop_eq_getElem_cons h] at e5
    obtain ⟨ρ1, e7, e8⟩ := Option.bind_eq_some_iff.mp e5
    obtain ⟨rest2, e13, e14⟩ := Option.map_eq_some_iff.mp (show (lcP t fYes (fC .none) (wipeB ρ vs) (ds.drop (i + 1))).map (PyData.none :: ·) = some rest from e8)
    refine ⟨ha, fun H2 => ∃ (F2 : Hp) (ps2 : List Addr) (rest2 : List D), Ex F0 F2 ∧ Ex F2 H2 ∧ Gr F0 H0 F2 H2 ∧ True ∧ F2 Dl = none ∧ H2 Dl = some (.lst (ps2.map V.ref)) ∧ ps2.Nodup ∧ ps2.length = i + 1 ∧ (∀ p ∈ ps2, p ≠ Dl ∧ H0 p = none ∧ F2 p = none ∧ H2 p = some (.dK [])) ∧ lcP t fYes (fC .none) (wipeB ρ vs) (ds.drop (i + 1)) = some rest2, fun H2 hN => ?_, fun x H2 hy => ?_⟩
    · exact ⟨ds.length - (i + 1), by omega, rfl, h, hN⟩
    · obtain ⟨F2, gr, rx⟩ := hb x H2 hy
      have relw : Rel K F' H' (L2.wipe σ vs) (wipeB ρ vs) := Rel.gr (Rel.wipe (hR.gr g0) vs) x3
      have relw2 := relw.gr gr
      refine hg F2 H2 _ _ _ ρ1 x e7 relw2 rx _ fun σ2 g2 so => ⟨wipe_same so hv, ?_⟩
      refine yes_if ?_
      intro p hp
      have hD4 : H2 Dl = some (.lst (ps.map V.ref)) := gr.keep _ _ hHD fun ps z => by cases z
      have hF4 : F2 Dl = none := gr.hide Dl (by rw [hHD]; intro z; cases z) hFD
      have pD : p ≠ Dl := fun z => by rw [z, hD4] at hp; cases hp
      have old : ∀ q ∈ ps, q ≠ p := fun q hq z => by
        have := gr.keep _ _ (hps q hq).2.2.2 fun ps z => by cases z
        rw [z, hp] at this
        cases this
      have F2p : F2 p = none := gr.in_.free hp
      have H0p : H0 p = none := (x3.trans gr).live.free hp
      have gP := (x3.trans gr).trans (.newH (o := .dK []) gr.in_ hp)
      refine ⟨ps.map V.ref, by rw [upd_ne pD.symm]; exact hD4, ?_, F2, ps ++ [p], rest2, x1.trans gr.ex, fun q o hq => ?_, gP.over hD hF4 (by rw [upd_ne pD.symm]; exact hD4) (fun ps z => by cases z), trivial, hF4, ?_, ?_, ?_, fun q hq => ?_, e13⟩
      · rw [List.length_map, hlen]
        exact Nat.lt_of_lt_of_le (by omega) big_le
      · have q1 : q ≠ Dl := fun z => by rw [z, hF4] at hq; cases hq
        have q2 : q ≠ p := fun z => by rw [z, F2p] at hq; cases hq
        rw [upd_ne q1, upd_ne q2]
        exact gr.in_ q o hq
      · rw [upd_same, List.map_append]
        rfl
      · exact List.nodup_append.mpr ⟨nd, by simp, fun x hx y hy z => old x hx (by rw [z, List.mem_singleton.mp hy])⟩
      · rw [List.length_append, hlen]
        rfl
      · rcases List.mem_append.mp hq with hq | hq
        · obtain ⟨a1, a2, a3, a4⟩ := hps q hq
          have live : H' q ≠ none := by rw [a4]; intro z; cases z
          exact ⟨a1, a2, gr.hide q live a3, by rw [upd_ne a1, upd_ne (old q hq)]; exact gr.keep _ _ a4 fun ps z => by cases z⟩
        · rw [List.mem_singleton.mp hq]
          exact ⟨pD, H0p, F2p, by rw [upd_ne pD, upd_same]⟩
  · left
    have hl : i = ds.length := by omega
    subst hl
    refine ⟨(ok F' H' x1 x2).2, ?_⟩
    have gr : Gr F H F' H' := g0.trans x3
    have low : ∀ x, H0 x = none → H x = none := fun x z => Classical.byContradiction fun y => (GoE.gr hR g0).go.live x y z
    exact k Dl ps F' H' gr (low Dl hD) hHD hFD nd hlen fun p hp => let ⟨a1, a2, a3, a4⟩ := hps p hp; ⟨a1, low p a2, a3, a4⟩
theorem paired_set {α β : Type} {R R' : α → β → Prop} {p : α} {x : β} : ∀ {ps : List α} {L : List β} (k : Nat), Paired R ps L → ps.Nodup → ps[k]? = some p → (∀ q l, q ≠ p → R q l → R' q l) → R' p x → Paired R' ps (L.set k x)
  | _, _, _, .nil, _, h, _, _ => by simp at h
  | _ :: ps, _ :: L, 0, .cons r t, nd, h, f, g => by
    simp only [List.getElem?_cons_zero, Option.some.injEq] at h
    subst h
    obtain ⟨n1, _⟩ := List.nodup_cons.mp nd
    rw [List.set_cons_zero]
    refine .cons g ?_
    have : ∀ {qs : List α} {M : List β}, Paired R qs M → (∀ q ∈ qs, q ≠ _) → Paired R' qs M := fun {qs M} t h => by
      induction t with
      | nil => exact .nil
      | @cons a b _ _ r t ih => exact .cons (f a b (h a List.mem_cons_self) r) (ih fun q hq => h q (List.mem_cons_of_mem _ hq))
    exact this t fun q hq z => n1 (z ▸ hq)
  | y :: ps, _ :: L, k + 1, .cons r t, nd, h, f, g => by
    obtain ⟨n1, n2⟩ := List.nodup_cons.mp nd
    have h : ps[k]? = some p := by simpa using h
    rw [List.set_cons_succ]
    exact .cons (f _ _ (fun z => n1 (z ▸ List.mem_of_getElem? h)) r) (paired_set k t n2 h f g)
theorem upd_eq {H : Hp} {a : Addr} {o : HO} (h : H a = some o) : upd H a o = H := by
  funext x
  by_cases hx : x = a
  · subst hx
    rw [upd_same, h]
  · rw [upd_ne hx]
theorem LdI.gr (I : LdI K F H σ ρ j a ps L) (hR : Rel K F H σ ρ) (g : Gr F H F' H') : LdI K F' H' σ ρ j a ps L := I.go (.gr hR g) I.pin
theorem LdI.item (I : LdI K F H σ ρ j a ps L) {k : Nat} {l : List (D × D)} (h : L[k]? = some l) : ∃ p, ps[k]? = some p ∧ LdD K F H σ ρ p l := by
  have hk : k < ps.length := by
    rw [Paired.length I.ds]
    exact (List.getElem?_eq_some_iff.mp h).1
  have e : ps[k]? = some ps[k] := List.getElem?_eq_getElem hk
  exact ⟨ps[k], e, paired_at I.ds k _ _ e h⟩
theorem lv_at {ps : List Addr} {n k : Nat} {d : D} {v : V} {p : Addr} (hl : ps.length = n) (h : lvIx n d = some k) (r : Rp K F v d) (hp : ps[k]? = some p) : ∃ i, v = .int i ∧ atI (ps.map V.ref) i = some (.ref p) := by
  cases d with
  | int i =>
    cases r
    refine ⟨i, rfl, ?_⟩
    unfold atI
    rw [List.length_map, hl, show ixN n i = some k from h, Option.bind_some, List.getElem?_map, hp]
    rfl
  | _ => cases h
theorem ss_lv {i : Nat} {t1 ta tb tc td tz tv : TE} {wi0 wi : TI} {g0 g : TG} {u1 u2 : TS} {f1 fa fb fc fd fv : Fm → Option D} {fn fi : Fm → Option (List D)} {vs : List Nat} {t0 t : Tg} {s1 s2 : Fm → Option (Fl × Fm)}
    (h1 : SP K t1 f1) (hi0 : SI K wi0 fn) (hg0 : ST K g0 t0) (hv0 : ∀ i ∈ slotsT t0, i ∈ vs) (hi : SI K wi fi) (hg : ST K g t) (hs1 : SS K u1 s1) (hs2 : SS K u2 s2) (ha : SP K ta fa) (hb : SP K tb fb) (hc : SP K tc fc) (hd : SP K td fd) (hz0 : SP K tz (fC (.int 0))) (hv : SP K tv fv) (hij : i ≠ j) :
    SS K (tSeq (tPar i j (tCons t1 (tCons (tLc wi0 g0 tYes tDNewK vs) tNil))) (tSeq (tFor wi g (tSeq u1 (tSeq u2 (tDset K (tOp (rIx K) (tVar j) ta) tb (tOp (rAddAny K) (tDg2 K (tOp (rIx K) (tVar j) tc) td tz) tv))))) (tSeeL (tRet (tVar j))))) (sLv i j f1 vs t0 fn t fi s1 s2 (lvSt fa fb fc fd fv)) := by
  intro F H σ ρ fl ρz hf hR E k1 k2 k3
  obtain ⟨d1, e1, hf⟩ := Option.bind_eq_some_iff.mp hf
  obtain ⟨ns, e2, hf⟩ := Option.bind_eq_some_iff.mp hf
  split at hf
  case isFalse => cases hf
  case isTrue hz =>
  obtain ⟨rs, e3, hf⟩ := Option.bind_eq_some_iff.mp hf
  split at hf
  case isFalse => cases hf
  case isTrue hpn =>
  have hpn := isPin_eq hpn
  obtain ⟨ds, e4, hf⟩ := Option.bind_eq_some_iff.mp hf
  obtain ⟨⟨Le, ρe⟩, e5, hf⟩ := Option.map_eq_some_iff.mp hf
  cases hf
  refine h1 F H σ ρ d1 e1 hR _ fun v F1 H1 g1 r1 => ?_
  refine sd_new hi0 hg0 hv0 e2 hz e3 (hR.gr g1) fun a ps F2 H2 g2 a0 aH aF nd pl hps => ?_
  refine ⟨v, .ref a, rfl, ?_⟩
  have hjl : j < ρ.length := by
    have := (List.getElem?_eq_some_iff.mp hpn).1
    rwa [List.length_set, List.length_set] at this
  -- the frame behind the first statement
  have R2 := (hR.gr g1).gr g2
  have gset := go_set (i := i) R2 (r1.mono g2.ex)
  have gno := go_noV (j := j) (v := some (V.ref a)) gset.rel
  have eρ : ((ρ.set i (.sh d1)).set j .pin).set j .no = (ρ.set i (.sh d1)).set j .no := List.set_set ..
  have gN := gset.trans gno
  have gB : Go K F H σ ρ F2 H2 ((σ.set i (some v)).set j (some (.ref a))) (((ρ.set i (.sh d1)).set j .pin).set j .no) := by
    rw [eρ]
    exact (Go.gr hR (g1.trans g2)).trans gN
  have live1 : ∀ x, H1 x = none → H x = none := fun x z => g1.live.free z
  have noOwn : ∀ x, H1 x = none → H2 x ≠ none → ¬ ownA ((σ.set i (some v)).set j (some (.ref a))) ((ρ.set i (.sh d1)).set j .pin) x := fun x x1 x2 o => by
    have o := (own_unpin hpn).mpr o
    rw [eρ] at o
    rcases gN.sub x o with z | z
    · obtain ⟨u, hu, _⟩ := own_live hR z
      rw [live1 x x1] at hu
      cases hu
    · exact x2 z
  have relP : Rel K F2 H2 ((σ.set i (some v)).set j (some (.ref a))) ((ρ.set i (.sh d1)).set j .pin) := rel_pin gB.rel hpn
  have I0 : LdI K F2 H2 ((σ.set i (some v)).set j (some (.ref a))) ((ρ.set i (.sh d1)).set j .pin) j a ps (ns.map fun _ => []) := by
    refine ⟨hpn, by rw [List.getElem?_set_self (by rw [List.length_set, hR.len]; exact hjl)], aH, noOwn a a0 (by rw [aH]; intro z; cases z), aF, nd, ?_⟩
    have : ∀ (qs : List Addr) (ms : List D), qs.length = ms.length → (∀ q ∈ qs, q ∈ ps) → Paired (LdD K F2 H2 ((σ.set i (some v)).set j (some (.ref a))) ((ρ.set i (.sh d1)).set j .pin)) qs (ms.map fun _ => []) := fun qs => by
      induction qs with
      | nil =>
        intro ms hl _
        cases ms with
        | nil => exact .nil
        | cons _ _ => cases hl
      | cons q qs ih =>
        intro ms hl hm
        cases ms with
        | nil => cases hl
        | cons x ms =>
          obtain ⟨b1, b2, b3, b4⟩ := hps q (hm q List.mem_cons_self)
          exact .cons ⟨b3, noOwn q b2 (by rw [b4]; intro z; cases z), [], b4, .nil⟩ (ih ms (by simpa using hl) fun y hy => hm y (List.mem_cons_of_mem _ hy))
    exact this ps ns pl fun _ h => h
  refine hi F2 H2 _ _ ds e4 relP _ fun J F3 H3 g3 ok => ?_
  have gB3 := gB.trans (.gr gB.rel g3)
  have I3 := I0.gr relP g3
  refine ⟨fun k m σ' H' => m = ds.length - k ∧ k ≤ ds.length ∧ ∃ (F' : Hp) (ρ2 : Fm) (L : List (List (D × D))), Go K F H σ ρ F' H' σ' (ρ2.set j .no) ∧ LdI K F' H' σ' ρ2 j a ps L ∧ Ex F3 F' ∧ lvL j t s1 s2 (lvSt fa fb fc fd fv) (ds.drop k) L ρ2 = some (Le, ρe),
    ⟨_, rfl, Nat.zero_le _, F3, _, _, gB3, I3, .refl _, e5⟩, fun k m σ' H' hW => ?_⟩
  obtain ⟨rfl, hk, F', ρ2, L, gG, I, x1, e6⟩ := hW
  have rel2 := rel_pin gG.rel I.pin
  by_cases h : k < ds.length
  · right
    have hdk : ds[k]? = some ds[k] := List.getElem?_eq_getElem h
    obtain ⟨hgo, hyl⟩ := (ok F' H' x1 gG.rel.ex).1 k _ hdk
    rw [List.drop_eq_getElem_cons h] at e6
    obtain ⟨ρ3, e7, e8⟩ := Option.bind_eq_some_iff.mp e6
    obtain ⟨ρ4, e9, e8⟩ := Option.bind_eq_some_iff.mp e8
    obtain ⟨ρ5, e10, e8⟩ := Option.bind_eq_some_iff.mp e8
    split at e8
    case isFalse => cases e8
    case isTrue hp5 =>
    have hp5 := isPin_eq hp5
    obtain ⟨L', e11, e12⟩ := Option.bind_eq_some_iff.mp e8
    refine ⟨hgo, fun σ5 H5 => ∃ F5, Go K F H σ ρ F5 H5 σ5 (ρ5.set j .no) ∧ LdI K F5 H5 σ5 ρ5 j a ps L' ∧ Ex F3 F5, fun σ5 H5 hN => ?_, fun x H4 hy => ?_⟩
    · obtain ⟨F5, q1, q2, q3⟩ := hN
      exact ⟨ds.length - (k + 1), by omega, rfl, h, F5, ρ5, L', q1, q2, q3, e12⟩
    · obtain ⟨F4, gr, rx⟩ := hyl x H4 hy
      have gS1 := Go.gr rel2 gr
      refine hg F4 H4 σ' ρ2 _ ρ3 x e7 gS1.rel rx _ fun σ3 g3' _ => ?_
      have gS2 := gS1.trans g3'
      refine hs1 F4 H4 σ3 ρ3 .nx ρ4 (nxO_eq e9) gS2.rel _ (fun _ σ4 F5 H5 g5 => ?_) (fun z => by cases z) fun d z => by cases z
      have gS3 := gS2.trans g5
      refine hs2 F5 H5 σ4 ρ4 .nx ρ5 (nxO_eq e10) gS3.rel _ (fun _ σ5 F6 H6 g6 => ?_) (fun z => by cases z) fun d z => by cases z
      have gS := gS3.trans g6
      have rel6 := gS.rel
      have I6 := I.go gS hp5
      obtain ⟨c, ec, e13⟩ := Option.bind_eq_some_iff.mp e11
      obtain ⟨k0, ek0, e13⟩ := Option.bind_eq_some_iff.mp e13
      obtain ⟨ds0, eds0, e13⟩ := Option.bind_eq_some_iff.mp e13
      obtain ⟨kd0, ekd0, e13⟩ := Option.bind_eq_some_iff.mp e13
      obtain ⟨w0, ew0, e13⟩ := Option.bind_eq_some_iff.mp e13
      obtain ⟨vv, evv, e13⟩ := Option.bind_eq_some_iff.mp e13
      obtain ⟨z, ez, e13⟩ := Option.bind_eq_some_iff.mp e13
      obtain ⟨av, eav, e13⟩ := Option.bind_eq_some_iff.mp e13
      obtain ⟨kk, ekk, e13⟩ := Option.bind_eq_some_iff.mp e13
      obtain ⟨dsk, edsk, e13⟩ := Option.bind_eq_some_iff.mp e13
      obtain ⟨kd, ekd, e13⟩ := Option.bind_eq_some_iff.mp e13
      split at e13
      case isFalse => cases e13
      case isTrue hlt =>
      obtain ⟨ds', eput, e14⟩ := Option.map_eq_some_iff.mp e13
      obtain ⟨o, eo, eow⟩ := Option.map_eq_some_iff.mp (show (dGet ds0 kd0).map (fun o => o.getD (.int 0)) = some w0 from ew0)
      have pL : ps.length = L.length := Paired.length I.ds
      -- the value
      refine ⟨.ref a, I6.at_, hc F6 H6 σ5 ρ5 c ec rel6 _ fun yc F7 H7 g7 r7 => ?_⟩
      have rel7 := rel6.gr g7
      have I7 := I6.gr rel6 g7
      obtain ⟨p0, ep0, l1, l2, l3⟩ := I7.item eds0
      obtain ⟨ic, rfl, eic⟩ := lv_at pL ek0 r7 ep0
      refine .inl ⟨a, _, ic, .ref p0, rfl, rfl, .inl (.inl I7.lst), eic, F7, p0, ds0, rfl, g7.in_, l3.dv, hd F7 H7 σ5 ρ5 kd0 ekd0 rel7 _ fun yk F8 H8 g8 r8 => hz0 F8 H8 σ5 ρ5 _ rfl (rel7.gr g8) _ fun yz F9 H9 g9 r9 => ?_⟩
      have g79 := g8.trans g9
      refine ⟨F9, kd0, .int 0, o, g9.in_, l3.dv.gr g79, r8.mono g9.ex, r9, eo, fun w rw' => ?_⟩
      rw [eow] at rw'
      have rel9 := rel7.gr g79
      refine hv F9 H9 σ5 ρ5 vv evv rel9 _ fun y F10 H10 g10 r10 => ?_
      refine vw_add F10 H10 w y w0 vv z g10.in_ (.inl (rw'.mono g10.ex)) (.inl r10) ez _ fun ww F11 H11 g11 r11 => ?_
      have g711 := (g7.trans g79).trans (g10.trans g11)
      have rel11 := rel6.gr g711
      have I11 := I6.gr rel6 g711
      -- the place
      refine ⟨.ref a, I11.at_, ha F11 H11 σ5 ρ5 av eav rel11 _ fun ya F12 H12 g12 r12 => ?_⟩
      have rel12 := rel11.gr g12
      have I12 := I11.gr rel11 g12
      obtain ⟨p, ep, m1, m2, m3⟩ := I12.item edsk
      obtain ⟨ia, rfl, eia⟩ := lv_at pL ekk r12 ep
      refine .inl ⟨a, _, ia, .ref p, rfl, rfl, .inl (.inl I12.lst), eia, hb F12 H12 σ5 ρ5 kd ekd rel12 _ fun yb F13 H13 g13 r13 => ?_⟩
      have g613 := (g711.trans g12).trans g13
      have gA := gS.trans (.gr rel6 g613)
      have I13 := I.go gA hp5
      have gF := gG.trans (go_unpin gA I.pin hp5)
      obtain ⟨p2, ep2, n1, n2, n3⟩ := I13.item edsk
      have : p2 = p := by
        rw [ep] at ep2
        exact (Option.some.inj ep2).symm
      subst this
      refine ⟨F13, p2, false, dsk, ds', kd, z, rfl, g13.in_, n1, n3, r13, (r11.mono g12.ex).mono g13.ex, eput, hlt, fun o' dc' => ?_⟩
      have pm : p2 ∈ ps := List.mem_of_getElem? ep2
      obtain ⟨b1, b2, _, _⟩ := hps p2 pm
      refine ⟨F13, go_updD gF (live1 p2 b2) n1 (fun o => n2 ((own_unpin hp5).mp o)) (by
        obtain ⟨kvs, z, _⟩ := n3
        intro qs y
        rw [z] at y
        cases y), ⟨hp5, I13.at_, by rw [upd_ne b1.symm]; exact I13.lst, I13.own, I13.hid, nd, ?_⟩, ((x1.trans gr.ex).trans (g5.ex.trans g6.ex)).trans g613.ex⟩
      rw [← e14]
      refine paired_set kk I13.ds nd ep2 (fun q l hq ⟨y1, y2, y3⟩ => ⟨y1, y2, y3.move (.refl _) fun u e _ => by rw [upd_ne hq]; exact e⟩) ⟨n1, n2, dc'⟩
  · left
    have hl : k = ds.length := by omega
    subst hl
    rw [List.drop_length] at e6
    cases e6
    refine ⟨(ok F' H' x1 gG.rel.ex).2, ps, ?_⟩
    have na : a ∉ ps := fun z => (hps a z).1 rfl
    refine see_all (fun H' => tRet (tVar j) E σ' H') ps Le F' H' gG (fun p hp => live1 p (hps p hp).2.1) nd (Paired.mapP I.ds fun p l ⟨y1, y2, y3⟩ => ⟨y1, fun o => y2 ((own_unpin I.pin).mp o), y3⟩) fun F4 H4 g4 ex4 out pr => ?_
    obtain ⟨o1, o2⟩ := out a na
    have fA : F4 a = none := o1.trans I.hid
    have hA : H4 a = some (.lst (ps.map V.ref)) := o2.trans I.lst
    have gE := go_updFH (o := .lst (ps.map V.ref)) g4 (live1 a a0) fA (fun o => I.own ((own_unpin I.pin).mp o)) fun ps z => by rw [hA] at z; cases z
    rw [upd_eq hA] at gE
    have exF : Ex F4 (upd F4 a (.lst (ps.map V.ref))) := .new fA
    have ra : ∀ {qs : List Addr} {M : List (List (D × D))}, Paired (fun p l => Rp K F4 (.ref p) (.dict l)) qs M → RpA K F4 (qs.map V.ref) (M.map .dict) := fun {qs M} t => by
      induction t with
      | nil => exact .nil
      | cons r t ih => exact .cons r ih
    exact ⟨.ref a, I.at_, k3 _ rfl (.ref a) σ' _ H4 gE (.lst (.inl (.inl upd_same)) ((ra pr).mono exF))⟩
end
section
variable {X : Cx} {e1 tg0 iter0 tg iter EA EB EC ED EZ EV : Expr} {st1 st2 : Stmt} {f1 fa fb fc fd fv : Fm → Option D} {fn fi : Fm → Option (List D)} {t0 t : Tg} {s1 s2 : Fm → Option (Fl × Fm)} {scope : Scope} {own : List (Str × Nat)}
/-- x, y = e1, [{} for ..]; for ..: two statements, y[a][b] = y[c].get(d, 0) + v; return y -/
theorem b_lv (i j : Nat) {n : Nat} {x y : Str} {p1 p2 p3 p4 p5 p6 p7 p8 p9 p10 p11 p12 p13 p14 p15 p16 p17 p18 : Pos} {kt k2 pt2}
    (hc : X.calm = true) (hr : Room n X.A) (hN : X.N.Nodup) (hpo : PassesOwn (model X.prog X.w) X.A X.env X.xe)
    (h1 : PP X e1 f1) (hi0 : PIt X tg0 iter0 fn) (ok : BlkOk X.N X.env.scope scope own) (hg0 : ∀ a, PTg (blkOf X scope a) tg0 t0) (hv0 : ∀ i ∈ slotsT t0, i ∈ own.map (·.2))
    (hi2 : PIt X tg iter fi) (hg2 : PTg X tg t) (hs1 : PSt X st1 s1) (hs2 : PSt X st2 s2) (hA : PP X EA fa) (hB : PP X EB fb) (hC : PP X EC fc) (hD : PP X ED fd) (hZ : PP X EZ (fC (.int 0))) (hV : PP X EV fv)
    (hpA : PlainIx EA := by exact fun _ _ => rfl) (hpC : PlainIx EC := by exact fun _ _ => rfl)
    (hi : X.N[i]? = some x := by rfl) (hj : X.N[j]? = some y := by rfl) (hij : i ≠ j := by decide) (hx : X.env.scope.names.lookup x = some .local := by rfl) (hy : X.env.scope.names.lookup y = some .local := by rfl)
    (hpv : ∀ q : Pos, PE X (.Name y q) (tVar j) := by exact fun q => pv _)
    (hw : swappedStores [.Tuple [.Name x p1, .Name y p2] kt p3] (.Tuple [e1, .ListComp (.Dict [] [] p4) [⟨tg0, iter0, [], 0⟩] scope p5] k2 pt2) X.env = pure (some [x, y]) := by rfl)
    (hs : swapsWithSole [.Tuple [.Name x p1, .Name y p2] kt p3] (.Tuple [e1, .ListComp (.Dict [] [] p4) [⟨tg0, iter0, [], 0⟩] scope p5] k2 pt2) p6.line X.env = pure false := by rfl)
    (hst : starEach [e1, .ListComp (.Dict [] [] p4) [⟨tg0, iter0, [], 0⟩] scope p5] X.env = (false, eval e1 X.env) :: starEach [.ListComp (.Dict [] [] p4) [⟨tg0, iter0, [], 0⟩] scope p5] X.env := by rfl)
    (hst2 : starEach [.ListComp (.Dict [] [] p4) [⟨tg0, iter0, [], 0⟩] scope p5] X.env = (false, eval (.ListComp (.Dict [] [] p4) [⟨tg0, iter0, [], 0⟩] scope p5) X.env) :: starEach [] X.env := by rfl)
    (hf0 : ∀ x, foldedSetIterable iter0 X.env x = pure x := by intro _; rfl) (hf2 : ∀ x, foldedSetIterable iter X.env x = pure x := by intro _; rfl)
    (hsw : swapsWith (.BinOp (.Call (.Attribute (.Subscript (.Name y p7) EC p8) "get" p9) [ED, EZ] [] p10) .Add EV p11) (some (.Subscript (.Subscript (.Name y p12) EA p13) EB p14)) p15.line X.env = pure false := by rfl)
    (m : M2 X (.Subscript (.Name y p7) EC p8) "get" p9 ED EZ p10 := by exact ⟨rfl, rfl, rfl, rfl⟩) (hW : WH X.w := by assumption) :
    PBl X [.Assign [.Tuple [.Name x p1, .Name y p2] kt p3] (.Tuple [e1, .ListComp (.Dict [] [] p4) [⟨tg0, iter0, [], 0⟩] scope p5] k2 pt2) p6,
      .For tg iter [st1, st2, .Assign [.Subscript (.Subscript (.Name y p12) EA p13) EB p14] (.BinOp (.Call (.Attribute (.Subscript (.Name y p7) EC p8) "get" p9) [ED, EZ] [] p10) .Add EV p11) p15] [] p16,
      .Return (some (.Name y p17)) p18] (sLv i j f1 (own.map (·.2)) t0 fn t fi s1 s2 (lvSt fa fb fc fd fv)) := by
  obtain ⟨t1, a1, a2⟩ := h1
  obtain ⟨wi0, b1, b2⟩ := hi0
  obtain ⟨g0, c1, c2⟩ := all_PTg (Y := fun a => blkOf X scope a) (K := X.K) (fun a => rfl) hg0
  obtain ⟨wi, d1, d2⟩ := hi2
  obtain ⟨g, q1, q2⟩ := hg2
  obtain ⟨u1, v1, v2⟩ := hs1
  obtain ⟨u2, w1, w2⟩ := hs2
  obtain ⟨ta, x1, x2⟩ := hA
  obtain ⟨tb, y1, y2⟩ := hB
  obtain ⟨tc, z1, z2⟩ := hC
  obtain ⟨td, r1, r2⟩ := hD
  obtain ⟨tz, l1, l2⟩ := hZ
  obtain ⟨tv, m1, m2⟩ := hV
  have hu : X.A.units + 9 < cLine := by have := Room.u66 hr; omega
  have plc := pe_lc (pos := p5) hc hN b1 ok (fun s H C cl fp => c1 ⟨s, H, C, cl, fp⟩) (fun _ _ _ _ _ => pts_nil) (fun _ _ _ _ _ => pe_dnewK (pos := p4)) hf0
  have ps1 := ps_par hc hN hi hj hij hx hy (pa_cons a1 (pa_cons plc pa_nil hst2) hst) hw hs
  have psp := ps_dset hu (pe_ix (pos := p13) ix_seq (hpv p12) x1 hpA) y1 (pe_op (pos := p11) op_addAny (pe_dg2 hu (pe_ix (pos := p8) ix_seq (hpv p7) z1 hpC) r1 l1 m) m1) hsw
  have psf := ps_for (pos := p16) hpo hc d1 q1 (pss_cons v1 (pss_cons w1 (pss_one psp))) hf2
  have psr := ps_seeL (ps_ret (pos := p18) (hpv p17))
  exact ⟨_, pss_cons ps1 (pss_cons psf (pss_one psr)), ss_lv a2 b2 c2 hv0 d2 q2 v2 w2 x2 y2 z2 r2 l2 m2 hij⟩
end
end DL
end
section
set_option Elab.async false
set_option linter.all false
set_option maxRecDepth 100000
/-! A lambda made; sorted(xs, key=lambda ..). -/
namespace DL
open PySem PySem.Spec PyProof.Rows L2
variable [TabT] [FnT]
/-! ### the lambda is made -/
section
variable {X : Cx} {pins : List (Addr × Obj)} {σ : L2.St} {F H : Hp} {s : Shared}
theorem lam_make3 {c P : Addr} {params : Arguments} {body : Expr} {scope : Scope} {pos : Pos} {E : Value → Shared → Prop} {Q : Value → Shared → Prop} (I : Inv X pins σ H s) (ex : Ex F H) (tb : TbOk F H) (TB : LamX.TabB X.base X.mg c P) (hcode : X.env.code = .ref c)
    (hm : (P, X.env.qual ++ "<lambda>") ∈ TabT.T) (hu : ∀ p ∈ TabT.T, p.1 = P → p.2 = X.env.qual ++ "<lambda>") (hdef : defaultsOf params X.env = ([], [])) (hfree : ∀ y ∈ scope.names, y.2 = .free → ∃ c, X.env.cells.lookup y.1 = some c)
    (h : ∀ (f c' : Addr) (pm ctv : Value) (F1 H1 : Hp) (s' : Shared), Inv X pins σ H1 s' → Gr F H F1 H1 →
      s'.heap.get? f = some (PySem.W.kla_obj "<lambda>" (X.env.qual ++ "<lambda>") params body scope (cloFrom X.env.cells scope.names []) pm c' ctv) → H1 f = none → f ∉ frs X.stack → H1 c' = some (LamX.CodeO c' (X.env.qual ++ "<lambda>")) → F1 c' = some (LamX.CodeO c' (X.env.qual ++ "<lambda>")) → Q (.ref f) s') :
    wpAny (model X.prog X.w) X.A (eval (.Lambda params body scope pos) X.env) Q E s := by
  obtain ⟨fP, ps, hP, ht, ha⟩ := tb _ hm
  refine PySem.W.kla_eval hdef ?_
  have bP : s.heap.BuiltinsAt X.mg P := TB.bm.keeps I.bk
  have hP' : s.heap.get? P = some { cls := .none, data := .fields ps } := I.hok P _ hP
  have nofr : ∀ f, s.heap.objs.size ≤ f → f ∉ frs X.stack := fun f hf z => by
    rcases List.mem_cons.mp (I.stkSub _ z) with e | e
    · have h1 := I.lt
      rw [← e] at h1
      exact Nat.lt_irrefl _ (Nat.lt_of_lt_of_le h1 hf)
    · exact I.nofs hf e
  cases hc : codeAmong pos ps.toList with
  | none =>
    refine PySem.W.kla_makeFunction (mg := X.mg) (c := c) (P := P) (ps := ps) (closure_ok hfree) I.ok.glob (I.mod.glob.keeps I.bk) hcode (TB.code.keeps I.bk) hP' ht hc TB.gP bP fun c' ctv h' tk hx hge hlt hrec htb => ?_
    obtain ⟨c2, oc, vs, t, e2, hoc, hd, hv⟩ := hrec
    cases e2
    have hsz : s.heap.objs.size ≤ h'.objs.size := Nat.le_trans hge (Nat.le_of_lt hlt)
    have nC : H c' = none := I.hok.fresh hge
    have I1 := LamX.inv_table (t' := tk) (more := #[rawInt pos.line, rawInt pos.col, .ref c']) (h' := h'.push (PySem.W.kla_obj "<lambda>" (X.env.qual ++ "<lambda>") params body scope (cloFrom X.env.cells scope.names []) ((X.mg "__name__").getD .none) c' ctv)) I hP
      (fun b o hb e => Heap.get?_push_of_some _ (hx b o hb e)) (Heap.get?_push_of_some _ htb) hge ⟨oc, vs, t, Heap.get?_push_of_some _ hoc, hd, hv⟩
    have fC : F c' = none := ex.free nC
    have nPC : P ≠ c' := ne_of_none hP nC
    have g : Gr F H (upd F c' (LamX.CodeO c' (X.env.qual ++ "<lambda>"))) (upd (upd H P (.tbl (ps ++ #[rawInt pos.line, rawInt pos.col, .ref c']))) c' (LamX.CodeO c' (X.env.qual ++ "<lambda>"))) := by
      have keep : ExU H (upd (upd H P (.tbl (ps ++ #[rawInt pos.line, rawInt pos.col, .ref c']))) c' (LamX.CodeO c' (X.env.qual ++ "<lambda>"))) := fun b o e n => by
        rw [upd_ne (ne_of_none e nC), upd_ne (fun z => n ps (Option.some.inj (e.symm.trans (by rw [z]; exact hP))))]
        exact e
      refine ⟨.new fC, fun b o e => ?_, keep, fun a hA hF => ?_, fun a hA => ?_, fun _ p hp => ?_⟩
      · by_cases hb : b = c'
        · rw [hb, upd_same] at e ⊢
          exact e
        · rw [upd_ne hb] at e
          rw [upd_ne hb, upd_ne fun z => by rw [z, fP] at e; cases e]
          exact ex b o e
      · rw [upd_ne fun z => hA (by rw [z]; exact nC)]
        exact hF
      · by_cases hb : a = c'
        · rw [hb, upd_same]; intro z; cases z
        · rw [upd_ne hb]
          by_cases hb2 : a = P
          · rw [hb2, upd_same]; intro z; cases z
          · rw [upd_ne hb2]; exact hA
      · by_cases hb : p.1 = P
        · rw [hu p hp hb, hb]
          refine ⟨by rw [upd_ne nPC]; exact fP, _, by rw [upd_ne nPC, upd_same], ?_, fun p' cv hcv => ?_⟩
          · have eL : (ps ++ #[rawInt pos.line, rawInt pos.col, .ref c']).toList = ps.toList ++ [rawInt pos.line, rawInt pos.col, .ref c'] := by simp
            rw [eL]
            exact PySem.TriplesOk_snoc _ _ _ _ ht
          · have eL : (ps ++ #[rawInt pos.line, rawInt pos.col, .ref c']).toList = ps.toList ++ [rawInt pos.line, rawInt pos.col, .ref c'] := by simp
            rw [eL] at hcv
            rcases LamX.among_app _ ht hcv with z | z
            · obtain ⟨c0, e1, e2⟩ := ha p' cv z
              exact ⟨c0, e1, Ex.new fC _ _ e2⟩
            · exact ⟨c', z, upd_same⟩
        · obtain ⟨f0, ps', a1, a2, a3⟩ := tb p hp
          refine ⟨by rw [upd_ne (ne_of_none a1 nC)]; exact f0, ps', by rw [upd_ne (ne_of_none a1 nC), upd_ne hb]; exact a1, a2, fun p' cv hcv => ?_⟩
          obtain ⟨c0, e1, e2⟩ := a3 p' cv hcv
          exact ⟨c0, e1, Ex.new fC _ _ e2⟩
    refine h h'.objs.size c' ((X.mg "__name__").getD .none) ctv _ _ _ I1 g (Heap.get?_push_size _ rfl) ?_ (nofr _ hsz) upd_same upd_same
    have n1 : h'.objs.size ≠ c' := Nat.ne_of_gt hlt
    have n2 : h'.objs.size ≠ P := Nat.ne_of_gt (Nat.lt_of_lt_of_le (Heap.lt_size hP') hsz)
    rw [upd_ne n1, upd_ne n2]
    exact I.hok.fresh hsz
  | some cv =>
    obtain ⟨c', e, hco⟩ := ha pos cv hc
    subst e
    refine PySem.W.kla_makeFunctionHit (mg := X.mg) (c := c) (P := P) (ps := ps) (closure_ok hfree) I.ok.glob (I.mod.glob.keeps I.bk) hcode (TB.code.keeps I.bk) hP' ht hc bP fun ctv h' tk hx hsz => ?_
    have I1 : Inv X pins σ H { s with heap := h'.push (PySem.W.kla_obj "<lambda>" (X.env.qual ++ "<lambda>") params body scope (cloFrom X.env.cells scope.names []) ((X.mg "__name__").getD .none) c' ctv), toks := tk } := I.kept fun b o e => Heap.get?_push_of_some _ (hx b o e)
    exact h h'.objs.size c' ((X.mg "__name__").getD .none) ctv F H _ I1 (.refl ex) (Heap.get?_push_size _ rfl) (I.hok.fresh hsz) (nofr _ hsz) (ex _ _ hco) hco
/-! ### it is called with one value: a key -/
/-- one parameter, captured names and globals -/
structure LamK (sc scope : Scope) (p : Str) : Prop where
  kind : scope.kind = .function
  co : scope.isCoroutine = false
  gen : scope.isGenerator = false
  nocell : ∀ y ∈ scope.names, y.2 ≠ .cell
  par : scope.names.lookup p = some .local
  free : ∀ y ∈ scope.names, y.2 = .free → sc.names.lookup y.1 = some .cell ∨ sc.names.lookup y.1 = some .free
theorem key_call {k : Nat} {f c' : Addr} {q p : Str} {params : Arguments} {body : Expr} {scope sc : Scope} {cl : List (Str × Addr)} {pm ctv : Value} {A : Around} {u : Value} {i : Int} (I : Inv X pins σ H s) (L : LamK sc scope p)
    (hf : s.heap.get? f = some (PySem.W.kla_obj "<lambda>" q params body scope cl pm c' ctv)) (hco : H c' = some (LamX.CodeO c' q)) (hr : Room (k + 1) A)
    (hbind : bindArgs (PySem.W.kla_fn "<lambda>" q params body scope cl pm (.ref c') ctv) ⟨[u], []⟩ = pure [(p, u)])
    (hbody : ∀ (h₁ : Heap) (tk : Nat), (∀ b o, s.heap.get? b = some o → h₁.get? b = some o) → h₁.Ns s.heap.objs.size (fun y => [(p, u)].reverse.lookup y) →
      wpAny (model X.prog X.w) (A.deeper (PySem.W.envX q scope s.heap.objs.size f (.ref c') cl)) (eval body (PySem.W.envX q scope s.heap.objs.size f (.ref c') cl)) (fun v s2 => ∃ t tk', v = .int i t ∧ s2 = { s with heap := h₁, toks := tk' }) (fun _ _ => False) { s with heap := h₁, toks := tk }) :
    wpAny (model X.prog X.w) A (call (.ref f) [u]) (PySem.W.KeyPure (.int i) s) (fun _ _ => False) s := by
  obtain ⟨⟨oc, vs, t, hoc, hdc, hvc⟩, _, _⟩ := I.hok c' _ hco
  have rc : codeAny (model X.prog X.w) A (.call (.ref f) ⟨[u], []⟩) (fun r s' => match r with | .ok (.ret v) => PySem.W.KeyPure (.int i) s v s' | .ok _ => False | .error e => False) s := by
    refine PySem.W.kla_callFunE hr.depth hf rfl L.co L.gen rfl ⟨c', oc, vs, t, rfl, hoc, hdc, hvc⟩ ?_
    rw [hbind]
    refine wpAny_pure (wpAny_newFunctionEnv L.nocell (fun y hy => by rw [List.mem_singleton.mp hy]; exact L.par) (fun h₁ hns hsb => ⟨I.nolimit.fresh _ hsb, ?_⟩) L.kind)
    have kp : ∀ b o, s.heap.get? b = some o → h₁.get? b = some o := fun b o e => hsb.extBut b o (Nat.ne_of_lt (Heap.lt_size e)) (Heap.get?_push_of_some _ e)
    refine PySem.W.kla_codeExpr (wpAny_mono (hbody h₁ _ kp hns) (fun v s' hq => ?_) fun e s' hq => hq.elim)
    obtain ⟨t, tk', rfl, rfl⟩ := hq
    exact ⟨h₁, tk', rfl, kp, .int _ _⟩
  exact wpAny_call rc
end
end DL
end
section
set_option Elab.async false
set_option linter.all false
set_option maxRecDepth 100000
/-! sorted(xs, key=lambda ..): whole numbers as keys. -/
namespace DL
open PySem PySem.Spec PyProof.Rows L2
variable [TabT] [FnT]
/-! ### data -/
def putK (a : D × Int) : List (D × Int) → List (D × Int)
  | [] => [a]
  | b :: l => cond (decide (b.2 < a.2)) (b :: putK a l) (a :: b :: l)
/-- sorted by the numbers, stable -/
def sortK : List (D × Int) → List (D × Int)
  | [] => []
  | a :: l => putK a (sortK l)
def keysK (key : D → Option Int) : List D → Option (List (D × Int))
  | [] => some []
  | d :: ds => (key d).bind fun i => (keysK key ds).map ((d, i) :: ·)
def fSortK (key : Fm → D → Option Int) (fe : Fm → Option D) (ρ : Fm) : Option D := (fe ρ).bind fun d => match d with
  | .list ds => if ds.length ≤ bigN then (keysK (key ρ) ds).map fun r => .list ((sortK r).map (·.1)) else none
  | _ => none
/-- an item of a tuple -/
def kIx (c : Int) (_ : Fm) : D → Option Int
  | .tuple ts => match atI ts c with
    | some (.int i) => some i
    | _ => none
  | _ => none
/-- what slot j's dict has -/
def kDx (j : Nat) (ρ : Fm) (d : D) : Option Int := match ρ[j]? with
  | some (.sh (.dict ds)) => match dGet ds d with
    | some (some (.int i)) => some i
    | _ => none
  | _ => none
theorem putK_two (a : D × Int) (l2 : List (D × Int)) (h : ∀ b ∈ l2, decide (b.2 < a.2) = false) : ∀ l1 : List (D × Int), (∀ b ∈ l1, decide (b.2 < a.2) = true) → putK a (l1 ++ l2) = l1 ++ a :: l2
  | [], _ => by
    cases l2 with
    | nil => rfl
    | cons b l => simp only [List.nil_append, putK, h b (.head _), cond_false]
  | b :: l1, h1 => by
    simp only [List.cons_append, putK, h1 b (.head _), cond_true]
    rw [putK_two a l2 h l1 fun c hc => h1 c (.tail _ hc)]
abbrev leK {α : Type} (k : α → Int) (a b : α) : Bool := !decide (k b < k a)
theorem leK_trans {α : Type} {k : α → Int} : ∀ a b c : α, leK k a b = true → leK k b c = true → leK k a c = true := fun a b c h1 h2 => by
  simp only [leK, Bool.not_eq_true', decide_eq_false_iff_not] at h1 h2 ⊢
  omega
theorem leK_total {α : Type} {k : α → Int} : ∀ a b : α, (leK k a b || leK k b a) = true := fun a b => by
  simp only [leK, Bool.or_eq_true, Bool.not_eq_true', decide_eq_false_iff_not]
  omega
theorem sortK_eq (xs : List (D × Int)) : sortK xs = xs.mergeSort (leK (·.2)) := by
  induction xs with
  | nil => rw [sortK, List.mergeSort_nil]
  | cons a l ih =>
    obtain ⟨l1, l2, e1, e2, h1⟩ := List.mergeSort_cons (le := leK (α := D × Int) (·.2)) leK_trans leK_total a l
    have ps := List.pairwise_mergeSort (le := leK (α := D × Int) (·.2)) leK_trans leK_total (a :: l)
    rw [e1] at ps ⊢
    rw [sortK, ih, e2]
    have p2 := (List.pairwise_append.mp ps).2.1
    refine putK_two a l2 (fun b hb => ?_) l1 fun b hb => by simpa using h1 b hb
    have := List.rel_of_pairwise_cons p2 hb
    simpa using this
theorem dltK (a b : Int) : PySem.W.dataLt (.int a) (.int b) = decide (a < b) := by
  show PyProof.Rows.lexLt PyProof.Rows.itemOrd [Sum.inl a] [Sum.inl b] = _
  simp [PyProof.Rows.lexLt, PyProof.Rows.itemLt]
/-! ### the sort -/
abbrev T3 : Type := V × D × Int
theorem dle_leK : PySem.W.dataLe false (fun b : T3 => PyData.int b.2.2) = leK (fun b : T3 => b.2.2) := by
  funext a b
  show (!PySem.W.dataLt (.int b.2.2) (.int a.2.2)) = _
  rw [dltK]
theorem each_vals : ∀ {ts : List T3} {its : List Value}, Vals (ts.map (·.1)) its → PySem.W.EachIs (fun u (b : T3) => RelV b.1 u) its ts
  | [], _, h => by cases h; exact .nil
  | t :: ts, _, h => by
    cases h with
    | cons r rr => exact .cons r (each_vals rr)
theorem vals_each : ∀ {ts : List T3} {its : List Value}, PySem.W.EachIs (fun u (b : T3) => RelV b.1 u) its ts → Vals (ts.map (·.1)) its
  | _, _, .nil => .nil
  | _, _, .cons r rr => .cons r (vals_each rr)
section
variable {X : Cx} {pins : List (Addr × Obj)} {σ : L2.St} {F H : Hp} {s : Shared}
theorem sort_run {n : Nat} {a f : Addr} {ts : List T3} {Q : VK} (I : Inv X pins σ H s) (hr : Room n X.A) (hs : SqL X.K H a (ts.map (·.1))) (hz : ts.length ≤ bigN)
    (turn : ∀ (u : Value) (t : T3), RelV t.1 u → t ∈ ts → ∀ (h : Heap) (tk : Nat), (∀ b o, s.heap.get? b = some o → h.get? b = some o) → wpAny (model X.prog X.w) X.A.in1.in1 (call (.ref f) [u]) (PySem.W.KeyPure (.int t.2.2) { s with heap := h, toks := tk }) (fun _ _ => False) { s with heap := h, toks := tk })
    (q : ∀ p, H p = none → Q (.ref p) (upd H p (.lst ((ts.mergeSort (leK fun b : T3 => b.2.2)).map (·.1))))) : wpAny (model X.prog X.w) X.A (call (.builtin "sorted") [.ref a] [(Str.ofString "key", .ref f)]) (EP X pins σ Q) X.xe s := by
  obtain ⟨its, rv, hl, _⟩ := I.list hs
  have e := each_vals rv
  have hL : ts.length ≤ sizeLine := Nat.le_trans hz big_le
  refine PySem.W.sorted_key_data (R := fun u (b : T3) => RelV b.1 u) (k := fun b : T3 => PyData.int b.2.2) (b := false) hl.isList e (fun d hd d' hd' => ?_) (.inr fun d hd => ?_) hL (fun x _ => by have := Room.u66 hr; show X.A.units + 2 + 0 < cLine; omega) (PyProof.Rows.ksk_s1 _ _) (fun x => PyProof.Rows.ksk_l1 _ _) (fun x => PyProof.Rows.ksk_t1 f x) turn fun out c h' tk keep fresh hD hlen hE => ?_
  · obtain ⟨x, _, rfl⟩ := List.mem_map.mp hd
    obtain ⟨y, _, rfl⟩ := List.mem_map.mp hd'
    rfl
  · obtain ⟨x, _, rfl⟩ := List.mem_map.mp hd
    exact ⟨(by intro z; cases z), (by intro xs z; cases z)⟩
  · rw [dle_leK] at hE
    have v := vals_each hE
    exact ⟨.ref _, upd H (s.heap.objs.size + 1) (.lst ((ts.mergeSort (leK fun b : T3 => b.2.2)).map (·.1))), I.laid (t' := tk) keep (Nat.le_succ _) ⟨by rw [List.length_map, List.length_mergeSort]; exact hL, out, c, v, hD⟩, rfl, q _ (I.hok.fresh (Nat.le_succ _))⟩
end
def srtX (K : PySem.W.Frag) (KV : L2.St → Hp → V → Int → Prop) (σ : L2.St) (Q : VK) (x : V) (H1 : Hp) : Prop := ∃ (F : Hp) (a : Addr) (ts : List T3), x = .ref a ∧ Ex F H1 ∧ TbOk F H1 ∧ SqL K H1 a (ts.map (·.1)) ∧ ts.length ≤ bigN ∧ (∀ t ∈ ts, KV σ F t.1 t.2.2) ∧
  ∀ F2 H2 p, Gr F H1 F2 H2 → H2 p = none → Q (.ref p) (upd H2 p (.lst ((ts.mergeSort (leK fun b : T3 => b.2.2)).map (·.1))))
def srtXs (K : PySem.W.Frag) (KV : L2.St → Hp → V → Int → Prop) (σ : L2.St) (Q : VK) : List V → Hp → Prop
  | [x], H1 => srtX K KV σ Q x H1
  | _, _ => False
def tSortL (K : PySem.W.Frag) (te : TE) (KV : L2.St → Hp → V → Int → Prop) : TE := fun σ H Q => te σ H fun x H1 => srtX K KV σ Q x H1
section
variable {X : Cx}
/-- what the lambda's body gives -/
def KeyB (X : Cx) (scope : Scope) (p : Str) (body : Expr) (KV : L2.St → Hp → V → Int → Prop) : Prop :=
  ∀ (pins : List (Addr × Obj)) (σ : L2.St) (s : Shared) (F H : Hp) (x : V) (u : Value) (i : Int) (A : Around) (L f c' : Addr) (q : Str) (h₁ : Heap) (tk : Nat), Inv X pins σ H s → Ex F H → KV σ F x i → RelV x u → Room 1 A →
    (∀ b o, s.heap.get? b = some o → h₁.get? b = some o) → h₁.Ns L (fun y => [(p, u)].reverse.lookup y) →
    wpAny (model X.prog X.w) A (eval body (PySem.W.envX q scope L f (.ref c') (cloFrom X.env.cells scope.names []))) (fun v s2 => ∃ t tk', v = .int i t ∧ s2 = { s with heap := h₁, toks := tk' }) (fun _ _ => False) { s with heap := h₁, toks := tk }
theorem pe_sortL {n : Nat} {c P : Addr} {p : Str} {te : TE} {KV : L2.St → Hp → V → Int → Prop} {e : Expr} {params : Arguments} {body : Expr} {scope : Scope} {p1 lpos kpos pos : Pos} (hr : Room (n + 5) X.A) (B : Bt X.mg) (he : PE X e te)
    (TB : LamX.TabB X.base X.mg c P) (hcode : X.env.code = .ref c) (hm : (P, X.env.qual ++ "<lambda>") ∈ TabT.T) (hu : ∀ p ∈ TabT.T, p.1 = P → p.2 = X.env.qual ++ "<lambda>") (hdef : defaultsOf params X.env = ([], [])) (L : LamK X.env.scope scope p)
    (hbind : ∀ (q : Str) (cl : List (Str × Addr)) (pm cv ctv u : Value), bindArgs (PySem.W.kla_fn "<lambda>" q params body scope cl pm cv ctv) ⟨[u], []⟩ = pure [(p, u)]) (hK : KeyB X scope p body KV) (hKm : ∀ σ F F' x i, Ex F F' → KV σ F x i → KV σ F' x i)
    (hg : Gl X "sorted" := by rfl) (hs0 : starEach [e] X.env = (false, eval e X.env) :: starEach [] X.env := by rfl) (hst : backTo pos (starEach [e] X.env) = (false, eval e X.env) :: backTo pos (starEach [] X.env) := by rfl) (hpl : (backTo pos (starEach [e] X.env)).any (·.1) = false := by rfl) :
    PE X (.Call (.Name "sorted" p1) [e] [⟨some "key", .Lambda params body scope lpos, kpos⟩] pos) (tSortL X.K te KV) := by
  refine ⟨fun pins s σ H Q I h => ?_⟩
  have hfree : ∀ y ∈ scope.names, y.2 = .free → ∃ c, X.env.cells.lookup y.1 = some c := fun y hy hy2 => by
    rcases L.free y hy hy2 with k | k
    · exact I.ok.has _ (.inl k)
    · exact I.ok.has _ (.inr k)
  refine wpAny_Call_Name_kw (ld_blt I hg B.sorted PyProof.Rows.boot_sorted ?_ (by decide) (by decide))
  refine PyProof.Rows.callWith_kw (thn ((pa_cons he pa_nil hs0).run pos pins s σ H (srtXs X.K KV σ Q) I h) fun us s1 ⟨vs, H1, I1, r1, q1⟩ => ?_) hst hpl
  · cases vs with
    | nil => exact q1.elim
    | cons x vs =>
    cases vs with
    | cons _ _ => exact q1.elim
    | nil =>
    obtain ⟨F, a, ts, rfl, exF, tb, hs, hz, hk, q⟩ := q1
    obtain ⟨u, rfl, ru⟩ := vals_one r1
    cases ru
    show wpAny _ _ (evalAll ((do let v ← eval (.Lambda params body scope lpos) X.env; standAt pos; pure v) :: [])) _ _ s1
    refine wpAny_evalAll_cons (wpAny_bind (lam_make3 I1 exF tb TB hcode hm hu hdef hfree fun f c' pm ctv F2 H2 s2 I2 g hf hfn hfr hco _ => wpAny_bind (wpAny_standAt (wpAny_pure (wpAny_evalAll_nil ?_)))))
    show wpAny _ _ (call (.builtin "sorted") [.ref a] [(Str.ofString "key", .ref f)]) _ _ s2
    refine sort_run I2 hr (g.keep.sql hs) hz (fun u t ru ht h tk kp => ?_) fun p hp => q F2 H2 p g hp
    have I3 : Inv X pins σ H2 { s2 with heap := h, toks := tk } := I2.kept kp
    refine key_call I3 L (kp _ _ hf) hco hr.in1.in1 (hbind _ _ _ _ _ _) fun h₁ tk1 kp1 hns => ?_
    exact hK pins σ { s2 with heap := h, toks := tk } F2 H2 t.1 u t.2.2 _ _ f c' _ h₁ tk1 I3 g.in_ (hKm _ _ _ _ _ g.ex (hk t ht)) ru ((hr.in1.in1.deeper _).mono (by omega)) kp1 hns
end
end DL
end
section
set_option Elab.async false
set_option linter.all false
set_option maxRecDepth 100000
/-! The keys: an item of a tuple, what a captured dict has. -/
namespace DL
open PySem PySem.Spec PyProof.Rows L2
variable [TabT] [FnT]
section
variable {X : Cx} {pins : List (Addr × Obj)} {σ : L2.St} {F H : Hp} {s : Shared} {K : PySem.W.Frag}
def KV1 (c : Int) (_ : L2.St) (F : Hp) (x : V) (i : Int) : Prop := ∃ (a : Addr) (xs : List V), x = .ref a ∧ SqZ F a xs ∧ atI xs c = some (.int i)
def KV2 (K : PySem.W.Frag) (j : Nat) (σ : L2.St) (F : Hp) (x : V) (i : Int) : Prop := ∃ (p : Addr) (ds : List (D × D)) (kd : D), σ[j]? = some (some (.ref p)) ∧ Rp K F (.ref p) (.dict ds) ∧ Rp K F x kd ∧ dGet ds kd = some (some (.int i))
theorem kv1_mono {c : Int} : ∀ (σ : L2.St) (F F' : Hp) (x : V) (i : Int), Ex F F' → KV1 c σ F x i → KV1 c σ F' x i := fun _ _ _ _ _ e ⟨a, xs, h1, h2, h3⟩ => ⟨a, xs, h1, e.sqz h2, h3⟩
theorem kv2_mono {j : Nat} : ∀ (σ : L2.St) (F F' : Hp) (x : V) (i : Int), Ex F F' → KV2 K j σ F x i → KV2 K j σ F' x i := fun _ _ _ _ _ e ⟨p, ds, kd, h1, h2, h3, h4⟩ => ⟨p, ds, kd, h1, h2.mono e, h3.mono e, h4⟩
theorem key_ix {c : Int} {jc : Nat} {p : Str} {scope : Scope} {p1 p2 p3 : Pos} (L : LamK X.env.scope scope p) (hd : (p == ("__debug__" : Str)) = false := by decide) : KeyB X scope p (.Subscript (.Name p p1) (.Constant (.int c) jc p2) p3) (KV1 c) := by
  intro pins σ s F H x u i A Lo f c' q h₁ tk I ex kv ru hr kp hns
  obtain ⟨a, xs, rfl, hz, he⟩ := kv
  cases ru
  refine Subscript_ (wpAny_Name (wpAny_loadName_local L.kind L.par hns (v := .ref a) (by simp) ?_) hd)
  refine wpAny_Constant_int ?_
  have I' : Inv X pins σ H { s with heap := h₁, toks := tk + 1 } := I.kept kp
  obtain ⟨its, r, pl, hzz⟩ := I'.tuple (ex.sqt hz.sqt : SqT X.K H a xs)
  obtain ⟨jj, h1, h2, h3, h4, h5⟩ := atI_get he
  obtain ⟨w, ew, rw'⟩ := r.get h2
  obtain ⟨t, rfl⟩ := rw'
  have hl := r.length
  have hn := line63
  exact subscriptTail_builtinR (x := .int i t) pl.typeIs slot_tuple_getitem.lookup
    (getItem_tuple (j := jj) (Q := fun r s' => r = .int i t ∧ ∃ t tk', r = .int i t ∧ s' = { s with heap := h₁, toks := tk' }) pl (by omega) (by omega) (by rw [List.size_toArray, ← hl]; exact h1) (by simpa using ew) ⟨rfl, t, _, rfl, rfl⟩) rfl
/-- the item of a dict, the state told -/
theorem dv_itemS [hW : WH X.w] {A : Around} {E : Value → Shared → Prop} {Q : Value → Shared → Prop} {a : Addr} {x : V} {kd : D} {ds : List (D × D)} {u : Value} {d : D} (hu : A.units + 9 < cLine) (I : Inv X pins σ H s) (e : Ex F H) (h : DV X.K F H a ds) (rk : Rp X.K F x kd) (ry : RelV x u) (g : dGet ds kd = some (some d))
    (q : ∀ u' v' tk', RelV v' u' → Rp X.K F v' d → Q u' { s with toks := tk' }) : wpAny (model X.prog X.w) A (getItem (.ref a) u) Q E s := by
  rcases dv_cases I e h rk g with ⟨ky, vs, rfl, hd, dd, l⟩ | ⟨p, k, xs, rfl, hk, hd, dd, l⟩
  · rcases l with ⟨_, z⟩ | ⟨u', v', d', e1, e2, r1, r2⟩
    · cases z
    · cases e2
      exact wpAny_getItem_of (kV_is ry) dd.mapOf e1 (q u' v' _ r1 r2)
  · cases (show u = Value.ref p from ry)
    rcases l with ⟨_, z⟩ | ⟨u', v', d', e1, e2, r1, r2⟩
    · cases z
    · cases e2
      obtain ⟨w, hw, rfl⟩ := Option.map_eq_some_iff.mp e1
      exact wpAny_getItem_heap (nest_room hu) hk dd hw (q _ v' _ r1 r2)
theorem key_dx {j : Nat} {p d : Str} {scope : Scope} {p1 p2 p3 : Pos} (L : LamK X.env.scope scope p) (hN : X.N[j]? = some d := by rfl) (hc : X.env.scope.names.lookup d = some .cell := by rfl) (hf : scope.names.lookup d = some .free := by rfl)
    (hd : (p == ("__debug__" : Str)) = false := by decide) (hd2 : (d == ("__debug__" : Str)) = false := by decide) (hcd : (d == ("__classdict__" : Str)) = false := by decide) (hW : WH X.w := by assumption) : KeyB X scope p (.Subscript (.Name d p1) (.Name p p2) p3) (KV2 X.K j) := by
  intro pins σ s F H x u i A Lo f c' q h₁ tk I ex kv ru hr kp hns
  obtain ⟨pd, ds, kd, sj, rd, rk, g⟩ := kv
  have hfree : ∀ y ∈ scope.names, y.2 = .free → ∃ c, X.env.cells.lookup y.1 = some c := fun y hy hy2 => by
    rcases L.free y hy hy2 with k | k
    · exact I.ok.has _ (.inl k)
    · exact I.ok.has _ (.inr k)
  have cm : ∀ {y c}, (cloFrom X.env.cells scope.names []).lookup y = some c → X.env.cells.lookup y = some c := fun {y c} e => by
    rcases cloFrom_mem (PySem.mem_of_lookup e) with hm | ⟨h1, h2⟩
    · cases hm
    · obtain ⟨c1, hc⟩ := hfree _ h1 rfl
      have hc : X.env.cells.lookup y = some c1 := hc
      have e2 : c = c1 := by
        rw [h2, hc] <;> rfl
      rw [e2]
      exact hc
  obtain ⟨c2, h2⟩ : ∃ c, (cloFrom X.env.cells scope.names []).lookup d = some c := by
    have hy : (d, NameKind.free) ∈ scope.names := PySem.mem_of_lookup hf
    exact mem_lookup (cloFrom_has (cells := X.env.cells) (acc := []) hy)
  obtain ⟨m, hn, hl⟩ := I.loc
  obtain ⟨w', rw', look⟩ := hl j d _ hN sj (.inr (.inl hc))
  cases rw'
  have hcell : s.heap.IsCell c2 (some (.ref pd)) := by
    rcases look with ⟨k', _⟩ | ⟨_, c3, e', z⟩
    · have k' : X.env.scope.names.lookup d = some .local := k'
      rw [hc] at k'
      cases k'
    · rw [cm h2] at e'
      cases e'
      exact z
  have hcell1 : h₁.IsCell c2 (some (.ref pd)) := by
    obtain ⟨o, ho, hd⟩ := hcell
    exact ⟨o, kp _ _ ho, hd⟩
  have I' : Inv X pins σ H { s with heap := h₁, toks := tk } := I.kept kp
  have dv : DV X.K F H pd ds := by
    obtain ⟨a, z, h⟩ := (Vw.inl rd : Vw X.K F H (.ref pd) (.dict ds)).dict ex
    cases z
    exact h
  refine subD_of PySem.F.slot_dict_getitem.lookup (fun _ _ => rfl) (wpAny_Name (wpAny_loadName_free L.kind hf h2 hcell1 ?_ hcd) hd2)
  refine wpAny_Name (wpAny_loadName_local L.kind L.par hns (v := u) (by simp) ?_) hd
  refine ⟨(dv_type I' dv ex).1, dv_itemS (s := { s with heap := h₁, toks := tk }) (by have := hr.un; omega) I' ex dv rk ru g fun u' v' tk' r1 r2 => ?_⟩
  have := r2.intI
  subst this
  obtain ⟨t, rfl⟩ := r1
  exact ⟨t, tk', rfl, rfl⟩
end
/-! ### the rules -/
section
variable {K : PySem.W.Frag} {F : Hp}
theorem keys_ts {key : D → Option Int} : ∀ {xs : List V} {ds : List D} {r : List (D × Int)}, RpA K F xs ds → keysK key ds = some r → ∃ ts : List T3, ts.map (·.1) = xs ∧ ts.map (·.2) = r ∧ ∀ t ∈ ts, Rp K F t.1 t.2.1 ∧ key t.2.1 = some t.2.2
  | _, _, _, .nil, h => by
    cases h
    exact ⟨[], rfl, rfl, fun _ h => by cases h⟩
  | v :: vs, d :: ds, r, .cons h1 h2, h => by
    obtain ⟨i, e1, h⟩ := Option.bind_eq_some_iff.mp (show (key d).bind (fun i => (keysK key ds).map ((d, i) :: ·)) = some r from h)
    obtain ⟨r', e2, rfl⟩ := Option.map_eq_some_iff.mp h
    obtain ⟨ts, f1, f2, f3⟩ := keys_ts h2 e2
    exact ⟨(v, d, i) :: ts, by rw [List.map_cons, f1], by rw [List.map_cons, f2], fun t ht => by
      rcases List.mem_cons.mp ht with rfl | ht
      · exact ⟨h1, e1⟩
      · exact f3 t ht⟩
theorem rpa_map : ∀ {ts : List T3}, (∀ t ∈ ts, Rp K F t.1 t.2.1) → RpA K F (ts.map (·.1)) ((ts.map (·.2)).map (·.1))
  | [], _ => .nil
  | t :: ts, h => .cons (h t List.mem_cons_self) (rpa_map fun x hx => h x (List.mem_cons_of_mem _ hx))
theorem srt_ts (ts : List T3) : ((ts.mergeSort (leK fun b : T3 => b.2.2)).map (·.2)) = sortK (ts.map (·.2)) := by
  rw [sortK_eq]
  exact List.map_mergeSort fun a _ b _ => rfl
/-- sorted by keys of which KV tells -/
theorem ss_sortL {te : TE} {fe : Fm → Option D} {key : Fm → D → Option Int} {KV : L2.St → Hp → V → Int → Prop} (h : SP K te fe)
    (hk : ∀ F H σ ρ F1 v d i, Rel K F H σ ρ → Ex F F1 → Rp K F1 v d → key ρ d = some i → KV σ F1 v i) : SP K (tSortL K te KV) (fSortK key fe) := by
  intro F H σ ρ d hf hR Q k
  obtain ⟨dx, e1, hf⟩ := Option.bind_eq_some_iff.mp hf
  cases dx with
  | list ds =>
    have hf : (if ds.length ≤ bigN then (keysK (key ρ) ds).map fun r => PyData.list ((sortK r).map (·.1)) else none) = some d := hf
    split at hf
    · rename_i hz
      obtain ⟨r, e2, rfl⟩ := Option.map_eq_some_iff.mp hf
      refine h F H σ ρ _ e1 hR _ fun v F1 H1 g1 r1 => ?_
      cases r1 with
      | lst hs ra =>
        rename_i a xs
        obtain ⟨ts, f1, f2, f3⟩ := keys_ts ra e2
        refine ⟨F1, a, ts, rfl, g1.in_, (hR.gr g1).tab, by rw [f1]; exact g1.in_.sql hs, ?_, fun t ht => hk F H σ ρ F1 _ _ _ hR g1.ex (f3 t ht).1 (f3 t ht).2, fun F2 H2 p g hp => ?_⟩
        · have := congrArg List.length f1
          rw [List.length_map, ra.length] at this
          omega
        · refine (k.gr (g1.trans g)).lst g.in_ ?_ p hp
          rw [← f2, ← srt_ts]
          exact (rpa_map fun t ht => (f3 t (List.mem_mergeSort.mp ht)).1).mono g.ex
    · cases hf
  | _ => cases hf
theorem rpa_at {xs : List V} {ds : List D} {i : Int} {d : D} (r : RpA K F xs ds) (h : atI ds i = some d) : ∃ v, atI xs i = some v ∧ Rp K F v d := by
  unfold atI at h ⊢
  obtain ⟨j, h1, h2⟩ := Option.bind_eq_some_iff.mp h
  rw [r.length, h1, Option.bind_some]
  exact r.get h2
theorem kv_ix {c : Int} : ∀ F H σ ρ F1 v d i, Rel K F H σ ρ → Ex F F1 → Rp K F1 v d → kIx c ρ d = some i → KV1 c σ F1 v i := by
  intro F H σ ρ F1 v d i hR ex r h
  cases d with
  | tuple ts =>
    cases r with
    | tup hz ra =>
      have h : (match atI ts c with | some (.int i) => some i | _ => none) = some i := h
      split at h
      · rename_i i' e
        cases h
        obtain ⟨w, h1, h2⟩ := rpa_at ra e
        have := h2.intI
        subst this
        exact ⟨_, _, rfl, hz, h1⟩
      · cases h
  | _ => cases h
theorem kv_dx {j : Nat} : ∀ F H σ ρ F1 v d i, Rel K F H σ ρ → Ex F F1 → Rp K F1 v d → kDx j ρ d = some i → KV2 K j σ F1 v i := by
  intro F H σ ρ F1 v d i hR ex r h
  unfold kDx at h
  split at h
  · rename_i ds e
    split at h
    · rename_i i' e2
      cases h
      obtain ⟨w, h1, h2⟩ := hR.at_ j _ e
      obtain ⟨p, rfl⟩ : ∃ p, w = .ref p := by
        cases h2 with
        | dk _ _ _ => exact ⟨_, rfl⟩
        | dn _ _ => exact ⟨_, rfl⟩
      exact ⟨p, ds, d, h1, h2.mono ex, r, e2⟩
    · cases h
  · cases h
end
section
variable {X : Cx}
/-- what the context has: the maker's table -/
structure LamT (X : Cx) : Prop where
  ok : ∃ c P : Addr, LamX.TabB X.base X.mg c P ∧ X.env.code = .ref c ∧ (P, X.env.qual ++ "<lambda>") ∈ TabT.T ∧ ∀ p ∈ TabT.T, p.1 = P → p.2 = X.env.qual ++ "<lambda>"
/-- sorted(e, key=lambda p: p[c]) -/
theorem d_sortIx {n : Nat} {c : Int} {jc : Nat} {p : Str} {e : Expr} {fe : Fm → Option D} {params : Arguments} {scope : Scope} {p1 p2 p3 p4 lpos kpos pos : Pos} (hr : Room (n + 5) X.A) (B : Bt X.mg) (T : LamT X) (he : PP X e fe) (hdef : defaultsOf params X.env = ([], [])) (L : LamK X.env.scope scope p)
    (hbind : ∀ (q : Str) (cl : List (Str × Addr)) (pm cv ctv u : Value), bindArgs (PySem.W.kla_fn "<lambda>" q params (.Subscript (.Name p p1) (.Constant (.int c) jc p2) p3) scope cl pm cv ctv) ⟨[u], []⟩ = pure [(p, u)])
    (hd : (p == ("__debug__" : Str)) = false := by decide) (hg : Gl X "sorted" := by rfl) (hs0 : starEach [e] X.env = (false, eval e X.env) :: starEach [] X.env := by rfl) (hst : backTo pos (starEach [e] X.env) = (false, eval e X.env) :: backTo pos (starEach [] X.env) := by rfl) (hpl : (backTo pos (starEach [e] X.env)).any (·.1) = false := by rfl) :
    PP X (.Call (.Name "sorted" p4) [e] [⟨some "key", .Lambda params (.Subscript (.Name p p1) (.Constant (.int c) jc p2) p3) scope lpos, kpos⟩] pos) (fSortK (kIx c) fe) := by
  obtain ⟨te, h1, h2⟩ := he
  obtain ⟨cc, P, t1, t2, t3, t4⟩ := T.ok
  exact ⟨_, pe_sortL hr B h1 t1 t2 t3 t4 hdef L hbind (key_ix L hd) kv1_mono hg hs0 hst hpl, ss_sortL h2 kv_ix⟩
/-- sorted(e, key=lambda p: d[p]) -/
theorem d_sortDx {n j : Nat} {p d : Str} {e : Expr} {fe : Fm → Option D} {params : Arguments} {scope : Scope} {p1 p2 p3 p4 lpos kpos pos : Pos} (hr : Room (n + 5) X.A) (B : Bt X.mg) (T : LamT X) (he : PP X e fe) (hdef : defaultsOf params X.env = ([], [])) (L : LamK X.env.scope scope p)
    (hbind : ∀ (q : Str) (cl : List (Str × Addr)) (pm cv ctv u : Value), bindArgs (PySem.W.kla_fn "<lambda>" q params (.Subscript (.Name d p1) (.Name p p2) p3) scope cl pm cv ctv) ⟨[u], []⟩ = pure [(p, u)])
    (hN : X.N[j]? = some d := by rfl) (hc : X.env.scope.names.lookup d = some .cell := by rfl) (hf : scope.names.lookup d = some .free := by rfl)
    (hd : (p == ("__debug__" : Str)) = false := by decide) (hd2 : (d == ("__debug__" : Str)) = false := by decide) (hcd : (d == ("__classdict__" : Str)) = false := by decide) (hg : Gl X "sorted" := by rfl) (hs0 : starEach [e] X.env = (false, eval e X.env) :: starEach [] X.env := by rfl) (hst : backTo pos (starEach [e] X.env) = (false, eval e X.env) :: backTo pos (starEach [] X.env) := by rfl) (hpl : (backTo pos (starEach [e] X.env)).any (·.1) = false := by rfl) (hW : WH X.w := by assumption) :
    PP X (.Call (.Name "sorted" p4) [e] [⟨some "key", .Lambda params (.Subscript (.Name d p1) (.Name p p2) p3) scope lpos, kpos⟩] pos) (fSortK (kDx j) fe) := by
  obtain ⟨te, h1, h2⟩ := he
  obtain ⟨cc, P, t1, t2, t3, t4⟩ := T.ok
  exact ⟨_, pe_sortL hr B h1 t1 t2 t3 t4 hdef L hbind (key_dx L hN hc hf hd hd2 hcd) kv2_mono hg hs0 hst hpl, ss_sortL h2 kv_dx⟩
end
end DL
end
section
set_option Elab.async false
set_option linter.all false
set_option maxRecDepth 100000
/-! Defs that make a lambda; the law's head with tables. -/
namespace DL
open PySem PySem.Spec PyProof.Rows L2
section
variable [TabT] [FnT]
/-- the def at f makes lambdas of the name q alone, its table is known of -/
def LamF (K : PySem.W.Frag) (mg : Str → Option Value) (base : Heap) (f : Addr) (q : Str) : Prop := ∀ (oc : Value) (od : Option Addr) (fd : FuncData) (osl : Array (Option Value)), K.lookup f = some ⟨oc, od, .func fd, osl⟩ → ∃ c P : Addr, fd.code = .ref c ∧ LamX.TabB base mg c P ∧ (P, q) ∈ TabT.T ∧ ∀ p ∈ TabT.T, p.1 = P → p.2 = q
variable {P : Program} {w : World} {K : PySem.W.Frag} {mg : Str → Option Value} {base : Heap}
/-- THE RULE for a def of data that makes lambdas -/
theorem def_PL {x qual : Str} {st : Stmt} {f : Addr} {fd : FuncData} {N ps : List Str} {k n : Nat} {sf : Fm → Option (Fl × Fm)} (Fn : Fun K x qual st f fd) (S : FnScope N ps (defScope st)) (hn : ps.length = n) (hL : LamF K mg base f (qual ++ ".<locals>." ++ "<lambda>"))
    (hbody : ∀ (cdv : Value) (A : Around) (outer : List Env) (s : Shared) (H : Hp) (E : XK), LamT (cxOf CX0 P w K mg base N qual (defScope st) f cdv A outer s H E).nox → Room k (A.deeper (envOfC qual (defScope st) s.heap.objs.size f cdv)) → PBl (cxOf CX0 P w K mg base N qual (defScope st) f cdv A outer s H E).nox (defBody st) sf) :
    FnOk P w K mg base CX0 (k + 1) f fd ps (spP K (runP N.length sf) n) := by
  obtain ⟨oc, od, kV, doc, pm, an, cdv, ct, osl, rfl, lk, hcd⟩ := Fn.ex
  obtain ⟨c, Pt, l1, l2, l3, l4⟩ := hL _ _ _ _ lk
  refine fn_of lk hcd S (fun vs H Q E h => h.1.trans hn.symm) fun A outer s H vs Q E hr h => ?_
  obtain ⟨hl, F, ds, d, ex, r, hg, q⟩ := h
  obtain ⟨t, h1, h2⟩ := hbody cdv A outer s H E ⟨c, Pt, l2, l1, l3, l4⟩ hr
  refine ⟨t, h1.nox, ?_⟩
  obtain ⟨⟨fl, ρ'⟩, e1, e2⟩ := Option.bind_eq_some_iff.mp hg
  have done : ∀ v σ' F' H', Go K F H (L2.start N vs) (startB N.length ds) F' H' σ' ρ' → Rp K F' v d → Q v H' := fun v σ' F' H' g r' =>
    q v F' H' ⟨g.ex, g.rel.ex, fun a o e t => g.keep a o e t no_own, fun a e f => g.hide a e f no_own, g.live, fun _ => g.rel.tab⟩ r'
  refine h2 F H (L2.start N vs) (startB N.length ds) fl ρ' e1 (rel_start N ex r) _ (fun z σ' F' H' g => ?_) (fun z σ' F' H' g => ?_) fun d' z v σ' F' H' g r' => ?_
  · subst z
    cases e2
    exact done _ σ' F' H' g .non
  · subst z
    cases e2
  · subst z
    cases e2
    exact done _ σ' F' H' g r'
/-- from where the def stands -/
theorem lamF_of {h : Heap} {x : Str} {f c Pt : Addr} {q : Str} (X : K.In h) (G : h.Ns mainGlobals mg) (ht : PySem.W.tabIn K x = some (c, Pt)) (hm : mg x = some (.ref f)) (TB : LamX.TabB base mg c Pt) (hmT : (Pt, q) ∈ TabT.T) (hu : ∀ p ∈ TabT.T, p.1 = Pt → p.2 = q) : LamF K mg base f q := by
  intro oc od fd osl lk
  unfold PySem.W.tabIn at ht
  split at ht
  · rename_i f' hf
    have e1 := PySem.W.mg_of X G hf
    rw [hm] at e1
    cases e1
    rw [lk] at ht
    simp only at ht
    split at ht
    · rename_i c2 hc
      split at ht
      · split at ht
        · cases ht
          exact ⟨_, _, hc, TB, hmT, hu⟩
        · cases ht
      · cases ht
    · cases ht
  · cases ht
theorem lamF_of2 {h : Heap} {x : Str} {f f' c Pt : Addr} {q : Str} {oc : Value} {od : Option Addr} {osl : Array (Option Value)} {fd : FuncData} (X : K.In h) (G : h.Ns mainGlobals mg) (ta : PySem.W.nsIn K mainGlobals x = some (some (.ref f'))) (hm : mg x = some (.ref f)) (tl : K.lookup f' = some ⟨oc, od, .func fd, osl⟩) (tc : fd.code = .ref c) (TB : LamX.TabB base mg c Pt) (hmT : (Pt, q) ∈ TabT.T) (hu : ∀ p ∈ TabT.T, p.1 = Pt → p.2 = q) : LamF K mg base f q := by
  intro oc' od' fd' osl' lk
  have e1 := PySem.W.mg_of X G ta
  rw [hm] at e1
  cases e1
  rw [lk] at tl
  cases tl
  exact ⟨_, _, tc, TB, hmT, hu⟩
end
/-- no function values are known of -/
instance (priority := low) fnNone : FnT := ⟨fun _ _ _ _ => False, fun _ h => h⟩
def lamKB (sc scope : Scope) (p : Str) : Bool :=
  decide (scope.kind = .function) && !scope.isCoroutine && !scope.isGenerator && decide (scope.names.lookup p = some .local) && scope.names.all fun y => !decide (y.2 = .cell) && (!decide (y.2 = .free) || decide (sc.names.lookup y.1 = some .cell) || decide (sc.names.lookup y.1 = some .free))
theorem lamK_by {sc scope : Scope} {p : Str} (h : lamKB sc scope p = true) : LamK sc scope p := by
  unfold lamKB at h
  simp only [Bool.and_eq_true, Bool.or_eq_true, Bool.not_eq_true', decide_eq_true_eq, decide_eq_false_iff_not, List.all_eq_true] at h
  obtain ⟨⟨⟨⟨h1, h2⟩, h3⟩, h4⟩, h5⟩ := h
  refine ⟨h1, h2, h3, fun y hy => (h5 y hy).1, h4, fun y hy e => ?_⟩
  rcases (h5 y hy).2 with (z | z) | z
  · exact absurd e z
  · exact .inl z
  · exact .inr z
abbrev tabsT (w : World) (ts : List (Addr × Addr × Str)) : TabT := ⟨ts.map fun t => (t.2.1, t.2.2), w.params.strHash⟩
theorem wh_tabs (w : World) (ts : List (Addr × Addr × Str)) : @WH (tabsT w ts) w := @WH.mk (tabsT w ts) w rfl
/-- the law's promise, the tables of ts (code object, table, name) known -/
theorem law_tabs {l : PySem.W.OpenLaw} {w : World} {K : PySem.W.Frag} {k n : Nat} {x : Str} {mg : Str → Option Value} {fa : Addr} {h : Heap} {fd : FuncData} {g : List D → Option D} (ts : List (Addr × Addr × Str)) (tb : ∀ t ∈ ts, PySem.W.CodeHd h t.1 t.2.1 ∧ h.get? t.2.1 = some (PySem.W.tabObj #[])) (pn : ∀ t ∈ ts, K.lookup t.2.1 = none)
    (hb : ∀ (s : Shared) (u : Value), BindsTo s fd ⟨[u], []⟩ [(x, u)]) (hg : ∀ ns : List Int, ns.length ≤ n → g [.list (ns.map .int)] = some (.bool true))
    (ok : ∀ base : Heap, (∀ t ∈ ts, LamX.TabB base mg t.1 t.2.1) → FnOk l.prog w K mg base CX0 k fa fd [x] (@spP (tabsT w ts) K g 1)) : LamX.LawAtS l w K CX0 k n x mg fa h := by
  letI : TabT := tabsT w ts
  have mem : ∀ p ∈ ts.map (fun t => (t.1, t.2.1)), ∃ t ∈ ts, (t.1, t.2.1) = p := fun p hp => List.mem_map.mp hp
  refine ⟨fd, ts.map fun t => (t.1, t.2.1), spP K g 1, fun p hp => ?_, fun p hp => ?_, fun p hp => ?_, hb, fun H a ns hl _ hT hS => sp_law hg H a ns hl hS fun p hp => ?_, fun base _ _ hTB => ok base fun t ht => hTB _ (List.mem_map.mpr ⟨t, ht, rfl⟩)⟩
  · obtain ⟨t, ht, rfl⟩ := mem p hp
    exact (tb t ht).2
  · obtain ⟨t, ht, rfl⟩ := mem p hp
    exact pn t ht
  · obtain ⟨t, ht, rfl⟩ := mem p hp
    exact (tb t ht).1
  · obtain ⟨t, ht, rfl⟩ := List.mem_map.mp hp
    exact hT _ (List.mem_map.mpr ⟨t, ht, rfl⟩)
theorem tabs_in {w : World} {ts : List (Addr × Addr × Str)} {c P : Addr} {q : Str} (h : (c, P, q) ∈ ts) : (P, q) ∈ (tabsT w ts).T := List.mem_map.mpr ⟨_, h, rfl⟩
theorem tabs_one {w : World} {ts : List (Addr × Addr × Str)} {c P : Addr} {q : Str} (h : ∀ t ∈ ts, t = (c, P, q) ∨ t.2.1 ≠ P) : ∀ p ∈ (tabsT w ts).T, p.1 = P → p.2 = q := fun p hp e => by
  obtain ⟨t, ht, rfl⟩ := List.mem_map.mp hp
  rcases h t ht with rfl | z
  · rfl
  · exact absurd e z
/-- the head, by what is known of the tables at the start -/
theorem walk_ofTb {l : PySem.W.OpenLaw} {n k : Nat} {q : Program} {loose : List Str} {XP : (Str → Option Value) → Heap → Prop} {YP : World → Heap → Prop} {d : DefRec} {K : Params → PySem.W.Frag} {x : Str}
    (hn : l.most = some n) (hn2 : n ≤ sizeLine) (hdf : d.params.defaults = []) (hr : Room k callerA) (hY : ∀ (w : World) (h : Heap), YP w h → (K w.params).In h)
    (F : ∀ (w : World) (mg : Str → Option Value) (fa : Addr) (h : Heap), (K w.params).In h → h.Ns mainGlobals mg → mg d.name = some (.ref fa) →
      (∀ (dr : DefRec) (y : Str) (c P : Addr), (PyProof.Rows.recsOf q).find? (fun e => e.name == y) = some dr → PySem.W.tabIn (K w.params) y = some (c, P) → PySem.W.CodeHd h c P ∧ h.get? P = some (PySem.W.tabObj #[])) → LamX.LawAtS l w (K w.params) CX0 k n x mg fa h) :
    PySem.W.WalkO q loose XP YP l.row.toRowW d [] (fun f vs => PySem.call f vs) := by
  refine Att.attach_callB hn hdf fun w s₀ s₁ mg mb fa o pm cd doc a vs ns G Y ho hd hcd hmg hobj hints hlen hbits hg => ?_
  have KX := hY w _ Y
  obtain ⟨fd, cs, sp, hT, nT, C, hb, hsp, hF⟩ := F w mg fa _ KX G.T.g hmg fun dr y c P h1 h2 => PySem.W.tab_of G.T KX h1 h2
  exact LamX.law_callTs KX G.T.g G.T.b G.T.builtins G.T.nolimit hg hT nT C G.T.bmain hobj hints (Nat.le_trans hlen hn2) hr hF hb (fun H hH hS => hsp H a ns hlen hbits hH hS) fun H e s' h => h
end DL
end
section
set_option Elab.async false
set_option linter.all false
set_option maxRecDepth 100000
/-! index of a list of any data. -/
namespace DL
open PySem PySem.Spec PyProof.Rows L2
variable [TabT] [FnT]
def gIndexL : D → D → Option D
  | .list ds, y => if okD (.list ds) && okD y then (ds.findIdx? fun z => PyData.eqv z y).map (fun j : Nat => PyData.int (j : Int)) else none
  | _, _ => none
section
variable {X : Cx} {e o : Expr} {pos p p2 pos2 apos cpos : Pos} {fe fo : Fm → Option D}
theorem d_indexL {k : Nat} (hr : Room k X.A) (ho : PV X o fo) (ha : PV X e fe) (hbase : attributeBase o "index" X.env (eval o X.env) = eval o X.env := by rfl)
    (hfew : ((backTo cpos (starEach [e] X.env)).all (fun x => !x.1) && (backToKw cpos (keywordEach [] X.env)).all (fun x => x.1.isSome)
      && decide (([e] : List Expr).length + ([] : List Keyword).length + (if ([] : List Keyword).isEmpty then 0 else 1) < 30)) = true := by rfl)
    (hline : (apos.endLine == cpos.line) = true := by rfl) (hs : starEach [e] X.env = (false, eval e X.env) :: starEach [] X.env := by rfl) :
    PP X (.Call (.Attribute o "index" apos) [e] [] cpos) (fOp2 gIndexL fo fe) := by
  refine d_lmeth PySem.F.slot_list_index PySem.F.type_list_index (mt_indexD (by have := Room.u66 hr; omega)) (fun dx dy dz h => ?_) (fun F H x y dx dy dz ex vx vy h Q q => ?_) ho ha hbase hfew hline hs
  · unfold gIndexL at h
    split at h
    · exact ⟨_, rfl⟩
    · cases h
  · unfold gIndexL at h
    split at h
    · split at h
      · rename_i ds hc
        simp only [Bool.and_eq_true] at hc
        obtain ⟨j, hj, rfl⟩ := Option.map_eq_some_iff.mp h
        obtain ⟨a, xs, e1, s1, rl⟩ := vx.list ex
        subst e1
        obtain ⟨hjl, hj1, hj2⟩ := List.findIdx?_eq_some_iff_getElem.mp hj
        refine ⟨a, y, _, ds, j, ds[j], rfl, rfl, (vx.rp ex (nd_ok hc.1)).dp (nd_ok hc.1), (vy.rp ex (nd_ok hc.2)).dp (nd_ok hc.2), hc.1, hc.2, List.getElem?_eq_getElem hjl, hj1, fun m z' hm hz => ?_, q.sc ex fun _ => .int _⟩
        obtain ⟨hml, rfl⟩ := List.getElem?_eq_some_iff.mp hz
        have := hj2 m hm
        simpa using this
      · cases h
    · cases h
end
end DL
end
section
set_option Elab.async false
set_option linter.all false
set_option maxRecDepth 100000
/-! Lambdas handed to a def: the lambda's own frame, the call of a function value. -/
namespace DL
open PySem PySem.Spec PyProof.Rows L2
variable [TabT] [FnT]
/-- parameters, captured names and globals -/
structure LamP (sc scope : Scope) (ps cs : List Str) : Prop where
  kind : scope.kind = .function
  co : scope.isCoroutine = false
  gen : scope.isGenerator = false
  nocell : ∀ y ∈ scope.names, y.2 ≠ .cell
  par : ∀ p ∈ ps, scope.names.lookup p = some .local
  nd : ps.Nodup
  cap : ∀ y ∈ cs, scope.names.lookup y = some .free
  free : ∀ y ∈ scope.names, y.2 = .free → sc.names.lookup y.1 = some .cell ∨ sc.names.lookup y.1 = some .free
/-- the context of the lambda's body -/
def lamCxN (X : Cx) (A : Around) (outer : List Env) (s : Shared) (H : Hp) (scope : Scope) (f c' : Addr) (N : List Str) : Cx where
  prog := X.prog
  w := X.w
  K := X.K
  mg := X.mg
  base := X.base
  A := A.deeper (LamX.lamEnv X scope s.heap.objs.size f c')
  N := N
  s_0 := s
  H_0 := H
  env := LamX.lamEnv X scope s.heap.objs.size f c'
  outer := outer
  stack := LamX.lamEnv X scope s.heap.objs.size f c' :: outer
  ex := []
  fn := fun _ => false
  calm := true
  pn := []
  xe := fun _ _ => False
omit [TabT] [FnT] in
theorem lookup_one {y : Str} {u : Value} : ∀ {l : List (Str × Value)}, (l.map (·.1)).Nodup → (y, u) ∈ l → l.lookup y = some u
  | (z, v) :: l, hn, h => by
    obtain ⟨n1, n2⟩ := List.nodup_cons.mp hn
    rw [List.lookup_cons]
    rcases List.mem_cons.mp h with e | h
    · cases e
      rw [beq_self_eq_true]
    · have hne : y ≠ z := fun e => n1 (List.mem_map.mpr ⟨_, h, e⟩)
      rw [show (y == z) = false from by simpa using hne]
      exact lookup_one n2 h
omit [TabT] [FnT] in
theorem zip_keys {ps : List Str} {us : List Value} (h : us.length = ps.length) : (ps.zip us).map (·.1) = ps := by
  rw [List.map_fst_zip (by omega)]
section
variable {X : Cx} {pins : List (Addr × Obj)} {σ : L2.St} {H HZ : Hp} {s s1 : Shared}
theorem lam_startN {A : Around} {outer : List Env} {scope : Scope} {f c' : Addr} {h₁ : Heap} {tk : Nat} {ps cs : List Str} {js : List Nat} {us : List Value} {vs ws : List V} (I : Inv X pins σ H s) (L : LamP X.env.scope scope ps cs) (e0 : Env0 X.prog X.w X.K X.mg X.base A outer s1 HZ) (hd : A.handled = none)
    (un : Un (frs X.stack) [] H HZ s.heap s1.heap) (r : Vals vs us) (hl : vs.length = ps.length) (hns : h₁.Ns s1.heap.objs.size fun y => (ps.zip us).reverse.lookup y) (kp : ∀ b o, s1.heap.get? b = some o → h₁.get? b = some o)
    (hw : ws.length = cs.length) (hj : js.length = cs.length) (hc : ∀ (i j : Nat) (y : Str), js[i]? = some j → cs[i]? = some y → X.N[j]? = some y) (hs : ∀ (i j : Nat) (v : V), js[i]? = some j → ws[i]? = some v → σ[j]? = some (some v)) :
    Inv (lamCxN X A outer s1 HZ scope f c' (ps ++ cs)) [] ((vs ++ ws).map some) HZ { s1 with heap := h₁, toks := tk } := by
  have hfree : ∀ y ∈ scope.names, y.2 = .free → ∃ c, X.env.cells.lookup y.1 = some c := fun y hy e => by
    rcases L.free y hy e with k | k
    · exact I.ok.has _ (.inl k)
    · exact I.ok.has _ (.inr k)
  have cm : ∀ {y c}, (cloFrom X.env.cells scope.names []).lookup y = some c → X.env.cells.lookup y = some c := fun {y c} e => by
    rcases cloFrom_mem (PySem.mem_of_lookup e) with hm | ⟨h1, h2⟩
    · cases hm
    · obtain ⟨c1, hc⟩ := hfree _ h1 rfl
      have hc : X.env.cells.lookup y = some c1 := hc
      have e2 : c = c1 := by
        rw [h2, hc] <;> rfl
      rw [e2]
      exact hc
  have look : ∀ {y}, scope.names.lookup y = some .free → ∃ c, (cloFrom X.env.cells scope.names []).lookup y = some c := fun {y} hl => by
    have hy : (y, NameKind.free) ∈ scope.names := PySem.mem_of_lookup hl
    exact mem_lookup (cloFrom_has (cells := X.env.cells) (acc := []) hy)
  have cellK : ∀ {c : Addr} {v : Option Value}, H c = none → s.heap.IsCell c v → h₁.IsCell c v := fun {c v} n ⟨o, ho, hd⟩ => by
    obtain ⟨sl, q⟩ := un.any ho n (by simp)
    exact ⟨_, kp _ _ q, hd⟩
  have noA : ∀ b : Addr, b ∉ (lamCxN X A outer s1 HZ scope f c' (ps ++ cs)).ex := fun b z => absurd (show b ∈ ([] : List Addr) from z) (by simp)
  have hul : us.length = ps.length := by rw [← hl]; exact r.length.symm
  refine ⟨⟨e0.mod, L.kind, rfl, rfl, Nat.le_refl _, fun y z c e1 e2 => I.ok.inj y z c (cm e1) (cm e2), fun y hy => ?_, fun y c z _ => ?_, fun _ => hd, Around.frames_deeper e0.frames, .inr ⟨rfl, rfl⟩, fun b z => absurd z (noA b), e0.bs, e0.bsz, fun b _ _ => noA b,
      fun b z => absurd z (noA b), e0.funs, e0.frf⟩,
    rfl, e0.bare, Un.kept kp, ⟨_, hns, fun i y v e1 e2 e3 => ?_⟩, fun y c e => ?_, e0.hok.fresh (Nat.le_refl _), fun y c e => ?_, fun q hq => absurd (show q ∈ ([] : List (Addr × Obj)) ++ [] from hq) (by simp), e0.hok.kept kp, ?_⟩
  · have hy : scope.names.lookup y = some .cell ∨ scope.names.lookup y = some .free := hy
    rcases hy with hy | hy
    · exact absurd rfl (L.nocell _ (PySem.mem_of_lookup hy))
    · exact look hy
  · have z : false = true := z
    cases z
  · have e1 : (ps ++ cs)[i]? = some y := e1
    have e2 : (vs ++ ws)[i]? = some v := by
      rw [List.getElem?_map] at e2
      obtain ⟨v', h1, h2⟩ := Option.map_eq_some_iff.mp e2
      cases h2
      exact h1
    by_cases hi : i < ps.length
    · rw [List.getElem?_append_left hi] at e1
      rw [List.getElem?_append_left (by omega)] at e2
      obtain ⟨u, hu, rv⟩ := r.get e2
      refine ⟨u, rv, .inl ⟨L.par y (List.mem_of_getElem? e1), ?_⟩⟩
      refine lookup_one ?_ (List.mem_reverse.mpr (List.mem_of_getElem? (i := i) ?_))
      · rw [List.map_reverse, zip_keys hul]
        exact (List.reverse_perm _).nodup_iff.mpr L.nd
      · rw [List.getElem?_zip_eq_some]
        exact ⟨e1, hu⟩
    · rw [List.getElem?_append_right (by omega)] at e1
      rw [List.getElem?_append_right (by omega), hl] at e2
      have k := L.cap y (List.mem_of_getElem? e1)
      have hlt : i - ps.length < js.length := by
        have := (List.getElem?_eq_some_iff.mp e1).1
        omega
      have ej := List.getElem?_eq_getElem hlt
      have n1 := hc _ _ _ ej e1
      have n2 := hs _ _ _ ej e2
      obtain ⟨m, hn, hlk⟩ := I.loc
      have hvis : Vis X.env.scope y := (L.free _ (PySem.mem_of_lookup k) rfl).elim (fun k => .inr (.inl k)) (fun k => .inr (.inr k))
      obtain ⟨w', rw', q⟩ := hlk _ y v n1 n2 hvis
      obtain ⟨c2, h2⟩ := look k
      refine ⟨w', rw', .inr ⟨.inr k, c2, h2, ?_⟩⟩
      have c1 := cm h2
      rcases q with ⟨k', _⟩ | ⟨_, c3, e', z⟩
      · have k' : X.env.scope.names.lookup y = some .local := k'
        rcases L.free _ (PySem.mem_of_lookup k) rfl with k2 | k2 <;> rw [show X.env.scope.names.lookup y = _ from k2] at k' <;> cases k'
      · rw [c1] at e'
        cases e'
        exact cellK (I.freeC y _ c1) z
  · obtain ⟨w', z⟩ := I.cell y c (cm e)
    exact ⟨w', cellK (I.freeC y c (cm e)) z⟩
  · obtain ⟨v, o, ho, hd⟩ := I.cell y c (cm e)
    exact un.free c o ho (I.freeC y c (cm e)) (by simp)
  · show ((vs ++ ws).map some).length = (ps ++ cs).length
    rw [List.length_map, List.length_append, List.length_append, hl, hw]
end
/-! ### function values -/
/-- what a context may do with function values of n parameters -/
structure CallOk (Z : Cx) (n : Nat) : Prop where
  at_ : ∀ (pins : List (Addr × Obj)) (σ : L2.St) (s : Shared) (F H : Hp) (a : Addr) (w : List D → Option D), Inv Z pins σ H s → Ex F H → FnT.ok Z.K F a w → PySem.W.FnAt a s.heap
  run : ∀ (pins : List (Addr × Obj)) (σ : L2.St) (s : Shared) (F H : Hp) (a : Addr) (w : List D → Option D) (vs : List V) (us : List Value) (ds : List D) (d : D) (Q : VK), Inv Z pins σ H s → FnT.ok Z.K F a w → Ex F H → TbOk F H → RpA Z.K F vs ds → Vals vs us → vs.length = n → w ds = some d → Res Z.K F H d Q →
    wpAny (model Z.prog Z.w) Z.A (call (.ref a) us) (EP Z pins σ Q) Z.xe s
/-- slot i's function of data -/
def fCallV (i : Nat) (fs : Fm → Option (List D)) (ρ : Fm) : Option D := match ρ[i]? with
  | some (.fn w) => (fs ρ).bind w
  | _ => none
section
variable {X : Cx} {e : Expr} {es : List Expr} {pos p : Pos} {fs : Fm → Option (List D)}
/-- x(e, ..): x holds a function value -/
theorem d_callV {n i : Nat} {x : Str} (C : CallOk X n) (ha : PAs X (e :: es) fs) (hN : X.N[i]? = some x := by rfl) (hv : Vis X.env.scope x := by first | exact .inl rfl | exact .inr (.inl rfl) | exact .inr (.inr rfl)) (hn : n = (e :: es).length := by rfl) (hdb : (x == ("__debug__" : Str)) = false := by decide) (hcd : (x == ("__classdict__" : Str)) = false := by decide)
    (he : starEach (e :: es) X.env = (false, eval e X.env) :: starEach es X.env := by rfl) (hpl : (backTo pos (starEach es X.env)).any (·.1) = false := by rfl) : PP X (.Call (.Name x p) (e :: es) [] pos) (fCallV i fs) := by
  obtain ⟨t, h1, h2, h3⟩ := ha
  refine ⟨fun σ H Q => ∃ (F : Hp) (a : Addr) (w : List D → Option D) (ds : List D) (d : D), σ[i]? = some (some (.ref a)) ∧ Ex F H ∧ FnT.ok X.K F a w ∧ w ds = some d ∧ ds.length = (e :: es).length ∧ t σ H fun vs H1 => ∃ F1, Ex F F1 ∧ Ex F1 H1 ∧ TbOk F1 H1 ∧ RpA X.K F1 vs ds ∧ Res X.K F1 H1 d Q, ⟨fun pins s σ H Q I h => ?_⟩, fun F H σ ρ d hf hR Q q => ?_⟩
  · obtain ⟨F, a, w, ds, d, hs, ex, hk, hw, hl, ht⟩ := h
    refine wpAny_Call_Name_kw (thn ((pe_var (pos := p) (i := i) hN hv hdb hcd).run pins s σ H (fun v H1 => v = .ref a ∧ H1 = H) I ⟨.ref a, hs, rfl, rfl⟩) fun u s1 ⟨v, H1, I1, r1, q1⟩ => ?_)
    obtain ⟨ev, eH⟩ := q1
    subst ev
    rw [eH] at I1
    obtain rfl : u = Value.ref a := r1
    refine PySem.W.callWith_F (first := []) (C.at_ _ _ _ _ _ _ _ I1 ex hk) (thn (h1.run pos pins s1 σ H _ I1 ht) fun us s2 ⟨vs, H2, I2, r, F1, e1, e2, tb, ra, q⟩ => ?_) he hpl
    have hk2 := FnT.mono e1 hk
    exact ⟨C.at_ _ _ _ _ _ _ _ I2 e2 hk2, C.run pins σ s2 F1 H2 a w vs us ds d Q I2 hk2 e2 tb ra r (by rw [ra.length, hl, hn]) hw q⟩
  · unfold fCallV at hf
    cases hi : ρ[i]? with
    | none => rw [hi] at hf; cases hf
    | some b =>
      rw [hi] at hf
      cases b with
      | fn w =>
        obtain ⟨ds, e1, e2⟩ := Option.bind_eq_some_iff.mp hf
        obtain ⟨a, hs, hk⟩ := hR.at_ i _ hi
        exact ⟨F, a, w, ds, d, hs, hR.ex, hk, e2, h3 _ _ e1, h2 F H σ ρ _ e1 hR _ fun vs F1 H1 g1 r1 => ⟨F1, g1.ex, g1.in_, (hR.gr g1).tab, r1, q.gr g1⟩⟩
      | _ => cases hf
end
/-! ### a def that is handed one -/
def startF (n : Nat) (w : List D → Option D) (ds : List D) : Fm := ds.map .sh ++ .fn w :: List.replicate (n - ds.length - 1) .no
/-- what a def of data answers whose last argument is a function -/
def runPF (n : Nat) (f : Fm → Option (Fl × Fm)) (w : List D → Option D) (ds : List D) : Option D := (f (startF n w ds)).bind fun x => match x.1 with
  | .rt d => some d
  | .nx => some .none
  | .bk => none
section
variable {K : PySem.W.Frag}
theorem startF_get {n : Nat} {w : List D → Option D} {ds : List D} (i : Nat) (b : B) (h : (startF n w ds)[i]? = some b) : b = .no ∨ (∃ d, ds[i]? = some d ∧ b = .sh d) ∨ (i = ds.length ∧ b = .fn w) := by
  unfold startF at h
  by_cases hi : i < ds.length
  · rw [List.getElem?_append_left (by rw [List.length_map]; exact hi), List.getElem?_map] at h
    obtain ⟨d, h1, h2⟩ := Option.map_eq_some_iff.mp h
    exact .inr (.inl ⟨d, h1, h2.symm⟩)
  · rw [List.getElem?_append_right (by rw [List.length_map]; omega), List.length_map] at h
    by_cases hz : i = ds.length
    · rw [hz, Nat.sub_self] at h
      exact .inr (.inr ⟨hz, (Option.some.inj h).symm⟩)
    · rw [show i - ds.length = (i - ds.length - 1) + 1 by omega, List.getElem?_cons_succ, List.getElem?_replicate] at h
      split at h
      · exact .inl (Option.some.inj h).symm
      · cases h
theorem rel_startF {F H : Hp} {vs : List V} {ds : List D} {a : Addr} {w : List D → Option D} (N : List Str) (hN : ds.length < N.length) (e : ExB F H) (r : RpA K F vs ds) (hk : FnT.ok K F a w) : Rel K F H (L2.start N (vs ++ [.ref a])) (startF N.length w ds) := by
  have hvl := r.length
  refine ⟨e.1, ?_, fun i b h => ?_, fun i j b c a h1 o1 h2 o2 => ?_, e.2⟩
  · unfold L2.start startF
    simp only [List.length_append, List.length_map, List.length_cons, List.length_nil, List.length_replicate]
    omega
  · have lk : ∀ v, (vs ++ [V.ref a])[i]? = some v → (L2.start N (vs ++ [.ref a]))[i]? = some (some v) := fun v hv => by
      unfold L2.start
      rw [List.getElem?_append_left (by rw [List.length_map]; exact (List.getElem?_eq_some_iff.mp hv).1), List.getElem?_map, hv]
      rfl
    rcases startF_get i b h with rfl | ⟨d, h1, rfl⟩ | ⟨rfl, rfl⟩
    · trivial
    · obtain ⟨v, h2, h3⟩ := r.get h1
      exact ⟨v, lk v (by rw [List.getElem?_append_left (List.getElem?_eq_some_iff.mp h2).1]; exact h2), h3⟩
    · refine ⟨a, lk _ ?_, hk⟩
      rw [← hvl, List.getElem?_append_right (Nat.le_refl _), Nat.sub_self]
      rfl
  · rcases startF_get i b h1 with rfl | ⟨d, _, rfl⟩ | ⟨_, rfl⟩ <;> cases o1
theorem no_ownF {σ : L2.St} {n : Nat} {w : List D → Option D} {ds : List D} {a : Addr} : ¬ ownA σ (startF n w ds) a := fun ⟨i, b, h, o, _⟩ => by
  rcases startF_get i b h with rfl | ⟨d, _, rfl⟩ | ⟨_, rfl⟩ <;> cases o
end
end DL
end
section
set_option Elab.async false
set_option linter.all false
set_option maxRecDepth 100000
/-! x(e, .., lambda ..: ..): a def that is handed a lambda. -/
namespace DL
open PySem PySem.Spec PyProof.Rows L2
variable [TabT]
/-- the lambda at f, of the code object c', with what it captured -/
@[reducible] def fnLam (f c' : Addr) (q : Str) (ws : List V) (cds : List D) (w0 : List D → Option D) : FnT where
  ok := fun K F a w => a = f ∧ w = w0 ∧ F c' = some (LamX.CodeO c' q) ∧ RpA K F ws cds
  mono := fun e ⟨h1, h2, h3, h4⟩ => ⟨h1, h2, e _ _ h3, h4.mono e⟩
section
variable [FnT] {K : PySem.W.Frag} {F H : Hp}
theorem rel_all {vs : List V} {ds : List D} (e : ExB F H) (r : RpA K F vs ds) : Rel K F H (vs.map some) (ds.map .sh) := by
  have get : ∀ (i : Nat) (b : B), (ds.map B.sh)[i]? = some b → ∃ d, ds[i]? = some d ∧ b = .sh d := fun i b h => by
    rw [List.getElem?_map] at h
    obtain ⟨d, h1, h2⟩ := Option.map_eq_some_iff.mp h
    exact ⟨d, h1, h2.symm⟩
  refine ⟨e.1, by rw [List.length_map, List.length_map, r.length], fun i b h => ?_, fun i j b c a h1 o1 h2 o2 => ?_, e.2⟩
  · obtain ⟨d, h1, rfl⟩ := get i b h
    obtain ⟨v, h2, h3⟩ := r.get h1
    exact ⟨v, by rw [List.getElem?_map, h2]; rfl, h3⟩
  · obtain ⟨d, _, rfl⟩ := get i b h1
    cases o1
theorem rpa_app : ∀ {xs ys : List V} {ds es : List D}, RpA K F xs ds → RpA K F ys es → RpA K F (xs ++ ys) (ds ++ es)
  | _, _, _, _, .nil, h => h
  | _, _, _, _, .cons a b, h => .cons a (rpa_app b h)
end
section
variable [FnT] {X : Cx} {pins : List (Addr × Obj)} {σ : L2.St} {H : Hp} {s : Shared}
/-- the def that got the lambda may call it -/
theorem lam_ok {k : Nat} {Ng : List Str} {qg : Str} {sg : Scope} {g f c' : Addr} {cdg pm ctv : Value} {E : XK} {params : Arguments} {body : Expr} {scope : Scope} {ps cs : List Str} {js : List Nat} {ws : List V} {cds : List D} {fe : Fm → Option D}
    (I : Inv X pins σ H s) (L : LamP X.env.scope scope ps cs) (hf : s.heap.get? f = some (PySem.W.kla_obj "<lambda>" (X.env.qual ++ "<lambda>") params body scope (cloFrom X.env.cells scope.names []) pm c' ctv)) (hfn : H f = none) (hfr : f ∉ frs X.stack)
    (hbind : ∀ us : List Value, us.length = ps.length → bindArgs (PySem.W.kla_fn "<lambda>" (X.env.qual ++ "<lambda>") params body scope (cloFrom X.env.cells scope.names []) pm (.ref c') ctv) ⟨us, []⟩ = pure (ps.zip us))
    (hw : ws.length = cs.length) (hj : js.length = cs.length) (hc : ∀ (i j : Nat) (y : Str), js[i]? = some j → cs[i]? = some y → X.N[j]? = some y) (hs : ∀ (i j : Nat) (v : V), js[i]? = some j → ws[i]? = some v → σ[j]? = some (some v))
    (hr : Room (k + 1) (X.A.deeper (envOfC qg sg s.heap.objs.size g cdg))) (hbody : ∀ (A : Around) (outer : List Env) (s : Shared) (H : Hp), Room k (A.deeper (LamX.lamEnv X scope s.heap.objs.size f c')) → PP (lamCxN X A outer s H scope f c' (ps ++ cs)) body fe) :
    @CallOk _ (fnLam f c' (X.env.qual ++ "<lambda>") ws cds fun ds => fe ((ds ++ cds).map .sh)) (cxOf CX0 X.prog X.w X.K X.mg X.base Ng qg sg g cdg X.A X.stack s H E).nox ps.length := by
  have at0 : ∀ (pinsZ : List (Addr × Obj)) (σZ : L2.St) (sZ : Shared) (HZ : Hp), Inv (cxOf CX0 X.prog X.w X.K X.mg X.base Ng qg sg g cdg X.A X.stack s H E).nox pinsZ σZ HZ sZ → sZ.heap.get? f = some (PySem.W.kla_obj "<lambda>" (X.env.qual ++ "<lambda>") params body scope (cloFrom X.env.cells scope.names []) pm c' ctv) := fun pinsZ σZ sZ HZ IZ =>
    IZ.base.keep f _ hf hfn hfr (fun z => nomatch (show f ∈ ([] : List Addr) from z))
  refine @CallOk.mk _ (fnLam f c' (X.env.qual ++ "<lambda>") ws cds fun ds => fe ((ds ++ cds).map .sh)) _ _ (fun pinsZ σZ sZ F HZ a w IZ ex hk => ?_) fun pinsZ σZ sZ F HZ a w vs us ds d Q IZ hk ex tb ra r hl hwd q => ?_
  · obtain ⟨rfl, _⟩ := hk
    exact ⟨_, _, _, _, at0 _ _ _ _ IZ⟩
  · obtain ⟨rfl, rfl, hcF, rcap⟩ := hk
    have of1 := at0 _ _ _ _ IZ
    have un : Un (frs X.stack) [] H HZ s.heap sZ.heap := IZ.base
    have hco : HZ c' = some (LamX.CodeO c' (X.env.qual ++ "<lambda>")) := ex _ _ hcF
    obtain ⟨⟨oc, vs', t, hoc, hdc, hvc⟩, _, _⟩ := IZ.hok c' _ hco
    have rc : codeAny (model X.prog X.w) (X.A.deeper (envOfC qg sg s.heap.objs.size g cdg)) (.call (.ref a) ⟨us, []⟩) (CR CX0 (envOfC qg sg s.heap.objs.size g cdg :: X.stack) X.prog X.w HZ sZ Q E) sZ := by
      refine PySem.W.kla_callFunE hr.depth of1 rfl L.co L.gen rfl ⟨c', oc, vs', t, rfl, hoc, hdc, hvc⟩ ?_
      have hul : us.length = ps.length := by rw [← hl]; exact r.length.symm
      rw [hbind us hul]
      refine wpAny_pure (wpAny_newFunctionEnv L.nocell (fun y hy => L.par _ (List.of_mem_zip hy).1) (fun h₁ hns hsb => ⟨IZ.nolimit.fresh _ hsb, ?_⟩) L.kind)
      show codeAny _ _ (.expr body (LamX.lamEnv X scope sZ.heap.objs.size a c')) _ _
      have kp : ∀ b o, sZ.heap.get? b = some o → h₁.get? b = some o := fun b o e => hsb.extBut b o (Nat.ne_of_lt (Heap.lt_size e)) (Heap.get?_push_of_some _ e)
      have J := lam_startN (f := a) (c' := c') (tk := sZ.toks + (ps.zip us).length) I L IZ.env0 hr.hd un r hl hns kp hw hj hc hs
      obtain ⟨tt, h1, h2⟩ := hbody (X.A.deeper (envOfC qg sg s.heap.objs.size g cdg)) (envOfC qg sg s.heap.objs.size g cdg :: X.stack) sZ HZ (hr.deeper _)
      refine PySem.W.kla_codeExpr (wpAny_mono (h1.run [] _ _ HZ Q J (h2 F HZ _ _ d hwd (rel_all ⟨ex, tb⟩ (rpa_app ra rcap)) Q q)) (fun v s' hq => ?_) fun e s' hq => hq.elim)
      obtain ⟨w', H', J', rv, q⟩ := hq
      exact ⟨w', H', J'.os, J'.bare, J'.base, J'.hok, rv, q⟩
    refine wpAny_call (codeAny_mono rc fun r' s' hq => ?_)
    cases r' with
    | error e => exact (show False from hq).elim
    | ok fl =>
      cases fl with
      | ret u => exact IZ.after hq
      | next => exact False.elim hq
      | brk => exact False.elim hq
      | cont => exact False.elim hq
end
/-! ### arguments one by one -/
def AkP [FnT] (X : Cx) (es : List Expr) (fs : Fm → Option (List D)) : Prop := ∀ (pins : List (Addr × Obj)) (σ : L2.St) (s : Shared) (F H : Hp) (ρ : Fm) (ds : List D) (cs : List (Bool × Sem Value)) (R : List Value → Shared → Prop), Inv X pins σ H s → Rel X.K F H σ ρ → fs ρ = some ds →
  (∀ (vs : List V) (us : List Value) (F1 H1 : Hp) (s1 : Shared), Inv X pins σ H1 s1 → Gr F H F1 H1 → RpA X.K F1 vs ds → Vals vs us → wpAny (model X.prog X.w) X.A (spliced cs) (fun us2 s2 => R (us ++ us2) s2) X.xe s1) →
  wpAny (model X.prog X.w) X.A (spliced (es.map (fun e => (false, eval e X.env)) ++ cs)) R X.xe s
section
variable [FnT] {X : Cx} {e : Expr} {es : List Expr} {fe : Fm → Option D} {fs : Fm → Option (List D)}
theorem ak_nil : AkP X [] fNil := fun pins σ s F H ρ ds cs R I hR hf k => by
  cases hf
  exact k [] [] F H s I (.refl hR.ex) .nil .nil
theorem ak_cons (h : PP X e fe) (hs : AkP X es fs) : AkP X (e :: es) (fCons fe fs) := fun pins σ s F H ρ ds cs R I hR hf k => by
  obtain ⟨t, h1, h2⟩ := h
  obtain ⟨d, e1, e2⟩ := Option.bind_eq_some_iff.mp (show (fe ρ).bind (fun d => (fs ρ).map (d :: ·)) = some ds from hf)
  obtain ⟨ds', e3, rfl⟩ := Option.map_eq_some_iff.mp e2
  refine Calls.spliced_cons (thn (h1.run pins s σ H (fun v H1 => ∃ F1, Gr F H F1 H1 ∧ Rp X.K F1 v d) I (h2 F H σ ρ d e1 hR _ fun v F1 H1 g r => ⟨F1, g, r⟩)) fun u s1 ⟨v, H1, I1, r1, F1, g1, rp⟩ => ?_)
  refine hs pins σ s1 F1 H1 ρ ds' cs (fun us s2 => R (u :: us) s2) I1 (hR.gr g1) e3 fun vs us F2 H2 s2 I2 g2 ra rv => ?_
  exact k (v :: vs) (u :: us) F2 H2 s2 I2 (g1.trans g2) (.cons (rp.mono g2.ex) ra) (.cons r1 rv)
end
/-! ### the call -/
def capB : List Nat → Fm → Option (List D)
  | [], _ => some []
  | j :: js, ρ => (match ρ[j]? with | some (.sh d) => some d | _ => none).bind fun d => (capB js ρ).map (d :: ·)
/-- the lambda, made in the frame -/
def fLamW (js : List Nat) (fe : Fm → Option D) (ρ : Fm) : Option (List D → Option D) := (capB js ρ).map fun cds => fun ds => fe ((ds ++ cds).map .sh)
def fCallL (g : (List D → Option D) → List D → Option D) (fs : Fm → Option (List D)) (fw : Fm → Option (List D → Option D)) (ρ : Fm) : Option D := (fs ρ).bind fun ds => (fw ρ).bind fun w => g w ds
section
variable [FnT] {K : PySem.W.Frag} {F H : Hp} {σ : L2.St} {ρ : Fm}
theorem cap_rel (hR : Rel K F H σ ρ) : ∀ {js : List Nat} {cds : List D}, capB js ρ = some cds → ∃ ws : List V, ws.length = js.length ∧ RpA K F ws cds ∧ ∀ (i j : Nat) (v : V), js[i]? = some j → ws[i]? = some v → σ[j]? = some (some v)
  | [], _, h => by
    cases h
    exact ⟨[], rfl, .nil, fun i j v e _ => by simp at e⟩
  | j :: js, cds, h => by
    obtain ⟨d, e1, e2⟩ := Option.bind_eq_some_iff.mp (show (match ρ[j]? with | some (.sh d) => some d | _ => none).bind (fun d => (capB js ρ).map (d :: ·)) = some cds from h)
    obtain ⟨cds', e3, rfl⟩ := Option.map_eq_some_iff.mp e2
    obtain ⟨ws, w1, w2, w3⟩ := cap_rel hR e3
    split at e1
    · rename_i d' hd
      cases e1
      obtain ⟨v, s1, r1⟩ := hR.at_ j _ hd
      refine ⟨v :: ws, by rw [List.length_cons, List.length_cons, w1], .cons r1 w2, fun i j' v' ej ev => ?_⟩
      cases i with
      | zero =>
        cases ej
        cases ev
        exact s1
      | succ i => exact w3 i j' v' ej ev
    · cases e1
end
section
variable [FnT] {X : Cx}
theorem vals_snoc {vs : List V} {us : List Value} {v : V} {u : Value} (r : Vals vs us) (h : RelV v u) : Vals (vs ++ [v]) (us ++ [u]) := by
  induction r with
  | nil => exact .cons h .nil
  | cons a b ih => exact .cons a ih
/-- x(e, .., lambda ps: body) -/
theorem d_lamcall {k kb m : Nat} {x pf : Str} {st : Stmt} {g : Addr} {fd : FuncData} {Ng psg : List Str} {sf : Fm → Option (Fl × Fm)} {es : List Expr} {e0 : Expr} {rest : List Expr} {fs : Fm → Option (List D)} {params : Arguments} {body : Expr} {scope : Scope} {ps cs : List Str} {js : List Nat} {fe : Fm → Option D} {p lpos pos : Pos}
    (T : LamT X) (Fn : Fun X.K x x st g fd) (S : FnScope Ng (psg ++ [pf]) (defScope st)) (hm : X.mg x = some (.ref g)) (hk : PySem.W.keepIn X.K (.ref g) = true) (hb : Binds X.K fd (psg ++ [pf]) []) (hr : Room (k + 1) X.A) (hkb : kb + 1 ≤ k)
    (hG : ∀ (fn : FnT) (cdv : Value) (A : Around) (outer : List Env) (s : Shared) (H : Hp) (E : XK), @CallOk _ fn (cxOf CX0 X.prog X.w X.K X.mg X.base Ng x (defScope st) g cdv A outer s H E).nox m → Room k (A.deeper (envOfC x (defScope st) s.heap.objs.size g cdv)) → @PBl _ fn (cxOf CX0 X.prog X.w X.K X.mg X.base Ng x (defScope st) g cdv A outer s H E).nox (defBody st) sf)
    (ha : AkP X es fs) (hes : ∀ ρ ds, fs ρ = some ds → ds.length = psg.length) (L : LamP X.env.scope scope ps cs) (hps : ps.length = m) (hdef : defaultsOf params X.env = ([], []))
    (hbind : ∀ (q : Str) (cl : List (Str × Addr)) (pm cv ctv : Value) (us : List Value), us.length = ps.length → bindArgs (PySem.W.kla_fn "<lambda>" q params body scope cl pm cv ctv) ⟨us, []⟩ = pure (ps.zip us))
    (hj : js.length = cs.length) (hc : ∀ (i j : Nat) (y : Str), js[i]? = some j → cs[i]? = some y → X.N[j]? = some y)
    (hbody : ∀ (A : Around) (outer : List Env) (s : Shared) (H : Hp) (f c' : Addr), Room kb (A.deeper (LamX.lamEnv X scope s.heap.objs.size f c')) → PP (lamCxN X A outer s H scope f c' (ps ++ cs)) body fe)
    (hNg : psg.length < Ng.length)
    (hargs : backTo pos (starEach (e0 :: rest) X.env) = es.map (fun e => (false, eval e X.env)) ++ [(false, eval (.Lambda params body scope lpos) X.env)] := by rfl)
    (hg : Gl X x := by rfl) (hdb : (x == ("__debug__" : Str)) = false := by decide) (he : starEach (e0 :: rest) X.env = (false, eval e0 X.env) :: starEach rest X.env := by rfl) (hpl : (backTo pos (starEach rest X.env)).any (·.1) = false := by rfl) :
    PP X (.Call (.Name x p) (e0 :: rest) [] pos) (fCallL (runPF Ng.length sf) fs (fLamW js fe)) := by
  refine ⟨fun σ H Q => ∀ (pins : List (Addr × Obj)) (s : Shared), Inv X pins σ H s → wpAny (model X.prog X.w) X.A (eval (.Call (.Name x p) (e0 :: rest) [] pos) X.env) (EP X pins σ Q) X.xe s, ⟨fun pins s σ H Q I h => h pins s I⟩, fun F H σ ρ d hf hR Q q pins s I => ?_⟩
  obtain ⟨ds, e1, hf⟩ := Option.bind_eq_some_iff.mp hf
  obtain ⟨w, e2, hf⟩ := Option.bind_eq_some_iff.mp hf
  obtain ⟨cds, e3, rfl⟩ := Option.map_eq_some_iff.mp e2
  obtain ⟨⟨fl, ρ'⟩, e4, e5⟩ := Option.bind_eq_some_iff.mp hf
  obtain ⟨ws, w1, w2, w3⟩ := cap_rel hR e3
  obtain ⟨c, Pt, TB, hcode, hmT, hu⟩ := T.ok
  obtain ⟨oc, od, kV, doc, pm0, an, cdv, ct, osl, rfl, lk, hcd⟩ := Fn.ex
  have hfree : ∀ y ∈ scope.names, y.2 = .free → ∃ c, X.env.cells.lookup y.1 = some c := fun y hy e => by
    rcases L.free y hy e with k | k
    · exact I.ok.has _ (.inl k)
    · exact I.ok.has _ (.inr k)
  refine wpAny_Call_Name_kw (ld_glob I hg hm ?_ hdb)
  refine PySem.W.callWith_K (h₀ := X.base) I.ok.mod.kin hk ?_ he hpl
  rw [hargs]
  refine ha pins σ s F H ρ ds _ _ I hR e1 fun vs us F1 H1 s1 I1 g1 r1 rv => ?_
  refine Calls.spliced_cons (lam_make3 I1 g1.in_ (hR.gr g1).tab TB hcode hmT hu hdef hfree fun f c' pm ctv F2 H2 s2 I2 g2 hof hfn hfr hco hcF => Calls.spliced_nil ⟨I2.kIn, ?_⟩)
  have g12 := g1.trans g2
  have hdl : ds.length = psg.length := hes _ _ e1
  have tb2 : TbOk F2 H2 := (hR.gr g12).tab
  have rc : codeAny (model X.prog X.w) X.A (.call (.ref g) ⟨us ++ [.ref f], []⟩) (CR CX0 X.stack X.prog X.w H2 s2 Q E0) s2 := by
    refine LamX.run_ofS (N := Ng) (ps := psg ++ [pf]) (us := us ++ [.ref f]) (vs := vs ++ [.ref f]) lk hcd S hr I2.env0 ?_ (vals_snoc (v := .ref f) (u := .ref f) rv rfl) ?_ fun hr' => ?_
    · have := hb s2 (us ++ [.ref f]) I2.kIn (by
        rw [List.append_nil, List.length_append, List.length_append, ← rv.length, r1.length, hdl]
        rfl)
      rw [List.append_nil] at this
      exact this
    · rw [List.length_append, List.length_append, r1.length, hdl]
      rfl
    · have C := lam_ok (Ng := Ng) (E := E0) (cds := cds) I2 L hof hfn hfr (hbind _ _ _ _ _) (by rw [w1, hj]) hj hc w3 (hr'.mono hkb) fun A outer s H => hbody A outer s H f c'
      rw [hps] at C
      obtain ⟨t, h1, h2⟩ := hG _ cdv X.A X.stack s2 H2 E0 C hr'
      refine ⟨t, h1.nox, ?_⟩
      letI fn : FnT := fnLam f c' (X.env.qual ++ "<lambda>") ws cds fun ds => fe ((ds ++ cds).map .sh)
      have done : ∀ v σ' F' H', Go X.K F2 H2 (L2.start Ng (vs ++ [.ref f])) (startF Ng.length (fun ds => fe ((ds ++ cds).map .sh)) ds) F' H' σ' ρ' → Rp X.K F' v d → Q v H' := fun v σ' F' H' g r' =>
        q v F' H' (g12.trans ⟨g.ex, g.rel.ex, fun a o e t => g.keep a o e t no_ownF, fun a e f => g.hide a e f no_ownF, g.live, fun _ => g.rel.tab⟩) r'
      have rel : Rel X.K F2 H2 (L2.start Ng (vs ++ [.ref f])) (startF Ng.length (fun ds => fe ((ds ++ cds).map .sh)) ds) := rel_startF Ng (by omega) ⟨g2.in_, tb2⟩ (r1.mono g2.ex) ⟨rfl, rfl, hcF, w2.mono g12.ex⟩
      refine h2 F2 H2 _ _ fl ρ' e4 rel _ (fun z σ' F' H' g => ?_) (fun z σ' F' H' g => ?_) fun d' z v σ' F' H' g r' => ?_
      · subst z
        cases e5
        exact done _ σ' F' H' g .non
      · subst z
        cases e5
      · subst z
        cases e5
        exact done _ σ' F' H' g r'
  refine wpAny_call (codeAny_mono rc fun r s3 hq => ?_)
  cases r with
  | error e => exact (show False from hq).elim
  | ok fl =>
    cases fl with
    | ret u => exact I2.after hq
    | next => exact False.elim hq
    | brk => exact False.elim hq
    | cont => exact False.elim hq
end
end DL
end
section
set_option Elab.async false
set_option linter.all false
set_option maxRecDepth 100000
/-! Lambdas handed to a def: what the walk's printer writes. -/
namespace DL
open PySem PySem.Spec PyProof.Rows L2
variable [TabT] [FnT]
def lamPB (sc scope : Scope) (ps cs : List Str) : Bool :=
  decide (scope.kind = .function) && !scope.isCoroutine && !scope.isGenerator && (ps.all fun p => decide (scope.names.lookup p = some .local)) && decide ps.Nodup && (cs.all fun p => decide (scope.names.lookup p = some .free)) && scope.names.all fun y => !decide (y.2 = .cell) && (!decide (y.2 = .free) || decide (sc.names.lookup y.1 = some .cell) || decide (sc.names.lookup y.1 = some .free))
omit [TabT] [FnT] in
theorem lamP_by {sc scope : Scope} {ps cs : List Str} (h : lamPB sc scope ps cs = true) : LamP sc scope ps cs := by
  unfold lamPB at h
  simp only [Bool.and_eq_true, Bool.or_eq_true, Bool.not_eq_true', decide_eq_true_eq, decide_eq_false_iff_not, List.all_eq_true] at h
  obtain ⟨⟨⟨⟨⟨⟨h1, h2⟩, h3⟩, h4⟩, h5⟩, h6⟩, h7⟩ := h
  refine ⟨h1, h2, h3, fun y hy => (h7 y hy).1, h4, h5, h6, fun y hy e => ?_⟩
  rcases (h7 y hy).2 with (z | z) | z
  · exact absurd e z
  · exact .inl z
  · exact .inr z
omit [TabT] [FnT] in
theorem hc_of {N : List Str} {cs : List Str} {js : List Nat} (h : js.map (fun j => N[j]?) = cs.map some) : ∀ (i j : Nat) (y : Str), js[i]? = some j → cs[i]? = some y → N[j]? = some y := fun i j y e1 e2 => by
  have h1 : (js.map (fun j => N[j]?))[i]? = some (N[j]?) := by rw [List.getElem?_map, e1]; rfl
  have h2 : (cs.map some)[i]? = some (some y) := by rw [List.getElem?_map, e2]; rfl
  rw [h, h2] at h1
  exact (Option.some.inj h1).symm
omit [TabT] [FnT] in
theorem fNil_len : ∀ (ρ : Fm) (ds : List D), fNil ρ = some ds → ds.length = 0 := fun ρ ds h => by
  cases h
  rfl
omit [TabT] [FnT] in
theorem fCons_len {fe : Fm → Option D} {fs : Fm → Option (List D)} {n : Nat} (h : ∀ ρ ds, fs ρ = some ds → ds.length = n) : ∀ (ρ : Fm) (ds : List D), fCons fe fs ρ = some ds → ds.length = n + 1 := fun ρ ds hf => by
  obtain ⟨d, e1, e2⟩ := Option.bind_eq_some_iff.mp (show (fe ρ).bind (fun d => (fs ρ).map (d :: ·)) = some ds from hf)
  obtain ⟨ds', e3, rfl⟩ := Option.map_eq_some_iff.mp e2
  rw [List.length_cons, h _ _ e3]
section
variable {X : Cx}
theorem d_lam1 {k kb m : Nat} {x pf : Str} {st : Stmt} {g : Addr} {fd : FuncData} {Ng psg : List Str} {sf : Fm → Option (Fl × Fm)} {e1 : Expr} {f1 : Fm → Option D} {params : Arguments} {body : Expr} {scope : Scope} {ps cs : List Str} {js : List Nat} {fe : Fm → Option D} {p lpos pos : Pos}
    (T : LamT X) (Fn : Fun X.K x x st g fd) (S : FnScope Ng (psg ++ [pf]) (defScope st)) (hm : X.mg x = some (.ref g)) (hk : PySem.W.keepIn X.K (.ref g) = true) (hb : Binds X.K fd (psg ++ [pf]) []) (hr : Room (k + 1) X.A) (hkb : kb + 1 ≤ k)
    (hG : ∀ (fn : FnT) (cdv : Value) (A : Around) (outer : List Env) (s : Shared) (H : Hp) (E : XK), @CallOk _ fn (cxOf CX0 X.prog X.w X.K X.mg X.base Ng x (defScope st) g cdv A outer s H E).nox m → Room k (A.deeper (envOfC x (defScope st) s.heap.objs.size g cdv)) → @PBl _ fn (cxOf CX0 X.prog X.w X.K X.mg X.base Ng x (defScope st) g cdv A outer s H E).nox (defBody st) sf)
    (h1 : PP X e1 f1) (hl : psg.length = 1) (L : LamP X.env.scope scope ps cs) (hps : ps.length = m) (hdef : defaultsOf params X.env = ([], []))
    (hbind : ∀ (q : Str) (cl : List (Str × Addr)) (pm cv ctv : Value) (us : List Value), us.length = ps.length → bindArgs (PySem.W.kla_fn "<lambda>" q params body scope cl pm cv ctv) ⟨us, []⟩ = pure (ps.zip us))
    (hj : js.length = cs.length) (hc : ∀ (i j : Nat) (y : Str), js[i]? = some j → cs[i]? = some y → X.N[j]? = some y)
    (hbody : ∀ (A : Around) (outer : List Env) (s : Shared) (H : Hp) (f c' : Addr), Room kb (A.deeper (LamX.lamEnv X scope s.heap.objs.size f c')) → PP (lamCxN X A outer s H scope f c' (ps ++ cs)) body fe)
    (hNg : psg.length < Ng.length)
    (hargs : backTo pos (starEach [e1, .Lambda params body scope lpos] X.env) = [e1].map (fun e => (false, eval e X.env)) ++ [(false, eval (.Lambda params body scope lpos) X.env)] := by rfl)
    (hg : Gl X x := by rfl) (hdb : (x == ("__debug__" : Str)) = false := by decide) (he : starEach [e1, .Lambda params body scope lpos] X.env = (false, eval e1 X.env) :: starEach [.Lambda params body scope lpos] X.env := by rfl) (hpl : (backTo pos (starEach [.Lambda params body scope lpos] X.env)).any (·.1) = false := by rfl) :
    PP X (.Call (.Name x p) [e1, .Lambda params body scope lpos] [] pos) (fCallL (runPF Ng.length sf) (fCons f1 fNil) (fLamW js fe)) :=
  d_lamcall T Fn S hm hk hb hr hkb hG (ak_cons h1 ak_nil) (hl ▸ fCons_len fNil_len) L hps hdef hbind hj hc hbody hNg hargs hg hdb he hpl
theorem d_lam2 {k kb m : Nat} {x pf : Str} {st : Stmt} {g : Addr} {fd : FuncData} {Ng psg : List Str} {sf : Fm → Option (Fl × Fm)} {e1 e2 : Expr} {f1 f2 : Fm → Option D} {params : Arguments} {body : Expr} {scope : Scope} {ps cs : List Str} {js : List Nat} {fe : Fm → Option D} {p lpos pos : Pos}
    (T : LamT X) (Fn : Fun X.K x x st g fd) (S : FnScope Ng (psg ++ [pf]) (defScope st)) (hm : X.mg x = some (.ref g)) (hk : PySem.W.keepIn X.K (.ref g) = true) (hb : Binds X.K fd (psg ++ [pf]) []) (hr : Room (k + 1) X.A) (hkb : kb + 1 ≤ k)
    (hG : ∀ (fn : FnT) (cdv : Value) (A : Around) (outer : List Env) (s : Shared) (H : Hp) (E : XK), @CallOk _ fn (cxOf CX0 X.prog X.w X.K X.mg X.base Ng x (defScope st) g cdv A outer s H E).nox m → Room k (A.deeper (envOfC x (defScope st) s.heap.objs.size g cdv)) → @PBl _ fn (cxOf CX0 X.prog X.w X.K X.mg X.base Ng x (defScope st) g cdv A outer s H E).nox (defBody st) sf)
    (h1 : PP X e1 f1) (h2 : PP X e2 f2) (hl : psg.length = 2) (L : LamP X.env.scope scope ps cs) (hps : ps.length = m) (hdef : defaultsOf params X.env = ([], []))
    (hbind : ∀ (q : Str) (cl : List (Str × Addr)) (pm cv ctv : Value) (us : List Value), us.length = ps.length → bindArgs (PySem.W.kla_fn "<lambda>" q params body scope cl pm cv ctv) ⟨us, []⟩ = pure (ps.zip us))
    (hj : js.length = cs.length) (hc : ∀ (i j : Nat) (y : Str), js[i]? = some j → cs[i]? = some y → X.N[j]? = some y)
    (hbody : ∀ (A : Around) (outer : List Env) (s : Shared) (H : Hp) (f c' : Addr), Room kb (A.deeper (LamX.lamEnv X scope s.heap.objs.size f c')) → PP (lamCxN X A outer s H scope f c' (ps ++ cs)) body fe)
    (hNg : psg.length < Ng.length)
    (hargs : backTo pos (starEach [e1, e2, .Lambda params body scope lpos] X.env) = [e1, e2].map (fun e => (false, eval e X.env)) ++ [(false, eval (.Lambda params body scope lpos) X.env)] := by rfl)
    (hg : Gl X x := by rfl) (hdb : (x == ("__debug__" : Str)) = false := by decide) (he : starEach [e1, e2, .Lambda params body scope lpos] X.env = (false, eval e1 X.env) :: starEach [e2, .Lambda params body scope lpos] X.env := by rfl) (hpl : (backTo pos (starEach [e2, .Lambda params body scope lpos] X.env)).any (·.1) = false := by rfl) :
    PP X (.Call (.Name x p) [e1, e2, .Lambda params body scope lpos] [] pos) (fCallL (runPF Ng.length sf) (fCons f1 (fCons f2 fNil)) (fLamW js fe)) :=
  d_lamcall T Fn S hm hk hb hr hkb hG (ak_cons h1 (ak_cons h2 ak_nil)) (hl ▸ fCons_len (fCons_len fNil_len)) L hps hdef hbind hj hc hbody hNg hargs hg hdb he hpl
end
end DL
end
section
set_option Elab.async false
set_option linter.all false
set_option maxRecDepth 100000
/-! Defs that change the caller's dict. -/
namespace DL
open PySem PySem.Spec PyProof.Rows L2
variable [TabT] [FnT]
/-- function values that are handed on -/
def FnsOk (K : PySem.W.Frag) (F : Hp) (fs : List Addr) (ws : List (List D → Option D)) : Prop := fs.length = ws.length ∧ ∀ (i : Nat) (f : Addr) (w : List D → Option D), fs[i]? = some f → ws[i]? = some w → FnT.ok K F f w
theorem FnsOk.mono {K : PySem.W.Frag} {F F' : Hp} {fs : List Addr} {ws : List (List D → Option D)} (h : FnsOk K F fs ws) (e : Ex F F') : FnsOk K F' fs ws := ⟨h.1, fun i f w a b => FnT.mono e (h.2 i f w a b)⟩
/-- a def whose last argument is a dict that it may change, ahead of it m function values -/
def spJ (K : PySem.W.Frag) (g : List (List D → Option D) → List D → List (D × D) → Option (D × List (D × D))) (m : Nat) (t : Bool) (n : Nat) : Sp := fun vs H Q _ => vs.length = n + m + 1 ∧ ∃ (F : Hp) (a : Addr) (kvs : List (D × D)) (us : List V) (ds : List D) (fs : List Addr) (ws : List (List D → Option D)) (d : D) (kvs' : List (D × D)), vs = us ++ (fs.map V.ref ++ [V.ref a]) ∧ ExB F H ∧ F a = none ∧ Dct K F H a t kvs ∧ RpA K F us ds ∧ ds.length = n ∧ fs.length = m ∧ FnsOk K F fs ws ∧ g ws ds kvs = some (d, kvs') ∧
  ∀ v F' H', Ex F F' → ExB F' H' → (∀ b o, H b = some o → NoTb o → b ≠ a → H' b = some o) → (∀ b, H b ≠ none → F b = none → F' b = none) → Lv H H' → Dct K F' H' a t kvs' → Rp K F' v d → Q v H'
def startJ (n : Nat) (t : Bool) (ws : List (List D → Option D)) (ds : List D) (kvs : List (D × D)) : Fm := ds.map .sh ++ (ws.map .fn ++ .jd t kvs :: List.replicate (n - (ds.length + ws.length + 1)) .no)
def jdOf : Option B → Option (List (D × D))
  | some (.jd _ kvs) => some kvs
  | _ => none
def runJ (n : Nat) (f : Fm → Option (Fl × Fm)) (t : Bool) (ws : List (List D → Option D)) (ds : List D) (kvs : List (D × D)) : Option (D × List (D × D)) := (f (startJ n t ws ds kvs)).bind fun x => match x.1 with
  | .rt d => (jdOf x.2[ds.length + ws.length]?).map fun k => (d, k)
  | .nx => (jdOf x.2[ds.length + ws.length]?).map fun k => (.none, k)
  | .bk => none
theorem jdOf_some {o : Option B} {kvs : List (D × D)} (h : jdOf o = some kvs) : ∃ t, o = some (.jd t kvs) := by
  unfold jdOf at h
  split at h
  · cases h
    exact ⟨_, rfl⟩
  · cases h
theorem startJ_get {n : Nat} {t : Bool} {ws : List (List D → Option D)} {ds : List D} {kvs : List (D × D)} {i : Nat} {b : B} (h : (startJ n t ws ds kvs)[i]? = some b) : (i = ds.length + ws.length ∧ b = .jd t kvs) ∨ b = .no ∨ (∃ d, ds[i]? = some d ∧ b = .sh d) ∨ ∃ j w, i = ds.length + j ∧ ws[j]? = some w ∧ b = .fn w := by
  unfold startJ at h
  rw [List.getElem?_append] at h
  split at h
  · rw [List.getElem?_map] at h
    obtain ⟨d, h1, h2⟩ := Option.map_eq_some_iff.mp h
    exact .inr (.inr (.inl ⟨d, h1, h2.symm⟩))
  · rename_i hi
    rw [List.length_map] at hi h
    rw [List.getElem?_append] at h
    split at h
    · rw [List.getElem?_map] at h
      obtain ⟨w, h1, h2⟩ := Option.map_eq_some_iff.mp h
      exact .inr (.inr (.inr ⟨i - ds.length, w, by omega, h1, h2.symm⟩))
    · rename_i hj
      rw [List.length_map] at hj h
      cases hk : i - ds.length - ws.length with
      | zero =>
        rw [hk] at h
        exact .inl ⟨by omega, (Option.some.inj h).symm⟩
      | succ k =>
        rw [hk, List.getElem?_cons_succ, List.getElem?_replicate] at h
        split at h
        · exact .inr (.inl (Option.some.inj h).symm)
        · cases h
theorem startJ_at {n : Nat} {t : Bool} {ws : List (List D → Option D)} {ds : List D} {kvs : List (D × D)} : (startJ n t ws ds kvs)[ds.length + ws.length]? = some (.jd t kvs) := by
  unfold startJ
  rw [List.getElem?_append_right (by rw [List.length_map]; omega), List.length_map, List.getElem?_append_right (by rw [List.length_map]; omega), List.length_map, Nat.add_sub_cancel_left, Nat.sub_self]
  rfl
section
variable {P : Program} {w : World} {K : PySem.W.Frag} {mg : Str → Option Value} {base : Heap}
theorem start_at {N : List Str} {vs : List V} {i : Nat} {v : V} (h : vs[i]? = some v) : (L2.start N vs)[i]? = some (some v) := by
  unfold L2.start
  rw [List.getElem?_append_left (by rw [List.length_map]; exact (List.getElem?_eq_some_iff.mp h).1), List.getElem?_map, h]
  rfl
theorem def_J {x qual : Str} {st : Stmt} {f : Addr} {fd : FuncData} {N ps : List Str} {k n m : Nat} {t : Bool} {sf : Fm → Option (Fl × Fm)} (Fn : Fun K x qual st f fd) (S : FnScope N ps (defScope st)) (hn : ps.length = n + m + 1) (hNl : n + m + 1 ≤ N.length)
    (hbody : ∀ (cdv : Value) (A : Around) (outer : List Env) (s : Shared) (H : Hp) (E : XK), Room k (A.deeper (envOfC qual (defScope st) s.heap.objs.size f cdv)) → PBl (cxOf CX0 P w K mg base N qual (defScope st) f cdv A outer s H E).nox (defBody st) sf) :
    FnOk P w K mg base CX0 (k + 1) f fd ps (spJ K (runJ N.length sf t) m t n) := by
  refine Fn.ok S (fun vs H Q E h => h.1.trans hn.symm) fun cdv A outer s H vs Q E hr h => ?_
  obtain ⟨hl, F, a, kvs, us, ds, fs, ws, d, kvs', rfl, ex, hfa, dc, r, hdl, hfl, fo, hg, q⟩ := h
  obtain ⟨t1, h1, h2⟩ := hbody cdv A outer s H E hr
  refine ⟨t1, h1, ?_⟩
  obtain ⟨⟨fl, ρ'⟩, e1, e2⟩ := Option.bind_eq_some_iff.mp hg
  have hul : us.length = ds.length := r.length
  have hwl : fs.length = ws.length := fo.1
  have vat : (us ++ (fs.map V.ref ++ [V.ref a]))[ds.length + ws.length]? = some (.ref a) := by
    rw [List.getElem?_append_right (by omega), List.getElem?_append_right (by rw [List.length_map]; omega), List.length_map, show ds.length + ws.length - us.length - fs.length = 0 by omega]
    rfl
  have vfn : ∀ j f, fs[j]? = some f → (us ++ (fs.map V.ref ++ [V.ref a]))[ds.length + j]? = some (.ref f) := fun j f hj => by
    have hlt : j < fs.length := (List.getElem?_eq_some_iff.mp hj).1
    rw [List.getElem?_append_right (by omega), show ds.length + j - us.length = j by omega, List.getElem?_append_left (by rw [List.length_map]; exact hlt), List.getElem?_map, hj]
    rfl
  have hlen : (L2.start N (us ++ (fs.map V.ref ++ [V.ref a]))).length = (startJ N.length t ws ds kvs).length := by
    unfold L2.start startJ
    simp only [List.length_append, List.length_cons, List.length_map, List.length_replicate, List.length_nil]
    omega
  have rel : Rel K F H (L2.start N (us ++ (fs.map V.ref ++ [V.ref a]))) (startJ N.length t ws ds kvs) := by
    refine ⟨ex.1, hlen, fun i b h => ?_, fun i j b c x h1 o1 h2 o2 _ _ => ?_, ex.2⟩
    · rcases startJ_get h with ⟨rfl, rfl⟩ | rfl | ⟨d, h1, rfl⟩ | ⟨j, w1, rfl, h1, rfl⟩
      · exact ⟨a, start_at vat, hfa, dc⟩
      · trivial
      · obtain ⟨v, h2, h3⟩ := r.get h1
        refine ⟨v, start_at ?_, h3⟩
        rw [List.getElem?_append_left (List.getElem?_eq_some_iff.mp h2).1]
        exact h2
      · obtain ⟨hlt, _⟩ := List.getElem?_eq_some_iff.mp h1
        have hf : fs[j]? = some fs[j] := List.getElem?_eq_getElem (by omega)
        exact ⟨_, start_at (vfn j _ hf), fo.2 j _ w1 hf h1⟩
    · rcases startJ_get h1 with ⟨rfl, rfl⟩ | rfl | ⟨d, _, rfl⟩ | ⟨_, _, _, _, rfl⟩
      · rcases startJ_get h2 with ⟨rfl, rfl⟩ | rfl | ⟨d, _, rfl⟩ | ⟨_, _, _, _, rfl⟩
        · rfl
        · cases o2
        · cases o2
        · cases o2
      · cases o1
      · cases o1
      · cases o1
  have own : ∀ x, ownA (L2.start N (us ++ (fs.map V.ref ++ [V.ref a]))) (startJ N.length t ws ds kvs) x → x = a := fun x ⟨i, b, h, o, s⟩ => by
    rcases startJ_get h with ⟨rfl, rfl⟩ | rfl | ⟨d, _, rfl⟩ | ⟨_, _, _, _, rfl⟩
    · rw [start_at vat] at s
      exact (V.ref.inj (Option.some.inj (Option.some.inj s))).symm
    · cases o
    · cases o
    · cases o
  have done : ∀ v σ' F' H', (∃ u, ρ'[ds.length + ws.length]? = some (.jd u kvs')) → Go K F H (L2.start N (us ++ (fs.map V.ref ++ [V.ref a]))) (startJ N.length t ws ds kvs) F' H' σ' ρ' → Rp K F' v d → Q v H' := fun v σ' F' H' ⟨u, e0⟩ g r' => by
    obtain ⟨⟨ds0, e3⟩, s0⟩ := g.ioD e0
    rw [startJ_at] at e3
    have hu : t = u := by injection (Option.some.inj e3)
    subst hu
    obtain ⟨a', f1, f3, f4⟩ := g.rel.at_ _ _ e0
    rw [s0, start_at vat] at f1
    have : a' = a := (V.ref.inj (Option.some.inj (Option.some.inj f1))).symm
    subst this
    refine q v F' H' g.ex ⟨g.rel.ex, g.rel.tab⟩ (fun b o e t nb => g.keep b o e t fun z => nb (own b z)) (fun b e f => ?_) g.live f4 r'
    by_cases hb : b = a'
    · rw [hb]; exact f3
    · exact g.hide b e f fun z => hb (own b z)
  refine h2 F H _ _ fl ρ' e1 rel _ (fun z σ' F' H' g => ?_) (fun z σ' F' H' g => ?_) fun d' z v σ' F' H' g r' => ?_
  · subst z
    obtain ⟨l2, e3, e4⟩ := Option.map_eq_some_iff.mp e2
    cases e4
    exact done _ σ' F' H' (jdOf_some e3) g .non
  · subst z
    cases e2
  · subst z
    obtain ⟨l2, e3, e4⟩ := Option.map_eq_some_iff.mp e2
    cases e4
    exact done _ σ' F' H' (jdOf_some e3) g r'
end
end DL
end
section
set_option Elab.async false
set_option linter.all false
set_option maxRecDepth 100000
/-! Calls of defs that change a dict; x[k] op= e with such a call. -/
namespace DL
open PySem PySem.Spec PyProof.Rows L2
variable [TabT] [FnT]
theorem fnJ_none {P : Program} {w : World} {K : PySem.W.Frag} {mg : Str → Option Value} {base : Heap} {k : Nat} {f : Addr} {fd : FuncData} {ps : List Str} {m n : Nat} {t : Bool} : FnOk P w K mg base CX0 k f fd ps (spJ K (fun _ _ _ => none) m t n) := by
  refine ⟨fun vs H Q E h => ?_, fun A outer s H args us vs Q E _ _ _ _ h => ?_⟩
  · obtain ⟨_, _, _, _, _, _, _, _, _, _, _, _, _, _, _, _, _, _, z, _⟩ := h
    cases z
  · obtain ⟨_, _, _, _, _, _, _, _, _, _, _, _, _, _, _, _, _, _, z, _⟩ := h
    cases z
/-! ### arguments: data, then names of slots -/
def AJ (X : Cx) (tl : List Nat) (es : List Expr) (gs : Fm → Option (List D × Fm)) : Prop := ∃ t, PA X es t ∧ (∀ F H σ ρ ds ρ', gs ρ = some (ds, ρ') → Rel X.K F H σ ρ → ∀ vs : List V, vs.length = tl.length → (∀ (k j : Nat) (v : V), tl[k]? = some j → vs[k]? = some v → σ[j]? = some (some v)) → ∀ Q : List V → Hp → Prop, (∀ us F' H', GoE X.K F H σ ρ F' H' ρ' → RpA X.K F' us ds → Q (us ++ vs) H') → t σ H Q) ∧
  ∀ ρ ds ρ', gs ρ = some (ds, ρ') → ds.length + tl.length = es.length
section
variable {X : Cx} {e : Expr} {es : List Expr} {p pos q : Pos} {tl : List Nat} {ge : Fm → Option (D × Fm)} {gs : Fm → Option (List D × Fm)}
theorem aj_nil : AJ X [] [] (up fNil) := ⟨_, pa_nil, fun F H σ ρ ds ρ' hf hR vs hl _ Q k => by
  cases hf
  have : vs = [] := List.eq_nil_of_length_eq_zero hl
  subst this
  exact k [] F H (.refl hR) .nil, fun ρ ds ρ' h => by
  cases h
  rfl⟩
theorem aj_name {j : Nat} {y : Str} (h : AJ X tl es (up fNil)) (hv : PE X (.Name y q) (tVar j) := by exact pv _) (hs : starEach (.Name y q :: es) X.env = (false, eval (.Name y q) X.env) :: starEach es X.env := by rfl) : AJ X (j :: tl) (.Name y q :: es) (up fNil) := by
  obtain ⟨t, h1, h2, h3⟩ := h
  refine ⟨_, pa_cons hv h1 hs, fun F H σ ρ ds ρ' hf hR vs hl ha Q k => ?_, fun ρ ds ρ' h => ?_⟩
  · cases hf
    cases vs with
    | nil => cases hl
    | cons v vs =>
      refine ⟨v, ha 0 j v rfl rfl, ?_⟩
      refine h2 F H σ ρ [] ρ rfl hR vs (by simpa using hl) (fun k' j' v' a b => ha (k' + 1) j' v' a b) _ fun us F' H' g r => ?_
      cases r
      exact k [] F' H' g .nil
  · cases h
    have := h3 ρ [] ρ rfl
    rw [List.length_nil] at this ⊢
    rw [List.length_cons, List.length_cons]
    omega
theorem aj_cons (h : XE X e ge) (hr : AJ X tl es gs) (hs : starEach (e :: es) X.env = (false, eval e X.env) :: starEach es X.env := by rfl) : AJ X tl (e :: es) (xCons ge gs) := by
  obtain ⟨_, h1, h2⟩ := h
  obtain ⟨_, h3, h4, h5⟩ := hr
  refine ⟨_, pa_cons h1 h3 hs, fun F H σ ρ ds ρ' hf hR vs hl ha Q k => ?_, fun ρ ds ρ' h => ?_⟩
  · obtain ⟨⟨d, ρ1⟩, e1, e2⟩ := Option.bind_eq_some_iff.mp hf
    obtain ⟨⟨r, ρ2⟩, e3, e4⟩ := Option.map_eq_some_iff.mp e2
    cases e4
    refine h2 F H σ ρ _ ρ1 e1 hR _ fun v F1 H1 g1 r1 => ?_
    refine h4 F1 H1 σ ρ1 _ ρ2 e3 g1.rel vs hl ha _ fun us F2 H2 g2 r2 => ?_
    exact k _ F2 H2 (g1.trans g2) (.cons (r1.mono g2.go.ex) r2)
  · obtain ⟨⟨d, ρ1⟩, e1, e2⟩ := Option.bind_eq_some_iff.mp h
    obtain ⟨⟨r, ρ2⟩, e3, e4⟩ := Option.map_eq_some_iff.mp e2
    cases e4
    have h6 : r.length + tl.length = es.length := h5 _ _ _ e3
    show (d :: r).length + tl.length = (e :: es).length
    rw [List.length_cons, List.length_cons]
    omega
end
/-! ### the call -/
def fnOf : Option B → Option (List D → Option D)
  | some (.fn w) => some w
  | _ => none
def fnsOf : List Nat → Fm → Option (List (List D → Option D))
  | [], _ => some []
  | j :: js, ρ => (fnOf ρ[j]?).bind fun w => (fnsOf js ρ).map (w :: ·)
/-- the dict that slot may change -/
def dwOf (t : Bool) : Option B → Option (List (D × D))
  | some (.od u kvs) => if u = t then some kvs else none
  | some (.jd u kvs) => if u = t then some kvs else none
  | _ => none
def B.putD : B → List (D × D) → B
  | .od t _, k => .od t k
  | .jd t _, k => .jd t k
  | b, _ => b
def xCallJ (js : List Nat) (i : Nat) (t : Bool) (g : List (List D → Option D) → List D → List (D × D) → Option (D × List (D × D))) (gs : Fm → Option (List D × Fm)) (ρ : Fm) : Option (D × Fm) :=
  (fnsOf js ρ).bind fun ws => (dwOf t ρ[i]?).bind fun _ => (gs ρ).bind fun x => (x.2[i]?).bind fun b => (dwOf t (some b)).bind fun kvs => (g ws x.1 kvs).map fun y => (y.1, x.2.set i (b.putD y.2))
theorem dw_at {t : Bool} {b : B} {kvs : List (D × D)} (h : dwOf t (some b) = some kvs) : b = .od t kvs ∨ b = .jd t kvs := by
  cases b with
  | od u k =>
    have h : (if u = t then some k else none) = some kvs := h
    split at h
    · rename_i e
      cases h
      exact .inl (by rw [e])
    · cases h
  | jd u k =>
    have h : (if u = t then some k else none) = some kvs := h
    split at h
    · rename_i e
      cases h
      exact .inr (by rw [e])
    · cases h
  | _ => cases h
section
variable {K : PySem.W.Frag} {F H : Hp} {σ : L2.St} {ρ : Fm}
theorem dw_own {t : Bool} {b : B} {kvs : List (D × D)} {i : Nat} (hR : Rel K F H σ ρ) (e : ρ[i]? = some b) (h : dwOf t (some b) = some kvs) : OwnD K F H σ[i]? t kvs ∧ b.own = true := by
  have := hR.at_ i b e
  rcases dw_at h with rfl | rfl
  · exact ⟨this, rfl⟩
  · exact ⟨this, rfl⟩
theorem fns_at (hR : Rel K F H σ ρ) : ∀ (js : List Nat) (ws : List (List D → Option D)), fnsOf js ρ = some ws → ∃ fs : List Addr, fs.length = js.length ∧ FnsOk K F fs ws ∧ ∀ (k j : Nat) (f : Addr), js[k]? = some j → fs[k]? = some f → σ[j]? = some (some (.ref f))
  | [], ws, h => by
    cases h
    exact ⟨[], rfl, ⟨rfl, fun i f w a _ => by cases a⟩, fun k j f a _ => by cases a⟩
  | j :: js, ws, h => by
    obtain ⟨w, e1, h⟩ := Option.bind_eq_some_iff.mp h
    obtain ⟨ws', e2, rfl⟩ := Option.map_eq_some_iff.mp h
    obtain ⟨fs, h1, h2, h3⟩ := fns_at hR js ws' e2
    have e3 : ρ[j]? = some (.fn w) := by
      unfold fnOf at e1
      split at e1
      · cases e1
        assumption
      · cases e1
    obtain ⟨f, s, hk⟩ := hR.at_ j _ e3
    refine ⟨f :: fs, by rw [List.length_cons, List.length_cons, h1], ⟨by rw [List.length_cons, List.length_cons, h2.1], fun i f' w' a b => ?_⟩, fun k j' f' a b => ?_⟩
    · cases i with
      | zero =>
        cases a
        cases b
        exact hk
      | succ i => exact h2.2 i f' w' a b
    · cases k with
      | zero =>
        cases a
        cases b
        exact s
      | succ k => exact h3 k j' f' a b
end
section
variable {X : Cx} {e : Expr} {es : List Expr} {p pos q : Pos} {gs : Fm → Option (List D × Fm)} {fs : Fm → Option (List D)}
theorem x_callJ {k n m i : Nat} {js : List Nat} {t : Bool} {x : Str} {f : Addr} {fd : FuncData} {ps : List Str} {g : List (List D → Option D) → List D → List (D × D) → Option (D × List (D × D))} (G : FnOk X.prog X.w X.K X.mg X.base CX0 k f fd ps (spJ X.K g m t n)) (hr : Room k X.A) (hm : X.mg x = some (.ref f)) (hk : PySem.W.keepIn X.K (.ref f) = true) (hb : Binds X.K fd ps [])
    (ha : AJ X (js ++ [i]) (e :: es) gs) (hn : n + m + 1 = (e :: es).length := by rfl) (hjs : js.length = m := by rfl) (hg : Gl X x := by rfl) (hdb : (x == ("__debug__" : Str)) = false := by decide) (he : starEach (e :: es) X.env = (false, eval e X.env) :: starEach es X.env := by rfl) (hpl : (backTo pos (starEach es X.env)).any (·.1) = false := by rfl) :
    XE X (.Call (.Name x p) (e :: es) [] pos) (xCallJ js i t g gs) := by
  obtain ⟨ta, h1, h2, h3⟩ := ha
  refine ⟨_, pe_call G hr hg hm hk hb .nil pass0 h1 hdb he hpl, fun F H σ ρ d ρ' hf hR Q q => ?_⟩
  obtain ⟨ws, e00, hf⟩ := Option.bind_eq_some_iff.mp hf
  obtain ⟨kvs0, e01, hf⟩ := Option.bind_eq_some_iff.mp hf
  obtain ⟨⟨ds, ρ1⟩, e1, hf⟩ := Option.bind_eq_some_iff.mp hf
  obtain ⟨b, e3, hf⟩ := Option.bind_eq_some_iff.mp hf
  obtain ⟨kvs, e4, hf⟩ := Option.bind_eq_some_iff.mp hf
  obtain ⟨⟨dz, kvs'⟩, e5, e6⟩ := Option.map_eq_some_iff.mp hf
  cases e6
  obtain ⟨fa, hfl, fo, fat⟩ := fns_at hR js ws e00
  have hb0 : ∃ b0, ρ[i]? = some b0 := by
    cases hb0 : ρ[i]? with
    | none => rw [hb0] at e01; cases e01
    | some b0 => exact ⟨b0, rfl⟩
  obtain ⟨b0, e02⟩ := hb0
  rw [e02] at e01
  obtain ⟨⟨a0, s0, _, _⟩, _⟩ := dw_own hR e02 e01
  refine h2 F H σ ρ _ ρ1 e1 hR (fa.map V.ref ++ [V.ref a0]) (by rw [List.length_append, List.length_append, List.length_map, hfl]; rfl) (fun k' j v hj hv => ?_) _ fun us F1 H1 g1 r1 => ?_
  · by_cases hlt : k' < js.length
    · rw [List.getElem?_append_left hlt] at hj
      rw [List.getElem?_append_left (by rw [List.length_map]; omega), List.getElem?_map] at hv
      obtain ⟨f', hf', rfl⟩ := Option.map_eq_some_iff.mp hv
      exact fat k' j f' hj hf'
    · rw [List.getElem?_append_right (by omega)] at hj
      rw [List.getElem?_append_right (by rw [List.length_map]; omega), List.length_map] at hv
      cases hz : k' - js.length with
      | zero =>
        rw [hz] at hj
        rw [show k' - fa.length = 0 by omega] at hv
        cases hj
        cases hv
        exact s0
      | succ z =>
        rw [hz] at hj
        cases hj
  · show spJ X.K g m t n (us ++ (fa.map V.ref ++ [V.ref a0]) ++ []) H1 Q E0
    rw [List.append_nil]
    obtain ⟨⟨a, s1, hf1, dc1⟩, ob⟩ := dw_own g1.rel e3 e4
    rw [s0] at s1
    cases s1
    have hdl : ds.length = n := by
      have := h3 _ _ _ e1
      rw [List.length_append, List.length_singleton] at this
      omega
    refine ⟨?_, F1, a0, kvs, us, ds, fa, ws, dz, kvs', rfl, ⟨g1.rel.ex, g1.rel.tab⟩, hf1, dc1, r1, hdl, by omega, fo.mono g1.go.ex, e5, fun v F2 H2 ex in_ kp hd lv dc2 rv => ?_⟩
    · have := r1.length
      rw [List.length_append, List.length_append, List.length_map, List.length_singleton]
      omega
    · obtain ⟨u, hu, _⟩ := dc2.live
      have g2 : GoE X.K F1 H1 σ ρ1 F2 H2 (ρ1.set i (b.putD kvs')) := by
        rcases dw_at e4 with rfl | rfl
        · exact goE_putG g1.rel e3 rfl s0 ex in_.1 kp lv in_.2 hd hu rfl (fun hf => ⟨a0, s0, hf, dc2⟩) fun z => by cases z
        · exact goE_putG g1.rel e3 rfl s0 ex in_.1 kp lv in_.2 hd hu rfl (fun hf => ⟨a0, s0, hf, dc2⟩) fun _ => rfl
      exact q v F2 H2 (g1.trans g2) rv
/-! ### a dict that is made for the call -/
def AD (X : Cx) (t : Bool) (es : List Expr) (fs : Fm → Option (List D)) : Prop := ∃ ta, PA X es ta ∧ (∀ F H σ ρ ds, fs ρ = some ds → Rel X.K F H σ ρ → ∀ Q : List V → Hp → Prop, (∀ us F' H' a, Gr F H F' H' → RpA X.K F' us ds → H a = none → F' a = none → Dct X.K F' H' a t [] → Q (us ++ [V.ref a]) H') → ta σ H Q) ∧
  ∀ ρ ds, fs ρ = some ds → ds.length + 1 = es.length
theorem ad_end {t : Bool} (hs : starEach [.Dict [] [] q] X.env = (false, eval (.Dict [] [] q) X.env) :: starEach [] X.env := by rfl) : AD X t [.Dict [] [] q] fNil := by
  cases t with
  | true =>
    refine ⟨_, pa_cons pe_newN pa_nil hs, fun F H σ ρ ds hf hR Q k p hp => ?_, fun ρ ds h => by cases h; rfl⟩
    cases hf
    exact k [] F _ p (Gr.newH hR.ex hp) .nil hp (hR.ex.free hp) ⟨[], upd_same, .nil⟩
  | false =>
    refine ⟨_, pa_cons pe_dnewK pa_nil hs, fun F H σ ρ ds hf hR Q k p hp => ?_, fun ρ ds h => by cases h; rfl⟩
    cases hf
    exact k [] F _ p (Gr.newH hR.ex hp) .nil hp (hR.ex.free hp) ⟨[], upd_same, .nil⟩
theorem ad_cons {t : Bool} {fe : Fm → Option D} (h : PP X e fe) (hr : AD X t es fs) (hs : starEach (e :: es) X.env = (false, eval e X.env) :: starEach es X.env := by rfl) : AD X t (e :: es) (fCons fe fs) := by
  obtain ⟨_, h1, h2⟩ := h
  obtain ⟨_, h3, h4, h5⟩ := hr
  refine ⟨_, pa_cons h1 h3 hs, fun F H σ ρ ds hf hR Q k => ?_, fun ρ ds h => ?_⟩
  · obtain ⟨d, e1, e2⟩ := Option.bind_eq_some_iff.mp hf
    obtain ⟨r, e3, rfl⟩ := Option.map_eq_some_iff.mp e2
    refine h2 F H σ ρ _ e1 hR _ fun v F1 H1 g1 r1 => ?_
    refine h4 F1 H1 σ ρ _ e3 (hR.gr g1) _ fun us F2 H2 a g2 r2 ha hf2 dc => ?_
    refine k _ F2 H2 a (g1.trans g2) (.cons (r1.mono g2.ex) r2) ?_ hf2 dc
    cases hH : H a with
    | none => rfl
    | some o => exact absurd ha (g1.live a (by rw [hH]; intro z; cases z))
  · obtain ⟨d, e1, e2⟩ := Option.bind_eq_some_iff.mp h
    obtain ⟨r, e3, rfl⟩ := Option.map_eq_some_iff.mp e2
    have := h5 _ _ e3
    rw [List.length_cons, List.length_cons]
    omega
def fCallJ0 (g : List (List D → Option D) → List D → List (D × D) → Option (D × List (D × D))) (fs : Fm → Option (List D)) (ρ : Fm) : Option D := (fs ρ).bind fun ds => (g [] ds []).map (·.1)
theorem d_callJ0 {k n : Nat} {t : Bool} {x : Str} {f : Addr} {fd : FuncData} {ps : List Str} {g : List (List D → Option D) → List D → List (D × D) → Option (D × List (D × D))} (G : FnOk X.prog X.w X.K X.mg X.base CX0 k f fd ps (spJ X.K g 0 t n)) (hr : Room k X.A) (hm : X.mg x = some (.ref f)) (hk : PySem.W.keepIn X.K (.ref f) = true) (hb : Binds X.K fd ps [])
    (ha : AD X t (e :: es) fs) (hn : n + 1 = (e :: es).length := by rfl) (hg : Gl X x := by rfl) (hdb : (x == ("__debug__" : Str)) = false := by decide) (he : starEach (e :: es) X.env = (false, eval e X.env) :: starEach es X.env := by rfl) (hpl : (backTo pos (starEach es X.env)).any (·.1) = false := by rfl) :
    PP X (.Call (.Name x p) (e :: es) [] pos) (fCallJ0 g fs) := by
  obtain ⟨ta, h1, h2, h3⟩ := ha
  refine ⟨_, pe_call G hr hg hm hk hb .nil pass0 h1 hdb he hpl, fun F H σ ρ d hf hR Q q => ?_⟩
  obtain ⟨ds, e1, hf⟩ := Option.bind_eq_some_iff.mp hf
  obtain ⟨⟨dz, kvs'⟩, e2, rfl⟩ := Option.map_eq_some_iff.mp hf
  refine h2 F H σ ρ _ e1 hR _ fun us F1 H1 a g1 r1 ha hf1 dc1 => ?_
  show spJ X.K g 0 t n (us ++ [V.ref a] ++ []) H1 Q E0
  rw [List.append_nil]
  have hdl : ds.length = n := by
    have := h3 _ _ e1
    omega
  refine ⟨?_, F1, a, [], us, ds, [], [], dz, kvs', rfl, ⟨(hR.gr g1).ex, (hR.gr g1).tab⟩, hf1, dc1, r1, hdl, rfl, ⟨rfl, fun i f w a _ => by cases a⟩, e2, fun v F2 H2 ex in_ kp hd lv dc2 rv => ?_⟩
  · have := r1.length
    rw [List.length_append, List.length_singleton]
    omega
  · refine q v F2 H2 ⟨g1.ex.trans ex, in_.1, fun b o e n => ?_, fun b hb hfb => hd b (g1.live b hb) (g1.hide b hb hfb), g1.live.trans lv, fun _ => in_.2⟩ rv
    exact kp b o (g1.keep b o e n) n fun z => by rw [z, ha] at e; cases e
end
/-! ### x[k] op= e, e with an effect on x -/
def sDaugX (i : Nat) (g : D → D → Option D) (fk : Fm → Option D) (f : Fm → Option (D × Fm)) (ρ : Fm) : Option (Fl × Fm) := (dwOf true ρ[i]?).bind fun ds => (fk ρ).bind fun kd => (dGet ds kd).bind fun o => o.bind fun v0 => (f ρ).bind fun x => (g v0 x.1).bind fun z => (x.2[i]?).bind fun b => (dwOf true (some b)).bind fun ds2 => if ds2.length < bigN then (dPut true ds2 kd z).map fun ds' => (.nx, x.2.set i (b.putD ds')) else none
section
variable {X : Cx} {b e : Expr} {pos tp q : Pos} {fk : Fm → Option D} {ge : Fm → Option (D × Fm)}
theorem s_daugX (i : Nat) {y : Str} {n : Nat} {op : Operator} {g : D → D → Option D} {r : R2} (hr : Room n X.A) (ho : OpR X (inplaceOp op) r) (hg : ∀ F H x y dx dy dz, Ex F H → Vw X.K F H x dx → Vw X.K F H y dy → g dx dy = some dz → ∀ Q : VK, Res X.K F H dz Q → r x y H Q)
    (hk : PP X b fk) (he : XE X e ge) (hv : PE X (.Name y q) (tVar i) := by exact pv _)
    (ha : ∀ ov iv new, augStore b ov iv new = (do holding [new, ov, iv] (setItem ov iv new); release [new, ov, iv] []; pure .next) := by exact fun _ _ _ => rfl) (hW : WH X.w := by assumption) :
    PSt X (.AugAssign (.Subscript (.Name y q) b tp) op e pos) (sDaugX i g fk ge) := by
  obtain ⟨t, h1, h2⟩ := he
  obtain ⟨u, h3, h4⟩ := hk
  refine ⟨_, ps_daugU (by have := Room.u66 hr; omega) hv h3 h1 ho ha, fun F H σ ρ fl ρ' hf hR E k1 k2 k3 => ?_⟩
  obtain ⟨ds, e3, q1⟩ := Option.bind_eq_some_iff.mp hf
  obtain ⟨kd, e4, q2⟩ := Option.bind_eq_some_iff.mp q1
  obtain ⟨o, e5, q3⟩ := Option.bind_eq_some_iff.mp q2
  obtain ⟨v0, e6, q4⟩ := Option.bind_eq_some_iff.mp q3
  obtain ⟨⟨v, ρ1⟩, e7, q5⟩ := Option.bind_eq_some_iff.mp q4
  obtain ⟨z, e8, q6⟩ := Option.bind_eq_some_iff.mp q5
  obtain ⟨b2, e9, q7⟩ := Option.bind_eq_some_iff.mp q6
  obtain ⟨ds2, e10, q8⟩ := Option.bind_eq_some_iff.mp q7
  clear q7 q6 q5 q4 q3 q2 q1 hf
  subst e6
  split at q8
  · rename_i hz
    obtain ⟨ds', e11, e12⟩ := Option.map_eq_some_iff.mp q8
    cases e12
    have hb0 : ∃ b0, ρ[i]? = some b0 := by
      cases hb0 : ρ[i]? with
      | none => rw [hb0] at e3; cases e3
      | some b0 => exact ⟨b0, rfl⟩
    obtain ⟨b0, e02⟩ := hb0
    rw [e02] at e3
    obtain ⟨⟨p, s1, hf1, dc1⟩, _⟩ := dw_own hR e02 e3
    refine ⟨.ref p, s1, h4 F H σ ρ _ e4 hR _ fun w F1 H1 g1 r1 => ?_⟩
    obtain ⟨⟨p1, s2, hf2, dc2⟩, _⟩ := dw_own (hR.gr g1) e02 e3
    rw [s1] at s2
    cases s2
    refine ⟨F1, p, ds, kd, v0, rfl, g1.in_, dc2.dv, r1, e5, fun v1 rv1 => h2 F1 H1 σ ρ _ ρ1 e7 (hR.gr g1) _ fun v2 F2 H2 g2 r2 => ?_⟩
    refine hg F2 H2 v1 v2 v0 v z g2.rel.ex (.inl (rv1.mono g2.go.ex)) (.inl r2) e8 _ fun z3 F3 H3 g3 r3 => ?_
    have g23 := g2.trans (.gr g2.rel g3)
    obtain ⟨⟨p3, s3, hf3, dc3⟩, ob⟩ := dw_own g23.rel e9 e10
    rw [s1] at s3
    cases s3
    refine ⟨F3, true, ds2, ds', kd, z, g3.in_, hf3, dc3, (r1.mono g2.go.ex).mono g3.ex, r3, e11, hz, fun o' dc4 => ?_⟩
    refine k1 rfl σ F3 _ (((Go.gr hR g1).trans g23.go).trans ?_)
    rcases dw_at e10 with rfl | rfl
    · exact (own_wrD g23.rel e9 s1 hf3 dc4).go
    · exact (own_wrJ g23.rel e9 s1 hf3 dc4).go
  · cases q8
end
end DL
end
section
set_option Elab.async false
set_option linter.all false
set_option maxRecDepth 100000
/-! Function values that are handed on: a base that holds the function object and its cells. -/
namespace DL
open PySem PySem.Spec PyProof.Rows L2
variable [TabT]
/-! ### a base with more in it -/
def moreB (base h : Heap) (l : List Addr) : Heap := PySem.W.hideAll h ((List.range h.objs.size).filter fun a => (base.get? a).isNone && decide (a ∉ l))
section
omit [TabT]
theorem moreB_get {base h : Heap} {l : List Addr} {b : Addr} {o : Obj} (e : (moreB base h l).get? b = some o) : h.get? b = some o ∧ ((∃ o', base.get? b = some o') ∨ b ∈ l) := by
  have e' : h.get? b = some o := PySem.W.of_hideAll _ e
  refine ⟨e', ?_⟩
  cases q : base.get? b with
  | some o' => exact .inl ⟨o', rfl⟩
  | none =>
    by_cases hl : b ∈ l
    · exact .inr hl
    · have hm : b ∈ (List.range h.objs.size).filter fun a => (base.get? a).isNone && decide (a ∉ l) := List.mem_filter.mpr ⟨List.mem_range.mpr (Heap.lt_size e'), by simp [q, hl]⟩
      have z : (moreB base h l).get? b = none := PySem.W.hideAll_none _ hm
      rw [z] at e
      cases e
theorem moreB_of {base h : Heap} {l : List Addr} {b : Addr} {o : Obj} (e : h.get? b = some o) (hm : (∃ o', base.get? b = some o') ∨ b ∈ l) : (moreB base h l).get? b = some o :=
  PySem.W.hideAll_get _ e fun z => by
    have := (List.mem_filter.mp z).2
    rcases hm with ⟨o', h1⟩ | h1
    · simp [h1] at this
    · simp [h1] at this
theorem mod_more {K : PySem.W.Frag} {mg : Str → Option Value} {base base' : Heap} (M : Mod K mg base) (k : ∀ b o, base.get? b = some o → base'.get? b = some o) : Mod K mg base' :=
  ⟨M.kin.keeps k, M.glob.keeps k, let ⟨mb, h1, h2⟩ := M.blt; ⟨mb, h1.keeps k, h2⟩, M.nolimit.keeps k⟩
theorem funFrames_more {h base base' : Heap} : ∀ {l : List Env}, h.FunFrames base l → (∀ b ∈ frs l, base'.get? b = none) → h.FunFrames base' l
  | [], _, _ => trivial
  | env :: r, ⟨hk, ⟨L, o, hf, hn, ho, hd⟩, hr⟩, k => by
    have sub : ∀ b ∈ frs r, b ∈ frs (env :: r) := fun b hb => by
      unfold frs at hb ⊢
      rw [List.filterMap_cons]
      split
      · exact hb
      · exact List.mem_cons_of_mem _ hb
    have hL : L ∈ frs (env :: r) := by
      unfold frs
      rw [List.filterMap_cons, hf]
      exact List.mem_cons_self
    exact ⟨hk, ⟨L, o, hf, k L hL, ho, hd⟩, funFrames_more hr fun b hb => k b (sub b hb)⟩
theorem funFrames_none {h base : Heap} : ∀ {l : List Env}, h.FunFrames base l → ∀ b ∈ frs l, base.get? b = none
  | [], _, b, hb => by cases hb
  | env :: r, ⟨hk, ⟨L, o, hf, hn, ho, hd⟩, hr⟩, b, hb => by
    unfold frs at hb
    rw [List.filterMap_cons, hf] at hb
    rcases List.mem_cons.mp hb with rfl | hb
    · exact hn
    · exact funFrames_none hr b hb
theorem LamF.more [TabT] {K : PySem.W.Frag} {mg : Str → Option Value} {base base' : Heap} {f : Addr} {q : Str} (h : LamF K mg base f q) (k : ∀ b o, base.get? b = some o → base'.get? b = some o) : LamF K mg base' f q := fun oc od fd osl lk => by
  obtain ⟨c, P, h1, h2, h3, h4⟩ := h oc od fd osl lk
  exact ⟨c, P, h1, ⟨h2.code.keeps k, h2.bm.keeps k, h2.gP⟩, h3, h4⟩
end
section
variable {X : Cx} {pins : List (Addr × Obj)} {σ : L2.St} {H : Hp} {s : Shared}
theorem env0_more {l : List Addr} (I : Inv X pins σ H s) (hl : ∀ b ∈ l, H b = none ∧ b ∉ frs X.stack) : Env0 X.prog X.w X.K X.mg (moreB X.base s.heap l) X.A X.stack s H := by
  have k : ∀ b o, X.base.get? b = some o → (moreB X.base s.heap l).get? b = some o := fun b o e => moreB_of (I.bk b o e) (.inl ⟨o, e⟩)
  refine ⟨I.ok.frames, mod_more I.ok.mod k, fun b o e => ?_, ?_, ?_, I.stkFree, I.hok, I.bare⟩
  · obtain ⟨h1, h2⟩ := moreB_get e
    refine ⟨h1, ?_⟩
    rcases h2 with ⟨o', h2⟩ | h2
    · exact (I.bs b o' h2).2
    · exact (hl b h2).1
  · unfold moreB
    rw [PySem.W.hideAll_size]
    exact Nat.le_refl _
  · refine funFrames_more I.stack fun b hb => ?_
    cases q : (moreB X.base s.heap l).get? b with
    | none => rfl
    | some o =>
      rcases (moreB_get q).2 with ⟨o', h2⟩ | h2
      · rw [funFrames_none I.stack b hb] at h2
        cases h2
      · exact absurd hb (hl b h2).2
end
/-! ### the lambda over such a base -/
/-- the cells that the lambda captured stand in the base -/
structure CapB (X : Cx) (scope : Scope) (cs : List Str) (ws : List V) (base' : Heap) : Prop where
  cell : ∀ y c, (cloFrom X.env.cells scope.names []).lookup y = some c → ∃ v, base'.IsCell c v
  inj : ∀ y z c, (cloFrom X.env.cells scope.names []).lookup y = some c → (cloFrom X.env.cells scope.names []).lookup z = some c → y = z
  has : ∀ y, scope.names.lookup y = some .free → ∃ c, (cloFrom X.env.cells scope.names []).lookup y = some c
  val : ∀ (i : Nat) (y : Str) (v : V), cs[i]? = some y → ws[i]? = some v → ∃ c u, (cloFrom X.env.cells scope.names []).lookup y = some c ∧ RelV v u ∧ base'.IsCell c (some u)
/-- what any context over the base may do with function values of n parameters -/
def FnAll [FnT] (P : Program) (w : World) (K : PySem.W.Frag) (mg : Str → Option Value) (base : Heap) (k n : Nat) : Prop := ∀ Z : Cx, Z.prog = P → Z.w = w → Z.K = K → Z.mg = mg → Z.base = base → Room k Z.A → CallOk Z n
abbrev Cx.on (X : Cx) (b : Heap) : Cx := { X with base := b }
section
variable [FnT] {X : Cx}
theorem lam_startB {base' : Heap} {A : Around} {outer : List Env} {scope : Scope} {f c' : Addr} {h₁ : Heap} {tk : Nat} {ps cs : List Str} {us : List Value} {vs ws : List V} {HZ : Hp} {s1 : Shared} (L : LamP X.env.scope scope ps cs) (C : CapB X scope cs ws base') (e0 : Env0 X.prog X.w X.K X.mg base' A outer s1 HZ) (hd : A.handled = none)
    (r : Vals vs us) (hl : vs.length = ps.length) (hns : h₁.Ns s1.heap.objs.size fun y => (ps.zip us).reverse.lookup y) (kp : ∀ b o, s1.heap.get? b = some o → h₁.get? b = some o) (hw : ws.length = cs.length) :
    Inv (lamCxN (Cx.on X base') A outer s1 HZ scope f c' (ps ++ cs)) [] ((vs ++ ws).map some) HZ { s1 with heap := h₁, toks := tk } := by
  have cellK : ∀ {c : Addr} {v : Option Value}, base'.IsCell c v → h₁.IsCell c v ∧ HZ c = none := fun {c v} ⟨o, ho, hd⟩ => ⟨⟨o, kp _ _ (e0.bs _ _ ho).1, hd⟩, (e0.bs _ _ ho).2⟩
  have noA : ∀ b : Addr, b ∉ (lamCxN (Cx.on X base') A outer s1 HZ scope f c' (ps ++ cs)).ex := fun b z => absurd (show b ∈ ([] : List Addr) from z) (by simp)
  have hul : us.length = ps.length := by rw [← hl]; exact r.length.symm
  refine ⟨⟨e0.mod, L.kind, rfl, rfl, Nat.le_refl _, fun y z c e1 e2 => C.inj y z c e1 e2, fun y hy => ?_, fun y c z _ => ?_, fun _ => hd, Around.frames_deeper e0.frames, .inr ⟨rfl, rfl⟩, fun b z => absurd z (noA b), e0.bs, e0.bsz, fun b _ _ => noA b,
      fun b z => absurd z (noA b), e0.funs, e0.frf⟩,
    rfl, e0.bare, Un.kept kp, ⟨_, hns, fun i y v e1 e2 e3 => ?_⟩, fun y c e => ?_, e0.hok.fresh (Nat.le_refl _), fun y c e => ?_, fun q hq => absurd (show q ∈ ([] : List (Addr × Obj)) ++ [] from hq) (by simp), e0.hok.kept kp, ?_⟩
  · have hy : scope.names.lookup y = some .cell ∨ scope.names.lookup y = some .free := hy
    rcases hy with hy | hy
    · exact absurd rfl (L.nocell _ (PySem.mem_of_lookup hy))
    · exact C.has y hy
  · have z : false = true := z
    cases z
  · have e1 : (ps ++ cs)[i]? = some y := e1
    have e2 : (vs ++ ws)[i]? = some v := by
      rw [List.getElem?_map] at e2
      obtain ⟨v', h1, h2⟩ := Option.map_eq_some_iff.mp e2
      cases h2
      exact h1
    by_cases hi : i < ps.length
    · rw [List.getElem?_append_left hi] at e1
      rw [List.getElem?_append_left (by omega)] at e2
      obtain ⟨u, hu, rv⟩ := r.get e2
      refine ⟨u, rv, .inl ⟨L.par y (List.mem_of_getElem? e1), ?_⟩⟩
      refine lookup_one ?_ (List.mem_reverse.mpr (List.mem_of_getElem? (i := i) ?_))
      · rw [List.map_reverse, zip_keys hul]
        exact (List.reverse_perm _).nodup_iff.mpr L.nd
      · rw [List.getElem?_zip_eq_some]
        exact ⟨e1, hu⟩
    · rw [List.getElem?_append_right (by omega)] at e1
      rw [List.getElem?_append_right (by omega), hl] at e2
      obtain ⟨c, u, h1, h2, h3⟩ := C.val _ y v e1 e2
      exact ⟨u, h2, .inr ⟨.inr (L.cap y (List.mem_of_getElem? e1)), c, h1, (cellK h3).1⟩⟩
  · obtain ⟨v, h⟩ := C.cell y c e
    exact ⟨v, (cellK h).1⟩
  · obtain ⟨v, h⟩ := C.cell y c e
    exact (cellK h).2
  · show ((vs ++ ws).map some).length = (ps ++ cs).length
    rw [List.length_map, List.length_append, List.length_append, hl, hw]
/-- any context over the base may call the lambda -/
theorem lam_all {k : Nat} {base' : Heap} {f c' : Addr} {pm ctv : Value} {params : Arguments} {body : Expr} {scope : Scope} {ps cs : List Str} {ws : List V} {cds : List D} {fe : Fm → Option D}
    (L : LamP X.env.scope scope ps cs) (C : CapB X scope cs ws base') (hw : ws.length = cs.length) (hf : base'.get? f = some (PySem.W.kla_obj "<lambda>" (X.env.qual ++ "<lambda>") params body scope (cloFrom X.env.cells scope.names []) pm c' ctv))
    (hbind : ∀ us : List Value, us.length = ps.length → bindArgs (PySem.W.kla_fn "<lambda>" (X.env.qual ++ "<lambda>") params body scope (cloFrom X.env.cells scope.names []) pm (.ref c') ctv) ⟨us, []⟩ = pure (ps.zip us))
    (hbody : ∀ (A : Around) (outer : List Env) (s : Shared) (H : Hp), Room k (A.deeper (LamX.lamEnv (Cx.on X base') scope s.heap.objs.size f c')) → PP (lamCxN (Cx.on X base') A outer s H scope f c' (ps ++ cs)) body fe) :
    @FnAll _ (fnLam f c' (X.env.qual ++ "<lambda>") ws cds fun ds => fe ((ds ++ cds).map .sh)) X.prog X.w X.K X.mg base' (k + 1) ps.length := by
  intro Z eP ew eK em eb hr
  obtain ⟨Zprog, Zw, ZK, Zmg, Zbase, ZA, ZN, Zs, ZH, Zenv, Zouter, Zstack, Zex, Zfn, Zcalm, Zpn, Zxe⟩ := Z
  cases eP
  cases ew
  cases eK
  cases em
  cases eb
  refine @CallOk.mk _ (fnLam f c' (X.env.qual ++ "<lambda>") ws cds fun ds => fe ((ds ++ cds).map .sh)) _ _ (fun pinsZ σZ sZ F HZ a w IZ ex hk => ?_) fun pinsZ σZ sZ F HZ a w vs us ds d Q IZ hk ex tb ra r hl hwd q => ?_
  · obtain ⟨rfl, _⟩ := hk
    exact ⟨_, _, _, _, IZ.bk _ _ hf⟩
  · obtain ⟨rfl, rfl, hcF, rcap⟩ := hk
    have of1 := IZ.bk _ _ hf
    have hco : HZ c' = some (LamX.CodeO c' (X.env.qual ++ "<lambda>")) := ex _ _ hcF
    obtain ⟨⟨oc, vs', t, hoc, hdc, hvc⟩, _, _⟩ := IZ.hok c' _ hco
    have hr : Room (k + 1) ZA := hr
    have rc : codeAny (model X.prog X.w) ZA (.call (.ref a) ⟨us, []⟩) (CR CX0 Zstack X.prog X.w HZ sZ Q E0) sZ := by
      refine PySem.W.kla_callFunE hr.depth of1 rfl L.co L.gen rfl ⟨c', oc, vs', t, rfl, hoc, hdc, hvc⟩ ?_
      have hul : us.length = ps.length := by rw [← hl]; exact r.length.symm
      rw [hbind us hul]
      refine wpAny_pure (wpAny_newFunctionEnv L.nocell (fun y hy => L.par _ (List.of_mem_zip hy).1) (fun h₁ hns hsb => ⟨IZ.nolimit.fresh _ hsb, ?_⟩) L.kind)
      show codeAny _ _ (.expr body (LamX.lamEnv X scope sZ.heap.objs.size a c')) _ _
      have kp : ∀ b o, sZ.heap.get? b = some o → h₁.get? b = some o := fun b o e => hsb.extBut b o (Nat.ne_of_lt (Heap.lt_size e)) (Heap.get?_push_of_some _ e)
      have J := lam_startB (f := a) (c' := c') (tk := sZ.toks + (ps.zip us).length) L C IZ.env0 hr.hd r hl hns kp hw
      obtain ⟨tt, h1, h2⟩ := hbody ZA Zstack sZ HZ (hr.deeper _)
      refine PySem.W.kla_codeExpr (wpAny_mono (h1.run [] _ _ HZ Q J (h2 F HZ _ _ d hwd (rel_all ⟨ex, tb⟩ (rpa_app ra rcap)) Q q)) (fun v s' hq => ?_) fun e s' hq => hq.elim)
      obtain ⟨w', H', J', rv, q⟩ := hq
      exact ⟨w', H', J'.os, J'.bare, J'.base, J'.hok, rv, q⟩
    refine wpAny_call (codeAny_mono rc fun r' s' hq => ?_)
    cases r' with
    | error e => exact (show False from hq).elim
    | ok fl =>
      cases fl with
      | ret u => exact IZ.after hq
      | next => exact False.elim hq
      | brk => exact False.elim hq
      | cont => exact False.elim hq
/-- at the call: such a base -/
theorem lam_ready {pins : List (Addr × Obj)} {σ : L2.St} {H : Hp} {s : Shared} {f : Addr} {ob : Obj} {scope : Scope} {ps cs : List Str} {js : List Nat} {ws : List V} (I : Inv X pins σ H s) (hX : ∀ y, X.fn y = true) (L : LamP X.env.scope scope ps cs) (hf : s.heap.get? f = some ob) (hfn : H f = none) (hfr : f ∉ frs X.stack)
    (hw : ws.length = cs.length) (hj : js.length = cs.length) (hc : ∀ (i j : Nat) (y : Str), js[i]? = some j → cs[i]? = some y → X.N[j]? = some y) (hs : ∀ (i j : Nat) (v : V), js[i]? = some j → ws[i]? = some v → σ[j]? = some (some v)) :
    ∃ base', (∀ b o, X.base.get? b = some o → base'.get? b = some o) ∧ Env0 X.prog X.w X.K X.mg base' X.A X.stack s H ∧ base'.get? f = some ob ∧ CapB X scope cs ws base' := by
  have hfree : ∀ y ∈ scope.names, y.2 = .free → ∃ c, X.env.cells.lookup y.1 = some c := fun y hy e => by
    rcases L.free y hy e with k | k
    · exact I.ok.has _ (.inl k)
    · exact I.ok.has _ (.inr k)
  have cmm : ∀ {y c}, (y, c) ∈ cloFrom X.env.cells scope.names [] → X.env.cells.lookup y = some c := fun {y c} e => by
    rcases cloFrom_mem e with hm | ⟨h1, h2⟩
    · cases hm
    · obtain ⟨c1, hc⟩ := hfree _ h1 rfl
      have hc : X.env.cells.lookup y = some c1 := hc
      have e2 : c = c1 := by
        rw [h2, hc] <;> rfl
      rw [e2]
      exact hc
  have cm : ∀ {y c}, (cloFrom X.env.cells scope.names []).lookup y = some c → X.env.cells.lookup y = some c := fun {y c} e => cmm (PySem.mem_of_lookup e)
  have look : ∀ {y}, scope.names.lookup y = some .free → ∃ c, (cloFrom X.env.cells scope.names []).lookup y = some c := fun {y} hl => by
    have hy : (y, NameKind.free) ∈ scope.names := PySem.mem_of_lookup hl
    exact mem_lookup (cloFrom_has (cells := X.env.cells) (acc := []) hy)
  have cfr : ∀ {y c}, X.env.cells.lookup y = some c → c ∉ frs X.stack := fun {y c} e z => by
    rcases List.mem_cons.mp (I.stkSub _ z) with q | q
    · exact I.cne y c e q
    · obtain ⟨_, o, ho, _⟩ := I.ok.funs.mem q
      exact absurd (Nat.lt_of_lt_of_le (Heap.lt_size ho) (I.ok.cab y c (hX y) e)) (Nat.lt_irrefl _)
  refine ⟨moreB X.base s.heap (f :: (cloFrom X.env.cells scope.names []).map (·.2)), fun b o e => moreB_of (I.bk b o e) (.inl ⟨o, e⟩), env0_more I fun b hb => ?_, moreB_of hf (.inr List.mem_cons_self), ⟨fun y c e => ?_, fun y z c e1 e2 => I.ok.inj y z c (cm e1) (cm e2), fun y hy => look hy, fun i y v e1 e2 => ?_⟩⟩
  · rcases List.mem_cons.mp hb with rfl | hb
    · exact ⟨hfn, hfr⟩
    · obtain ⟨⟨y, c⟩, h1, rfl⟩ := List.mem_map.mp hb
      have h2 := cmm h1
      exact ⟨I.freeC y c h2, cfr h2⟩
  · obtain ⟨v, o, ho, hd⟩ := I.cell y c (cm e)
    exact ⟨v, o, moreB_of ho (.inr (List.mem_cons_of_mem _ (List.mem_map.mpr ⟨_, PySem.mem_of_lookup e, rfl⟩))), hd⟩
  · have k := L.cap y (List.mem_of_getElem? e1)
    have hlt : i < js.length := by
      have := (List.getElem?_eq_some_iff.mp e1).1
      omega
    have ej := List.getElem?_eq_getElem hlt
    have n1 := hc _ _ _ ej e1
    have n2 := hs _ _ _ ej e2
    obtain ⟨m, hn, hlk⟩ := I.loc
    have hvis : Vis X.env.scope y := (L.free _ (PySem.mem_of_lookup k) rfl).elim (fun k => .inr (.inl k)) (fun k => .inr (.inr k))
    obtain ⟨w', rw', q⟩ := hlk _ y v n1 n2 hvis
    obtain ⟨c2, h2⟩ := look k
    have c1 := cm h2
    rcases q with ⟨k', _⟩ | ⟨_, c3, e', z⟩
    · have k' : X.env.scope.names.lookup y = some .local := k'
      rcases L.free _ (PySem.mem_of_lookup k) rfl with k2 | k2 <;> rw [show X.env.scope.names.lookup y = _ from k2] at k' <;> cases k'
    · rw [c1] at e'
      cases e'
      obtain ⟨o, ho, hd⟩ := z
      exact ⟨c2, w', h2, rw', o, moreB_of ho (.inr (List.mem_cons_of_mem _ (List.mem_map.mpr ⟨_, PySem.mem_of_lookup h2, rfl⟩))), hd⟩
end
end DL
end
section
set_option Elab.async false
set_option linter.all false
set_option maxRecDepth 100000
/-! Defs that are handed a function value and hand it on; calls with a lambda of such defs. -/
namespace DL
open PySem PySem.Spec PyProof.Rows L2
variable [TabT]
section
variable [FnT]
/-- a def whose last argument is a function value -/
def spW (K : PySem.W.Frag) (g : (List D → Option D) → List D → Option D) (n : Nat) : Sp := fun vs H Q _ => vs.length = n + 1 ∧ ∃ (F : Hp) (a : Addr) (us : List V) (ds : List D) (w : List D → Option D) (d : D), vs = us ++ [V.ref a] ∧ ExB F H ∧ RpA K F us ds ∧ ds.length = n ∧ FnT.ok K F a w ∧ g w ds = some d ∧
  ∀ v F' H', Gr F H F' H' → Rp K F' v d → Q v H'
theorem fnW_none {P : Program} {w : World} {K : PySem.W.Frag} {mg : Str → Option Value} {base : Heap} {k : Nat} {f : Addr} {fd : FuncData} {ps : List Str} {n : Nat} : FnOk P w K mg base CX0 k f fd ps (spW K (fun _ _ => none) n) := by
  refine ⟨fun vs H Q E h => ?_, fun A outer s H args us vs Q E _ _ _ _ h => ?_⟩
  · obtain ⟨_, _, _, _, _, _, _, _, _, _, _, _, z, _⟩ := h
    cases z
  · obtain ⟨_, _, _, _, _, _, _, _, _, _, _, _, z, _⟩ := h
    cases z
theorem def_W {P : Program} {w : World} {K : PySem.W.Frag} {mg : Str → Option Value} {base : Heap} {x qual : Str} {st : Stmt} {f : Addr} {fd : FuncData} {N ps : List Str} {k n : Nat} {sf : Fm → Option (Fl × Fm)} (Fn : Fun K x qual st f fd) (S : FnScope N ps (defScope st)) (hn : ps.length = n + 1) (hNl : n + 1 ≤ N.length)
    (hbody : ∀ (cdv : Value) (A : Around) (outer : List Env) (s : Shared) (H : Hp) (E : XK), Room k (A.deeper (envOfC qual (defScope st) s.heap.objs.size f cdv)) → PBl (cxOf CX0 P w K mg base N qual (defScope st) f cdv A outer s H E).nox (defBody st) sf) :
    FnOk P w K mg base CX0 (k + 1) f fd ps (spW K (runPF N.length sf) n) := by
  refine Fn.ok S (fun vs H Q E h => h.1.trans hn.symm) fun cdv A outer s H vs Q E hr h => ?_
  obtain ⟨hl, F, a, us, ds, w0, d, rfl, ex, r, hdl, fo, hg, q⟩ := h
  obtain ⟨t1, h1, h2⟩ := hbody cdv A outer s H E hr
  refine ⟨t1, h1, ?_⟩
  obtain ⟨⟨fl, ρ'⟩, e1, e2⟩ := Option.bind_eq_some_iff.mp hg
  have done : ∀ v σ' F' H', Go K F H (L2.start N (us ++ [.ref a])) (startF N.length w0 ds) F' H' σ' ρ' → Rp K F' v d → Q v H' := fun v σ' F' H' g r' =>
    q v F' H' ⟨g.ex, g.rel.ex, fun a o e t => g.keep a o e t no_ownF, fun a e f => g.hide a e f no_ownF, g.live, fun _ => g.rel.tab⟩ r'
  have rel : Rel K F H (L2.start N (us ++ [.ref a])) (startF N.length w0 ds) := rel_startF N (by omega) ex r fo
  refine h2 F H _ _ fl ρ' e1 rel _ (fun z σ' F' H' g => ?_) (fun z σ' F' H' g => ?_) fun d' z v σ' F' H' g r' => ?_
  · subst z
    cases e2
    exact done _ σ' F' H' g .non
  · subst z
    cases e2
  · subst z
    cases e2
    exact done _ σ' F' H' g r'
/-! ### the function value is handed on -/
def AF (X : Cx) (j : Nat) (es : List Expr) (fs : Fm → Option (List D)) : Prop := ∃ ta, PA X es ta ∧ (∀ F H σ ρ ds, fs ρ = some ds → Rel X.K F H σ ρ → ∀ v : V, σ[j]? = some (some v) → ∀ Q : List V → Hp → Prop, (∀ us F' H', Gr F H F' H' → RpA X.K F' us ds → Q (us ++ [v]) H') → ta σ H Q) ∧
  ∀ ρ ds, fs ρ = some ds → ds.length + 1 = es.length
section
variable {X : Cx} {e : Expr} {es : List Expr} {p pos q : Pos} {fs : Fm → Option (List D)}
theorem af_end {j : Nat} {y : Str} (hv : PE X (.Name y q) (tVar j) := by exact pv _) (hs : starEach [.Name y q] X.env = (false, eval (.Name y q) X.env) :: starEach [] X.env := by rfl) : AF X j [.Name y q] fNil := by
  refine ⟨_, pa_cons hv pa_nil hs, fun F H σ ρ ds hf hR v hv Q k => ?_, fun ρ ds h => by cases h; rfl⟩
  cases hf
  exact ⟨v, hv, k [] F H (.refl hR.ex) .nil⟩
theorem af_cons {j : Nat} {fe : Fm → Option D} (h : PP X e fe) (hr : AF X j es fs) (hs : starEach (e :: es) X.env = (false, eval e X.env) :: starEach es X.env := by rfl) : AF X j (e :: es) (fCons fe fs) := by
  obtain ⟨_, h1, h2⟩ := h
  obtain ⟨_, h3, h4, h5⟩ := hr
  refine ⟨_, pa_cons h1 h3 hs, fun F H σ ρ ds hf hR v hv Q k => ?_, fun ρ ds h => ?_⟩
  · obtain ⟨d, e1, e2⟩ := Option.bind_eq_some_iff.mp hf
    obtain ⟨r, e3, rfl⟩ := Option.map_eq_some_iff.mp e2
    refine h2 F H σ ρ _ e1 hR _ fun u F1 H1 g1 r1 => ?_
    refine h4 F1 H1 σ ρ _ e3 (hR.gr g1) v hv _ fun us F2 H2 g2 r2 => ?_
    exact k _ F2 H2 (g1.trans g2) (.cons (r1.mono g2.ex) r2)
  · obtain ⟨d, e1, e2⟩ := Option.bind_eq_some_iff.mp h
    obtain ⟨r, e3, rfl⟩ := Option.map_eq_some_iff.mp e2
    have := h5 _ _ e3
    rw [List.length_cons, List.length_cons]
    omega
def fCallW (j : Nat) (g : (List D → Option D) → List D → Option D) (fs : Fm → Option (List D)) (ρ : Fm) : Option D := (fnOf ρ[j]?).bind fun w => (fs ρ).bind fun ds => g w ds
theorem d_callW {k n j : Nat} {x : Str} {f : Addr} {fd : FuncData} {ps : List Str} {g : (List D → Option D) → List D → Option D} (G : FnOk X.prog X.w X.K X.mg X.base CX0 k f fd ps (spW X.K g n)) (hr : Room k X.A) (hm : X.mg x = some (.ref f)) (hk : PySem.W.keepIn X.K (.ref f) = true) (hb : Binds X.K fd ps [])
    (ha : AF X j (e :: es) fs) (hn : n + 1 = (e :: es).length := by rfl) (hg : Gl X x := by rfl) (hdb : (x == ("__debug__" : Str)) = false := by decide) (he : starEach (e :: es) X.env = (false, eval e X.env) :: starEach es X.env := by rfl) (hpl : (backTo pos (starEach es X.env)).any (·.1) = false := by rfl) :
    PP X (.Call (.Name x p) (e :: es) [] pos) (fCallW j g fs) := by
  obtain ⟨ta, h1, h2, h3⟩ := ha
  refine ⟨_, pe_call G hr hg hm hk hb .nil pass0 h1 hdb he hpl, fun F H σ ρ d hf hR Q q => ?_⟩
  obtain ⟨w, e0, hf⟩ := Option.bind_eq_some_iff.mp hf
  obtain ⟨ds, e1, e2⟩ := Option.bind_eq_some_iff.mp hf
  have e3 : ρ[j]? = some (.fn w) := by
    unfold fnOf at e0
    split at e0
    · cases e0
      assumption
    · cases e0
  obtain ⟨a, s, hk⟩ := hR.at_ j _ e3
  refine h2 F H σ ρ _ e1 hR _ s _ fun us F1 H1 g1 r1 => ?_
  show spW X.K g n (us ++ [V.ref a] ++ []) H1 Q E0
  rw [List.append_nil]
  have hdl : ds.length = n := by
    have := h3 _ _ e1
    omega
  refine ⟨?_, F1, a, us, ds, w, d, rfl, ⟨(hR.gr g1).ex, (hR.gr g1).tab⟩, r1, hdl, FnT.mono g1.ex hk, e2, fun v F2 H2 g2 rv => q v F2 H2 (g1.trans g2) rv⟩
  have := r1.length
  rw [List.length_append, List.length_singleton]
  omega
end
end
/-! ### calls with a lambda -/
section
variable [FnT] {X : Cx}
theorem lam_pin {pins : List (Addr × Obj)} {σ : L2.St} {H : Hp} {s : Shared} {f : Addr} {ob : Obj} (I : Inv X pins σ H s) (hf : s.heap.get? f = some ob) (hfn : H f = none) (hfr : f ∉ frs X.stack) (h1 : ∀ es ep, ob.data ≠ .dict es ep) (h2 : ∀ v, ob.data ≠ .cell v) : Inv X ((f, ob) :: pins) σ H s :=
  I.pins_of fun p hp => by
    rcases List.mem_cons.mp hp with rfl | hp
    · refine ⟨hf, hfn, fun z => ?_, fun z => hfr ?_, h2⟩
      · obtain ⟨m, ⟨o', es, ep, ho', hd', _⟩, _⟩ := I.loc
        have z : f = X.env.locals := z
        rw [← z, hf] at ho'
        cases ho'
        exact h1 _ _ hd'
      · rcases I.ok.stk with e | ⟨e, _⟩
        · rw [e]; exact z
        · rw [e]
          unfold frs
          rw [List.filterMap_cons]
          split
          · exact z
          · exact List.mem_cons_of_mem _ z
    · exact I.pin p (List.mem_append_right _ hp)
theorem lam_unpin {pins : List (Addr × Obj)} {σ : L2.St} {p : Addr × Obj} {Q : VK} {u : Value} {s : Shared} (h : EP X (p :: pins) σ Q u s) : EP X pins σ Q u s := by
  obtain ⟨v, H', I, r, q⟩ := h
  exact ⟨v, H', I.pins_of fun p hp => I.pin p (List.mem_append_right _ (List.mem_cons_of_mem _ hp)), r, q⟩
/-- x(e, .., lambda ps: body), x hands it on -/
theorem d_lamW {k kb m n : Nat} {x : Str} {g : Addr} {fd : FuncData} {psg : List Str} {sf : (List D → Option D) → List D → Option D} {es : List Expr} {e0 : Expr} {rest : List Expr} {fs : Fm → Option (List D)} {params : Arguments} {body : Expr} {scope : Scope} {ps cs : List Str} {js : List Nat} {fe : Fm → Option D} {p lpos pos : Pos}
    (T : LamT X) (hX : ∀ y, X.fn y = true) (hm : X.mg x = some (.ref g)) (hk : PySem.W.keepIn X.K (.ref g) = true) (hb : Binds X.K fd psg []) (hr : Room k X.A)
    (hG : ∀ (fn : FnT) (b : Heap), (∀ a o, X.base.get? a = some o → b.get? a = some o) → @FnAll _ fn X.prog X.w X.K X.mg b (kb + 1) m → FnOk X.prog X.w X.K X.mg b CX0 k g fd psg (@spW _ fn X.K sf n))
    (ha : AkP X es fs) (hes : ∀ ρ ds, fs ρ = some ds → ds.length = n) (L : LamP X.env.scope scope ps cs) (hps : ps.length = m) (hdef : defaultsOf params X.env = ([], []))
    (hbind : ∀ (q : Str) (cl : List (Str × Addr)) (pm cv ctv : Value) (us : List Value), us.length = ps.length → bindArgs (PySem.W.kla_fn "<lambda>" q params body scope cl pm cv ctv) ⟨us, []⟩ = pure (ps.zip us))
    (hj : js.length = cs.length) (hc : ∀ (i j : Nat) (y : Str), js[i]? = some j → cs[i]? = some y → X.N[j]? = some y)
    (hbody : ∀ (b : Heap) (A : Around) (outer : List Env) (s : Shared) (H : Hp) (f c' : Addr), Room kb (A.deeper (LamX.lamEnv (Cx.on X b) scope s.heap.objs.size f c')) → PP (lamCxN (Cx.on X b) A outer s H scope f c' (ps ++ cs)) body fe)
    (hpsl : psg.length = n + 1)
    (hargs : backTo pos (starEach (e0 :: rest) X.env) = es.map (fun e => (false, eval e X.env)) ++ [(false, eval (.Lambda params body scope lpos) X.env)] := by rfl)
    (hg : Gl X x := by rfl) (hdb : (x == ("__debug__" : Str)) = false := by decide) (he : starEach (e0 :: rest) X.env = (false, eval e0 X.env) :: starEach rest X.env := by rfl) (hpl : (backTo pos (starEach rest X.env)).any (·.1) = false := by rfl) :
    PP X (.Call (.Name x p) (e0 :: rest) [] pos) (fCallL sf fs (fLamW js fe)) := by
  refine ⟨fun σ H Q => ∀ (pins : List (Addr × Obj)) (s : Shared), Inv X pins σ H s → wpAny (model X.prog X.w) X.A (eval (.Call (.Name x p) (e0 :: rest) [] pos) X.env) (EP X pins σ Q) X.xe s, ⟨fun pins s σ H Q I h => h pins s I⟩, fun F H σ ρ d hf hR Q q pins s I => ?_⟩
  obtain ⟨ds, e1, hf⟩ := Option.bind_eq_some_iff.mp hf
  obtain ⟨w, e2, hf⟩ := Option.bind_eq_some_iff.mp hf
  obtain ⟨cds, e3, rfl⟩ := Option.map_eq_some_iff.mp e2
  obtain ⟨ws, w1, w2, w3⟩ := cap_rel hR e3
  obtain ⟨c, Pt, TB, hcode, hmT, hu⟩ := T.ok
  have hfree : ∀ y ∈ scope.names, y.2 = .free → ∃ c, X.env.cells.lookup y.1 = some c := fun y hy e => by
    rcases L.free y hy e with k | k
    · exact I.ok.has _ (.inl k)
    · exact I.ok.has _ (.inr k)
  refine wpAny_Call_Name_kw (ld_glob I hg hm ?_ hdb)
  refine PySem.W.callWith_K (h₀ := X.base) I.ok.mod.kin hk ?_ he hpl
  rw [hargs]
  refine ha pins σ s F H ρ ds _ _ I hR e1 fun vs us F1 H1 s1 I1 g1 r1 rv => ?_
  refine Calls.spliced_cons (lam_make3 I1 g1.in_ (hR.gr g1).tab TB hcode hmT hu hdef hfree fun f c' pm ctv F2 H2 s2 I2 g2 hof hfn hfr hco hcF => Calls.spliced_nil ⟨I2.kIn, ?_⟩)
  have g12 := g1.trans g2
  have hdl : ds.length = n := hes _ _ e1
  have tb2 : TbOk F2 H2 := (hR.gr g12).tab
  obtain ⟨b, hb1, env0, hb3, cap⟩ := lam_ready I2 hX L hof hfn hfr (by rw [w1, hj]) hj hc w3
  have FA := lam_all (cds := cds) L cap (by rw [w1, hj]) hb3 (hbind _ _ _ _ _) fun A outer s H => hbody b A outer s H f c'
  rw [hps] at FA
  have G := hG _ b hb1 FA
  have hlen : us.length = n := by
    have h1 := rv.length
    have h2 := r1.length
    omega
  have bind : BindsTo s2 fd ⟨us ++ [.ref f], []⟩ (psg.zip (us ++ [.ref f])) := by
    have := hb s2 (us ++ [.ref f]) I2.kIn (by
      rw [List.append_nil, List.length_append, hlen, hpsl]
      rfl)
    rw [List.append_nil] at this
    exact this
  have rc := G.run X.A X.stack s2 H2 ⟨us ++ [.ref f], []⟩ (us ++ [.ref f]) (vs ++ [.ref f]) Q E0 hr env0 bind (vals_snoc (v := .ref f) (u := .ref f) rv rfl) (by
    refine ⟨?_, F2, f, vs, ds, _, d, rfl, ⟨g2.in_, tb2⟩, r1.mono g2.ex, hdl, ⟨rfl, rfl, hcF, w2.mono g12.ex⟩, hf, fun v F' H' g r' => q v F' H' (g12.trans g) r'⟩
    rw [List.length_append, r1.length, hdl]
    rfl)
  refine wpAny_call (codeAny_mono rc fun r s3 hq => ?_)
  cases r with
  | error e => exact (show False from hq).elim
  | ok fl =>
    cases fl with
    | ret u => exact I2.after hq
    | next => exact False.elim hq
    | brk => exact False.elim hq
    | cont => exact False.elim hq
def fLamJ0 (g : List (List D → Option D) → List D → List (D × D) → Option (D × List (D × D))) (fs : Fm → Option (List D)) (fw : Fm → Option (List D → Option D)) (ρ : Fm) : Option D := (fs ρ).bind fun ds => (fw ρ).bind fun w => (g [w] ds []).map (·.1)
/-- x(e, .., lambda ps: body, {}) -/
theorem d_lamJ0 {k kb m n : Nat} {x : Str} {g : Addr} {fd : FuncData} {psg : List Str} {sf : List (List D → Option D) → List D → List (D × D) → Option (D × List (D × D))} {es : List Expr} {e0 : Expr} {rest : List Expr} {fs : Fm → Option (List D)} {params : Arguments} {body : Expr} {scope : Scope} {ps cs : List Str} {js : List Nat} {fe : Fm → Option D} {p lpos pos dp : Pos}
    (T : LamT X) (hX : ∀ y, X.fn y = true) (hm : X.mg x = some (.ref g)) (hk : PySem.W.keepIn X.K (.ref g) = true) (hb : Binds X.K fd psg []) (hr : Room k X.A)
    (hG : ∀ (fn : FnT) (b : Heap), (∀ a o, X.base.get? a = some o → b.get? a = some o) → @FnAll _ fn X.prog X.w X.K X.mg b (kb + 1) m → FnOk X.prog X.w X.K X.mg b CX0 k g fd psg (@spJ _ fn X.K sf 1 true n))
    (ha : AkP X es fs) (hes : ∀ ρ ds, fs ρ = some ds → ds.length = n) (L : LamP X.env.scope scope ps cs) (hps : ps.length = m) (hdef : defaultsOf params X.env = ([], []))
    (hbind : ∀ (q : Str) (cl : List (Str × Addr)) (pm cv ctv : Value) (us : List Value), us.length = ps.length → bindArgs (PySem.W.kla_fn "<lambda>" q params body scope cl pm cv ctv) ⟨us, []⟩ = pure (ps.zip us))
    (hj : js.length = cs.length) (hc : ∀ (i j : Nat) (y : Str), js[i]? = some j → cs[i]? = some y → X.N[j]? = some y)
    (hbody : ∀ (b : Heap) (A : Around) (outer : List Env) (s : Shared) (H : Hp) (f c' : Addr), Room kb (A.deeper (LamX.lamEnv (Cx.on X b) scope s.heap.objs.size f c')) → PP (lamCxN (Cx.on X b) A outer s H scope f c' (ps ++ cs)) body fe)
    (hpsl : psg.length = n + 1 + 1)
    (hargs : backTo pos (starEach (e0 :: rest) X.env) = es.map (fun e => (false, eval e X.env)) ++ [(false, eval (.Lambda params body scope lpos) X.env), (false, eval (.Dict [] [] dp) X.env)] := by rfl)
    (hg : Gl X x := by rfl) (hdb : (x == ("__debug__" : Str)) = false := by decide) (he : starEach (e0 :: rest) X.env = (false, eval e0 X.env) :: starEach rest X.env := by rfl) (hpl : (backTo pos (starEach rest X.env)).any (·.1) = false := by rfl) :
    PP X (.Call (.Name x p) (e0 :: rest) [] pos) (fLamJ0 sf fs (fLamW js fe)) := by
  refine ⟨fun σ H Q => ∀ (pins : List (Addr × Obj)) (s : Shared), Inv X pins σ H s → wpAny (model X.prog X.w) X.A (eval (.Call (.Name x p) (e0 :: rest) [] pos) X.env) (EP X pins σ Q) X.xe s, ⟨fun pins s σ H Q I h => h pins s I⟩, fun F H σ ρ d hf hR Q q pins s I => ?_⟩
  obtain ⟨ds, e1, hf⟩ := Option.bind_eq_some_iff.mp hf
  obtain ⟨w, e2, hf⟩ := Option.bind_eq_some_iff.mp hf
  obtain ⟨⟨dz, kvs'⟩, e4, rfl⟩ := Option.map_eq_some_iff.mp hf
  obtain ⟨cds, e3, rfl⟩ := Option.map_eq_some_iff.mp e2
  obtain ⟨ws, w1, w2, w3⟩ := cap_rel hR e3
  obtain ⟨c, Pt, TB, hcode, hmT, hu⟩ := T.ok
  have hfree : ∀ y ∈ scope.names, y.2 = .free → ∃ c, X.env.cells.lookup y.1 = some c := fun y hy e => by
    rcases L.free y hy e with k | k
    · exact I.ok.has _ (.inl k)
    · exact I.ok.has _ (.inr k)
  refine wpAny_Call_Name_kw (ld_glob I hg hm ?_ hdb)
  refine PySem.W.callWith_K (h₀ := X.base) I.ok.mod.kin hk ?_ he hpl
  rw [hargs]
  refine ha pins σ s F H ρ ds _ _ I hR e1 fun vs us F1 H1 s1 I1 g1 r1 rv => ?_
  refine Calls.spliced_cons (lam_make3 I1 g1.in_ (hR.gr g1).tab TB hcode hmT hu hdef hfree fun f c' pm ctv F2 H2 s2 I2 g2 hof hfn hfr hco hcF => ?_)
  have g12 := g1.trans g2
  have hdl : ds.length = n := hes _ _ e1
  have I2' := lam_pin I2 hof hfn hfr (fun _ _ z => by cases z) (fun _ z => by cases z)
  refine Calls.spliced_cons (thn ((pe_newN (X := X) (pos := dp)).run _ s2 σ H2 (fun v H3 => ∃ a, v = .ref a ∧ H2 a = none ∧ H3 = upd H2 a (DN a [])) I2' fun a ha => ⟨a, rfl, ha, rfl⟩) fun u s3 ⟨v, H3, I3, r3, a, ev, ha, eH⟩ => Calls.spliced_nil ⟨I3.kIn, ?_⟩)
  subst ev
  subst eH
  obtain rfl : u = Value.ref a := r3
  have g3 : Gr F2 H2 F2 (upd H2 a (DN a [])) := Gr.newH g2.in_ ha
  have g123 := g12.trans g3
  have tb3 : TbOk F2 (upd H2 a (DN a [])) := (hR.gr g123).tab
  have pf := I3.pin (f, _) (List.mem_append_right _ List.mem_cons_self)
  obtain ⟨b, hb1, env0, hb3, cap⟩ := lam_ready I3 hX L pf.1 pf.2.1 hfr (by rw [w1, hj]) hj hc w3
  have FA := lam_all (cds := cds) L cap (by rw [w1, hj]) hb3 (hbind _ _ _ _ _) fun A outer s H => hbody b A outer s H f c'
  rw [hps] at FA
  have G := hG _ b hb1 FA
  have hlen : us.length = n := by
    have h1 := rv.length
    have h2 := r1.length
    omega
  have bind : BindsTo s3 fd ⟨us ++ [.ref f, .ref a], []⟩ (psg.zip (us ++ [.ref f, .ref a])) := by
    have := hb s3 (us ++ [.ref f, .ref a]) I3.kIn (by
      rw [List.append_nil, List.length_append, hlen, hpsl]
      rfl)
    rw [List.append_nil] at this
    exact this
  have rv2 : Vals (vs ++ [.ref f, .ref a]) (us ++ [.ref f, .ref a]) := by
    have := vals_snoc (v := .ref a) (u := .ref a) (vals_snoc (v := .ref f) (u := .ref f) rv rfl) rfl
    rwa [List.append_assoc, List.append_assoc] at this
  have rc := G.run X.A X.stack s3 _ ⟨us ++ [.ref f, .ref a], []⟩ (us ++ [.ref f, .ref a]) (vs ++ [.ref f, .ref a]) Q E0 hr env0 bind rv2 (by
    refine ⟨?_, F2, a, [], vs, ds, [f], _, dz, kvs', rfl, ⟨g3.in_, tb3⟩, g2.in_.free ha, ⟨[], upd_same, .nil⟩, r1.mono g2.ex, hdl, rfl, ⟨rfl, fun i f' w' h1 h2 => ?_⟩, e4, fun v F' H' ex in_ kp hd lv dc2 rv => ?_⟩
    · rw [List.length_append, r1.length, hdl]
      rfl
    · cases i with
      | zero =>
        cases h1
        cases h2
        exact ⟨rfl, rfl, hcF, w2.mono g12.ex⟩
      | succ i => cases h1
    · refine q v F' H' (g12.trans ⟨ex, in_.1, fun b o e n => ?_, fun b hb hfb => hd b (g3.live b hb) hfb, g3.live.trans lv, fun _ => in_.2⟩) rv
      exact kp b o (g3.keep b o e n) n fun z => by rw [z, ha] at e; cases e)
  refine wpAny_call (codeAny_mono rc fun r s3 hq => ?_)
  cases r with
  | error e => exact (show False from hq).elim
  | ok fl =>
    cases fl with
    | ret u => exact lam_unpin (I3.after hq)
    | next => exact False.elim hq
    | brk => exact False.elim hq
    | cont => exact False.elim hq
def xLamJ (i : Nat) (g : List (List D → Option D) → List D → List (D × D) → Option (D × List (D × D))) (fs : Fm → Option (List D)) (fw : Fm → Option (List D → Option D)) (ρ : Fm) : Option (D × Fm) := (fs ρ).bind fun ds => (fw ρ).bind fun w => (ρ[i]?).bind fun b => (dwOf true (some b)).bind fun kvs => (g [w] ds kvs).map fun y => (y.1, ρ.set i (b.putD y.2))
/-- x(e, .., lambda ps: body, y) -/
theorem x_lamJ {k kb m n i : Nat} {x y : Str} {g : Addr} {fd : FuncData} {psg : List Str} {sf : List (List D → Option D) → List D → List (D × D) → Option (D × List (D × D))} {es : List Expr} {e0 : Expr} {rest : List Expr} {fs : Fm → Option (List D)} {params : Arguments} {body : Expr} {scope : Scope} {ps cs : List Str} {js : List Nat} {fe : Fm → Option D} {p lpos pos dp : Pos}
    (T : LamT X) (hX : ∀ y, X.fn y = true) (hm : X.mg x = some (.ref g)) (hk : PySem.W.keepIn X.K (.ref g) = true) (hb : Binds X.K fd psg []) (hr : Room k X.A)
    (hG : ∀ (fn : FnT) (b : Heap), (∀ a o, X.base.get? a = some o → b.get? a = some o) → @FnAll _ fn X.prog X.w X.K X.mg b (kb + 1) m → FnOk X.prog X.w X.K X.mg b CX0 k g fd psg (@spJ _ fn X.K sf 1 true n))
    (ha : AkP X es fs) (hes : ∀ ρ ds, fs ρ = some ds → ds.length = n) (L : LamP X.env.scope scope ps cs) (hps : ps.length = m) (hdef : defaultsOf params X.env = ([], []))
    (hbind : ∀ (q : Str) (cl : List (Str × Addr)) (pm cv ctv : Value) (us : List Value), us.length = ps.length → bindArgs (PySem.W.kla_fn "<lambda>" q params body scope cl pm cv ctv) ⟨us, []⟩ = pure (ps.zip us))
    (hj : js.length = cs.length) (hc : ∀ (i j : Nat) (y : Str), js[i]? = some j → cs[i]? = some y → X.N[j]? = some y)
    (hbody : ∀ (b : Heap) (A : Around) (outer : List Env) (s : Shared) (H : Hp) (f c' : Addr), Room kb (A.deeper (LamX.lamEnv (Cx.on X b) scope s.heap.objs.size f c')) → PP (lamCxN (Cx.on X b) A outer s H scope f c' (ps ++ cs)) body fe)
    (hpsl : psg.length = n + 1 + 1) (hv : PE X (.Name y dp) (tVar i))
    (hargs : backTo pos (starEach (e0 :: rest) X.env) = es.map (fun e => (false, eval e X.env)) ++ [(false, eval (.Lambda params body scope lpos) X.env), (false, eval (.Name y dp) X.env)] := by rfl)
    (hg : Gl X x := by rfl) (hdb : (x == ("__debug__" : Str)) = false := by decide) (he : starEach (e0 :: rest) X.env = (false, eval e0 X.env) :: starEach rest X.env := by rfl) (hpl : (backTo pos (starEach rest X.env)).any (·.1) = false := by rfl) :
    XE X (.Call (.Name x p) (e0 :: rest) [] pos) (xLamJ i sf fs (fLamW js fe)) := by
  refine ⟨fun σ H Q => ∀ (pins : List (Addr × Obj)) (s : Shared), Inv X pins σ H s → wpAny (model X.prog X.w) X.A (eval (.Call (.Name x p) (e0 :: rest) [] pos) X.env) (EP X pins σ Q) X.xe s, ⟨fun pins s σ H Q I h => h pins s I⟩, fun F H σ ρ d ρ' hf hR Q q pins s I => ?_⟩
  obtain ⟨ds, e1, hf⟩ := Option.bind_eq_some_iff.mp hf
  obtain ⟨w, e2, hf⟩ := Option.bind_eq_some_iff.mp hf
  obtain ⟨bb, e5, hf⟩ := Option.bind_eq_some_iff.mp hf
  obtain ⟨kvs, e6, hf⟩ := Option.bind_eq_some_iff.mp hf
  obtain ⟨⟨dz, kvs'⟩, e4, e7⟩ := Option.map_eq_some_iff.mp hf
  cases e7
  obtain ⟨cds, e3, rfl⟩ := Option.map_eq_some_iff.mp e2
  obtain ⟨ws, w1, w2, w3⟩ := cap_rel hR e3
  obtain ⟨c, Pt, TB, hcode, hmT, hu⟩ := T.ok
  have hfree : ∀ y ∈ scope.names, y.2 = .free → ∃ c, X.env.cells.lookup y.1 = some c := fun y hy e => by
    rcases L.free y hy e with k | k
    · exact I.ok.has _ (.inl k)
    · exact I.ok.has _ (.inr k)
  refine wpAny_Call_Name_kw (ld_glob I hg hm ?_ hdb)
  refine PySem.W.callWith_K (h₀ := X.base) I.ok.mod.kin hk ?_ he hpl
  rw [hargs]
  refine ha pins σ s F H ρ ds _ _ I hR e1 fun vs us F1 H1 s1 I1 g1 r1 rv => ?_
  refine Calls.spliced_cons (lam_make3 I1 g1.in_ (hR.gr g1).tab TB hcode hmT hu hdef hfree fun f c' pm ctv F2 H2 s2 I2 g2 hof hfn hfr hco hcF => ?_)
  have g12 := g1.trans g2
  have hR2 := hR.gr g12
  have hdl : ds.length = n := hes _ _ e1
  obtain ⟨⟨a, sa, hfa, dc⟩, ob⟩ := dw_own hR2 e5 e6
  have I2' := lam_pin I2 hof hfn hfr (fun _ _ z => by cases z) (fun _ z => by cases z)
  refine Calls.spliced_cons (thn (hv.run _ s2 σ H2 (fun v H3 => v = .ref a ∧ H3 = H2) I2' ⟨_, sa, rfl, rfl⟩) fun u s3 ⟨v, H3, I3, r3, ev, eH⟩ => Calls.spliced_nil ⟨I3.kIn, ?_⟩)
  subst ev
  subst eH
  obtain rfl : u = Value.ref a := r3
  have tb3 : TbOk F2 H3 := hR2.tab
  have pf := I3.pin (f, _) (List.mem_append_right _ List.mem_cons_self)
  obtain ⟨b, hb1, env0, hb3, cap⟩ := lam_ready I3 hX L pf.1 pf.2.1 hfr (by rw [w1, hj]) hj hc w3
  have FA := lam_all (cds := cds) L cap (by rw [w1, hj]) hb3 (hbind _ _ _ _ _) fun A outer s H => hbody b A outer s H f c'
  rw [hps] at FA
  have G := hG _ b hb1 FA
  have hlen : us.length = n := by
    have h1 := rv.length
    have h2 := r1.length
    omega
  have bind : BindsTo s3 fd ⟨us ++ [.ref f, .ref a], []⟩ (psg.zip (us ++ [.ref f, .ref a])) := by
    have := hb s3 (us ++ [.ref f, .ref a]) I3.kIn (by
      rw [List.append_nil, List.length_append, hlen, hpsl]
      rfl)
    rw [List.append_nil] at this
    exact this
  have rv2 : Vals (vs ++ [.ref f, .ref a]) (us ++ [.ref f, .ref a]) := by
    have := vals_snoc (v := .ref a) (u := .ref a) (vals_snoc (v := .ref f) (u := .ref f) rv rfl) rfl
    rwa [List.append_assoc, List.append_assoc] at this
  have rc := G.run X.A X.stack s3 _ ⟨us ++ [.ref f, .ref a], []⟩ (us ++ [.ref f, .ref a]) (vs ++ [.ref f, .ref a]) Q E0 hr env0 bind rv2 (by
    refine ⟨?_, F2, a, kvs, vs, ds, [f], _, dz, kvs', rfl, ⟨g2.in_, tb3⟩, hfa, dc, r1.mono g2.ex, hdl, rfl, ⟨rfl, fun i f' w' h1 h2 => ?_⟩, e4, fun v F' H' ex in_ kp hd lv dc2 rv => ?_⟩
    · rw [List.length_append, r1.length, hdl]
      rfl
    · cases i with
      | zero =>
        cases h1
        cases h2
        exact ⟨rfl, rfl, hcF, w2.mono g12.ex⟩
      | succ i => cases h1
    · obtain ⟨u, hu, _⟩ := dc2.live
      have g3 : GoE X.K F2 H3 σ ρ F' H' (ρ.set i (bb.putD kvs')) := by
        rcases dw_at e6 with rfl | rfl
        · exact goE_putG hR2 e5 rfl sa ex in_.1 kp lv in_.2 hd hu rfl (fun hf => ⟨a, sa, hf, dc2⟩) fun z => by cases z
        · exact goE_putG hR2 e5 rfl sa ex in_.1 kp lv in_.2 hd hu rfl (fun hf => ⟨a, sa, hf, dc2⟩) fun _ => rfl
      exact q v F' H' ((GoE.gr hR g12).trans g3) rv)
  refine wpAny_call (codeAny_mono rc fun r s3 hq => ?_)
  cases r with
  | error e => exact (show False from hq).elim
  | ok fl =>
    cases fl with
    | ret u => exact lam_unpin (I3.after hq)
    | next => exact False.elim hq
    | brk => exact False.elim hq
    | cont => exact False.elim hq
end
end DL
end
section
set_option Elab.async false
set_option linter.all false
set_option maxRecDepth 100000
/-! Calls with a lambda of defs of four arguments ahead of it. -/
namespace DL
open PySem PySem.Spec PyProof.Rows L2
variable [TabT] [FnT]
section
variable {X : Cx}
theorem d_lamW4 {k kb m : Nat} {x : Str} {g : Addr} {fd : FuncData} {psg : List Str} {sf : (List D → Option D) → List D → Option D} {e1 e2 e3 e4 : Expr} {f1 f2 f3 f4 : Fm → Option D} {params : Arguments} {body : Expr} {scope : Scope} {ps cs : List Str} {js : List Nat} {fe : Fm → Option D} {p lpos pos : Pos}
    (T : LamT X) (hX : ∀ y, X.fn y = true) (hm : X.mg x = some (.ref g)) (hk : PySem.W.keepIn X.K (.ref g) = true) (hb : Binds X.K fd psg []) (hr : Room k X.A)
    (hG : ∀ (fn : FnT) (b : Heap), (∀ a o, X.base.get? a = some o → b.get? a = some o) → @FnAll _ fn X.prog X.w X.K X.mg b (kb + 1) m → FnOk X.prog X.w X.K X.mg b CX0 k g fd psg (@spW _ fn X.K sf 4))
    (h1 : PP X e1 f1) (h2 : PP X e2 f2) (h3 : PP X e3 f3) (h4 : PP X e4 f4) (L : LamP X.env.scope scope ps cs) (hps : ps.length = m) (hdef : defaultsOf params X.env = ([], []))
    (hbind : ∀ (q : Str) (cl : List (Str × Addr)) (pm cv ctv : Value) (us : List Value), us.length = ps.length → bindArgs (PySem.W.kla_fn "<lambda>" q params body scope cl pm cv ctv) ⟨us, []⟩ = pure (ps.zip us))
    (hj : js.length = cs.length) (hc : ∀ (i j : Nat) (y : Str), js[i]? = some j → cs[i]? = some y → X.N[j]? = some y)
    (hbody : ∀ (b : Heap) (A : Around) (outer : List Env) (s : Shared) (H : Hp) (f c' : Addr), Room kb (A.deeper (LamX.lamEnv (Cx.on X b) scope s.heap.objs.size f c')) → PP (lamCxN (Cx.on X b) A outer s H scope f c' (ps ++ cs)) body fe)
    (hpsl : psg.length = 4 + 1)
    (hargs : backTo pos (starEach [e1, e2, e3, e4, .Lambda params body scope lpos] X.env) = [e1, e2, e3, e4].map (fun e => (false, eval e X.env)) ++ [(false, eval (.Lambda params body scope lpos) X.env)] := by rfl)
    (hg : Gl X x := by rfl) (hdb : (x == ("__debug__" : Str)) = false := by decide) (he : starEach [e1, e2, e3, e4, .Lambda params body scope lpos] X.env = (false, eval e1 X.env) :: starEach [e2, e3, e4, .Lambda params body scope lpos] X.env := by rfl) (hpl : (backTo pos (starEach [e2, e3, e4, .Lambda params body scope lpos] X.env)).any (·.1) = false := by rfl) :
    PP X (.Call (.Name x p) [e1, e2, e3, e4, .Lambda params body scope lpos] [] pos) (fCallL sf (fCons f1 (fCons f2 (fCons f3 (fCons f4 fNil)))) (fLamW js fe)) :=
  d_lamW T hX hm hk hb hr hG (ak_cons h1 (ak_cons h2 (ak_cons h3 (ak_cons h4 ak_nil)))) (fCons_len (fCons_len (fCons_len (fCons_len fNil_len)))) L hps hdef hbind hj hc hbody hpsl hargs hg hdb he hpl
theorem d_lamJ04 {k kb m : Nat} {x : Str} {g : Addr} {fd : FuncData} {psg : List Str} {sf : List (List D → Option D) → List D → List (D × D) → Option (D × List (D × D))} {e1 e2 e3 e4 : Expr} {f1 f2 f3 f4 : Fm → Option D} {params : Arguments} {body : Expr} {scope : Scope} {ps cs : List Str} {js : List Nat} {fe : Fm → Option D} {p lpos pos dp : Pos}
    (T : LamT X) (hX : ∀ y, X.fn y = true) (hm : X.mg x = some (.ref g)) (hk : PySem.W.keepIn X.K (.ref g) = true) (hb : Binds X.K fd psg []) (hr : Room k X.A)
    (hG : ∀ (fn : FnT) (b : Heap), (∀ a o, X.base.get? a = some o → b.get? a = some o) → @FnAll _ fn X.prog X.w X.K X.mg b (kb + 1) m → FnOk X.prog X.w X.K X.mg b CX0 k g fd psg (@spJ _ fn X.K sf 1 true 4))
    (h1 : PP X e1 f1) (h2 : PP X e2 f2) (h3 : PP X e3 f3) (h4 : PP X e4 f4) (L : LamP X.env.scope scope ps cs) (hps : ps.length = m) (hdef : defaultsOf params X.env = ([], []))
    (hbind : ∀ (q : Str) (cl : List (Str × Addr)) (pm cv ctv : Value) (us : List Value), us.length = ps.length → bindArgs (PySem.W.kla_fn "<lambda>" q params body scope cl pm cv ctv) ⟨us, []⟩ = pure (ps.zip us))
    (hj : js.length = cs.length) (hc : ∀ (i j : Nat) (y : Str), js[i]? = some j → cs[i]? = some y → X.N[j]? = some y)
    (hbody : ∀ (b : Heap) (A : Around) (outer : List Env) (s : Shared) (H : Hp) (f c' : Addr), Room kb (A.deeper (LamX.lamEnv (Cx.on X b) scope s.heap.objs.size f c')) → PP (lamCxN (Cx.on X b) A outer s H scope f c' (ps ++ cs)) body fe)
    (hpsl : psg.length = 4 + 1 + 1)
    (hargs : backTo pos (starEach [e1, e2, e3, e4, .Lambda params body scope lpos, .Dict [] [] dp] X.env) = [e1, e2, e3, e4].map (fun e => (false, eval e X.env)) ++ [(false, eval (.Lambda params body scope lpos) X.env), (false, eval (.Dict [] [] dp) X.env)] := by rfl)
    (hg : Gl X x := by rfl) (hdb : (x == ("__debug__" : Str)) = false := by decide) (he : starEach [e1, e2, e3, e4, .Lambda params body scope lpos, .Dict [] [] dp] X.env = (false, eval e1 X.env) :: starEach [e2, e3, e4, .Lambda params body scope lpos, .Dict [] [] dp] X.env := by rfl) (hpl : (backTo pos (starEach [e2, e3, e4, .Lambda params body scope lpos, .Dict [] [] dp] X.env)).any (·.1) = false := by rfl) :
    PP X (.Call (.Name x p) [e1, e2, e3, e4, .Lambda params body scope lpos, .Dict [] [] dp] [] pos) (fLamJ0 sf (fCons f1 (fCons f2 (fCons f3 (fCons f4 fNil)))) (fLamW js fe)) :=
  d_lamJ0 T hX hm hk hb hr hG (ak_cons h1 (ak_cons h2 (ak_cons h3 (ak_cons h4 ak_nil)))) (fCons_len (fCons_len (fCons_len (fCons_len fNil_len)))) L hps hdef hbind hj hc hbody hpsl hargs hg hdb he hpl
theorem x_lamJ4 {k kb m i : Nat} {x y : Str} {g : Addr} {fd : FuncData} {psg : List Str} {sf : List (List D → Option D) → List D → List (D × D) → Option (D × List (D × D))} {e1 e2 e3 e4 : Expr} {f1 f2 f3 f4 : Fm → Option D} {params : Arguments} {body : Expr} {scope : Scope} {ps cs : List Str} {js : List Nat} {fe : Fm → Option D} {p lpos pos dp : Pos}
    (T : LamT X) (hX : ∀ y, X.fn y = true) (hm : X.mg x = some (.ref g)) (hk : PySem.W.keepIn X.K (.ref g) = true) (hb : Binds X.K fd psg []) (hr : Room k X.A)
    (hG : ∀ (fn : FnT) (b : Heap), (∀ a o, X.base.get? a = some o → b.get? a = some o) → @FnAll _ fn X.prog X.w X.K X.mg b (kb + 1) m → FnOk X.prog X.w X.K X.mg b CX0 k g fd psg (@spJ _ fn X.K sf 1 true 4))
    (h1 : PP X e1 f1) (h2 : PP X e2 f2) (h3 : PP X e3 f3) (h4 : PP X e4 f4) (L : LamP X.env.scope scope ps cs) (hps : ps.length = m) (hdef : defaultsOf params X.env = ([], []))
    (hbind : ∀ (q : Str) (cl : List (Str × Addr)) (pm cv ctv : Value) (us : List Value), us.length = ps.length → bindArgs (PySem.W.kla_fn "<lambda>" q params body scope cl pm cv ctv) ⟨us, []⟩ = pure (ps.zip us))
    (hj : js.length = cs.length) (hc : ∀ (i j : Nat) (y : Str), js[i]? = some j → cs[i]? = some y → X.N[j]? = some y)
    (hbody : ∀ (b : Heap) (A : Around) (outer : List Env) (s : Shared) (H : Hp) (f c' : Addr), Room kb (A.deeper (LamX.lamEnv (Cx.on X b) scope s.heap.objs.size f c')) → PP (lamCxN (Cx.on X b) A outer s H scope f c' (ps ++ cs)) body fe)
    (hpsl : psg.length = 4 + 1 + 1) (hv : PE X (.Name y dp) (tVar i))
    (hargs : backTo pos (starEach [e1, e2, e3, e4, .Lambda params body scope lpos, .Name y dp] X.env) = [e1, e2, e3, e4].map (fun e => (false, eval e X.env)) ++ [(false, eval (.Lambda params body scope lpos) X.env), (false, eval (.Name y dp) X.env)] := by rfl)
    (hg : Gl X x := by rfl) (hdb : (x == ("__debug__" : Str)) = false := by decide) (he : starEach [e1, e2, e3, e4, .Lambda params body scope lpos, .Name y dp] X.env = (false, eval e1 X.env) :: starEach [e2, e3, e4, .Lambda params body scope lpos, .Name y dp] X.env := by rfl) (hpl : (backTo pos (starEach [e2, e3, e4, .Lambda params body scope lpos, .Name y dp] X.env)).any (·.1) = false := by rfl) :
    XE X (.Call (.Name x p) [e1, e2, e3, e4, .Lambda params body scope lpos, .Name y dp] [] pos) (xLamJ i sf (fCons f1 (fCons f2 (fCons f3 (fCons f4 fNil)))) (fLamW js fe)) :=
  x_lamJ T hX hm hk hb hr hG (ak_cons h1 (ak_cons h2 (ak_cons h3 (ak_cons h4 ak_nil)))) (fCons_len (fCons_len (fCons_len (fCons_len fNil_len)))) L hps hdef hbind hj hc hbody hpsl hv hargs hg hdb he hpl
end
end DL
end
section
set_option Elab.async false
set_option linter.all false
set_option maxRecDepth 100000
/-! {i: v}; defs that change the dict that is their first argument. -/
namespace DL
open PySem PySem.Spec PyProof.Rows L2
variable [TabT] [FnT]
section
variable {X : Cx} {k v e : Expr} {es : List Expr} {p pos q : Pos} {fk fv : Fm → Option D} {fs : Fm → Option (List D)}
/-- {k: v}, k a number or a text, seen at once -/
theorem d_newK1 (hk : PP X k fk) (hv : PP X v fv) : PP X (.Dict [some k] [v] pos) (fun ρ => (fk ρ).bind fun kd => (fv ρ).bind fun d => (kOf false kd).map fun _ => .dict [(kd, d)]) := by
  obtain ⟨tk, h1, h2⟩ := hk
  obtain ⟨tv, h3, h4⟩ := hv
  refine ⟨_, pe_seeE (pe_disp (pps_cons h1 h3 pps_nil) rfl rfl (by simp) (by show 1 ≤ 15; decide)), fun F H σ ρ b hf hR Q kk p hp => ?_⟩
  obtain ⟨kd, e1, hf⟩ := Option.bind_eq_some_iff.mp hf
  obtain ⟨d, e2, hf⟩ := Option.bind_eq_some_iff.mp hf
  obtain ⟨k0, e3, hf⟩ := Option.map_eq_some_iff.mp hf
  cases hf
  obtain ⟨ky, rfl, _⟩ := kOf_plain e3
  have g0 := Gr.newH (o := .dK []) hR.ex hp
  have nb : NoTb (.dK []) := fun ps z => by cases z
  refine h2 F _ σ ρ _ e1 (hR.gr g0) _ fun x F1 H1 g1 r1 => h4 F1 H1 σ ρ _ e2 ((hR.gr g0).gr g1) _ fun y F2 H2 g2 r2 => ?_
  have g12 := g1.trans g2
  have hF0 : F p = none := hR.ex.free hp
  have hF2 : F2 p = none := g12.hide p (by rw [upd_same]; intro z; cases z) hF0
  have ex : x = kV ky := rp_keyV r1
  refine ⟨g12.keep _ _ upd_same nb, [(ky, y)], by rw [ex]; rfl, by show 1 ≤ 15; decide, p, _, rfl, upd_same, trivial, fun od => ?_⟩
  rw [upd_upd]
  have exF : Ex F2 (upd F2 p (.frz od (.dK (mergeK [] [(ky, y)])))) := .new hF2
  exact kk _ (upd F2 p (.frz od (.dK (mergeK [] [(ky, y)])))) _ (((g0.trans g12).over hp hF2 (g12.keep _ _ upd_same nb) nb).seeN hp hF2 upd_same fun ps z => by cases z) (.dk (by intro z; cases z) upd_same (RpK.mono exF (.cons r2 .nil)))
end
/-! ### the dict comes first -/
def spA (K : PySem.W.Frag) (g : List D → List (D × D) → Option (D × List (D × D))) (t : Bool) (n : Nat) : Sp := fun vs H Q _ => vs.length = n + 1 ∧ ∃ (F : Hp) (a : Addr) (kvs : List (D × D)) (us : List V) (ds : List D) (d : D) (kvs' : List (D × D)), vs = V.ref a :: us ∧ ExB F H ∧ F a = none ∧ Dct K F H a t kvs ∧ RpA K F us ds ∧ ds.length = n ∧ g ds kvs = some (d, kvs') ∧
  ∀ v F' H', Ex F F' → ExB F' H' → (∀ b o, H b = some o → NoTb o → b ≠ a → H' b = some o) → (∀ b, H b ≠ none → F b = none → F' b = none) → Lv H H' → Dct K F' H' a t kvs' → Rp K F' v d → Q v H'
def startA (n : Nat) (t : Bool) (ds : List D) (kvs : List (D × D)) : Fm := .jd t kvs :: (ds.map .sh ++ List.replicate (n - (ds.length + 1)) .no)
def runA (n : Nat) (f : Fm → Option (Fl × Fm)) (t : Bool) (ds : List D) (kvs : List (D × D)) : Option (D × List (D × D)) := (f (startA n t ds kvs)).bind fun x => match x.1 with
  | .rt d => (jdOf x.2[0]?).map fun k => (d, k)
  | .nx => (jdOf x.2[0]?).map fun k => (.none, k)
  | .bk => none
theorem startA_get {n : Nat} {t : Bool} {ds : List D} {kvs : List (D × D)} {i : Nat} {b : B} (h : (startA n t ds kvs)[i]? = some b) : (i = 0 ∧ b = .jd t kvs) ∨ b = .no ∨ (∃ j d, i = j + 1 ∧ ds[j]? = some d ∧ b = .sh d) := by
  unfold startA at h
  cases i with
  | zero => exact .inl ⟨rfl, (Option.some.inj h).symm⟩
  | succ i =>
    rw [List.getElem?_cons_succ, List.getElem?_append] at h
    split at h
    · rw [List.getElem?_map] at h
      obtain ⟨d, h1, h2⟩ := Option.map_eq_some_iff.mp h
      exact .inr (.inr ⟨i, d, rfl, h1, h2.symm⟩)
    · rw [List.getElem?_replicate] at h
      split at h
      · exact .inr (.inl (Option.some.inj h).symm)
      · cases h
section
variable {P : Program} {w : World} {K : PySem.W.Frag} {mg : Str → Option Value} {base : Heap}
theorem def_A {x qual : Str} {st : Stmt} {f : Addr} {fd : FuncData} {N ps : List Str} {k n : Nat} {t : Bool} {sf : Fm → Option (Fl × Fm)} (Fn : Fun K x qual st f fd) (S : FnScope N ps (defScope st)) (hn : ps.length = n + 1) (hNl : n + 1 ≤ N.length)
    (hbody : ∀ (cdv : Value) (A : Around) (outer : List Env) (s : Shared) (H : Hp) (E : XK), Room k (A.deeper (envOfC qual (defScope st) s.heap.objs.size f cdv)) → PBl (cxOf CX0 P w K mg base N qual (defScope st) f cdv A outer s H E).nox (defBody st) sf) :
    FnOk P w K mg base CX0 (k + 1) f fd ps (spA K (runA N.length sf t) t n) := by
  refine Fn.ok S (fun vs H Q E h => h.1.trans hn.symm) fun cdv A outer s H vs Q E hr h => ?_
  obtain ⟨hl, F, a, kvs, us, ds, d, kvs', rfl, ex, hfa, dc, r, hdl, hg, q⟩ := h
  obtain ⟨t1, h1, h2⟩ := hbody cdv A outer s H E hr
  refine ⟨t1, h1, ?_⟩
  obtain ⟨⟨fl, ρ'⟩, e1, e2⟩ := Option.bind_eq_some_iff.mp hg
  have hul : us.length = ds.length := r.length
  have vat : (V.ref a :: us)[0]? = some (.ref a) := rfl
  have hlen : (L2.start N (V.ref a :: us)).length = (startA N.length t ds kvs).length := by
    unfold L2.start startA
    simp only [List.length_append, List.length_cons, List.length_map, List.length_replicate, List.length_nil]
    omega
  have rel : Rel K F H (L2.start N (V.ref a :: us)) (startA N.length t ds kvs) := by
    refine ⟨ex.1, hlen, fun i b h => ?_, fun i j b c x h1 o1 h2 o2 _ _ => ?_, ex.2⟩
    · rcases startA_get h with ⟨rfl, rfl⟩ | rfl | ⟨j, d, rfl, h1, rfl⟩
      · exact ⟨a, start_at vat, hfa, dc⟩
      · trivial
      · obtain ⟨v, h2, h3⟩ := r.get h1
        exact ⟨v, start_at (by rw [List.getElem?_cons_succ]; exact h2), h3⟩
    · rcases startA_get h1 with ⟨rfl, rfl⟩ | rfl | ⟨_, d, _, _, rfl⟩
      · rcases startA_get h2 with ⟨rfl, rfl⟩ | rfl | ⟨_, d, _, _, rfl⟩
        · rfl
        · cases o2
        · cases o2
      · cases o1
      · cases o1
  have own : ∀ x, ownA (L2.start N (V.ref a :: us)) (startA N.length t ds kvs) x → x = a := fun x ⟨i, b, h, o, s⟩ => by
    rcases startA_get h with ⟨rfl, rfl⟩ | rfl | ⟨_, d, _, _, rfl⟩
    · rw [start_at vat] at s
      exact (V.ref.inj (Option.some.inj (Option.some.inj s))).symm
    · cases o
    · cases o
  have done : ∀ v σ' F' H', (∃ u, ρ'[0]? = some (.jd u kvs')) → Go K F H (L2.start N (V.ref a :: us)) (startA N.length t ds kvs) F' H' σ' ρ' → Rp K F' v d → Q v H' := fun v σ' F' H' ⟨u, e0⟩ g r' => by
    obtain ⟨⟨ds0, e3⟩, s0⟩ := g.ioD e0
    have e3 : some (B.jd t kvs) = some (.jd u ds0) := e3
    have hu : t = u := by injection (Option.some.inj e3)
    subst hu
    obtain ⟨a', f1, f3, f4⟩ := g.rel.at_ _ _ e0
    rw [s0, start_at vat] at f1
    have : a' = a := (V.ref.inj (Option.some.inj (Option.some.inj f1))).symm
    subst this
    refine q v F' H' g.ex ⟨g.rel.ex, g.rel.tab⟩ (fun b o e t nb => g.keep b o e t fun z => nb (own b z)) (fun b e f => ?_) g.live f4 r'
    by_cases hb : b = a'
    · rw [hb]; exact f3
    · exact g.hide b e f fun z => hb (own b z)
  refine h2 F H _ _ fl ρ' e1 rel _ (fun z σ' F' H' g => ?_) (fun z σ' F' H' g => ?_) fun d' z v σ' F' H' g r' => ?_
  · subst z
    obtain ⟨l2, e3, e4⟩ := Option.map_eq_some_iff.mp e2
    cases e4
    exact done _ σ' F' H' (jdOf_some e3) g .non
  · subst z
    cases e2
  · subst z
    obtain ⟨l2, e3, e4⟩ := Option.map_eq_some_iff.mp e2
    cases e4
    exact done _ σ' F' H' (jdOf_some e3) g r'
end
def xCallA (i : Nat) (t : Bool) (g : List D → List (D × D) → Option (D × List (D × D))) (fs : Fm → Option (List D)) (ρ : Fm) : Option (D × Fm) := (fs ρ).bind fun ds => (ρ[i]?).bind fun b => (dwOf t (some b)).bind fun kvs => (g ds kvs).map fun y => (y.1, ρ.set i (b.putD y.2))
section
variable {X : Cx} {e : Expr} {es : List Expr} {p pos q : Pos} {fs : Fm → Option (List D)}
/-- x(y, e, ..) -/
theorem x_callA {k n i : Nat} {t : Bool} {x y : Str} {f : Addr} {fd : FuncData} {ps : List Str} {g : List D → List (D × D) → Option (D × List (D × D))} (G : FnOk X.prog X.w X.K X.mg X.base CX0 k f fd ps (spA X.K g t n)) (hr : Room k X.A) (hm : X.mg x = some (.ref f)) (hk : PySem.W.keepIn X.K (.ref f) = true) (hb : Binds X.K fd ps [])
    (hv : PE X (.Name y q) (tVar i)) (ha : PAs X es fs) (hn : n = es.length := by rfl) (hg : Gl X x := by rfl) (hdb : (x == ("__debug__" : Str)) = false := by decide) (he : starEach (.Name y q :: es) X.env = (false, eval (.Name y q) X.env) :: starEach es X.env := by rfl) (hpl : (backTo pos (starEach es X.env)).any (·.1) = false := by rfl) :
    XE X (.Call (.Name x p) (.Name y q :: es) [] pos) (xCallA i t g fs) := by
  obtain ⟨ta, h1, h2, h3⟩ := ha
  refine ⟨_, pe_call G hr hg hm hk hb .nil pass0 (pa_cons hv h1 he) hdb he hpl, fun F H σ ρ d ρ' hf hR Q q => ?_⟩
  obtain ⟨ds, e1, hf⟩ := Option.bind_eq_some_iff.mp hf
  obtain ⟨b, e3, hf⟩ := Option.bind_eq_some_iff.mp hf
  obtain ⟨kvs, e4, hf⟩ := Option.bind_eq_some_iff.mp hf
  obtain ⟨⟨dz, kvs'⟩, e5, e6⟩ := Option.map_eq_some_iff.mp hf
  cases e6
  obtain ⟨⟨a0, s0, _, _⟩, _⟩ := dw_own hR e3 e4
  refine ⟨.ref a0, s0, h2 F H σ ρ _ e1 hR _ fun us F1 H1 g1 r1 => ?_⟩
  show spA X.K g t n ((V.ref a0 :: us) ++ []) H1 Q E0
  rw [List.append_nil]
  have hR1 := hR.gr g1
  obtain ⟨⟨a, s1, hf1, dc1⟩, ob⟩ := dw_own hR1 e3 e4
  rw [s0] at s1
  cases s1
  have hdl : ds.length = n := by
    have := h3 _ _ e1
    omega
  refine ⟨?_, F1, a0, kvs, us, ds, dz, kvs', rfl, ⟨hR1.ex, hR1.tab⟩, hf1, dc1, r1, hdl, e5, fun v F2 H2 ex in_ kp hd lv dc2 rv => ?_⟩
  · have := r1.length
    rw [List.length_cons]
    omega
  · obtain ⟨u, hu, _⟩ := dc2.live
    have g2 : GoE X.K F1 H1 σ ρ F2 H2 (ρ.set i (b.putD kvs')) := by
      rcases dw_at e4 with rfl | rfl
      · exact goE_putG hR1 e3 rfl s0 ex in_.1 kp lv in_.2 hd hu rfl (fun hf => ⟨a0, s0, hf, dc2⟩) fun z => by cases z
      · exact goE_putG hR1 e3 rfl s0 ex in_.1 kp lv in_.2 hd hu rfl (fun hf => ⟨a0, s0, hf, dc2⟩) fun _ => rfl
    exact q v F2 H2 ((GoE.gr hR g1).trans g2) rv
end
end DL
end
section
set_option Elab.async false
set_option linter.all false
set_option maxRecDepth 100000
/-! A dict (of tuple keys) of own dicts (of numbers), filled in loops and given back. -/
namespace DL
open PySem PySem.Spec PyProof.Rows L2
variable [TabT] [FnT]
abbrev NN := List (D × List (D × D))
theorem paired_app {α β : Type} {R : α → β → Prop} : ∀ {xs ys : List α} {us vs : List β}, Paired R xs us → Paired R ys vs → Paired R (xs ++ ys) (us ++ vs)
  | _, _, _, _, .nil, s => s
  | _, _, _, _, .cons r t, s => .cons r (paired_app t s)
/-- where a key stands -/
def ixK (k : NestedKey) : List D → Option Nat
  | [] => none
  | d :: ds => if kEq true k (d, .none) = true then some 0 else (ixK k ds).map (· + 1)
theorem kEq_at {k : NestedKey} {d v : D} : kEq true k (d, v) = kEq true k (d, .none) := rfl
/-- an entry of the dict's object: its value is the dict at an address -/
def NE (K : PySem.W.Frag) (F : Hp) (x : NestedKey × Addr × Value) (e : D × Addr) : Prop := x.2.2 = Value.ref e.2 ∧ Rp K F (.ref x.2.1) e.1 ∧ kOf true e.1 = some x.1
theorem NE.mono {K : PySem.W.Frag} {F F' : Hp} {x : NestedKey × Addr × Value} {e : D × Addr} (h : NE K F x e) (ex : Ex F F') : NE K F' x e := ⟨h.1, h.2.1.mono ex, h.2.2⟩
theorem ne_look {K : PySem.W.Frag} {F : Hp} (k : NestedKey) : ∀ {xs : DEs} {es : List (D × Addr)}, Paired (NE K F) xs es → (atKey xs k).map (·.2) = ((ixK k (es.map (·.1))).bind fun i => es[i]?).map fun e => Value.ref e.2
  | _, _, .nil => rfl
  | x :: xs, e :: es, .cons h t => by
    have ih := ne_look k t
    obtain ⟨h1, h2, h3⟩ := h
    obtain ⟨k0, q, u⟩ := x
    unfold atKey at ih ⊢
    rw [List.map_cons]
    unfold ixK
    by_cases hk : k0 = k
    · subst hk
      rw [List.find?_cons_of_pos (by simp), if_pos (by unfold kEq; rw [h3]; simp)]
      show some u = some (Value.ref e.2)
      rw [← h1]
    · rw [List.find?_cons_of_neg (by simp [hk]), if_neg (by unfold kEq; rw [h3]; simp [hk]), ih]
      cases ixK k (es.map (·.1)) with
      | none => rfl
      | some i => rfl
section
variable {X : Cx} {pins : List (Addr × Obj)} {σ : L2.St} {F H : Hp} {s : Shared}
theorem ne_keys (I : Inv X pins σ H s) (e : Ex F H) : ∀ {xs : DEs} {es : List (D × Addr)}, Paired (NE X.K F) xs es → ∀ x ∈ xs, (nestedKind X.prog X.w).is s.heap x.1 x.2.1
  | _, _, .nil => fun x hx => nomatch hx
  | _, _, .cons h r => fun x hx => by
    rcases List.mem_cons.mp hx with rfl | hx
    · exact key_at I e h.2.1 h.2.2
    · exact ne_keys I e r x hx
theorem ne_hash {K : PySem.W.Frag} {F : Hp} : ∀ {xs : DEs} {es : List (D × Addr)}, Paired (NE K F) xs es → ∀ x ∈ xs, ∀ w w' : World, w.params.strHash = w'.params.strHash → x.1.hash w = x.1.hash w'
  | _, _, .nil => fun x hx => nomatch hx
  | _, _, .cons h r => fun x hx => by
    rcases List.mem_cons.mp hx with rfl | hx
    · exact kOf_hash h.2.2
    · exact ne_hash r x hx
theorem nd_facts [hw : WH X.w] (I : Inv X pins σ H s) (e : Ex F H) {a : Addr} {xs : DEs} {es : List (D × Addr)} (h : H a = some (DN a xs)) (r : Paired (NE X.K F) xs es) : (a == sysModules) = false ∧ xs.length ≤ sizeLine ∧ s.heap.DictOfH (nestedKind X.prog X.w) a xs := by
  obtain ⟨⟨y, z, nd, o, es', ep, h1, h2, h3, h4⟩, _⟩ := (show ObjOk X.prog X.w H s.heap a (.ext (DPhi a xs)) from I.hok a _ h)
  exact ⟨y, z, o, es', ep, h1, h2, h3, h4 X.w hw.eq, ne_keys I e r, nd⟩
theorem key_ref {K : PySem.W.Frag} {x : V} {kd : D} {k : NestedKey} (rk : Rp K F x kd) (hk : kOf true kd = some k) : ∃ q, x = .ref q := by
  obtain ⟨_, _, e3, _⟩ := kOf_tup hk
  subst e3
  cases rk with
  | tup _ _ => exact ⟨_, rfl⟩
end
/-! ### y[k], k not in y, y[k] = {} -/
section
variable {X : Cx} {a b value : Expr} {pos tp : Pos}
def tNix (K : PySem.W.Frag) (ta tb : TE) : TE := fun σ H Q => ta σ H fun x H1 => tb σ H1 fun y H2 => ∃ (F : Hp) (p : Addr) (xs : DEs) (es : List (D × Addr)) (kd : D) (k : NestedKey) (i : Nat) (e : D × Addr), x = .ref p ∧ Ex F H2 ∧ H2 p = some (DN p xs) ∧ Paired (NE K F) xs es ∧ Rp K F y kd ∧ kOf true kd = some k ∧ ixK k (es.map (·.1)) = some i ∧ es[i]? = some e ∧ Q (.ref e.2) H2
theorem pe_nix [hW : WH X.w] {ta tb : TE} (hu : X.A.units + 9 < cLine) (ha : PE X a ta) (hb : PE X b tb) (hs : NoSl b) : PE X (.Subscript a b pos) (tNix X.K ta tb) := by
  refine ⟨fun pins s σ H Q I h => ?_⟩
  refine subD_of PySem.F.slot_dict_getitem.lookup hs (thn (ha.run pins s σ H _ I h) fun u s1 ⟨x, H1, I1, rx, q1⟩ => thn (hb.run pins s1 σ H1 _ I1 q1) fun r s2 ⟨y, H2, I2, ry, F, p, xs, es, kd, k, i, e, ex, ef, hp, rel, rk, hk, hi, he, q2⟩ => ?_)
  subst ex
  cases (show u = Value.ref p from rx)
  obtain ⟨q, rfl⟩ := key_ref rk hk
  cases (show r = Value.ref q from ry)
  obtain ⟨hd, hz, dd⟩ := nd_facts I2 ef hp rel
  have hl := ne_look k rel
  rw [hi, Option.bind_some, he] at hl
  obtain ⟨w, hw, ew⟩ := Option.map_eq_some_iff.mp (show (atKey xs k).map (·.2) = some (Value.ref e.2) from hl)
  have dv : s2.TypeIs (.ref p) "dict" ∧ ∀ b, Value.ref p = .ref b → ∃ ob, s2.heap.get? b = some ob ∧ ob.dict = none := by
    refine ⟨dd.typeIs, fun b hb => ?_⟩
    cases hb
    obtain ⟨o, es', ep, h1, h2, _⟩ := dd
    exact ⟨o, h1, h2.2.1⟩
  refine ⟨dv.1, wpAny_getItem_heap (nest_room hu) (key_at I2 ef rk hk) dd hw ⟨.ref e.2, H2, I2.tok _, ew, q2⟩⟩
def rNNi (K : PySem.W.Frag) : R2 := fun x y H Q => ∃ (F : Hp) (p : Addr) (xs : DEs) (es : List (D × Addr)) (kd : D) (k : NestedKey), y = .ref p ∧ Ex F H ∧ H p = some (DN p xs) ∧ Paired (NE K F) xs es ∧ Rp K F x kd ∧ kOf true kd = some k ∧ Q (.bl (!(ixK k (es.map (·.1))).isSome)) H
theorem ix_some {β : Type} {k : NestedKey} : ∀ {es : List (D × β)}, ((ixK k (es.map (·.1))).bind fun i => es[i]?).isSome = (ixK k (es.map (·.1))).isSome
  | [] => rfl
  | e :: es => by
    rw [List.map_cons]
    unfold ixK
    split
    · rfl
    · have ih := ix_some (k := k) (es := es)
      cases h : ixK k (es.map (·.1)) with
      | none => rfl
      | some i =>
        rw [h] at ih
        exact ih
theorem op_nNi [hW : WH X.w] (hu : X.A.units + 9 < cLine) : OpR X (compareOp .NotIn) (rNNi X.K) := by
  intro pins s σ H x y v u Q I rx ry ⟨F, p, xs, es, kd, k, ey, ef, hp, rel, rk, hk, q⟩
  subst ey
  cases (show u = Value.ref p from ry)
  obtain ⟨z, rfl⟩ := key_ref rk hk
  cases (show v = Value.ref z from rx)
  obtain ⟨hd, hz, dd⟩ := nd_facts I ef hp rel
  refine wpAny_notIn_heap (nest_room hu) (key_at I ef rk hk) hd dd ?_
  have hl := congrArg Option.isSome (ne_look k rel)
  rw [Option.isSome_map, Option.isSome_map, ix_some] at hl
  rw [hl]
  exact ⟨.bl _, H, I.tok _, rfl, q⟩
def tNset (K : PySem.W.Frag) (td ty tv : TE) : TS := fun E σ H => tv σ H fun v H1 => td σ H1 fun x H2 => ty σ H2 fun y H3 => ∃ (F : Hp) (p z : Addr) (xs : DEs) (es : List (D × Addr)) (kd : D) (k : NestedKey), x = .ref p ∧ v = .ref z ∧ Ex F H3 ∧ H3 p = some (DN p xs) ∧ Paired (NE K F) xs es ∧ Rp K F y kd ∧ kOf true kd = some k ∧ ixK k (es.map (·.1)) = none ∧ es.length < bigN ∧
  ∀ xs', Paired (NE K F) xs' (es ++ [(kd, z)]) → E.nx σ (upd H3 p (DN p xs'))
theorem ps_nset [hW : WH X.w] {td ty tv : TE} (hu : X.A.units + 9 < cLine) (ho : PE X a td) (hi : PE X b ty) (hv : PE X value tv) (hs : swapsWith value (some (.Subscript a b tp)) pos.line X.env = pure false) : PS X (.Assign [.Subscript a b tp] value pos) (tNset X.K td ty tv) := by
  refine ⟨fun pins s σ H E I h => ?_⟩
  refine wpAny_Assign_Subscript (thn (hv.run pins s σ H _ I h) fun r s1 ⟨v, H1, I1, rv, q1⟩ => thn (ho.run pins s1 σ H1 _ I1 q1) fun u s2 ⟨x, H2, I2, rx, q2⟩ => thn (hi.run pins s2 σ H2 _ I2 q2) fun w s3 ⟨y, H3, I3, ry, F, p, z, xs, es, kd, k, ex, ev, ef, hp, rel, rk, hk, hn, hz, q3⟩ => ?_) hs
  subst ex
  subst ev
  cases (show u = Value.ref p from rx)
  cases (show r = Value.ref z from rv)
  obtain ⟨q, rfl⟩ := key_ref rk hk
  cases (show w = Value.ref q from ry)
  obtain ⟨hd, hz', dd⟩ := nd_facts I3 ef hp rel
  have hl := congrArg Option.isSome (ne_look k rel)
  rw [Option.isSome_map, Option.isSome_map, ix_some, hn] at hl
  have e0 : storedH xs k q (Value.ref z) = xs ++ [(k, q, Value.ref z)] := by
    unfold storedH
    rw [if_neg (by rw [hl]; decide)]
  have rel' : Paired (NE X.K F) (storedH xs k q (Value.ref z)) (es ++ [(kd, z)]) := by
    rw [e0]
    exact paired_app rel (.cons ⟨rfl, rk, hk⟩ .nil)
  refine wpAny_setItem_heap (hsz := hz') (nest_room hu) (key_at I3 ef rk hk) dd fun h' dd' hs => ?_
  have hb := big_le
  have hlz : (storedH xs k q (Value.ref z)).length ≤ sizeLine := by
    rw [Paired.length rel', List.length_append, List.length_singleton]
    omega
  have ho : ∃ q, h'.get? p = some q := let ⟨q, _, _, hq, _⟩ := dd'; ⟨q, hq⟩
  exact ⟨σ, _, d_write I3 (by rw [hp]; exact True.intro) hs ho (dn_ok (dn_phi hd hlz dd' (ne_hash rel'))), q3 _ rel'⟩
end
/-! ### the frame, with such a dict at slot j -/
section
variable {K : PySem.W.Frag} {F H F' H' F0 H0 : Hp} {σ σ' σ0 : L2.St} {ρ ρ' ρ0 : Fm} {j : Nat} {a : Addr} {es : List (D × Addr)} {L : List (List (D × D))} {N N' : NN}
structure NdI (K : PySem.W.Frag) (H0 F H : Hp) (σ : L2.St) (ρ : Fm) (j : Nat) (a : Addr) (es : List (D × Addr)) (L : List (List (D × D))) : Prop where
  pin : ρ[j]? = some .pin
  at_ : σ[j]? = some (some (.ref a))
  dct : ∃ xs, H a = some (DN a xs) ∧ Paired (NE K F) xs es
  own : ¬ ownA σ ρ a
  hid : F a = none
  new : H0 a = none
  nd : (es.map (·.2)).Nodup
  na : a ∉ es.map (·.2)
  nw : ∀ p ∈ es.map (·.2), H0 p = none
  ds : Paired (LdD K F H σ ρ) (es.map (·.2)) L
theorem NdI.go (I : NdI K H0 F H σ ρ j a es L) (g : Go K F H σ ρ F' H' σ' ρ') (hp : ρ'[j]? = some .pin) : NdI K H0 F' H' σ' ρ' j a es L := by
  obtain ⟨xs, hx, rel⟩ := I.dct
  refine ⟨hp, (g.pn j hp).2.trans I.at_, ⟨xs, g.keep a _ hx noTb_ext I.own, Paired.mapP rel fun x e h => h.mono g.ex⟩, fun o => (g.sub a o).elim I.own fun z => (by rw [hx] at z; cases z), g.hide a (by rw [hx]; intro z; cases z) I.hid I.own, I.new, I.nd, I.na, I.nw, ?_⟩
  exact Paired.mapP I.ds fun p l ⟨h1, h2, h3⟩ => by
    obtain ⟨u, hu, _⟩ := h3.live
    exact ⟨g.hide p (by rw [hu]; intro z; cases z) h1 h2, fun o => (g.sub p o).elim h2 fun z => (by rw [hu] at z; cases z), h3.move g.ex fun v e n => g.keep p v e n h2⟩
structure NS (K : PySem.W.Frag) (F0 H0 : Hp) (σ0 : L2.St) (ρ0 : Fm) (j : Nat) (a : Addr) (F H : Hp) (σ : L2.St) (ρ : Fm) (N : NN) : Prop where
  go : Go K F0 H0 σ0 ρ0 F H σ (ρ.set j .no)
  nd : ∃ es, es.map (·.1) = N.map (·.1) ∧ NdI K H0 F H σ ρ j a es (N.map (·.2))
theorem NS.pin (S : NS K F0 H0 σ0 ρ0 j a F H σ ρ N) : ρ[j]? = some .pin := let ⟨_, _, I⟩ := S.nd; I.pin
theorem NS.rel (S : NS K F0 H0 σ0 ρ0 j a F H σ ρ N) : Rel K F H σ ρ := rel_pin S.go.rel S.pin
theorem NS.step (S : NS K F0 H0 σ0 ρ0 j a F H σ ρ N) (g : Go K F H σ ρ F' H' σ' ρ') (hp : ρ'[j]? = some .pin) : NS K F0 H0 σ0 ρ0 j a F' H' σ' ρ' N := by
  obtain ⟨es, e1, I⟩ := S.nd
  exact ⟨S.go.trans (go_unpin g I.pin hp), es, e1, I.go g hp⟩
theorem NS.gr (S : NS K F0 H0 σ0 ρ0 j a F H σ ρ N) (g : Gr F H F' H') : NS K F0 H0 σ0 ρ0 j a F' H' σ ρ N := S.step (.gr S.rel g) S.pin
/-- only the thing at p is changed -/
theorem go_only {p : Addr} (g : Go K F0 H0 σ0 ρ0 F H σ ρ) (h0 : H0 p = none) (no : ¬ ownA σ ρ p) (ex : Ex F F') (in_ : Ex F' H') (tb : TbOk F' H') (kp : ∀ b o, H b = some o → NoTb o → b ≠ p → H' b = some o) (hd : ∀ b, H b ≠ none → F b = none → F' b = none) (lv : Lv H H') : Go K F0 H0 σ0 ρ0 F' H' σ ρ := by
  refine ⟨rel_keep g.rel ex in_ (fun x ox => ?_) tb, g.ex.trans ex, fun b o e n no' => ?_, fun b hb => lv b (g.live b hb), fun b hb hf no' => hd b (g.live b hb) (g.hide b hb hf no'), g.sub, g.io, g.pn⟩
  · obtain ⟨u, z1, z2⟩ := own_live g.rel ox
    have nt : NoTb u := fun ps z => own_notb g.rel ox ps (by rw [z1, z])
    exact ⟨(kp x u z1 nt fun z => no (z ▸ ox)).trans z1.symm, hd x (by rw [z1]; intro z; cases z) z2⟩
  · exact kp b o (g.keep b o e n no') n fun z => by rw [z, h0] at e; cases e
/-! ### what statements do there -/
def SN (K : PySem.W.Frag) (j : Nat) (t : TS) (f : Fm → NN → Option (Fm × NN)) : Prop := ∀ F0 H0 σ0 ρ0 a F H σ ρ N ρ' N', f ρ N = some (ρ', N') → NS K F0 H0 σ0 ρ0 j a F H σ ρ N → ∀ E : Ends, (∀ σ' F' H', NS K F0 H0 σ0 ρ0 j a F' H' σ' ρ' N' → Ex F F' → E.nx σ' H') → t E σ H
def nOf (j : Nat) (s : Fm → Option (Fl × Fm)) (ρ : Fm) (N : NN) : Option (Fm × NN) := (nxO (s ρ)).bind fun ρ' => if isPin ρ'[j]? then some (ρ', N) else none
def nSeq (f g : Fm → NN → Option (Fm × NN)) (ρ : Fm) (N : NN) : Option (Fm × NN) := (f ρ N).bind fun x => g x.1 x.2
def nL (j : Nat) (t : Tg) (f : Fm → NN → Option (Fm × NN)) : List D → Fm → NN → Option (Fm × NN)
  | [], ρ, N => some (ρ, N)
  | d :: ds, ρ, N => (setT t d ρ).bind fun ρ1 => if isPin ρ1[j]? then (f ρ1 N).bind fun x => nL j t f ds x.1 x.2 else none
def nFor (j : Nat) (t : Tg) (fi : Fm → Option (List D)) (f : Fm → NN → Option (Fm × NN)) (ρ : Fm) (N : NN) : Option (Fm × NN) := (fi ρ).bind fun ds => nL j t f ds ρ N
def nNew (fk : Fm → Option D) (ρ : Fm) (N : NN) : Option (Fm × NN) := (fk ρ).bind fun kd => (kOf true kd).bind fun k => match ixK k (N.map (·.1)) with
  | some _ => some (ρ, N)
  | none => if N.length < bigN then some (ρ, N ++ [(kd, [])]) else none
def nAdd (g : List D → List (D × D) → Option (D × List (D × D))) (fk : Fm → Option D) (fs : Fm → Option (List D)) (ρ : Fm) (N : NN) : Option (Fm × NN) := (fk ρ).bind fun kd => (kOf true kd).bind fun k => (ixK k (N.map (·.1))).bind fun i => (N[i]?).bind fun e => (fs ρ).bind fun ds => (g ds e.2).map fun y => (ρ, N.set i (e.1, y.2))
theorem sn_of {t : TS} {s : Fm → Option (Fl × Fm)} (h : SS K t s) : SN K j t (nOf j s) := by
  intro F0 H0 σ0 ρ0 a F H σ ρ N ρ' N' hf S E k
  obtain ⟨ρ1, e1, hf⟩ := Option.bind_eq_some_iff.mp hf
  split at hf
  case isFalse => cases hf
  case isTrue hp =>
  cases hf
  exact h F H σ ρ .nx _ (nxO_eq e1) S.rel E (fun _ σ1 F1 H1 g => k σ1 F1 H1 (S.step g (isPin_eq hp)) g.ex) (fun z => by cases z) fun d z => by cases z
theorem sn_seq {t u : TS} {f g : Fm → NN → Option (Fm × NN)} (h : SN K j t f) (h' : SN K j u g) : SN K j (tSeq t u) (nSeq f g) := by
  intro F0 H0 σ0 ρ0 a F H σ ρ N ρ' N' hf S E k
  obtain ⟨⟨ρ1, N1⟩, e1, hf⟩ := Option.bind_eq_some_iff.mp hf
  exact h F0 H0 σ0 ρ0 a F H σ ρ N ρ1 N1 e1 S _ fun σ1 F1 H1 S1 x1 => h' F0 H0 σ0 ρ0 a F1 H1 σ1 ρ1 N1 ρ' N' hf S1 E fun σ2 F2 H2 S2 x2 => k σ2 F2 H2 S2 (x1.trans x2)
theorem sn_for {wi : TI} {g : TG} {tb : TS} {t : Tg} {fi : Fm → Option (List D)} {f : Fm → NN → Option (Fm × NN)} (hi : SI K wi fi) (hg : ST K g t) (hb : SN K j tb f) : SN K j (tFor wi g tb) (nFor j t fi f) := by
  intro F0 H0 σ0 ρ0 a F H σ ρ N ρ' N' hf S E kE
  obtain ⟨ds, e1, e2⟩ := Option.bind_eq_some_iff.mp hf
  refine hi F H σ ρ ds e1 S.rel _ fun J F1 H1 g1 ok => ?_
  refine ⟨fun i m σ' H' => m = ds.length - i ∧ i ≤ ds.length ∧ ∃ F' ρ1 N1, NS K F0 H0 σ0 ρ0 j a F' H' σ' ρ1 N1 ∧ Ex F1 F' ∧ nL j t f (ds.drop i) ρ1 N1 = some (ρ', N'), ⟨_, rfl, Nat.zero_le _, F1, ρ, N, S.gr g1, .refl _, e2⟩, fun i m σ' H' hW => ?_⟩
  obtain ⟨rfl, hi, F', ρ1, N1, S1, x1, e3⟩ := hW
  by_cases h : i < ds.length
  · right
    have hd : ds[i]? = some ds[i] := List.getElem?_eq_getElem h
    obtain ⟨ha, hy⟩ := (ok F' H' x1 S1.rel.ex).1 i _ hd
    rw [List.drop_eq_getElem_cons h] at e3
    obtain ⟨ρ2, e4, e5⟩ := Option.bind_eq_some_iff.mp e3
    split at e5
    case isFalse => cases e5
    case isTrue hp =>
    obtain ⟨⟨ρ3, N3⟩, e6, e7⟩ := Option.bind_eq_some_iff.mp e5
    refine ⟨ha, fun σ2 H2 => ∃ F2, NS K F0 H0 σ0 ρ0 j a F2 H2 σ2 ρ3 N3 ∧ Ex F1 F2, fun σ2 H2 hN => ?_, fun x H2 hy2 => ?_⟩
    · obtain ⟨F2, g2, x2⟩ := hN
      exact ⟨ds.length - (i + 1), by omega, rfl, h, F2, ρ3, N3, g2, x2, e7⟩
    · obtain ⟨F2, gr, rx⟩ := hy x H2 hy2
      have S2 := S1.gr gr
      refine hg F2 H2 σ' ρ1 _ ρ2 x e4 S2.rel rx _ fun σ3 g3 _ => ?_
      have S3 := S2.step g3 (isPin_eq hp)
      exact hb F0 H0 σ0 ρ0 a F2 H2 σ3 ρ2 N1 ρ3 N3 e6 S3 _ fun σ4 F4 H4 S4 x4 => ⟨F4, S4, (x1.trans gr.ex).trans x4⟩
  · left
    have hl : i = ds.length := by omega
    subst hl
    rw [List.drop_length] at e3
    cases e3
    exact ⟨(ok F' H' x1 S1.rel.ex).2, kE σ' F' H' S1 (g1.ex.trans x1)⟩
theorem sn_new {tk tk2 : TE} {fk : Fm → Option D} (h1 : SP K tk fk) (h2 : SP K tk2 fk) : SN K j (tIfS (tTest (tOp (rNNi K) tk (tVar j))) (tNset K (tVar j) tk2 tDNewK) tNext) (nNew fk) := by
  intro F0 H0 σ0 ρ0 a F H σ ρ N ρ' N' hf S E kE
  obtain ⟨kd, e1, hf⟩ := Option.bind_eq_some_iff.mp hf
  obtain ⟨k, e2, hf⟩ := Option.bind_eq_some_iff.mp hf
  refine h1 F H σ ρ kd e1 S.rel _ fun v F1 H1 g1 r1 => ?_
  have S1 := S.gr g1
  obtain ⟨es, e3, I1⟩ := S1.nd
  obtain ⟨xs, hx, rel⟩ := I1.dct
  refine ⟨.ref a, I1.at_, F1, a, xs, es, kd, k, rfl, S1.rel.ex, hx, rel, r1, e2, _, rfl, ?_⟩
  rw [e3]
  cases hi : ixK k (N.map (·.1)) with
  | some i =>
    rw [hi] at hf
    dsimp only at hf
    cases hf
    show (if (!(some i).isSome) = true then _ else _)
    rw [if_neg (by simp)]
    exact kE σ F1 H1 S1 g1.ex
  | none =>
    rw [hi] at hf
    dsimp only at hf
    split at hf
    case isFalse => cases hf
    case isTrue hz =>
    cases hf
    show (if (!(none : Option Nat).isSome) = true then _ else _)
    rw [if_pos (by simp)]
    intro p hp
    have g2 : Gr F1 H1 F1 (upd H1 p (.dK [])) := Gr.newH S1.rel.ex hp
    have S2 := S1.gr g2
    refine ⟨.ref a, I1.at_, h2 F1 _ σ ρ kd e1 S2.rel _ fun v2 F3 H3 g3 r3 => ?_⟩
    have S3 := S2.gr g3
    have g23 := g2.trans g3
    have I3 : NdI K H0 F3 H3 σ ρ j a es (N.map (·.2)) := I1.go (.gr S1.rel g23) I1.pin
    obtain ⟨xs3, hx3, rel3⟩ := I3.dct
    have lenN : es.length = N.length := by
      have := congrArg List.length e3
      rwa [List.length_map, List.length_map] at this
    refine ⟨F3, a, p, xs3, es, kd, k, rfl, rfl, S3.rel.ex, hx3, rel3, r3, e2, by rw [e3]; exact hi, by rw [lenN]; exact hz, fun xs' rel' => ?_⟩
    have pF1 : F1 p = none := S1.rel.ex.free hp
    have pF3 : F3 p = none := g3.hide p (by rw [upd_same]; intro z; cases z) pF1
    have pH3 : H3 p = some (.dK []) := g3.keep p _ upd_same fun ps z => by cases z
    have p0 : H0 p = none := Classical.byContradiction fun z => S1.go.live p z hp
    have pa : p ≠ a := fun z => by rw [z, hx] at hp; cases hp
    have no1 : ¬ ownA σ ρ p := fun o => by
      obtain ⟨u, hu, _⟩ := own_live S1.rel o
      rw [hp] at hu
      cases hu
    have old : ∀ q ∈ es.map (·.2), q ≠ p := fun q hq z => by
      have : ∀ {qs : List Addr} {M : List (List (D × D))}, Paired (LdD K F1 H1 σ ρ) qs M → ∀ q ∈ qs, H1 q ≠ none := fun {qs M} t => by
        induction t with
        | nil => exact fun q h => by cases h
        | cons r t ih =>
          intro q h
          rcases List.mem_cons.mp h with rfl | h
          · obtain ⟨u, hu, _⟩ := r.2.2.live
            rw [hu]
            intro z
            cases z
          · exact ih q h
      exact this I1.ds q hq (by rw [z]; exact hp)
    refine kE σ F3 (upd H3 a (DN a xs')) ⟨go_updD S3.go I3.new I3.hid (fun o => I3.own ((own_unpin I3.pin).mp o)) (fun ps z => by rw [hx3] at z; cases z), es ++ [(kd, p)], by rw [List.map_append, List.map_append, e3]; rfl, ⟨I3.pin, I3.at_, ⟨xs', upd_same, rel'⟩, I3.own, I3.hid, I3.new, ?_, ?_, ?_, ?_⟩⟩ (g1.ex.trans g23.ex)
    · rw [List.map_append]
      exact List.nodup_append.mpr ⟨I3.nd, by simp, fun x hx y hy z => old x hx (by rw [z, List.mem_singleton.mp hy])⟩
    · rw [List.map_append, List.mem_append]
      rintro (z | z)
      · exact I3.na z
      · exact pa (List.mem_singleton.mp z).symm
    · intro q hq
      rw [List.map_append] at hq
      rcases List.mem_append.mp hq with hq | hq
      · exact I3.nw q hq
      · rw [List.mem_singleton.mp hq]
        exact p0
    · rw [List.map_append, List.map_append]
      refine paired_app ?_ (.cons ⟨pF3, no1, [], by rw [upd_ne pa]; exact pH3, .nil⟩ .nil)
      have na := I3.na
      have : ∀ {qs : List Addr} {M : List (List (D × D))}, Paired (LdD K F3 H3 σ ρ) qs M → a ∉ qs → Paired (LdD K F3 (upd H3 a (DN a xs')) σ ρ) qs M := fun {qs M} t => by
        induction t with
        | nil => exact fun _ => .nil
        | @cons x y xs ys r t ih =>
          intro h
          have hxa : x ≠ a := fun z => h (z ▸ List.mem_cons_self)
          exact .cons ⟨r.1, r.2.1, r.2.2.move (.refl _) fun u e _ => by rw [upd_ne hxa]; exact e⟩ (ih fun z => h (List.mem_cons_of_mem _ z))
      exact this I3.ds na
theorem ixK_lt {k : NestedKey} : ∀ {ds : List D} {i : Nat}, ixK k ds = some i → i < ds.length
  | d :: ds, i, h => by
    unfold ixK at h
    split at h
    · cases h
      exact Nat.succ_pos _
    · obtain ⟨i', h1, rfl⟩ := Option.map_eq_some_iff.mp h
      exact Nat.succ_lt_succ (ixK_lt h1)
theorem sn_add {tk : TE} {ta : TA} {fk : Fm → Option D} {fs : Fm → Option (List D)} {g : List D → List (D × D) → Option (D × List (D × D))} {n : Nat} {E0' : XK} (h1 : SP K tk fk) (h2 : SA K ta fs) (h3 : ∀ ρ ds, fs ρ = some ds → ds.length = n) :
    SN K j (tDrop (tCall (spA K g false n) [] E0' (fun σ H Q => tNix K (tVar j) tk σ H fun v H1 => ta σ H1 fun us H2 => Q (v :: us) H2))) (nAdd g fk fs) := by
  intro F0 H0 σ0 ρ0 a F H σ ρ N ρ' N' hf S E kE
  obtain ⟨kd, e1, hf⟩ := Option.bind_eq_some_iff.mp hf
  obtain ⟨k, e2, hf⟩ := Option.bind_eq_some_iff.mp hf
  obtain ⟨i, e3, hf⟩ := Option.bind_eq_some_iff.mp hf
  obtain ⟨e, e4, hf⟩ := Option.bind_eq_some_iff.mp hf
  obtain ⟨ds, e5, hf⟩ := Option.bind_eq_some_iff.mp hf
  obtain ⟨⟨dz, kvs'⟩, e6, hf⟩ := Option.map_eq_some_iff.mp hf
  cases hf
  obtain ⟨es, q1, I⟩ := S.nd
  refine ⟨.ref a, I.at_, h1 F H σ ρ kd e1 S.rel _ fun v F1 H1 g1 r1 => ?_⟩
  have S1 := S.gr g1
  have I1 : NdI K H0 F1 H1 σ ρ j a es (N.map (·.2)) := I.go (.gr S.rel g1) I.pin
  obtain ⟨xs, hx, rel⟩ := I1.dct
  have hil : i < es.length := by
    have := ixK_lt e3
    rw [← q1, List.length_map] at this
    exact this
  have hes : es[i]? = some es[i] := List.getElem?_eq_getElem hil
  refine ⟨F1, a, xs, es, kd, k, i, es[i], rfl, S1.rel.ex, hx, rel, r1, e2, by rw [q1]; exact e3, hes, h2 F1 H1 σ ρ ds e5 S1.rel _ fun us F2 H2 g2 r2 => ?_⟩
  have S2 := S1.gr g2
  have I2 : NdI K H0 F2 H2 σ ρ j a es (N.map (·.2)) := I1.go (.gr S1.rel g2) I1.pin
  obtain ⟨xs2, hx2, rel2⟩ := I2.dct
  have hp : (es.map (·.2))[i]? = some es[i].2 := by rw [List.getElem?_map, hes]; rfl
  have hl : (N.map (·.2))[i]? = some e.2 := by rw [List.getElem?_map, e4]; rfl
  obtain ⟨m1, m2, m3⟩ := paired_at I2.ds i _ _ hp hl
  have pm : es[i].2 ∈ es.map (·.2) := List.mem_of_getElem? hp
  have p0 := I2.nw _ pm
  have pa : a ≠ es[i].2 := fun z => I2.na (z ▸ pm)
  show spA K g false n ((V.ref es[i].2 :: us) ++ []) H2 _ E0'
  rw [List.append_nil]
  have hdl : ds.length = n := h3 _ _ e5
  refine ⟨by rw [List.length_cons, r2.length, hdl], F2, es[i].2, e.2, us, ds, dz, kvs', rfl, ⟨S2.rel.ex, S2.rel.tab⟩, m1, m3, r2, hdl, e6, fun v F' H' ex in_ kp hd lv dc2 rv => ?_⟩
  refine kE σ F' H' ⟨go_only S2.go p0 (fun o => m2 ((own_unpin I2.pin).mp o)) ex in_.1 in_.2 kp hd lv, es, ?_, ⟨I2.pin, I2.at_, ⟨xs2, kp a _ hx2 noTb_ext pa, Paired.mapP rel2 fun x e h => h.mono ex⟩, I2.own, hd a (by rw [hx2]; intro z; cases z) I2.hid, I2.new, I2.nd, I2.na, I2.nw, ?_⟩⟩ ((g1.ex.trans g2.ex).trans ex)
  · rw [List.map_set, q1]
    refine (List.ext_getElem? fun m => ?_).symm
    rw [List.getElem?_set]
    split
    · rename_i hm
      subst hm
      rw [List.getElem?_map, e4]
      have hlt : i < (N.map (·.1)).length := by rw [← q1, List.length_map]; exact hil
      rw [if_pos hlt]
      rfl
    · rfl
  · rw [List.map_set]
    refine paired_set i I2.ds I2.nd hp (fun q l hq ⟨y1, y2, y3⟩ => ?_) ⟨?_, m2, dc2⟩
    · obtain ⟨u, hu, _⟩ := y3.live
      exact ⟨hd q (by rw [hu]; intro z; cases z) y1, y2, y3.move ex fun u e n => kp q u e n hq⟩
    · obtain ⟨u, hu, _⟩ := m3.live
      exact hd _ (by rw [hu]; intro z; cases z) m1
/-! ### made, filled, given back -/
theorem seeL_app {k : Hp → Prop} {qs : List Addr} : ∀ (ps : List Addr) (H : Hp), SeeL ps (SeeL qs k) H → SeeL (ps ++ qs) k H
  | [], H, h => h
  | p :: ps, H, h => h.elim (fun ⟨u, h1, h2, h3⟩ => .inl ⟨u, h1, h2, fun od => seeL_app ps _ (h3 od)⟩) fun ⟨h1, h2⟩ => .inr ⟨h1, fun od => seeL_app ps _ (h2 od)⟩
theorem ne_rp {K : PySem.W.Frag} {F : Hp} : ∀ {xs : DEs} {es : List (D × Addr)} {N : NN}, Paired (NE K F) xs es → es.map (·.1) = N.map (·.1) → Paired (fun p l => Rp K F (.ref p) (.dict l)) (es.map (·.2)) (N.map (·.2)) → RpN K F xs (N.map fun e => (e.1, .dict e.2))
  | _, _, [], .nil, _, _ => .nil
  | _, _, e :: N, .nil, h, _ => by cases h
  | _, _, [], .cons _ _, h, _ => by cases h
  | (k, q, u) :: xs, f :: es, e :: N, .cons r t, h, p => by
    rw [List.map_cons, List.map_cons] at h p
    obtain ⟨h1, h2⟩ := List.cons.inj h
    obtain ⟨a1, a2, a3⟩ := r
    cases p with
    | cons p1 p2 =>
      rw [List.map_cons]
      refine .cons (v := .ref f.2) (by rw [← h1]; exact a2) (by rw [← h1]; exact a3) ?_ p1 (ne_rp t h2 p2)
      rw [show u = Value.ref f.2 from a1]
      exact rfl
def sNd (j : Nat) (t : Tg) (fi : Fm → Option (List D)) (f : Fm → NN → Option (Fm × NN)) (ρ : Fm) : Option (Fl × Fm) := if isPin (ρ.set j .pin)[j]? then (nFor j t fi f (ρ.set j .pin) []).map fun x => (.rt (.dict (x.2.map fun e => (e.1, .dict e.2))), x.1.set j .no) else none
theorem ss_nd {wi : TI} {g : TG} {tb : TS} {t : Tg} {fi : Fm → Option (List D)} {f : Fm → NN → Option (Fm × NN)} (hi : SI K wi fi) (hg : ST K g t) (hb : SN K j tb f) :
    SS K (tSeq (tAsg tNewN (gName j)) (tSeq (tFor wi g tb) (tSeeL (tRet (tVar j))))) (sNd j t fi f) := by
  intro F H σ ρ fl ρz hf hR E k1 k2 k3
  unfold sNd at hf
  split at hf
  case isFalse => cases hf
  case isTrue hpn =>
  have hpn := isPin_eq hpn
  obtain ⟨⟨ρe, Ne⟩, e5, hf⟩ := Option.map_eq_some_iff.mp hf
  cases hf
  intro a ha
  have hjl : j < ρ.length := by
    have := (List.getElem?_eq_some_iff.mp hpn).1
    rwa [List.length_set] at this
  have g1 : Gr F H F (upd H a (DN a [])) := Gr.newH hR.ex ha
  have gno := go_noV (j := j) (v := some (V.ref a)) (hR.gr g1)
  have eρ : (ρ.set j .pin).set j .no = ρ.set j .no := List.set_set ..
  have gB : Go K F H σ ρ F (upd H a (DN a [])) (σ.set j (some (.ref a))) ((ρ.set j .pin).set j .no) := by
    rw [eρ]
    exact (Go.gr hR g1).trans gno
  have aF : F a = none := hR.ex.free ha
  have noOwn : ¬ ownA (σ.set j (some (.ref a))) (ρ.set j .pin) a := fun o => by
    have o := (own_unpin hpn).mpr o
    rw [eρ] at o
    rcases ((Go.gr hR g1).trans gno).sub a o with z | z
    · obtain ⟨u, hu, _⟩ := own_live hR z
      rw [ha] at hu
      cases hu
    · obtain ⟨i, b, hb, ob, hs⟩ := o
      have := gno.rel.at_ i b hb
      rcases set_get hb with ⟨_, rfl⟩ | ⟨hij, hb'⟩
      · cases ob
      · rw [List.getElem?_set_ne (fun z => hij z.symm)] at hs
        obtain ⟨u, hu, _⟩ := own_live hR ⟨i, b, hb', ob, hs⟩
        rw [ha] at hu
        cases hu
  have S0 : NS K F H σ ρ j a F (upd H a (DN a [])) (σ.set j (some (.ref a))) (ρ.set j .pin) [] :=
    ⟨gB, [], rfl, ⟨hpn, by rw [List.getElem?_set_self (by rw [hR.len]; exact hjl)], ⟨[], upd_same, .nil⟩, noOwn, aF, ha, .nil, (fun z => by cases z), (fun p hp => by cases hp), .nil⟩⟩
  refine sn_for hi hg hb F H σ ρ a F _ _ _ [] ρe Ne e5 S0 _ fun σ' F' H' S _ => ?_
  obtain ⟨es, q1, I⟩ := S.nd
  obtain ⟨xs, hx, rel⟩ := I.dct
  refine ⟨es.map (·.2) ++ [a], seeL_app _ _ ?_⟩
  refine see_all _ (es.map (·.2)) (Ne.map (·.2)) F' H' S.go (fun p hp => I.nw p hp) I.nd (Paired.mapP I.ds fun p l ⟨y1, y2, y3⟩ => ⟨y1, fun o => y2 ((own_unpin I.pin).mp o), y3⟩) fun F4 H4 g4 ex4 out pr => ?_
  obtain ⟨o1, o2⟩ := out a I.na
  have fA : F4 a = none := o1.trans I.hid
  have hA : H4 a = some (DN a xs) := o2.trans hx
  refine .inl ⟨DN a xs, hA, trivial, fun od => ?_⟩
  have gE := go_updFH (o := .frz od (DN a xs)) g4 I.new fA (fun o => I.own ((own_unpin I.pin).mp o)) fun ps z => by rw [hA] at z; cases z
  have exF : Ex F4 (upd F4 a (.frz od (DN a xs))) := .new fA
  refine ⟨.ref a, I.at_, k3 _ rfl (.ref a) σ' _ _ gE (.dn upd_same (RpN.mono exF (ne_rp (Paired.mapP rel fun x e h => h.mono ex4) q1 pr)))⟩
end
/-! ### the judgements -/
def PN (X : Cx) (j : Nat) (st : Stmt) (f : Fm → NN → Option (Fm × NN)) : Prop := ∃ t, PS X st t ∧ SN X.K j t f
def PNs (X : Cx) (j : Nat) (sts : List Stmt) (f : Fm → NN → Option (Fm × NN)) : Prop := ∃ t, PSs X sts t ∧ SN X.K j t f
section
variable {X : Cx} {st : Stmt} {sts : List Stmt} {e iter tg kE kE2 : Expr} {es : List Expr} {t : Tg} {fi : Fm → Option (List D)} {fk : Fm → Option D} {fs : Fm → Option (List D)} {f g : Fm → NN → Option (Fm × NN)} {s : Fm → Option (Fl × Fm)}
theorem nn_of (j : Nat) (h : PSt X st s) : PN X j st (nOf j s) := let ⟨t, a, b⟩ := h; ⟨t, a, sn_of b⟩
theorem nn_one {j : Nat} (h : PN X j st f) : PNs X j [st] f := let ⟨t, a, b⟩ := h; ⟨_, pss_one a, b⟩
theorem nn_cons {j : Nat} (h : PN X j st f) (h' : PNs X j sts g) : PNs X j (st :: sts) (nSeq f g) := let ⟨_, a, b⟩ := h; let ⟨_, c, d⟩ := h'; ⟨_, pss_cons a c, sn_seq b d⟩
theorem nn_for {j : Nat} {pos : Pos} (hp : PassesOwn (model X.prog X.w) X.A X.env X.xe) (hc : X.calm = true) (hi : PIt X tg iter fi) (hg : PTg X tg t) (hb : PNs X j sts f) (hs : ∀ x, foldedSetIterable iter X.env x = pure x := by intro _; rfl) : PN X j (.For tg iter sts [] pos) (nFor j t fi f) := by
  obtain ⟨wi, a1, a2⟩ := hi
  obtain ⟨g, b1, b2⟩ := hg
  obtain ⟨tb, c1, c2⟩ := hb
  exact ⟨_, ps_for hp hc a1 b1 c1 hs, sn_for a2 b2 c2⟩
/-- if k not in y: y[k] = {} -/
theorem nn_new (j : Nat) {n : Nat} {y : Str} {p1 p2 p3 p4 p5 p6 p7 : Pos} (hr : Room n X.A) (hk : PP X kE fk) (hk2 : PP X kE2 fk) (hv : ∀ q : Pos, PE X (.Name y q) (tVar j) := by exact fun q => pv _)
    (hm : behindInMarks .NotIn (.Name y p1) = false := by first | exact nobehind _ (by decide) (by decide) | rfl) (hs : swapsWith (.Dict [] [] p2) (some (.Subscript (.Name y p3) kE2 p4)) p5.line X.env = pure false := by rfl) (hW : WH X.w := by assumption) :
    PN X j (.If (.Compare kE [.NotIn] [.Name y p1] p6) [.Assign [.Subscript (.Name y p3) kE2 p4] (.Dict [] [] p2) p5] [] p7) (nNew fk) := by
  obtain ⟨tk, a1, a2⟩ := hk
  obtain ⟨tk2, b1, b2⟩ := hk2
  have hu : X.A.units + 9 < cLine := by have := Room.u66 hr; omega
  exact ⟨_, ps_if (pt_cmpR (op_nNi hu) a1 (hv p1) hm) (pss_one (ps_nset hu (hv p3) b1 pe_dnewK hs)) pss_nil, sn_new a2 b2⟩
/-- x(y[k], e, ..) -/
theorem nn_add (j : Nat) {k n : Nat} {x y : Str} {fa : Addr} {fd : FuncData} {ps : List Str} {g : List D → List (D × D) → Option (D × List (D × D))} {p pos q q2 pos2 : Pos} (G : FnOk X.prog X.w X.K X.mg X.base CX0 k fa fd ps (spA X.K g false n)) (hr : Room k X.A) (hm : X.mg x = some (.ref fa)) (hk : PySem.W.keepIn X.K (.ref fa) = true) (hb : Binds X.K fd ps [])
    (hkE : PP X kE fk) (ha : PAs X es fs) (hv : PE X (.Name y q) (tVar j) := by exact pv _) (hsl : NoSl kE := by exact fun _ _ => rfl) (hn : n = es.length := by rfl) (hg : Gl X x := by rfl) (hdb : (x == ("__debug__" : Str)) = false := by decide) (he : starEach (.Subscript (.Name y q) kE q2 :: es) X.env = (false, eval (.Subscript (.Name y q) kE q2) X.env) :: starEach es X.env := by rfl) (hpl : (backTo pos (starEach es X.env)).any (·.1) = false := by rfl)
    (hs : swapsWith (.Call (.Name x p) (.Subscript (.Name y q) kE q2 :: es) [] pos) none pos2.line X.env = pure false := by rfl) (hW : WH X.w := by assumption) :
    PN X j (.Expr (.Call (.Name x p) (.Subscript (.Name y q) kE q2 :: es) [] pos) pos2) (nAdd g fk fs) := by
  obtain ⟨ta, h1, h2, h3⟩ := ha
  obtain ⟨tk, a1, a2⟩ := hkE
  have hu : X.A.units + 9 < cLine := by have := Room.u66 hr; omega
  exact ⟨_, ps_expr (pe_call G hr hg hm hk hb .nil pass0 (pa_cons (pe_nix hu hv a1 hsl) h1 he) hdb he hpl) hs, sn_add a2 h2 fun ρ ds h => (h3 ρ ds h).trans hn.symm⟩
/-- y = {}; for ..; return y -/
theorem b_nd (j : Nat) {y : Str} {p1 p2 p3 p4 p5 p6 : Pos} (hc : X.calm = true) (hN : X.N.Nodup) (hpo : PassesOwn (model X.prog X.w) X.A X.env X.xe) (hi : PIt X tg iter fi) (hg : PTg X tg t) (hb : PNs X j sts f)
    (hj : X.N[j]? = some y := by rfl) (hy : Loc X.env.scope y := by first | exact .inl rfl | exact .inr rfl) (hv : PE X (.Name y p5) (tVar j) := by exact pv _) (hf : X.fn y = true ∨ X.env.scope.names.lookup y = some .local := by first | exact .inl rfl | exact .inr rfl)
    (hs : swapsWith (.Dict [] [] p2) (some (.Name y p1)) p3.line X.env = pure false := by rfl) (hfo : ∀ x, foldedSetIterable iter X.env x = pure x := by intro _; rfl) :
    PBl X [.Assign [.Name y p1] (.Dict [] [] p2) p3, .For tg iter sts [] p4, .Return (some (.Name y p5)) p6] (sNd j t fi f) := by
  obtain ⟨wi, a1, a2⟩ := hi
  obtain ⟨g, b1, b2⟩ := hg
  obtain ⟨tb, c1, c2⟩ := hb
  exact ⟨_, pss_cons (ps_set hN hj hy pe_newN hs hf) (pss_cons (ps_for hpo hc a1 b1 c1 hfo) (pss_one (ps_seeL (ps_ret hv)))), ss_nd a2 b2 c2⟩
end
end DL
end
section
set_option Elab.async false
set_option linter.all false
set_option maxRecDepth 100000
/-! {k: v} of one's own, k a number or a text. -/
namespace DL
open PySem PySem.Spec PyProof.Rows L2
variable [TabT] [FnT]
section
variable {X : Cx} {k v : Expr} {pos : Pos} {fk fv : Fm → Option D}
def mNewK1 (fk fv : Fm → Option D) (ρ : Fm) : Option (B × Fm) := (fk ρ).bind fun kd => (fv ρ).bind fun d => (kOf false kd).map fun _ => (.od false [(kd, d)], ρ)
theorem m_newK1 (hk : PP X k fk) (hv : PP X v fv) : XM X (.Dict [some k] [v] pos) (mNewK1 fk fv) := by
  obtain ⟨tk, h1, h2⟩ := hk
  obtain ⟨tv, h3, h4⟩ := hv
  refine ⟨_, pe_disp (pps_cons h1 h3 pps_nil) rfl rfl (by simp) (by show 1 ≤ 15; decide), fun F H σ ρ b ρ' hf hR Q kk p hp => ?_⟩
  obtain ⟨kd, e1, hf⟩ := Option.bind_eq_some_iff.mp hf
  obtain ⟨d, e2, hf⟩ := Option.bind_eq_some_iff.mp hf
  obtain ⟨k0, e3, hf⟩ := Option.map_eq_some_iff.mp hf
  cases hf
  obtain ⟨ky, rfl, _⟩ := kOf_plain e3
  have g0 := Gr.newH (o := .dK []) hR.ex hp
  have nb : NoTb (.dK []) := fun ps z => by cases z
  refine h2 F _ σ ρ _ e1 (hR.gr g0) _ fun x F1 H1 g1 r1 => h4 F1 H1 σ ρ _ e2 ((hR.gr g0).gr g1) _ fun y F2 H2 g2 r2 => ?_
  have g12 := g1.trans g2
  have hF0 : F p = none := hR.ex.free hp
  have hF2 : F2 p = none := g12.hide p (by rw [upd_same]; intro z; cases z) hF0
  have ex : x = kV ky := rp_keyV r1
  refine ⟨g12.keep _ _ upd_same nb, [(ky, y)], by rw [ex]; rfl, by show 1 ≤ 15; decide, ?_⟩
  exact kk _ F2 _ (.gr hR ((g0.trans g12).over hp hF2 (g12.keep _ _ upd_same nb) nb)) ⟨p, rfl, hp, hF2, _, upd_same, .cons r2 .nil⟩
end
end DL
end
section
set_option Elab.async false
set_option linter.all false
set_option maxRecDepth 100000
namespace LF
open PySem PySem.Spec PyProof.Rows L2 DL
instance (priority := low) tabNil : DL.TabT := ⟨[], fun _ => 0⟩
abbrev wFuel : Nat := 100000
abbrev gAddI : D → D → Option D := gI2 (fun _ _ => true) fun i j => i + j
/-! is_in -/
def b_is_in : Fm → Option (Fl × Fm) :=
  sRet (up (fAndV (fOp1 (gIsa ["int"]) (fVar 0)) (fAndV (fNotV (fOp1 (gIsa ["bool"]) (fVar 0))) (fChain gLe gLe (fVar 1) (fVar 0) (fVar 2)))))
def f_is_in : List D → Option D := runP 3 b_is_in
/-! _law_alike -/
def b_law_alike (g : List D → Option D) : Fm → Option (Fl × Fm) :=
  sSeq (sIf (up (fBl (fOp1 (gIsa ["tuple", "list"]) (fVar 1)))) (sSeq (sIf (up (fOr (fNot (fBl (fOp1 (gIsa ["tuple", "list"]) (fVar 0)))) (fBl (fOp2 gNe (fOp1 (gIsa ["list"]) (fVar 0)) (fOp1 (gIsa ["list"]) (fVar 1)))))) (sRet (up (fC (.bool false)))) (sNext))
    (sSeq (sIf (up (fBl (fOp2 gNe (fOp1 gLen (fVar 0)) (fOp1 gLen (fVar 1))))) (sRet (up (fC (.bool false)))) (sNext))
    (sRet (up (fOp2 gEq (fLc [2] (.one 2) (iRg1 (fOp1 gLen (fVar 1))) (fNot (fBl (fCall g (fCons (fOp2 gIx (fVar 0) (fVar 2)) (fCons (fOp2 gIx (fVar 1) (fVar 2)) (fNil)))))) (fVar 2)) (fLst (fNil))))))) (sNext))
    (sSeq (sIf (up (fOr (fBl (fOp2 (gIsN false) (fVar 1) (fC .none))) (fBl (fOp1 (gIsa ["str"]) (fVar 1))))) (sRet (up (fAndV (fOp2 gEq (fVar 0) (fVar 1)) (fOp2 gEq (fOp1 (gIsa ["str"]) (fVar 0)) (fOp1 (gIsa ["str"]) (fVar 1)))))) (sNext))
    (sRet (up (fAndV (fOp1 (gIsa ["int"]) (fVar 0)) (fAndV (fOp2 gEq (fOp1 (gIsa ["bool"]) (fVar 0)) (fOp1 (gIsa ["bool"]) (fVar 1))) (fOp2 gEq (fVar 0) (fVar 1)))))))
def f_law_alike : Nat → List D → Option D
  | 0 => fun _ => none
  | n + 1 => runP 3 (b_law_alike (f_law_alike n))
/-! need_burning -/
def b_need_burning_l1 : Fm → Option (Fl × Fm) :=
  sIf (up (fOr (fNot (fBl (fCall LF.f_is_in (fCons (fVar 3) (fCons (fC (.int 0)) (fCons (fOp2 gSub (fOp2 gIx (fVar 0) (fC (.int 0))) (fC (.int 1))) (fNil))))))) (fAnd (fBl (fOp2 gGt (fVar 2) (fC (.int 0)))) (fBl (fOp2 gLe (fVar 3) (fOp2 gIx (fVar 1) (fOp2 gSub (fVar 2) (fC (.int 1))))))))) (sNever) (sNext)
def b_need_burning : Fm → Option (Fl × Fm) :=
  sSeq (sIf (up (fNot (fBl (fOp1 (gIsa ["tuple"]) (fVar 1))))) (sNever) (sNext))
    (sFor (.tup [.one 2, .one 3]) (iEn (fVar 1)) (LF.b_need_burning_l1))
def f_need_burning : List D → Option D := runP 4 b_need_burning
/-! sides -/
def b_sides : Fm → Option (Fl × Fm) :=
  sRet (up (fTup (fCons (fLc [2] (.one 2) (iSeq (fVar 1)) (fBl (fOp2 (gIn true) (fVar 2) (fVar 0))) (fVar 2)) (fCons (fLc [2] (.one 2) (iSeq (fVar 0)) (fBl (fOp2 (gIn true) (fVar 2) (fVar 1))) (fVar 2)) (fNil)))))
def f_sides : List D → Option D := runP 3 b_sides
/-! need_many -/
def b_need_many : Fm → Option (Fl × Fm) :=
  sIf (up (fNot (fBl (fCall LF.f_is_in (fCons (fVar 0) (fCons (fC (.int 1)) (fCons (fC (.int 40)) (fNil)))))))) (sNever) (sNext)
def f_need_many : List D → Option D := runP 1 b_need_many
/-! need_burning -/
def b_need_burning_3339_l1 : Fm → Option (Fl × Fm) :=
  sIf (up (fOr (fNot (fBl (fCall LF.f_is_in (fCons (fVar 3) (fCons (fC (.int 0)) (fCons (fOp2 gSub (fVar 0) (fC (.int 1))) (fNil))))))) (fAnd (fBl (fOp2 gGt (fVar 2) (fC (.int 0)))) (fBl (fOp2 gLe (fVar 3) (fOp2 gIx (fVar 1) (fOp2 gSub (fVar 2) (fC (.int 1))))))))) (sNever) (sNext)
def b_need_burning_3339 : Fm → Option (Fl × Fm) :=
  sSeq (sIf (up (fNot (fBl (fOp1 (gIsa ["tuple"]) (fVar 1))))) (sNever) (sNext))
    (sFor (.tup [.one 2, .one 3]) (iEn (fVar 1)) (LF.b_need_burning_3339_l1))
def f_need_burning_3339 : List D → Option D := runP 4 b_need_burning_3339
/-! need_two -/
def b_need_two_a324 : Fm → Option (Fl × Fm) :=
  sSeq (sDrop (up (fCall LF.f_need_many (fCons (fVar 0) (fNil)))))
    (sSeq (sDrop (up (fCall LF.f_need_burning_3339 (fCons (fVar 0) (fCons (fVar 1) (fNil))))))
    (sDrop (up (fCall LF.f_need_burning_3339 (fCons (fVar 0) (fCons (fVar 2) (fNil)))))))
def f_need_two_a324 : List D → Option D := runP 3 b_need_two_a324
/-! spare_of -/
def b_spare_of_04fb_l1 : Fm → Option (Fl × Fm) :=
  sIf (up (fOr (fBl (fOp2 (gIn false) (fVar 5) (fVar 1))) (fBl (fOp2 (gIn false) (fVar 5) (fVar 2))))) (sAsg 4 (mSh (up (fAndV (fOp2 (gIn false) (fVar 5) (fVar 1)) (fOp2 (gIn true) (fVar 5) (fVar 2)))))) (sIf (up (fBl (fVar 4))) (sApp 3 (up (fVar 5))) (sNext))
def b_spare_of_04fb_l2 : Fm → Option (Fl × Fm) :=
  sIf (up (fOr (fBl (fOp2 (gIn false) (fVar 5) (fVar 1))) (fBl (fOp2 (gIn false) (fVar 5) (fVar 2))))) (sAsg 4 (mSh (up (fAndV (fOp2 (gIn false) (fVar 5) (fVar 2)) (fOp2 (gIn true) (fVar 5) (fVar 1)))))) (sIf (up (fAnd (fBl (fVar 4)) (fBl (fOp2 (gIn true) (fVar 5) (fOwn 3))))) (sApp 3 (up (fVar 5))) (sNext))
def b_spare_of_04fb : Fm → Option (Fl × Fm) :=
  sSeq (sAll [3, 4] (mCons (mOw (up fNil)) (mCons (mSh (up (fC (.bool false)))) (mNil))))
    (sSeq (sFor (.one 5) (iRg1 (fVar 0)) (LF.b_spare_of_04fb_l1))
    (sSeq (sAsg 4 (mSh (up (fC (.bool false)))))
    (sSeq (sFor (.one 5) (iRgD (fOp2 gSub (fVar 0) (fC (.int 1))) (fOp1 gNeg (fC (.int 1))) (fOp1 gNeg (fC (.int 1)))) (LF.b_spare_of_04fb_l2))
    (sRet (up (fOp1 gSorted (fOwn 3)))))))
def f_spare_of_04fb : List D → Option D := runP 6 b_spare_of_04fb
/-! behind_lamp -/
def b_behind_lamp_l1 : Fm → Option (Fl × Fm) :=
  sSeq (sAsg 5 (mSh (up (fOp2 gIxD (fVar 0) (fTup (fCons (fVar 3) (fCons (fVar 4) (fNil))))))))
    (sSeq (sIf (up (fBl (fOp2 gEq (fVar 1) (fC (.str "dark"))))) (sUnp [5, 6] (up (fIf (fBl (fOp2 gEq (fVar 3) (fC (.str "old")))) (fTup (fCons (fOp2 gAdd (fVar 5) (fC (.int 2))) (fCons (fTup (fCons (fVar 3) (fCons (fC (.int 0)) (fNil)))) (fNil)))) (fTup (fCons (fVar 5) (fCons (fTup (fCons (fVar 3) (fCons (fOp2 gAdd (fVar 4) (fC (.int 1))) (fNil)))) (fNil))))))) (sSeq (sAug 5 gAddI (fIf (fBl (fOp2 gEq (fVar 1) (fC (.str "new")))) (fOp2 gMulI (fC (.int 2)) (fVar 4)) (fC (.int 0))))
    (sAll [5, 6] (mCons (mSh (up (fOp2 gAdd (fVar 5) (fOp1 gInt (fOp2 (gIn false) (fVar 1) (fTup (fCons (fC (.str "old")) (fCons (fC (.str "new")) (fNil))))))))) (mCons (mSh (up (fTup (fCons (fVar 1) (fCons (fC (.int 0)) (fNil)))))) (mNil))))))
    (sIf (up (fBl (fOp2 gGt (fVar 5) (fOp3 gGet2 (fOwn 2) (fVar 6) (fOp1 gNeg (fC (.int 1))))))) (sDset 2 (fVar 6) (up (fVar 5))) (sNext)))
def b_behind_lamp : Fm → Option (Fl × Fm) :=
  sSeq (sAsg 2 (mNewD true))
    (sSeq (sFor (.tup [.one 3, .one 4]) (iKeys (fVar 0)) (LF.b_behind_lamp_l1))
    (sFrzD 2 (sRet (up (fVar 2)))))
def f_behind_lamp : List D → Option D := runP 7 b_behind_lamp
/-! greatest -/
def b_greatest_l1 : Fm → Option (Fl × Fm) :=
  sIf (up (fBl (fOp2 gGt (fOp2 gIxD (fVar 6) (fVar 7)) (fOp3 gGet2 (fOwn 4) (fVar 7) (fOp1 gNeg (fC (.int 1))))))) (sDset 4 (fVar 7) (up (fOp2 gIxD (fVar 6) (fVar 7)))) (sNext)
def b_greatest_l2 : Fm → Option (Fl × Fm) :=
  sSeq (sFrzD 2 (sAsg 6 (mSh (up (fCall LF.f_behind_lamp (fCons (fVar 2) (fCons (fVar 5) (fNil))))))))
    (sFor (.one 7) (iKeys (fVar 6)) (LF.b_greatest_l1))
def b_greatest_l3 : Fm → Option (Fl × Fm) :=
  sSeq (sAsg 4 (mNewD true))
    (sSeq (sFor (.one 5) (iSeq (fCallV 1 (fCons (fVar 3) (fNil)))) (LF.b_greatest_l2))
    (sFrzD 4 (sAsg 2 (mSh (up (fVar 4))))))
def b_greatest : Fm → Option (Fl × Fm) :=
  sSeq (sAsg 2 (mNew1 (fTup (fCons (fC (.str "none")) (fCons (fC (.int 0)) (fNil)))) (fC (.int 0))))
    (sSeq (sFor (.one 3) (iRg1 (fVar 0)) (LF.b_greatest_l3))
    (sFrzD 2 (sRet (up (fVw true gMax_ (fVar 2))))))
def f_greatest : (List D → Option D) → List D → Option D := runPF 8 b_greatest
/-! row_farthest -/
def b_row_farthest : Fm → Option (Fl × Fm) :=
  sSeq (sDrop (up (fCall LF.f_need_many (fCons (fVar 0) (fNil)))))
    (sSeq (sDrop (up (fCall LF.f_need_burning_3339 (fCons (fVar 0) (fCons (fVar 1) (fNil))))))
    (sRet (up (fCallL LF.f_greatest (fCons (fVar 0) (fNil)) (fLamW [1] (fIf (fBl (fOp2 (gIn false) (fVar 0) (fVar 1))) (fLst (fCons (fC (.str "old")) (fCons (fC (.str "both")) (fNil)))) (fLst (fCons (fC (.str "dark")) (fCons (fC (.str "new")) (fNil))))))))))
def f_row_farthest : List D → Option D := runP 2 b_row_farthest
/-! leads_to -/
def b_leads_to_6fbb_l1 : Fm → Option (Fl × Fm) :=
  sSeq (sIf (up (fNot (fBl (fCall LF.f_is_in (fCons (fVar 4) (fCons (fC (.int 0)) (fCons (fOp2 gSub (fVar 0) (fC (.int 1))) (fNil)))))))) (sRet (up (fC .none))) (sNext))
    (sSeq (sAsg 5 (mSh (up (fIf (fBl (fOp2 gIx (fOwn 3) (fVar 4))) (fOp2 gAdd (fVar 4) (fC (.int 1))) (fOp2 gSub (fVar 4) (fC (.int 1)))))))
    (sSeq (sIf (up (fAnd (fBl (fCall LF.f_is_in (fCons (fVar 5) (fCons (fC (.int 0)) (fCons (fOp2 gSub (fVar 0) (fC (.int 1))) (fNil)))))) (fNot (fBl (fOp2 gIx (fOwn 3) (fVar 5)))))) (sRet (up (fC .none))) (sNext))
    (sPut 3 (fVar 4) (up (fNotV (fOp2 gIx (fOwn 3) (fVar 4)))))))
def b_leads_to_6fbb : Fm → Option (Fl × Fm) :=
  sSeq (sAsg 3 (mLc [6] (.one 6) (iRg1 (fVar 0)) fYes (fOp2 (gIn false) (fVar 6) (fVar 1))))
    (sSeq (sFor (.one 4) (iSeq (fVar 2)) (LF.b_leads_to_6fbb_l1))
    (sRet (up (fOp1 gTuple (fLc [6] (.one 6) (iRg1 (fVar 0)) (fBl (fOp2 gIx (fOwn 3) (fVar 6))) (fVar 6))))))
def f_leads_to_6fbb : List D → Option D := runP 7 b_leads_to_6fbb
/-! row_widest -/
def b_row_widest : Fm → Option (Fl × Fm) :=
  sSeq (sDrop (up (fCall LF.f_need_many (fCons (fVar 0) (fNil)))))
    (sRet (up (fCallL LF.f_greatest (fCons (fVar 0) (fNil)) (fLamW [] (fLst (fCons (fC (.str "dark")) (fCons (fC (.str "old")) (fCons (fC (.str "new")) (fCons (fC (.str "both")) (fNil))))))))))
def f_row_widest : List D → Option D := runP 1 b_row_widest
/-! add_to -/
def b_add_toD : Fm → Option (Fl × Fm) :=
  sDset 0 (fVar 1) (up (fOp2 gAdd (fOp3 gGet2 (fOwn 0) (fVar 1) (fC (.int 0))) (fVar 2)))
def f_add_toD : List D → List (D × D) → Option (D × List (D × D)) := runA 3 b_add_toD false
/-! grown -/
def b_grown_n1 : Fm → NN → Option (Fm × NN) :=
  nSeq (nNew (fVar 7))
    (nAdd LF.f_add_toD (fVar 7) (fCons (fOp2 gIxD (fVar 6) (fVar 7)) (fCons (fOp2 gIxD (fOp2 gIxD (fVar 0) (fTup (fCons (fVar 3) (fCons (fVar 4) (fNil))))) (fVar 5)) (fNil))))
def b_grown_n2 : Fm → NN → Option (Fm × NN) :=
  nSeq (nOf 2 (sAsg 6 (mSh (up (fCall LF.f_behind_lamp (fCons (fun ρ => ((fTup (fCons (fVar 3) (fCons (fVar 4) (fNil)))) ρ).bind fun kd => ((fVar 5) ρ).bind fun d => (kOf true kd).map fun _ => .dict [(kd, d)]) (fCons (fVar 1) (fNil))))))))
    (nFor 2 (.one 7) (iKeys (fVar 6)) (LF.b_grown_n1))
def b_grown_n3 : Fm → NN → Option (Fm × NN) :=
  nFor 2 (.one 5) (iKeys (fOp2 gIxD (fVar 0) (fTup (fCons (fVar 3) (fCons (fVar 4) (fNil)))))) (LF.b_grown_n2)
def b_grown : Fm → Option (Fl × Fm) :=
  sNd 2 (.tup [.one 3, .one 4]) (iKeys (fVar 0)) (LF.b_grown_n3)
def f_grown : List D → Option D := runP 8 b_grown
/-! joined -/
def b_joined_n1 : Fm → NN → Option (Fm × NN) :=
  nAdd LF.f_add_toD (fVar 4) (fCons (fVar 5) (fCons (fOp2 gIxD (fOp2 gIxD (fVar 3) (fVar 4)) (fVar 5)) (fNil)))
def b_joined_n2 : Fm → NN → Option (Fm × NN) :=
  nSeq (nNew (fVar 4))
    (nFor 2 (.one 5) (iKeys (fOp2 gIxD (fVar 3) (fVar 4))) (LF.b_joined_n1))
def b_joined_n3 : Fm → NN → Option (Fm × NN) :=
  nFor 2 (.one 4) (iKeys (fVar 3)) (LF.b_joined_n2)
def b_joined : Fm → Option (Fl × Fm) :=
  sNd 2 (.one 3) (iSeq (fTup (fCons (fVar 0) (fCons (fVar 1) (fNil))))) (LF.b_joined_n3)
def f_joined : List D → Option D := runP 6 b_joined
/-! by_cost -/
def b_by_costD_l1 : Fm → Option (Fl × Fm) :=
  sDrop (xCallA 1 false LF.f_add_toD (fCons (fVar 3) (fCons (fOp2 gIxD (fOp2 gIxD (fVar 0) (fVar 2)) (fVar 3)) (fNil))))
def b_by_costD_l2 : Fm → Option (Fl × Fm) :=
  sFor (.one 3) (iKeys (fOp2 gIxD (fVar 0) (fVar 2))) (LF.b_by_costD_l1)
def b_by_costD : Fm → Option (Fl × Fm) :=
  sSeq (sAsg 1 (mNewD false))
    (sSeq (sFor (.one 2) (iKeys (fVar 0)) (LF.b_by_costD_l2))
    (sFrzD 1 (sRet (up (fOp1 gTuple (fLc [3] (.one 3) (iRg1 (fOp2 gAdd (fVw false gMax_ (fVar 1)) (fC (.int 1)))) fYes (fOp3 gGet2 (fOwn 1) (fVar 3) (fC (.int 0)))))))))
def f_by_costD : List D → Option D := runP 4 b_by_costD
/-! row_pair_counts -/
def b_row_pair_counts_l1 : Fm → Option (Fl × Fm) :=
  sSeq (sFrzD 1 (sAsg 3 (mSh (up (fCall LF.f_joined (fCons (fCall LF.f_grown (fCons (fVar 1) (fCons (fC (.str "dark")) (fNil)))) (fCons (fCall LF.f_grown (fCons (fVar 1) (fCons (fC (.str "both")) (fNil)))) (fNil))))))))
    (sFrzD 1 (sAsg 1 (mSh (up (fCall LF.f_joined (fCons (fVar 3) (fCons (fCall LF.f_joined (fCons (fCall LF.f_grown (fCons (fVar 1) (fCons (fC (.str "old")) (fNil)))) (fCons (fCall LF.f_grown (fCons (fVar 1) (fCons (fC (.str "new")) (fNil)))) (fNil)))) (fNil))))))))
def b_row_pair_counts : Fm → Option (Fl × Fm) :=
  sSeq (sDrop (up (fCall LF.f_need_many (fCons (fVar 0) (fNil)))))
    (sSeq (sAsg 1 (mNew1 (fTup (fCons (fC (.str "none")) (fCons (fC (.int 0)) (fNil)))) (fun ρ => ((fC (.int 0)) ρ).bind fun kd => ((fC (.int 1)) ρ).bind fun d => (kOf false kd).map fun _ => .dict [(kd, d)])))
    (sSeq (sFor (.one 2) (iRg1 (fVar 0)) (LF.b_row_pair_counts_l1))
    (sFrzD 1 (sRet (up (fCall LF.f_by_costD (fCons (fVar 1) (fNil))))))))
def f_row_pair_counts : List D → Option D := runP 4 b_row_pair_counts
/-! row_deed_counts -/
def b_row_deed_counts_l1 : Fm → Option (Fl × Fm) :=
  sSeq (sUnp [4, 5] (up (fIf (fBl (fOp2 (gIn false) (fVar 3) (fVar 1))) (fTup (fCons (fC (.str "old")) (fCons (fC (.str "both")) (fNil)))) (fTup (fCons (fC (.str "dark")) (fCons (fC (.str "new")) (fNil)))))))
    (sFrzD 2 (sAsg 2 (mSh (up (fCall LF.f_joined (fCons (fCall LF.f_grown (fCons (fVar 2) (fCons (fVar 4) (fNil)))) (fCons (fCall LF.f_grown (fCons (fVar 2) (fCons (fVar 5) (fNil)))) (fNil))))))))
def b_row_deed_counts : Fm → Option (Fl × Fm) :=
  sSeq (sDrop (up (fCall LF.f_need_many (fCons (fVar 0) (fNil)))))
    (sSeq (sDrop (up (fCall LF.f_need_burning_3339 (fCons (fVar 0) (fCons (fVar 1) (fNil))))))
    (sSeq (sAsg 2 (mNew1 (fTup (fCons (fC (.str "none")) (fCons (fC (.int 0)) (fNil)))) (fun ρ => ((fC (.int 0)) ρ).bind fun kd => ((fC (.int 1)) ρ).bind fun d => (kOf false kd).map fun _ => .dict [(kd, d)])))
    (sSeq (sFor (.one 3) (iRg1 (fVar 0)) (LF.b_row_deed_counts_l1))
    (sFrzD 2 (sRet (up (fCall LF.f_by_costD (fCons (fVar 2) (fNil)))))))))
def f_row_deed_counts : List D → Option D := runP 6 b_row_deed_counts
/-! row_within -/
def b_row_within : Fm → Option (Fl × Fm) :=
  sSeq (sDrop (up (fCall LF.f_need_many (fCons (fVar 0) (fNil)))))
    (sSeq (sDrop (up (fCall LF.f_need_burning_3339 (fCons (fVar 0) (fCons (fVar 1) (fNil))))))
    (sSeq (sIf (up (fNot (fBl (fCall LF.f_is_in (fCons (fVar 2) (fCons (fC (.int 0)) (fCons (fOp2 gMulI (fC (.int 2)) (fVar 0)) (fNil)))))))) (sNever) (sNext))
    (sRet (up (fOp1 gSumT (fSl (fCall LF.f_row_deed_counts (fCons (fVar 0) (fCons (fVar 1) (fNil)))) fNoP (fPart (fOp2 gAdd (fVar 2) (fC (.int 1))))))))))
def f_row_within : List D → Option D := runP 3 b_row_within
/-! free_behind -/
def b_free_behind : Fm → Option (Fl × Fm) :=
  sSeq (sIf (up (fBl (fOp2 gEq (fVar 1) (fC (.str "dark"))))) (sRet (up (fIf (fBl (fOp2 gEq (fVar 0) (fC (.str "old")))) (fC .none) (fC (.str "dark"))))) (sNext))
    (sSeq (sIf (up (fAnd (fBl (fOp2 gEq (fVar 1) (fC (.str "new")))) (fBl (fOp2 gEq (fVar 0) (fC (.str "dark")))))) (sRet (up (fC .none))) (sNext))
    (sRet (up (fVar 1))))
def f_free_behind : List D → Option D := runP 2 b_free_behind
/-! row_free_count -/
def b_row_free_countD_l1 : Fm → Option (Fl × Fm) :=
  sSeq (sAsg 7 (mSh (up (fCall LF.f_free_behind (fCons (fVar 5) (fCons (fVar 6) (fNil)))))))
    (sIf (up (fBl (fOp2 (gIsN true) (fVar 7) (fC .none)))) (sDset 4 (fVar 7) (up (fOp2 gAdd (fOp3 gGet2 (fOwn 4) (fVar 7) (fC (.int 0))) (fOp2 gIxD (fOwn 2) (fVar 5))))) (sNext))
def b_row_free_countD_l2 : Fm → Option (Fl × Fm) :=
  sFor (.one 6) (iSeq (fIf (fBl (fOp2 (gIn false) (fVar 3) (fVar 1))) (fTup (fCons (fC (.str "old")) (fCons (fC (.str "both")) (fNil)))) (fTup (fCons (fC (.str "dark")) (fCons (fC (.str "new")) (fNil)))))) (LF.b_row_free_countD_l1)
def b_row_free_countD_l3 : Fm → Option (Fl × Fm) :=
  sSeq (sAsg 4 (mNewD false))
    (sSeq (sFrzD 2 (sFor (.one 5) (iKeys (fVar 2)) (LF.b_row_free_countD_l2)))
    (sFrzD 4 (sAsg 2 (mSh (up (fVar 4))))))
def b_row_free_countD : Fm → Option (Fl × Fm) :=
  sSeq (sDrop (up (fCall LF.f_need_many (fCons (fVar 0) (fNil)))))
    (sSeq (sDrop (up (fCall LF.f_need_burning_3339 (fCons (fVar 0) (fCons (fVar 1) (fNil))))))
    (sSeq (sAsg 2 (mNewK1 (fC (.str "none")) (fC (.int 1))))
    (sSeq (sFor (.one 3) (iRg1 (fVar 0)) (LF.b_row_free_countD_l3))
    (sFrzD 2 (sRet (up (fVw true gSum_ (fVar 2))))))))
def f_row_free_countD : List D → Option D := runP 8 b_row_free_countD
/-! need_parents -/
def b_need_parents_l1 : Fm → Option (Fl × Fm) :=
  sIf (up (fAnd (fBl (fOp2 (gIsN true) (fVar 2) (fC .none))) (fNot (fBl (fCall LF.f_is_in (fCons (fVar 2) (fCons (fC (.int 0)) (fCons (fOp2 gSub (fVar 1) (fC (.int 1))) (fNil))))))))) (sNever) (sNext)
def b_need_parents : Fm → Option (Fl × Fm) :=
  sSeq (sIf (up (fOr (fNot (fBl (fOp1 (gIsa ["tuple"]) (fVar 0)))) (fNot (fBl (fChain gLe gLe (fC (.int 1)) (fOp1 gLen (fVar 0)) (fC (.int 40))))))) (sNever) (sNext))
    (sFor (.tup [.one 1, .one 2]) (iEn (fVar 0)) (LF.b_need_parents_l1))
def f_need_parents : List D → Option D := runP 3 b_need_parents
/-! children -/
def b_children : Fm → Option (Fl × Fm) :=
  sRet (up (fLc [2, 3] (.tup [.one 2, .one 3]) (iEn (fVar 0)) (fBl (fOp2 gEq (fVar 3) (fVar 1))) (fVar 2)))
def f_children : List D → Option D := runP 4 b_children
/-! forest_web -/
def b_forest_web : Fm → Option (Fl × Fm) :=
  sSeq (sDrop (up (fCall LF.f_need_parents (fCons (fVar 0) (fNil)))))
    (sSeq (sIf (up (fBl (fOp2 gGt (fOp1 gLen (fVar 0)) (fC (.int 9))))) (sNever) (sNext))
    (sRet (up (fTup (fCons (fOp1 gLen (fVar 0)) (fCons (fOp1 gTuple (fOp1 gSorted (fLc [1, 2] (.tup [.one 1, .one 2]) (iEn (fVar 0)) (fBl (fOp2 (gIsN true) (fVar 2) (fC .none))) (fTup (fCons (fVar 2) (fCons (fVar 1) (fNil))))))) (fNil)))))))
def f_forest_web : List D → Option D := runP 3 b_forest_web
/-! need_two -/
def b_need_two_43b8 : Fm → Option (Fl × Fm) :=
  sSeq (sDrop (up (fCall LF.f_need_parents (fCons (fVar 0) (fNil)))))
    (sSeq (sDrop (up (fCall LF.f_need_burning_3339 (fCons (fOp1 gLen (fVar 0)) (fCons (fVar 1) (fNil))))))
    (sDrop (up (fCall LF.f_need_burning_3339 (fCons (fOp1 gLen (fVar 0)) (fCons (fVar 2) (fNil)))))))
def f_need_two_43b8 : List D → Option D := runP 3 b_need_two_43b8
/-! spare_of -/
def b_spare_of_l1 : Fm → Option (Fl × Fm) :=
  sAsg 9 (mSh (up (fOp2 gAdd (fVar 9) (fCall LF.f_children (fCons (fVar 0) (fCons (fVar 8) (fNil)))))))
def b_spare_of_l2 : Fm → Option (Fl × Fm) :=
  sSeq (sAsg 9 (mSh (up (fLc [8] (.one 8) (iSeq (fVar 6)) (fBl (fOp2 (gIsN true) (fOp2 gIx (fVar 0) (fVar 8)) (fC .none))) (fOp2 gIx (fVar 0) (fVar 8))))))
    (sSeq (sFor (.one 8) (iSeq (fVar 7)) (LF.b_spare_of_l1))
    (sSeq (sAsg 9 (mSh (up (fLc [8] (.one 8) (iSeq (fOp1 gSS2 (fVar 9))) (fAnd (fBl (fOp2 (gIn true) (fVar 8) (fVar 1))) (fAnd (fBl (fOp2 (gIn true) (fVar 8) (fVar 2))) (fBl (fOp2 (gIn true) (fVar 8) (fVar 5))))) (fVar 8)))))
    (sAll [5, 6, 7] (mCons (mSh (up (fOp2 gAdd (fVar 5) (fVar 9)))) (mCons (mSh (up (fVar 9))) (mCons (mSh (up (fVar 9))) (mNil)))))))
def b_spare_of : Fm → Option (Fl × Fm) :=
  sSeq (sUnp [3, 4] (up (fCall LF.f_sides (fCons (fVar 1) (fCons (fVar 2) (fNil))))))
    (sSeq (sAll [5, 6, 7] (mCons (mSh (up (fLst (fNil)))) (mCons (mSh (up (fOp1 gList (fVar 3)))) (mCons (mSh (up (fOp1 gList (fVar 4)))) (mNil)))))
    (sSeq (sWhile LF.wFuel (up (fBl (fOp2 gNe (fOp2 gAdd (fVar 6) (fVar 7)) (fLst (fNil))))) (LF.b_spare_of_l2))
    (sRet (up (fOp1 gSorted (fVar 5))))))
def f_spare_of : List D → Option D := runP 10 b_spare_of
/-! forest_spare -/
def b_forest_spare : Fm → Option (Fl × Fm) :=
  sSeq (sDrop (up (fCall LF.f_need_two_43b8 (fCons (fVar 0) (fCons (fVar 1) (fCons (fVar 2) (fNil)))))))
    (sRet (up (fOp1 gTuple (fCall LF.f_spare_of (fCons (fVar 0) (fCons (fVar 1) (fCons (fVar 2) (fNil))))))))
def f_forest_spare : List D → Option D := runP 3 b_forest_spare
/-! word_of -/
def b_word_of : Fm → Option (Fl × Fm) :=
  sSeq (sUnp [3, 4] (up (fCall LF.f_sides (fCons (fVar 1) (fCons (fVar 2) (fNil))))))
    (sSeq (sAsg 5 (mSh (up (fCall LF.f_spare_of (fCons (fVar 0) (fCons (fVar 1) (fCons (fVar 2) (fNil))))))))
    (sRet (up (fOp2 gAdd (fOp1 gSorted (fOp2 gAdd (fVar 3) (fVar 5))) (fOp1 gSorted (fOp2 gAdd (fVar 4) (fVar 5)))))))
def f_word_of : List D → Option D := runP 6 b_word_of
/-! forest_fewest -/
def b_forest_fewest : Fm → Option (Fl × Fm) :=
  sSeq (sDrop (up (fCall LF.f_need_two_43b8 (fCons (fVar 0) (fCons (fVar 1) (fCons (fVar 2) (fNil)))))))
    (sRet (up (fOp1 gLen (fCall LF.f_word_of (fCons (fVar 0) (fCons (fVar 1) (fCons (fVar 2) (fNil))))))))
def f_forest_fewest : List D → Option D := runP 3 b_forest_fewest
/-! forest_word -/
def b_forest_word : Fm → Option (Fl × Fm) :=
  sSeq (sDrop (up (fCall LF.f_need_two_43b8 (fCons (fVar 0) (fCons (fVar 1) (fCons (fVar 2) (fNil)))))))
    (sRet (up (fOp1 gTuple (fCall LF.f_word_of (fCons (fVar 0) (fCons (fVar 1) (fCons (fVar 2) (fNil))))))))
def f_forest_word : List D → Option D := runP 3 b_forest_word
/-! leads_to -/
def b_leads_to_l1 : Fm → Option (Fl × Fm) :=
  sSeq (sIf (up (fNot (fBl (fCall LF.f_is_in (fCons (fVar 4) (fCons (fC (.int 0)) (fCons (fOp2 gSub (fOp1 gLen (fVar 0)) (fC (.int 1))) (fNil)))))))) (sRet (up (fC .none))) (sNext))
    (sSeq (sIf (up (fBl (fOp2 gIx (fOwn 3) (fVar 4)))) (sAsg 5 (mSh (up (fLc [6] (.one 6) (iSeq (fCall LF.f_children (fCons (fVar 0) (fCons (fVar 4) (fNil))))) (fNot (fBl (fOp2 gIx (fOwn 3) (fVar 6)))) (fVar 6))))) (sAsg 5 (mSh (up (fLc [6] (.one 6) (iSeq (fSl (fVar 0) (fPart (fVar 4)) (fPart (fOp2 gAdd (fVar 4) (fC (.int 1)))))) (fAnd (fBl (fOp2 (gIsN true) (fVar 6) (fC .none))) (fNot (fBl (fOp2 gIx (fOwn 3) (fVar 6))))) (fVar 6))))))
    (sSeq (sIf (up (fBl (fOp2 gNe (fVar 5) (fLst (fNil))))) (sRet (up (fC .none))) (sNext))
    (sPut 3 (fVar 4) (up (fNotV (fOp2 gIx (fOwn 3) (fVar 4)))))))
def b_leads_to : Fm → Option (Fl × Fm) :=
  sSeq (sAsg 3 (mLc [6] (.one 6) (iRg1 (fOp1 gLen (fVar 0))) fYes (fOp2 (gIn false) (fVar 6) (fVar 1))))
    (sSeq (sFor (.one 4) (iSeq (fVar 2)) (LF.b_leads_to_l1))
    (sRet (up (fOp1 gTuple (fLc [6] (.one 6) (iRg1 (fOp1 gLen (fVar 0))) (fBl (fOp2 gIx (fOwn 3) (fVar 6))) (fVar 6))))))
def f_leads_to : List D → Option D := runP 7 b_leads_to
/-! shows_forest_word -/
def b_shows_forest_word : Fm → Option (Fl × Fm) :=
  sSeq (sDrop (up (fCall LF.f_need_two_43b8 (fCons (fVar 0) (fCons (fVar 1) (fCons (fVar 2) (fNil)))))))
    (sSeq (sIf (up (fOr (fNot (fBl (fOp1 (gIsa ["tuple"]) (fVar 3)))) (fBl (fOp2 gNe (fOp1 gLen (fVar 3)) (fOp1 gLen (fCall LF.f_word_of (fCons (fVar 0) (fCons (fVar 1) (fCons (fVar 2) (fNil)))))))))) (sRet (up (fC (.bool false)))) (sNext))
    (sRet (up (fOp2 gEq (fCall LF.f_leads_to (fCons (fVar 0) (fCons (fVar 1) (fCons (fVar 3) (fNil))))) (fVar 2)))))
def f_shows_forest_word : List D → Option D := runP 4 b_shows_forest_word
/-! forest_light_ways -/
def b_forest_light_ways_l1 : Fm → Option (Fl × Fm) :=
  sDset 7 (fVar 5) (up (fOp2 gAdd (fC (.int 1)) (fOp1 gSum (fLc [9] (.one 9) (iSeq (fCall LF.f_children (fCons (fVar 0) (fCons (fVar 5) (fNil))))) (fBl (fOp2 (gInD false) (fVar 9) (fOwn 7))) (fOp2 gIxD (fOwn 7) (fVar 9))))))
def b_forest_light_ways_l2 : Fm → Option (Fl × Fm) :=
  sAug 6 gMulI (fOp2 gAdd (fVar 8) (fC (.int 1)))
def b_forest_light_ways_l3 : Fm → Option (Fl × Fm) :=
  sAug 6 gDivS (fOp2 gIxD (fOwn 7) (fVar 5))
def b_forest_light_ways : Fm → Option (Fl × Fm) :=
  sSeq (sDrop (up (fCall LF.f_need_two_43b8 (fCons (fVar 0) (fCons (fVar 1) (fCons (fVar 2) (fNil)))))))
    (sSeq (sUnp [3, 4] (up (fCall LF.f_sides (fCons (fVar 1) (fCons (fVar 2) (fNil))))))
    (sSeq (sIf (up (fOr (fBl (fOp2 gNe (fVar 4) (fLst (fNil)))) (fBl (fOp2 gNe (fLc [5] (.one 5) (iSeq (fVar 3)) (fAnd (fBl (fOp2 (gIsN true) (fOp2 gIx (fVar 0) (fVar 5)) (fC .none))) (fBl (fOp2 (gIn true) (fOp2 gIx (fVar 0) (fVar 5)) (fVar 2)))) (fVar 5)) (fLst (fNil)))))) (sRet (up (fC (.int 0)))) (sNext))
    (sSeq (sAll [6, 7] (mCons (mSh (up (fC (.int 1)))) (mCons (mNewD false) (mNil))))
    (sSeq (sFor (.one 5) (iSeq (fOp1 gRev (fVar 3))) (LF.b_forest_light_ways_l1))
    (sSeq (sFor (.tup [.one 8, .one 5]) (iEn (fVar 3)) (LF.b_forest_light_ways_l2))
    (sSeq (sFor (.one 5) (iSeq (fVar 3)) (LF.b_forest_light_ways_l3))
    (sRet (up (fVar 6)))))))))
def f_forest_light_ways : List D → Option D := runP 10 b_forest_light_ways
/-! forest_quench_ways -/
def b_forest_quench_ways_l1 : Fm → Option (Fl × Fm) :=
  sDset 7 (fVar 5) (up (fOp2 gAdd (fC (.int 1)) (fOp1 gSum (fLc [9] (.one 9) (iSeq (fCall LF.f_children (fCons (fVar 0) (fCons (fVar 5) (fNil))))) (fBl (fOp2 (gInD false) (fVar 9) (fOwn 7))) (fOp2 gIxD (fOwn 7) (fVar 9))))))
def b_forest_quench_ways_l2 : Fm → Option (Fl × Fm) :=
  sAug 6 gMulI (fOp2 gAdd (fVar 8) (fC (.int 1)))
def b_forest_quench_ways_l3 : Fm → Option (Fl × Fm) :=
  sAug 6 gDivS (fOp2 gIxD (fOwn 7) (fVar 5))
def b_forest_quench_ways : Fm → Option (Fl × Fm) :=
  sSeq (sDrop (up (fCall LF.f_need_two_43b8 (fCons (fVar 0) (fCons (fVar 1) (fCons (fVar 2) (fNil)))))))
    (sSeq (sUnp [3, 4] (up (fCall LF.f_sides (fCons (fVar 1) (fCons (fVar 2) (fNil))))))
    (sSeq (sIf (up (fOr (fBl (fOp2 gNe (fVar 3) (fLst (fNil)))) (fBl (fOp2 gNe (fLc [5] (.one 5) (iSeq (fVar 4)) (fBl (fOp2 gNe (fLc [9] (.one 9) (iSeq (fCall LF.f_children (fCons (fVar 0) (fCons (fVar 5) (fNil))))) (fBl (fOp2 (gIn true) (fVar 9) (fVar 1))) (fVar 9)) (fLst (fNil)))) (fVar 5)) (fLst (fNil)))))) (sRet (up (fC (.int 0)))) (sNext))
    (sSeq (sAll [6, 7] (mCons (mSh (up (fC (.int 1)))) (mCons (mNewD false) (mNil))))
    (sSeq (sFor (.one 5) (iSeq (fOp1 gRev (fVar 4))) (LF.b_forest_quench_ways_l1))
    (sSeq (sFor (.tup [.one 8, .one 5]) (iEn (fVar 4)) (LF.b_forest_quench_ways_l2))
    (sSeq (sFor (.one 5) (iSeq (fVar 4)) (LF.b_forest_quench_ways_l3))
    (sRet (up (fVar 6)))))))))
def f_forest_quench_ways : List D → Option D := runP 10 b_forest_quench_ways
/-! forest_light_states -/
def b_forest_light_states_l1 : Fm → Option (Fl × Fm) :=
  sSeq (sDaug 2 gMulI (fVar 4) (fOp2 gAdd (fOp2 gIxD (fOwn 2) (fVar 5)) (fIf (fBl (fOp2 (gIn false) (fVar 5) (fVar 1))) (fC (.int 0)) (fOp2 gIxD (fOwn 3) (fVar 5)))))
    (sDaug 3 gMulI (fVar 4) (fIf (fBl (fOp2 (gIn false) (fVar 5) (fVar 1))) (fOp2 gIxD (fOwn 2) (fVar 5)) (fOp2 gIxD (fOwn 3) (fVar 5))))
def b_forest_light_states_l2 : Fm → Option (Fl × Fm) :=
  sSeq (sDset2 2 3 (fVar 4) (fVar 4) (up (fTup (fCons (fC (.int 1)) (fCons (fC (.int 1)) (fNil))))))
    (sFor (.one 5) (iSeq (fCall LF.f_children (fCons (fVar 0) (fCons (fVar 4) (fNil))))) (LF.b_forest_light_states_l1))
def b_forest_light_states_l3 : Fm → Option (Fl × Fm) :=
  sAug 6 gMulI (fOp2 gAdd (fOp2 gIxD (fOwn 2) (fVar 4)) (fIf (fBl (fOp2 (gIn false) (fVar 4) (fVar 1))) (fC (.int 0)) (fOp2 gIxD (fOwn 3) (fVar 4))))
def b_forest_light_states : Fm → Option (Fl × Fm) :=
  sSeq (sDrop (up (fCall LF.f_need_parents (fCons (fVar 0) (fNil)))))
    (sSeq (sDrop (up (fCall LF.f_need_burning_3339 (fCons (fOp1 gLen (fVar 0)) (fCons (fVar 1) (fNil))))))
    (sSeq (sAll [2, 3] (mCons (mNewD false) (mCons (mNewD false) (mNil))))
    (sSeq (sFor (.one 4) (iRgD (fOp2 gSub (fOp1 gLen (fVar 0)) (fC (.int 1))) (fOp1 gNeg (fC (.int 1))) (fOp1 gNeg (fC (.int 1)))) (LF.b_forest_light_states_l2))
    (sSeq (sAsg 6 (mSh (up (fC (.int 1)))))
    (sSeq (sFor (.one 4) (iSeq (fCall LF.f_children (fCons (fVar 0) (fCons (fC .none) (fNil))))) (LF.b_forest_light_states_l3))
    (sRet (up (fVar 6))))))))
def f_forest_light_states : List D → Option D := runP 7 b_forest_light_states
/-! row_spare -/
def b_row_spare : Fm → Option (Fl × Fm) :=
  sSeq (sDrop (up (fCall LF.f_need_two_a324 (fCons (fVar 0) (fCons (fVar 1) (fCons (fVar 2) (fNil)))))))
    (sRet (up (fOp1 gTuple (fCall LF.f_spare_of_04fb (fCons (fVar 0) (fCons (fVar 1) (fCons (fVar 2) (fNil))))))))
def f_row_spare : List D → Option D := runP 3 b_row_spare
/-! word_of_rows -/
def b_word_of_5d0e : Fm → Option (Fl × Fm) :=
  sSeq (sUnp [3, 4] (up (fCall LF.f_sides (fCons (fVar 1) (fCons (fVar 2) (fNil))))))
    (sSeq (sAsg 5 (mSh (up (fCall LF.f_spare_of_04fb (fCons (fVar 0) (fCons (fVar 1) (fCons (fVar 2) (fNil))))))))
    (sRet (up (fOp2 gAdd (fOp1 gSorted (fOp2 gAdd (fVar 3) (fVar 5))) (fOp1 gSorted (fOp2 gAdd (fVar 4) (fVar 5)))))))
def f_word_of_5d0e : List D → Option D := runP 6 b_word_of_5d0e
/-! row_fewest -/
def b_row_fewest : Fm → Option (Fl × Fm) :=
  sSeq (sDrop (up (fCall LF.f_need_two_a324 (fCons (fVar 0) (fCons (fVar 1) (fCons (fVar 2) (fNil)))))))
    (sRet (up (fOp1 gLen (fCall LF.f_word_of_5d0e (fCons (fVar 0) (fCons (fVar 1) (fCons (fVar 2) (fNil))))))))
def f_row_fewest : List D → Option D := runP 3 b_row_fewest
/-! row_word -/
def b_row_word : Fm → Option (Fl × Fm) :=
  sSeq (sDrop (up (fCall LF.f_need_two_a324 (fCons (fVar 0) (fCons (fVar 1) (fCons (fVar 2) (fNil)))))))
    (sRet (up (fOp1 gTuple (fCall LF.f_word_of_5d0e (fCons (fVar 0) (fCons (fVar 1) (fCons (fVar 2) (fNil))))))))
def f_row_word : List D → Option D := runP 3 b_row_word
/-! shows_row_word -/
def b_shows_row_word : Fm → Option (Fl × Fm) :=
  sSeq (sDrop (up (fCall LF.f_need_two_a324 (fCons (fVar 0) (fCons (fVar 1) (fCons (fVar 2) (fNil)))))))
    (sSeq (sIf (up (fOr (fNot (fBl (fOp1 (gIsa ["tuple"]) (fVar 3)))) (fBl (fOp2 gNe (fOp1 gLen (fVar 3)) (fOp1 gLen (fCall LF.f_word_of_5d0e (fCons (fVar 0) (fCons (fVar 1) (fCons (fVar 2) (fNil)))))))))) (sRet (up (fC (.bool false)))) (sNext))
    (sRet (up (fOp2 gEq (fCall LF.f_leads_to_6fbb (fCons (fVar 0) (fCons (fVar 1) (fCons (fVar 3) (fNil))))) (fVar 2)))))
def f_shows_row_word : List D → Option D := runP 4 b_shows_row_word
/-! forest_spare -/
def b_forest_spare_4a7b : Fm → Option (Fl × Fm) :=
  sSeq (sDrop (up (fCall LF.f_need_two_43b8 (fCons (fVar 0) (fCons (fVar 1) (fCons (fVar 2) (fNil)))))))
    (sRet (up (fOp1 gTuple (fCall LF.f_spare_of (fCons (fVar 0) (fCons (fVar 1) (fCons (fVar 2) (fNil))))))))
def f_forest_spare_4a7b : List D → Option D := runP 3 b_forest_spare_4a7b
/-! word_of_forests -/
def b_word_of_3a18 : Fm → Option (Fl × Fm) :=
  sSeq (sUnp [3, 4] (up (fCall LF.f_sides (fCons (fVar 1) (fCons (fVar 2) (fNil))))))
    (sSeq (sAsg 5 (mSh (up (fCall LF.f_spare_of (fCons (fVar 0) (fCons (fVar 1) (fCons (fVar 2) (fNil))))))))
    (sRet (up (fOp2 gAdd (fOp1 gSorted (fOp2 gAdd (fVar 3) (fVar 5))) (fOp1 gSorted (fOp2 gAdd (fVar 4) (fVar 5)))))))
def f_word_of_3a18 : List D → Option D := runP 6 b_word_of_3a18
/-! forest_fewest -/
def b_forest_fewest_0b80 : Fm → Option (Fl × Fm) :=
  sSeq (sDrop (up (fCall LF.f_need_two_43b8 (fCons (fVar 0) (fCons (fVar 1) (fCons (fVar 2) (fNil)))))))
    (sRet (up (fOp1 gLen (fCall LF.f_word_of_3a18 (fCons (fVar 0) (fCons (fVar 1) (fCons (fVar 2) (fNil))))))))
def f_forest_fewest_0b80 : List D → Option D := runP 3 b_forest_fewest_0b80
/-! forest_word -/
def b_forest_word_fd30 : Fm → Option (Fl × Fm) :=
  sSeq (sDrop (up (fCall LF.f_need_two_43b8 (fCons (fVar 0) (fCons (fVar 1) (fCons (fVar 2) (fNil)))))))
    (sRet (up (fOp1 gTuple (fCall LF.f_word_of_3a18 (fCons (fVar 0) (fCons (fVar 1) (fCons (fVar 2) (fNil))))))))
def f_forest_word_fd30 : List D → Option D := runP 3 b_forest_word_fd30
/-! shows_forest_word -/
def b_shows_forest_word_a1b2 : Fm → Option (Fl × Fm) :=
  sSeq (sDrop (up (fCall LF.f_need_two_43b8 (fCons (fVar 0) (fCons (fVar 1) (fCons (fVar 2) (fNil)))))))
    (sSeq (sIf (up (fOr (fNot (fBl (fOp1 (gIsa ["tuple"]) (fVar 3)))) (fBl (fOp2 gNe (fOp1 gLen (fVar 3)) (fOp1 gLen (fCall LF.f_word_of_3a18 (fCons (fVar 0) (fCons (fVar 1) (fCons (fVar 2) (fNil)))))))))) (sRet (up (fC (.bool false)))) (sNext))
    (sRet (up (fOp2 gEq (fCall LF.f_leads_to (fCons (fVar 0) (fCons (fVar 1) (fCons (fVar 3) (fNil))))) (fVar 2)))))
def f_shows_forest_word_a1b2 : List D → Option D := runP 4 b_shows_forest_word_a1b2
/-! forest_light_ways -/
def b_forest_light_ways_0a2c_l1 : Fm → Option (Fl × Fm) :=
  sDset 7 (fVar 5) (up (fOp2 gAdd (fC (.int 1)) (fOp1 gSum (fLc [9] (.one 9) (iSeq (fCall LF.f_children (fCons (fVar 0) (fCons (fVar 5) (fNil))))) (fBl (fOp2 (gInD false) (fVar 9) (fOwn 7))) (fOp2 gIxD (fOwn 7) (fVar 9))))))
def b_forest_light_ways_0a2c_l2 : Fm → Option (Fl × Fm) :=
  sAug 6 gMulI (fOp2 gAdd (fVar 8) (fC (.int 1)))
def b_forest_light_ways_0a2c_l3 : Fm → Option (Fl × Fm) :=
  sAug 6 gDivS (fOp2 gIxD (fOwn 7) (fVar 5))
def b_forest_light_ways_0a2c : Fm → Option (Fl × Fm) :=
  sSeq (sDrop (up (fCall LF.f_need_two_43b8 (fCons (fVar 0) (fCons (fVar 1) (fCons (fVar 2) (fNil)))))))
    (sSeq (sUnp [3, 4] (up (fCall LF.f_sides (fCons (fVar 1) (fCons (fVar 2) (fNil))))))
    (sSeq (sIf (up (fOr (fBl (fOp2 gNe (fVar 4) (fLst (fNil)))) (fBl (fOp2 gNe (fLc [5] (.one 5) (iSeq (fVar 3)) (fAnd (fBl (fOp2 (gIsN true) (fOp2 gIx (fVar 0) (fVar 5)) (fC .none))) (fBl (fOp2 (gIn true) (fOp2 gIx (fVar 0) (fVar 5)) (fVar 2)))) (fVar 5)) (fLst (fNil)))))) (sRet (up (fC (.int 0)))) (sNext))
    (sSeq (sAll [6, 7] (mCons (mSh (up (fC (.int 1)))) (mCons (mNewD false) (mNil))))
    (sSeq (sFor (.one 5) (iSeq (fOp1 gRev (fVar 3))) (LF.b_forest_light_ways_0a2c_l1))
    (sSeq (sFor (.tup [.one 8, .one 5]) (iEn (fVar 3)) (LF.b_forest_light_ways_0a2c_l2))
    (sSeq (sFor (.one 5) (iSeq (fVar 3)) (LF.b_forest_light_ways_0a2c_l3))
    (sRet (up (fVar 6)))))))))
def f_forest_light_ways_0a2c : List D → Option D := runP 10 b_forest_light_ways_0a2c
/-! forest_quench_ways -/
def b_forest_quench_ways_555d_l1 : Fm → Option (Fl × Fm) :=
  sDset 7 (fVar 5) (up (fOp2 gAdd (fC (.int 1)) (fOp1 gSum (fLc [9] (.one 9) (iSeq (fCall LF.f_children (fCons (fVar 0) (fCons (fVar 5) (fNil))))) (fBl (fOp2 (gInD false) (fVar 9) (fOwn 7))) (fOp2 gIxD (fOwn 7) (fVar 9))))))
def b_forest_quench_ways_555d_l2 : Fm → Option (Fl × Fm) :=
  sAug 6 gMulI (fOp2 gAdd (fVar 8) (fC (.int 1)))
def b_forest_quench_ways_555d_l3 : Fm → Option (Fl × Fm) :=
  sAug 6 gDivS (fOp2 gIxD (fOwn 7) (fVar 5))
def b_forest_quench_ways_555d : Fm → Option (Fl × Fm) :=
  sSeq (sDrop (up (fCall LF.f_need_two_43b8 (fCons (fVar 0) (fCons (fVar 1) (fCons (fVar 2) (fNil)))))))
    (sSeq (sUnp [3, 4] (up (fCall LF.f_sides (fCons (fVar 1) (fCons (fVar 2) (fNil))))))
    (sSeq (sIf (up (fOr (fBl (fOp2 gNe (fVar 3) (fLst (fNil)))) (fBl (fOp2 gNe (fLc [5] (.one 5) (iSeq (fVar 4)) (fBl (fOp2 gNe (fLc [9] (.one 9) (iSeq (fCall LF.f_children (fCons (fVar 0) (fCons (fVar 5) (fNil))))) (fBl (fOp2 (gIn true) (fVar 9) (fVar 1))) (fVar 9)) (fLst (fNil)))) (fVar 5)) (fLst (fNil)))))) (sRet (up (fC (.int 0)))) (sNext))
    (sSeq (sAll [6, 7] (mCons (mSh (up (fC (.int 1)))) (mCons (mNewD false) (mNil))))
    (sSeq (sFor (.one 5) (iSeq (fOp1 gRev (fVar 4))) (LF.b_forest_quench_ways_555d_l1))
    (sSeq (sFor (.tup [.one 8, .one 5]) (iEn (fVar 4)) (LF.b_forest_quench_ways_555d_l2))
    (sSeq (sFor (.one 5) (iSeq (fVar 4)) (LF.b_forest_quench_ways_555d_l3))
    (sRet (up (fVar 6)))))))))
def f_forest_quench_ways_555d : List D → Option D := runP 10 b_forest_quench_ways_555d
/-! k34 -/
def b_k34 : Fm → Option (Fl × Fm) :=
  sSeq (sAsg 1 (mSh (up (fLst (fCons (fVar 0) (fCons (fC (.int 0)) (fCons (fC (.int 9634)) (fCons (fC (.int 0)) (fNil)))))))))
    (sSeq (sAsg 2 (mSh (up (fTup (fCons (fC .none) (fCons (fC (.int 0)) (fCons (fC (.int 1)) (fCons (fC (.int 0)) (fNil)))))))))
    (sSeq (sAsg 3 (mSh (up (fLst (fCons (fCall LF.f_row_spare (fCons (fC (.int 5)) (fCons (fTup (fCons (fC (.int 0)) (fNil))) (fCons (fTup (fCons (fC (.int 3)) (fNil))) (fNil))))) (fCons (fCall LF.f_row_spare (fCons (fC (.int 5)) (fCons (fTup (fNil)) (fCons (fTup (fCons (fC (.int 2)) (fNil))) (fNil))))) (fCons (fCall LF.f_row_spare (fCons (fC (.int 5)) (fCons (fTup (fCons (fC (.int 2)) (fNil))) (fCons (fTup (fNil)) (fNil))))) (fNil))))))))
    (sSeq (sAsg 3 (mSh (up (fOp2 gAdd (fVar 3) (fLst (fCons (fCall LF.f_row_fewest (fCons (fC (.int 5)) (fCons (fTup (fCons (fC (.int 0)) (fNil))) (fCons (fTup (fCons (fC (.int 3)) (fNil))) (fNil))))) (fCons (fCall LF.f_row_fewest (fCons (fC (.int 5)) (fCons (fTup (fCons (fC (.int 2)) (fNil))) (fCons (fTup (fNil)) (fNil))))) (fCons (fCall LF.f_row_spare (fCons (fC (.int 6)) (fCons (fTup (fCons (fC (.int 1)) (fCons (fC (.int 4)) (fNil)))) (fCons (fTup (fCons (fC (.int 1)) (fCons (fC (.int 4)) (fNil)))) (fNil))))) (fNil)))))))))
    (sSeq (sIf (up (fNot (fBl (fCall (LF.f_law_alike 9) (fCons (fVar 3) (fCons (fLst (fCons (fTup (fCons (fC (.int 1)) (fCons (fC (.int 2)) (fNil)))) (fCons (fTup (fCons (fC (.int 0)) (fCons (fC (.int 1)) (fNil)))) (fCons (fTup (fCons (fC (.int 3)) (fCons (fC (.int 4)) (fNil)))) (fCons (fC (.int 6)) (fCons (fC (.int 5)) (fCons (fTup (fNil)) (fNil)))))))) (fNil))))))) (sRet (up (fC (.bool false)))) (sNext))
    (sSeq (sAsg 3 (mSh (up (fLst (fCons (fCall LF.f_row_word (fCons (fC (.int 2)) (fCons (fTup (fNil)) (fCons (fTup (fCons (fC (.int 0)) (fCons (fC (.int 1)) (fNil)))) (fNil))))) (fCons (fCall LF.f_shows_row_word (fCons (fC (.int 3)) (fCons (fTup (fCons (fC (.int 0)) (fNil))) (fCons (fTup (fCons (fC (.int 2)) (fNil))) (fCons (fTup (fCons (fC (.int 1)) (fCons (fC (.int 2)) (fCons (fC (.int 0)) (fCons (fC (.int 1)) (fNil)))))) (fNil)))))) (fNil)))))))
    (sSeq (sAsg 3 (mSh (up (fOp2 gAdd (fVar 3) (fLst (fCons (fCall LF.f_shows_row_word (fCons (fC (.int 3)) (fCons (fTup (fCons (fC (.int 0)) (fNil))) (fCons (fTup (fCons (fC (.int 2)) (fNil))) (fCons (fTup (fCons (fC (.int 1)) (fCons (fC (.int 2)) (fCons (fC (.int 1)) (fCons (fC (.int 0)) (fNil)))))) (fNil)))))) (fCons (fCall LF.f_row_farthest (fCons (fC (.int 3)) (fCons (fTup (fNil)) (fNil)))) (fCons (fCall LF.f_row_widest (fCons (fC (.int 2)) (fNil))) (fNil)))))))))
    (sSeq (sAsg 3 (mSh (up (fOp2 gAdd (fVar 3) (fLst (fCons (fCall LF.f_row_widest (fCons (fC (.int 3)) (fNil))) (fNil)))))))
    (sSeq (sIf (up (fNot (fBl (fCall (LF.f_law_alike 9) (fCons (fVar 3) (fCons (fLst (fCons (fTup (fCons (fC (.int 0)) (fCons (fC (.int 1)) (fNil)))) (fCons (fC (.bool true)) (fCons (fC (.bool false)) (fCons (fC (.int 5)) (fCons (fC (.int 3)) (fCons (fC (.int 5)) (fNil)))))))) (fNil))))))) (sRet (up (fC (.bool false)))) (sNext))
    (sSeq (sAsg 3 (mSh (up (fLst (fCons (fCall LF.f_row_deed_counts (fCons (fC (.int 2)) (fCons (fTup (fNil)) (fNil)))) (fCons (fCall LF.f_row_pair_counts (fCons (fC (.int 1)) (fNil))) (fCons (fCall LF.f_row_pair_counts (fCons (fC (.int 2)) (fNil))) (fCons (fCall LF.f_row_within (fCons (fC (.int 2)) (fCons (fTup (fNil)) (fCons (fC (.int 1)) (fNil))))) (fNil)))))))))
    (sSeq (sAsg 3 (mSh (up (fOp2 gAdd (fVar 3) (fLst (fCons (fCall LF.f_row_free_countD (fCons (fC (.int 2)) (fCons (fTup (fNil)) (fNil)))) (fCons (fCall LF.f_row_free_countD (fCons (fC (.int 3)) (fCons (fTup (fCons (fC (.int 0)) (fNil))) (fNil)))) (fNil))))))))
    (sSeq (sIf (up (fNot (fBl (fCall (LF.f_law_alike 9) (fCons (fVar 3) (fCons (fLst (fCons (fTup (fCons (fC (.int 1)) (fCons (fC (.int 1)) (fCons (fC (.int 1)) (fCons (fC (.int 1)) (fNil)))))) (fCons (fTup (fCons (fC (.int 2)) (fCons (fC (.int 2)) (fNil)))) (fCons (fTup (fCons (fC (.int 4)) (fCons (fC (.int 6)) (fCons (fC (.int 4)) (fCons (fC (.int 2)) (fNil)))))) (fCons (fC (.int 2)) (fCons (fC (.int 3)) (fCons (fC (.int 5)) (fNil)))))))) (fNil))))))) (sRet (up (fC (.bool false)))) (sNext))
    (sSeq (sAsg 3 (mSh (up (fLst (fCons (fCall LF.f_forest_web (fCons (fVar 2) (fNil))) (fCons (fCall LF.f_forest_spare_4a7b (fCons (fVar 2) (fCons (fTup (fNil)) (fCons (fTup (fCons (fC (.int 2)) (fNil))) (fNil))))) (fCons (fCall LF.f_forest_spare_4a7b (fCons (fVar 2) (fCons (fTup (fCons (fC (.int 0)) (fNil))) (fCons (fTup (fNil)) (fNil))))) (fNil))))))))
    (sSeq (sAsg 3 (mSh (up (fOp2 gAdd (fVar 3) (fLst (fCons (fCall LF.f_forest_fewest_0b80 (fCons (fVar 2) (fCons (fTup (fCons (fC (.int 0)) (fNil))) (fCons (fTup (fNil)) (fNil))))) (fCons (fCall LF.f_forest_word_fd30 (fCons (fVar 2) (fCons (fTup (fNil)) (fCons (fTup (fCons (fC (.int 0)) (fCons (fC (.int 1)) (fNil)))) (fNil))))) (fNil))))))))
    (sSeq (sAsg 3 (mSh (up (fOp2 gAdd (fVar 3) (fLst (fCons (fCall LF.f_shows_forest_word_a1b2 (fCons (fVar 2) (fCons (fTup (fCons (fC (.int 0)) (fNil))) (fCons (fTup (fCons (fC (.int 0)) (fCons (fC (.int 3)) (fNil)))) (fCons (fTup (fCons (fC (.int 3)) (fNil))) (fNil)))))) (fNil)))))))
    (sSeq (sIf (up (fNot (fBl (fCall (LF.f_law_alike 9) (fCons (fVar 3) (fCons (fLst (fCons (fTup (fCons (fC (.int 4)) (fCons (fTup (fCons (fTup (fCons (fC (.int 0)) (fCons (fC (.int 1)) (fNil)))) (fCons (fTup (fCons (fC (.int 0)) (fCons (fC (.int 3)) (fNil)))) (fCons (fTup (fCons (fC (.int 1)) (fCons (fC (.int 2)) (fNil)))) (fNil))))) (fNil)))) (fCons (fTup (fCons (fC (.int 0)) (fCons (fC (.int 1)) (fCons (fC (.int 3)) (fNil))))) (fCons (fTup (fCons (fC (.int 1)) (fCons (fC (.int 2)) (fCons (fC (.int 3)) (fNil))))) (fCons (fC (.int 7)) (fCons (fTup (fCons (fC (.int 0)) (fCons (fC (.int 1)) (fNil)))) (fCons (fC (.bool true)) (fNil)))))))) (fNil))))))) (sRet (up (fC (.bool false)))) (sNext))
    (sSeq (sAsg 3 (mSh (up (fLst (fCons (fCall LF.f_forest_light_ways_0a2c (fCons (fVar 2) (fCons (fTup (fNil)) (fCons (fTup (fCons (fC (.int 0)) (fCons (fC (.int 1)) (fCons (fC (.int 2)) (fCons (fC (.int 3)) (fNil)))))) (fNil))))) (fCons (fCall LF.f_forest_light_ways_0a2c (fCons (fVar 2) (fCons (fTup (fNil)) (fCons (fTup (fCons (fC (.int 1)) (fNil))) (fNil))))) (fNil)))))))
    (sSeq (sAsg 3 (mSh (up (fOp2 gAdd (fVar 3) (fLst (fCons (fCall LF.f_forest_quench_ways_555d (fCons (fVar 2) (fCons (fTup (fCons (fC (.int 0)) (fCons (fC (.int 1)) (fCons (fC (.int 2)) (fCons (fC (.int 3)) (fNil)))))) (fCons (fTup (fNil)) (fNil))))) (fCons (fCall LF.f_forest_quench_ways_555d (fCons (fVar 2) (fCons (fTup (fCons (fC (.int 0)) (fCons (fC (.int 1)) (fNil)))) (fCons (fTup (fCons (fC (.int 1)) (fNil))) (fNil))))) (fNil))))))))
    (sSeq (sAsg 3 (mSh (up (fOp2 gAdd (fVar 3) (fLst (fCons (fCall LF.f_forest_light_states (fCons (fVar 2) (fCons (fTup (fNil)) (fNil)))) (fNil)))))))
    (sRet (up (fCall (LF.f_law_alike 9) (fCons (fVar 3) (fCons (fLst (fCons (fC (.int 3)) (fCons (fC (.int 0)) (fCons (fC (.int 3)) (fCons (fC (.int 0)) (fCons (fC (.int 7)) (fNil))))))) (fNil))))))))))))))))))))))))
def f_k34 : List D → Option D := runP 4 b_k34
end LF
end
section
set_option Elab.async false
set_option linter.all false
set_option maxRecDepth 100000
namespace LF
open DL PySem
theorem true_k34 : ∀ ns : List Int, ns.length ≤ 63 → LF.f_k34 [.list (ns.map .int)] = some (.bool true) := by
  intro ns _
  generalize PyData.list (ns.map PyData.int) = l
  kernel_rfl
end LF
end
section
set_option Elab.async false
set_option linter.all false
set_option maxRecDepth 100000
set_option maxHeartbeats 4000000
namespace W34
open PySem PySem.Spec PyProof.Rows L2 DL
def topS (i : Nat) : Stmt := PySem.Challenge.pw_handons_k34_known_rows.main.body.getD i (.Pass ⟨0, 0, 0, 0⟩)
abbrev s_is_in : Stmt := topS 7
abbrev N_is_in : List Str := ["value", "least", "most"]
theorem sc_is_in : FnScope N_is_in ["value", "least", "most"] (defScope s_is_in) := ⟨rfl, rfl, rfl, by decide +kernel, rfl, by decide +kernel, by decide +kernel⟩
abbrev s_sides : Stmt := topS 10
abbrev N_sides : List Str := ["one", "other", "k"]
theorem sc_sides : FnScope N_sides ["one", "other"] (defScope s_sides) := ⟨rfl, rfl, rfl, by decide +kernel, rfl, by decide +kernel, by decide +kernel⟩
abbrev s_need_many : Stmt := topS 13
abbrev N_need_many : List Str := ["many"]
theorem sc_need_many : FnScope N_need_many ["many"] (defScope s_need_many) := ⟨rfl, rfl, rfl, by decide +kernel, rfl, by decide +kernel, by decide +kernel⟩
abbrev s_need_burning : Stmt := topS 14
abbrev N_need_burning : List Str := ["many", "burning", "index", "one"]
theorem sc_need_burning : FnScope N_need_burning ["many", "burning"] (defScope s_need_burning) := ⟨rfl, rfl, rfl, by decide +kernel, rfl, by decide +kernel, by decide +kernel⟩
abbrev s_need_two_rows : Stmt := topS 15
abbrev N_need_two_rows : List Str := ["many", "one", "other"]
theorem sc_need_two_rows : FnScope N_need_two_rows ["many", "one", "other"] (defScope s_need_two_rows) := ⟨rfl, rfl, rfl, by decide +kernel, rfl, by decide +kernel, by decide +kernel⟩
abbrev s_spare_of_rows : Stmt := topS 17
abbrev N_spare_of_rows : List Str := ["many", "one", "other", "found", "wanted", "k"]
theorem sc_spare_of_rows : FnScope N_spare_of_rows ["many", "one", "other"] (defScope s_spare_of_rows) := ⟨rfl, rfl, rfl, by decide +kernel, rfl, by decide +kernel, by decide +kernel⟩
abbrev s_row_spare : Stmt := topS 19
abbrev N_row_spare : List Str := ["many", "one", "other"]
theorem sc_row_spare : FnScope N_row_spare ["many", "one", "other"] (defScope s_row_spare) := ⟨rfl, rfl, rfl, by decide +kernel, rfl, by decide +kernel, by decide +kernel⟩
abbrev s_word_of_rows : Stmt := topS 20
abbrev N_word_of_rows : List Str := ["many", "one", "other", "fresh", "old", "some"]
theorem sc_word_of_rows : FnScope N_word_of_rows ["many", "one", "other"] (defScope s_word_of_rows) := ⟨rfl, rfl, rfl, by decide +kernel, rfl, by decide +kernel, by decide +kernel⟩
abbrev s_row_fewest : Stmt := topS 22
abbrev N_row_fewest : List Str := ["many", "one", "other"]
theorem sc_row_fewest : FnScope N_row_fewest ["many", "one", "other"] (defScope s_row_fewest) := ⟨rfl, rfl, rfl, by decide +kernel, rfl, by decide +kernel, by decide +kernel⟩
abbrev s_row_word : Stmt := topS 23
abbrev N_row_word : List Str := ["many", "one", "other"]
theorem sc_row_word : FnScope N_row_word ["many", "one", "other"] (defScope s_row_word) := ⟨rfl, rfl, rfl, by decide +kernel, rfl, by decide +kernel, by decide +kernel⟩
abbrev s_leads_to_rows : Stmt := topS 24
abbrev N_leads_to_rows : List Str := ["many", "one", "value", "burns", "lamp", "near", "k"]
theorem sc_leads_to_rows : FnScope N_leads_to_rows ["many", "one", "value"] (defScope s_leads_to_rows) := ⟨rfl, rfl, rfl, by decide +kernel, rfl, by decide +kernel, by decide +kernel⟩
abbrev s_shows_row_word : Stmt := topS 26
abbrev N_shows_row_word : List Str := ["many", "one", "other", "value"]
theorem sc_shows_row_word : FnScope N_shows_row_word ["many", "one", "other", "value"] (defScope s_shows_row_word) := ⟨rfl, rfl, rfl, by decide +kernel, rfl, by decide +kernel, by decide +kernel⟩
abbrev s_behind_lamp : Stmt := topS 29
abbrev N_behind_lamp : List Str := ["rows", "sort", "found", "last", "since", "cost", "key"]
theorem sc_behind_lamp : FnScope N_behind_lamp ["rows", "sort"] (defScope s_behind_lamp) := ⟨rfl, rfl, rfl, by decide +kernel, rfl, by decide +kernel, by decide +kernel⟩
abbrev s_greatest : Stmt := topS 30
abbrev N_greatest : List Str := ["many", "sorts", "rows", "k", "more", "sort", "told", "key"]
theorem sc_greatest : FnScope N_greatest ["many", "sorts"] (defScope s_greatest) := ⟨rfl, rfl, rfl, by decide +kernel, rfl, by decide +kernel, by decide +kernel⟩
abbrev s_row_farthest : Stmt := topS 27
abbrev N_row_farthest : List Str := ["many", "burning"]
theorem sc_row_farthest : FnScope N_row_farthest ["many", "burning"] (defScope s_row_farthest) := ⟨rfl, rfl, rfl, by decide +kernel, rfl, by decide +kernel, by decide +kernel⟩
abbrev s_row_widest : Stmt := topS 28
abbrev N_row_widest : List Str := ["many"]
theorem sc_row_widest : FnScope N_row_widest ["many"] (defScope s_row_widest) := ⟨rfl, rfl, rfl, by decide +kernel, rfl, by decide +kernel, by decide +kernel⟩
abbrev s_need_parents : Stmt := topS 32
abbrev N_need_parents : List Str := ["parents", "index", "one"]
theorem sc_need_parents : FnScope N_need_parents ["parents"] (defScope s_need_parents) := ⟨rfl, rfl, rfl, by decide +kernel, rfl, by decide +kernel, by decide +kernel⟩
abbrev s_children : Stmt := topS 33
abbrev N_children : List Str := ["parents", "lamp", "k", "one"]
theorem sc_children : FnScope N_children ["parents", "lamp"] (defScope s_children) := ⟨rfl, rfl, rfl, by decide +kernel, rfl, by decide +kernel, by decide +kernel⟩
abbrev s_forest_web : Stmt := topS 34
abbrev N_forest_web : List Str := ["parents", "k", "one"]
theorem sc_forest_web : FnScope N_forest_web ["parents"] (defScope s_forest_web) := ⟨rfl, rfl, rfl, by decide +kernel, rfl, by decide +kernel, by decide +kernel⟩
abbrev s_need_two_forests : Stmt := topS 35
abbrev N_need_two_forests : List Str := ["parents", "one", "other"]
theorem sc_need_two_forests : FnScope N_need_two_forests ["parents", "one", "other"] (defScope s_need_two_forests) := ⟨rfl, rfl, rfl, by decide +kernel, rfl, by decide +kernel, by decide +kernel⟩
abbrev s_spare_of_forests : Stmt := topS 37
abbrev N_spare_of_forests : List Str := ["parents", "one", "other", "fresh", "old", "found", "ups", "downs", "k", "more"]
theorem sc_spare_of_forests : FnScope N_spare_of_forests ["parents", "one", "other"] (defScope s_spare_of_forests) := ⟨rfl, rfl, rfl, by decide +kernel, rfl, by decide +kernel, by decide +kernel⟩
abbrev s_forest_spare : Stmt := topS 39
abbrev N_forest_spare : List Str := ["parents", "one", "other"]
theorem sc_forest_spare : FnScope N_forest_spare ["parents", "one", "other"] (defScope s_forest_spare) := ⟨rfl, rfl, rfl, by decide +kernel, rfl, by decide +kernel, by decide +kernel⟩
abbrev s_word_of_forests : Stmt := topS 40
abbrev N_word_of_forests : List Str := ["parents", "one", "other", "fresh", "old", "some"]
theorem sc_word_of_forests : FnScope N_word_of_forests ["parents", "one", "other"] (defScope s_word_of_forests) := ⟨rfl, rfl, rfl, by decide +kernel, rfl, by decide +kernel, by decide +kernel⟩
abbrev s_forest_fewest : Stmt := topS 42
abbrev N_forest_fewest : List Str := ["parents", "one", "other"]
theorem sc_forest_fewest : FnScope N_forest_fewest ["parents", "one", "other"] (defScope s_forest_fewest) := ⟨rfl, rfl, rfl, by decide +kernel, rfl, by decide +kernel, by decide +kernel⟩
abbrev s_forest_word : Stmt := topS 43
abbrev N_forest_word : List Str := ["parents", "one", "other"]
theorem sc_forest_word : FnScope N_forest_word ["parents", "one", "other"] (defScope s_forest_word) := ⟨rfl, rfl, rfl, by decide +kernel, rfl, by decide +kernel, by decide +kernel⟩
abbrev s_leads_to_forests : Stmt := topS 44
abbrev N_leads_to_forests : List Str := ["parents", "one", "value", "burns", "lamp", "barred", "k"]
theorem sc_leads_to_forests : FnScope N_leads_to_forests ["parents", "one", "value"] (defScope s_leads_to_forests) := ⟨rfl, rfl, rfl, by decide +kernel, rfl, by decide +kernel, by decide +kernel⟩
abbrev s_shows_forest_word : Stmt := topS 46
abbrev N_shows_forest_word : List Str := ["parents", "one", "other", "value"]
theorem sc_shows_forest_word : FnScope N_shows_forest_word ["parents", "one", "other", "value"] (defScope s_shows_forest_word) := ⟨rfl, rfl, rfl, by decide +kernel, rfl, by decide +kernel, by decide +kernel⟩
abbrev s_forest_light_ways : Stmt := topS 47
abbrev N_forest_light_ways : List Str := ["parents", "one", "other", "fresh", "old", "k", "found", "sizes", "turn", "j"]
theorem sc_forest_light_ways : FnScope N_forest_light_ways ["parents", "one", "other"] (defScope s_forest_light_ways) := ⟨rfl, rfl, rfl, by decide +kernel, rfl, by decide +kernel, by decide +kernel⟩
abbrev s_forest_quench_ways : Stmt := topS 48
abbrev N_forest_quench_ways : List Str := ["parents", "one", "other", "fresh", "old", "k", "found", "sizes", "turn", "j"]
theorem sc_forest_quench_ways : FnScope N_forest_quench_ways ["parents", "one", "other"] (defScope s_forest_quench_ways) := ⟨rfl, rfl, rfl, by decide +kernel, rfl, by decide +kernel, by decide +kernel⟩
abbrev s_forest_light_states : Stmt := topS 49
abbrev N_forest_light_states : List Str := ["parents", "burning", "lit", "dark", "lamp", "child", "found"]
theorem sc_forest_light_states : FnScope N_forest_light_states ["parents", "burning"] (defScope s_forest_light_states) := ⟨rfl, rfl, rfl, by decide +kernel, rfl, by decide +kernel, by decide +kernel⟩
abbrev s_add_to : Stmt := topS 51
abbrev N_add_to : List Str := ["counts", "cost", "ways"]
theorem sc_add_to : FnScope N_add_to ["counts", "cost", "ways"] (defScope s_add_to) := ⟨rfl, rfl, rfl, by decide +kernel, rfl, by decide +kernel, by decide +kernel⟩
abbrev s_grown : Stmt := topS 52
abbrev N_grown : List Str := ["rows", "sort", "found", "last", "since", "cost", "told", "key"]
theorem sc_grown : FnScope N_grown ["rows", "sort"] (defScope s_grown) := ⟨rfl, rfl, rfl, by decide +kernel, rfl, by decide +kernel, by decide +kernel⟩
abbrev s_joined : Stmt := topS 53
abbrev N_joined : List Str := ["first", "second", "found", "table", "key", "cost"]
theorem sc_joined : FnScope N_joined ["first", "second"] (defScope s_joined) := ⟨rfl, rfl, rfl, by decide +kernel, rfl, by decide +kernel, by decide +kernel⟩
abbrev s_by_cost : Stmt := topS 54
abbrev N_by_cost : List Str := ["rows", "whole", "key", "cost"]
theorem sc_by_cost : FnScope N_by_cost ["rows"] (defScope s_by_cost) := ⟨rfl, rfl, rfl, by decide +kernel, rfl, by decide +kernel, by decide +kernel⟩
abbrev s_row_deed_counts : Stmt := topS 55
abbrev N_row_deed_counts : List Str := ["many", "burning", "rows", "k", "first", "second"]
theorem sc_row_deed_counts : FnScope N_row_deed_counts ["many", "burning"] (defScope s_row_deed_counts) := ⟨rfl, rfl, rfl, by decide +kernel, rfl, by decide +kernel, by decide +kernel⟩
abbrev s_row_pair_counts : Stmt := topS 56
abbrev N_row_pair_counts : List Str := ["many", "rows", "k", "told"]
theorem sc_row_pair_counts : FnScope N_row_pair_counts ["many"] (defScope s_row_pair_counts) := ⟨rfl, rfl, rfl, by decide +kernel, rfl, by decide +kernel, by decide +kernel⟩
abbrev s_row_within : Stmt := topS 57
abbrev N_row_within : List Str := ["many", "burning", "most"]
theorem sc_row_within : FnScope N_row_within ["many", "burning", "most"] (defScope s_row_within) := ⟨rfl, rfl, rfl, by decide +kernel, rfl, by decide +kernel, by decide +kernel⟩
abbrev s_free_behind : Stmt := topS 59
abbrev N_free_behind : List Str := ["last", "sort"]
theorem sc_free_behind : FnScope N_free_behind ["last", "sort"] (defScope s_free_behind) := ⟨rfl, rfl, rfl, by decide +kernel, rfl, by decide +kernel, by decide +kernel⟩
abbrev s_row_free_count : Stmt := topS 58
abbrev N_row_free_count : List Str := ["many", "burning", "rows", "k", "more", "last", "sort", "key"]
theorem sc_row_free_count : FnScope N_row_free_count ["many", "burning"] (defScope s_row_free_count) := ⟨rfl, rfl, rfl, by decide +kernel, rfl, by decide +kernel, by decide +kernel⟩
abbrev s_law_alike : Stmt := topS 61
abbrev N_law_alike : List Str := ["_law_found", "_law_due", "_law_k"]
theorem sc_law_alike : FnScope N_law_alike ["_law_found", "_law_due"] (defScope s_law_alike) := ⟨rfl, rfl, rfl, by decide +kernel, rfl, by decide +kernel, by decide +kernel⟩
abbrev s_law : Stmt := topS 62
abbrev N_law : List Str := ["_law_script", "_law_row", "_law_tree", "_law_found"]
theorem sc_law : FnScope N_law ["_law_script"] (defScope s_law) := ⟨rfl, rfl, rfl, by decide +kernel, rfl, by decide +kernel, by decide +kernel⟩
/-- where the defs stand -/
structure Tx (K : PySem.W.Frag) (mg : Str → Option Value) where
  bt : Bt mg
  t_MOST_LAMPS : Tok
  c_MOST_LAMPS : mg "MOST_LAMPS" = some (.int 9 t_MOST_LAMPS)
  t_MOST_ROW : Tok
  c_MOST_ROW : mg "MOST_ROW" = some (.int 40 t_MOST_ROW)
  is_in : DefAt K mg "is_in" "is_in" s_is_in ["value", "least", "most"]
  sides : DefAt K mg "sides" "sides" s_sides ["one", "other"]
  need_many : DefAt K mg "need_many" "need_many" s_need_many ["many"]
  need_burning : DefAt K mg "need_burning" "need_burning" s_need_burning ["many", "burning"]
  need_two_rows : DefAt K mg "need_two_rows" "need_two" s_need_two_rows ["many", "one", "other"]
  spare_of_rows : DefAt K mg "spare_of_rows" "spare_of" s_spare_of_rows ["many", "one", "other"]
  row_spare : DefAt K mg "row_spare" "row_spare" s_row_spare ["many", "one", "other"]
  word_of_rows : DefAt K mg "word_of_rows" "word_of" s_word_of_rows ["many", "one", "other"]
  row_fewest : DefAt K mg "row_fewest" "row_fewest" s_row_fewest ["many", "one", "other"]
  row_word : DefAt K mg "row_word" "row_word" s_row_word ["many", "one", "other"]
  leads_to_rows : DefAt K mg "leads_to_rows" "leads_to" s_leads_to_rows ["many", "one", "value"]
  shows_row_word : DefAt K mg "shows_row_word" "shows_row_word" s_shows_row_word ["many", "one", "other", "value"]
  behind_lamp : DefAt K mg "behind_lamp" "behind_lamp" s_behind_lamp ["rows", "sort"]
  greatest : DefAt K mg "greatest" "greatest" s_greatest ["many", "sorts"]
  row_farthest : DefAt K mg "row_farthest" "row_farthest" s_row_farthest ["many", "burning"]
  row_widest : DefAt K mg "row_widest" "row_widest" s_row_widest ["many"]
  need_parents : DefAt K mg "need_parents" "need_parents" s_need_parents ["parents"]
  children : DefAt K mg "children" "children" s_children ["parents", "lamp"]
  forest_web : DefAt K mg "forest_web" "forest_web" s_forest_web ["parents"]
  need_two_forests : DefAt K mg "need_two_forests" "need_two" s_need_two_forests ["parents", "one", "other"]
  spare_of_forests : DefAt K mg "spare_of_forests" "spare_of" s_spare_of_forests ["parents", "one", "other"]
  forest_spare : DefAt K mg "forest_spare" "forest_spare" s_forest_spare ["parents", "one", "other"]
  word_of_forests : DefAt K mg "word_of_forests" "word_of" s_word_of_forests ["parents", "one", "other"]
  forest_fewest : DefAt K mg "forest_fewest" "forest_fewest" s_forest_fewest ["parents", "one", "other"]
  forest_word : DefAt K mg "forest_word" "forest_word" s_forest_word ["parents", "one", "other"]
  leads_to_forests : DefAt K mg "leads_to_forests" "leads_to" s_leads_to_forests ["parents", "one", "value"]
  shows_forest_word : DefAt K mg "shows_forest_word" "shows_forest_word" s_shows_forest_word ["parents", "one", "other", "value"]
  forest_light_ways : DefAt K mg "forest_light_ways" "forest_light_ways" s_forest_light_ways ["parents", "one", "other"]
  forest_quench_ways : DefAt K mg "forest_quench_ways" "forest_quench_ways" s_forest_quench_ways ["parents", "one", "other"]
  forest_light_states : DefAt K mg "forest_light_states" "forest_light_states" s_forest_light_states ["parents", "burning"]
  add_to : DefAt K mg "add_to" "add_to" s_add_to ["counts", "cost", "ways"]
  grown : DefAt K mg "grown" "grown" s_grown ["rows", "sort"]
  joined : DefAt K mg "joined" "joined" s_joined ["first", "second"]
  by_cost : DefAt K mg "by_cost" "by_cost" s_by_cost ["rows"]
  row_deed_counts : DefAt K mg "row_deed_counts" "row_deed_counts" s_row_deed_counts ["many", "burning"]
  row_pair_counts : DefAt K mg "row_pair_counts" "row_pair_counts" s_row_pair_counts ["many"]
  row_within : DefAt K mg "row_within" "row_within" s_row_within ["many", "burning", "most"]
  free_behind : DefAt K mg "free_behind" "free_behind" s_free_behind ["last", "sort"]
  row_free_count : DefAt K mg "row_free_count" "row_free_count" s_row_free_count ["many", "burning"]
  law_alike : DefAt K mg "_law_alike" "_law_alike" s_law_alike ["_law_found", "_law_due"]
  law : DefAt K mg "law" "law" s_law ["_law_script"]
structure Ty [TabT] {K : PySem.W.Frag} {mg : Str → Option Value} (T : Tx K mg) (base : Heap) : Prop where
  row_farthest : LamF K mg base T.row_farthest.a ("row_farthest" ++ ".<locals>." ++ "<lambda>")
  row_widest : LamF K mg base T.row_widest.a ("row_widest" ++ ".<locals>." ++ "<lambda>")
section
variable [TabT]
variable {P : Program} {w : World} {K : PySem.W.Frag} {mg : Str → Option Value} {base : Heap}
theorem ok_is_in (T : Tx K mg) (Y : Ty T base) (hW : WH w) : FnOk P w K mg base CX0 1 T.is_in.a T.is_in.fd ["value", "least", "most"] (spP K LF.f_is_in 3) := by
  have scnd := (sc_is_in).nd
  refine def_P T.is_in.F sc_is_in rfl fun cdv A outer s H E hr => ?_
  exact b_one (s_ret (PP.xe (d_and (d_isa (id := "int") (by decide) boot_int T.bt T.bt.int (PP.pv (d_var 0))) (d_and (d_not (d_isa (id := "bool") (by decide) boot_bool T.bt T.bt.bool (PP.pv (d_var 0)))) (d_one (d_chain (o_le hr) (o_le hr) (PP.pv (d_var 1)) (PP.pv (d_var 0)) (PP.pv (d_var 2))))))))
theorem ok_sides (T : Tx K mg) (Y : Ty T base) (hW : WH w) : FnOk P w K mg base CX0 1 T.sides.a T.sides.fd ["one", "other"] (spP K LF.f_sides 2) := by
  have scnd := (sc_sides).nd
  refine def_P T.sides.F sc_sides rfl fun cdv A outer s H E hr => ?_
  exact b_one (s_ret (PP.xe (d_tup (as_cons (d_lc1 (own := [("k", 2)]) rfl scnd (i_seq (d_var 1)) (blkOk_by (N := N_sides) (sc := defScope s_sides) (by decide +kernel)) (fun _ => g_one 2 scnd) (fun _ => t_cmp (c_ni hr (PP.pv (d_var 2)) (PP.pv (d_var 0)))) (fun _ => d_var 2) (by decide)) (as_cons (d_lc1 (own := [("k", 2)]) rfl scnd (i_seq (d_var 0)) (blkOk_by (N := N_sides) (sc := defScope s_sides) (by decide +kernel)) (fun _ => g_one 2 scnd) (fun _ => t_cmp (c_ni hr (PP.pv (d_var 2)) (PP.pv (d_var 1)))) (fun _ => d_var 2) (by decide)) (as_nil))))))
theorem ok_need_many (T : Tx K mg) (Y : Ty T base) (hW : WH w) : FnOk P w K mg base CX0 2 T.need_many.a T.need_many.fd ["many"] (spP K LF.f_need_many 1) := by
  have scnd := (sc_need_many).nd
  refine def_P T.need_many.F sc_need_many rfl fun cdv A outer s H E hr => ?_
  exact b_one (s_if (PB.xb (t_not (t_val (d_call (ok_is_in T Y hW) (hr.mono (by decide)) T.is_in.m T.is_in.F.kp T.is_in.b (as_cons (d_var 0) (as_cons (d_int) (as_cons (d_gint (by rfl) T.c_MOST_ROW) (as_nil)))))))) (b_one (s_never)) (b_nil))
theorem ok_need_burning (T : Tx K mg) (Y : Ty T base) (hW : WH w) : FnOk P w K mg base CX0 2 T.need_burning.a T.need_burning.fd ["many", "burning"] (spP K LF.f_need_burning_3339 2) := by
  have scnd := (sc_need_burning).nd
  refine def_P T.need_burning.F sc_need_burning rfl fun cdv A outer s H E hr => ?_
  exact b_cons (s_if (PB.xb (t_not (t_val (d_isa (id := "tuple") (by decide) boot_tuple T.bt T.bt.tuple (PP.pv (d_var 1)))))) (b_one (s_never)) (b_nil))
      (b_one (s_for PassesOwn.never rfl (i_enum T.bt (d_var 1)) (g_tup rfl (gs_cons (g_one 2 scnd) (gs_cons (g_one 3 scnd) (gs_nil)))) (b_one (s_if (PB.xb (PWb.pb (w_or (t_not (t_val (d_call (ok_is_in T Y hW) (hr.mono (by decide)) T.is_in.m T.is_in.F.kp T.is_in.b (as_cons (d_var 3) (as_cons (d_int) (as_cons (d_sub (PP.pv (d_var 0)) (PP.pv (d_int))) (as_nil))))))) (w_or1 (PWb.pb (w_and (t_cmp (c_gt hr (PP.pv (d_var 2)) (PP.pv (d_int)))) (w_and1 (t_cmp (c_le hr (PP.pv (d_var 3)) (PP.pv (d_ix (PP.pv (d_var 1)) (PP.pv (d_sub (PP.pv (d_var 2)) (PP.pv (d_int))))))))))))))) (b_one (s_never)) (b_nil)))))
theorem ok_need_two_rows (T : Tx K mg) (Y : Ty T base) (hW : WH w) : FnOk P w K mg base CX0 3 T.need_two_rows.a T.need_two_rows.fd ["many", "one", "other"] (spP K LF.f_need_two_a324 3) := by
  have scnd := (sc_need_two_rows).nd
  refine def_P T.need_two_rows.F sc_need_two_rows rfl fun cdv A outer s H E hr => ?_
  exact b_cons (s_expr (PP.xe (d_call (ok_need_many T Y hW) (hr.mono (by decide)) T.need_many.m T.need_many.F.kp T.need_many.b (as_cons (d_var 0) (as_nil)))))
      (b_cons (s_expr (PP.xe (d_call (ok_need_burning T Y hW) (hr.mono (by decide)) T.need_burning.m T.need_burning.F.kp T.need_burning.b (as_cons (d_var 0) (as_cons (d_var 1) (as_nil))))))
      (b_one (s_expr (PP.xe (d_call (ok_need_burning T Y hW) (hr.mono (by decide)) T.need_burning.m T.need_burning.F.kp T.need_burning.b (as_cons (d_var 0) (as_cons (d_var 2) (as_nil))))))))
theorem ok_spare_of_rows (T : Tx K mg) (Y : Ty T base) (hW : WH w) : FnOk P w K mg base CX0 1 T.spare_of_rows.a T.spare_of_rows.fd ["many", "one", "other"] (spP K LF.f_spare_of_04fb 3) := by
  have scnd := (sc_spare_of_rows).nd
  refine def_P T.spare_of_rows.F sc_spare_of_rows rfl fun cdv A outer s H E hr => ?_
  exact b_cons (s_par 3 4 rfl scnd (ma_cons (m_own (xa_nil)) (ma_cons (XE.xm (PP.xe (d_bl))) (ma_nil))))
      (b_cons (s_for PassesOwn.never rfl (i_rg1 T.bt (d_var 0)) (g_one 5 scnd) (b_one (s_if (PB.xb (PWb.pb (w_or (t_cmp (c_in hr (PP.pv (d_var 5)) (PP.pv (d_var 1)))) (w_or1 (t_cmp (c_in hr (PP.pv (d_var 5)) (PP.pv (d_var 2)))))))) (b_one (s_set 4 (XE.xm (PP.xe (d_and (d_cmp (c_in hr (PP.pv (d_var 5)) (PP.pv (d_var 1)))) (d_one (d_cmp (c_ni hr (PP.pv (d_var 5)) (PP.pv (d_var 2)))))))) scnd)) (b_one (s_if (PB.xb (t_val (d_var 4))) (b_one (s_app 3 (PP.xe (d_var 5)))) (b_nil))))))
      (b_cons (s_set 4 (XE.xm (PP.xe (d_bl))) scnd)
      (b_cons (s_for PassesOwn.never rfl (i_rgd T.bt (d_sub (PP.pv (d_var 0)) (PP.pv (d_int))) (d_neg (PP.pv (d_int))) (d_neg (PP.pv (d_int)))) (g_one 5 scnd) (b_one (s_if (PB.xb (PWb.pb (w_or (t_cmp (c_in hr (PP.pv (d_var 5)) (PP.pv (d_var 1)))) (w_or1 (t_cmp (c_in hr (PP.pv (d_var 5)) (PP.pv (d_var 2)))))))) (b_one (s_set 4 (XE.xm (PP.xe (d_and (d_cmp (c_in hr (PP.pv (d_var 5)) (PP.pv (d_var 2)))) (d_one (d_cmp (c_ni hr (PP.pv (d_var 5)) (PP.pv (d_var 1)))))))) scnd)) (b_one (s_if (PB.xb (PWb.pb (w_and (t_val (d_var 4)) (w_and1 (t_cmp (c_ni hr (PP.pv (d_var 5)) (d_own 3))))))) (b_one (s_app 3 (PP.xe (d_var 5)))) (b_nil))))))
      (b_one (s_ret (PP.xe (d_sorted hr T.bt (d_own 3))))))))
theorem ok_row_spare (T : Tx K mg) (Y : Ty T base) (hW : WH w) : FnOk P w K mg base CX0 4 T.row_spare.a T.row_spare.fd ["many", "one", "other"] (spP K LF.f_row_spare 3) := by
  have scnd := (sc_row_spare).nd
  refine def_P T.row_spare.F sc_row_spare rfl fun cdv A outer s H E hr => ?_
  exact b_cons (s_expr (PP.xe (d_call (ok_need_two_rows T Y hW) (hr.mono (by decide)) T.need_two_rows.m T.need_two_rows.F.kp T.need_two_rows.b (as_cons (d_var 0) (as_cons (d_var 1) (as_cons (d_var 2) (as_nil)))))))
      (b_one (s_ret (PP.xe (d_tuple T.bt (PP.pv (d_call (ok_spare_of_rows T Y hW) (hr.mono (by decide)) T.spare_of_rows.m T.spare_of_rows.F.kp T.spare_of_rows.b (as_cons (d_var 0) (as_cons (d_var 1) (as_cons (d_var 2) (as_nil))))))))))
theorem ok_word_of_rows (T : Tx K mg) (Y : Ty T base) (hW : WH w) : FnOk P w K mg base CX0 2 T.word_of_rows.a T.word_of_rows.fd ["many", "one", "other"] (spP K LF.f_word_of_5d0e 3) := by
  have scnd := (sc_word_of_rows).nd
  refine def_P T.word_of_rows.F sc_word_of_rows rfl fun cdv A outer s H E hr => ?_
  exact b_cons (s_unp rfl (n_cons 3 scnd (n_cons 4 scnd (n_nil))) (PP.xe (d_call (ok_sides T Y hW) (hr.mono (by decide)) T.sides.m T.sides.F.kp T.sides.b (as_cons (d_var 1) (as_cons (d_var 2) (as_nil))))))
      (b_cons (s_set 5 (XE.xm (PP.xe (d_call (ok_spare_of_rows T Y hW) (hr.mono (by decide)) T.spare_of_rows.m T.spare_of_rows.F.kp T.spare_of_rows.b (as_cons (d_var 0) (as_cons (d_var 1) (as_cons (d_var 2) (as_nil))))))) scnd)
      (b_one (s_ret (PP.xe (d_add (PP.pv (d_sorted hr T.bt (PP.pv (d_add (PP.pv (d_var 3)) (PP.pv (d_var 5)))))) (PP.pv (d_sorted hr T.bt (PP.pv (d_add (PP.pv (d_var 4)) (PP.pv (d_var 5)))))))))))
theorem ok_row_fewest (T : Tx K mg) (Y : Ty T base) (hW : WH w) : FnOk P w K mg base CX0 4 T.row_fewest.a T.row_fewest.fd ["many", "one", "other"] (spP K LF.f_row_fewest 3) := by
  have scnd := (sc_row_fewest).nd
  refine def_P T.row_fewest.F sc_row_fewest rfl fun cdv A outer s H E hr => ?_
  exact b_cons (s_expr (PP.xe (d_call (ok_need_two_rows T Y hW) (hr.mono (by decide)) T.need_two_rows.m T.need_two_rows.F.kp T.need_two_rows.b (as_cons (d_var 0) (as_cons (d_var 1) (as_cons (d_var 2) (as_nil)))))))
      (b_one (s_ret (PP.xe (d_len T.bt (PP.pv (d_call (ok_word_of_rows T Y hW) (hr.mono (by decide)) T.word_of_rows.m T.word_of_rows.F.kp T.word_of_rows.b (as_cons (d_var 0) (as_cons (d_var 1) (as_cons (d_var 2) (as_nil))))))))))
theorem ok_row_word (T : Tx K mg) (Y : Ty T base) (hW : WH w) : FnOk P w K mg base CX0 4 T.row_word.a T.row_word.fd ["many", "one", "other"] (spP K LF.f_row_word 3) := by
  have scnd := (sc_row_word).nd
  refine def_P T.row_word.F sc_row_word rfl fun cdv A outer s H E hr => ?_
  exact b_cons (s_expr (PP.xe (d_call (ok_need_two_rows T Y hW) (hr.mono (by decide)) T.need_two_rows.m T.need_two_rows.F.kp T.need_two_rows.b (as_cons (d_var 0) (as_cons (d_var 1) (as_cons (d_var 2) (as_nil)))))))
      (b_one (s_ret (PP.xe (d_tuple T.bt (PP.pv (d_call (ok_word_of_rows T Y hW) (hr.mono (by decide)) T.word_of_rows.m T.word_of_rows.F.kp T.word_of_rows.b (as_cons (d_var 0) (as_cons (d_var 1) (as_cons (d_var 2) (as_nil))))))))))
theorem ok_leads_to_rows (T : Tx K mg) (Y : Ty T base) (hW : WH w) : FnOk P w K mg base CX0 2 T.leads_to_rows.a T.leads_to_rows.fd ["many", "one", "value"] (spP K LF.f_leads_to_6fbb 3) := by
  have scnd := (sc_leads_to_rows).nd
  refine def_P T.leads_to_rows.F sc_leads_to_rows rfl fun cdv A outer s H E hr => ?_
  exact b_cons (s_set 3 (m_lc0 (own := [("k", 6)]) rfl scnd (i_rg1 T.bt (d_var 0)) (blkOk_by (N := N_leads_to_rows) (sc := defScope s_leads_to_rows) (by decide +kernel)) (fun _ => g_one 6 scnd) (fun _ => d_cmp (c_in hr (PP.pv (d_var 6)) (PP.pv (d_var 1)))) (by decide)) scnd)
      (b_cons (s_for PassesOwn.never rfl (i_seq (d_var 2)) (g_one 4 scnd) (b_cons (s_if (PB.xb (t_not (t_val (d_call (ok_is_in T Y hW) (hr.mono (by decide)) T.is_in.m T.is_in.F.kp T.is_in.b (as_cons (d_var 4) (as_cons (d_int) (as_cons (d_sub (PP.pv (d_var 0)) (PP.pv (d_int))) (as_nil)))))))) (b_one (s_ret (PP.xe (d_non)))) (b_nil))
      (b_cons (s_set 5 (XE.xm (PP.xe (d_if (t_val (d_ix (d_own 3) (PP.pv (d_var 4)))) (d_add (PP.pv (d_var 4)) (PP.pv (d_int))) (d_sub (PP.pv (d_var 4)) (PP.pv (d_int)))))) scnd)
      (b_cons (s_if (PB.xb (PWb.pb (w_and (t_val (d_call (ok_is_in T Y hW) (hr.mono (by decide)) T.is_in.m T.is_in.F.kp T.is_in.b (as_cons (d_var 5) (as_cons (d_int) (as_cons (d_sub (PP.pv (d_var 0)) (PP.pv (d_int))) (as_nil)))))) (w_and1 (t_not (t_val (d_ix (d_own 3) (PP.pv (d_var 5))))))))) (b_one (s_ret (PP.xe (d_non)))) (b_nil))
      (b_one (s_put 3 (d_var 4) (PP.xe (d_not (d_ix (d_own 3) (PP.pv (d_var 4)))))))))))
      (b_one (s_ret (PP.xe (d_tuple T.bt (PP.pv (d_lc1 (own := [("k", 6)]) rfl scnd (i_rg1 T.bt (d_var 0)) (blkOk_by (N := N_leads_to_rows) (sc := defScope s_leads_to_rows) (by decide +kernel)) (fun _ => g_one 6 scnd) (fun _ => t_val (d_ix (d_own 3) (PP.pv (d_var 6)))) (fun _ => d_var 6) (by decide))))))))
theorem ok_shows_row_word (T : Tx K mg) (Y : Ty T base) (hW : WH w) : FnOk P w K mg base CX0 4 T.shows_row_word.a T.shows_row_word.fd ["many", "one", "other", "value"] (spP K LF.f_shows_row_word 4) := by
  have scnd := (sc_shows_row_word).nd
  refine def_P T.shows_row_word.F sc_shows_row_word rfl fun cdv A outer s H E hr => ?_
  exact b_cons (s_expr (PP.xe (d_call (ok_need_two_rows T Y hW) (hr.mono (by decide)) T.need_two_rows.m T.need_two_rows.F.kp T.need_two_rows.b (as_cons (d_var 0) (as_cons (d_var 1) (as_cons (d_var 2) (as_nil)))))))
      (b_cons (s_if (PB.xb (PWb.pb (w_or (t_not (t_val (d_isa (id := "tuple") (by decide) boot_tuple T.bt T.bt.tuple (PP.pv (d_var 3))))) (w_or1 (t_cmp (c_ne hr (PP.pv (d_len T.bt (PP.pv (d_var 3)))) (PP.pv (d_len T.bt (PP.pv (d_call (ok_word_of_rows T Y hW) (hr.mono (by decide)) T.word_of_rows.m T.word_of_rows.F.kp T.word_of_rows.b (as_cons (d_var 0) (as_cons (d_var 1) (as_cons (d_var 2) (as_nil)))))))))))))) (b_one (s_ret (PP.xe (d_bl)))) (b_nil))
      (b_one (s_ret (PP.xe (d_cmp (c_eq hr (PP.pv (d_call (ok_leads_to_rows T Y hW) (hr.mono (by decide)) T.leads_to_rows.m T.leads_to_rows.F.kp T.leads_to_rows.b (as_cons (d_var 0) (as_cons (d_var 1) (as_cons (d_var 3) (as_nil)))))) (PP.pv (d_var 2))))))))
theorem ok_behind_lamp (T : Tx K mg) (Y : Ty T base) (hW : WH w) : FnOk P w K mg base CX0 1 T.behind_lamp.a T.behind_lamp.fd ["rows", "sort"] (spP K LF.f_behind_lamp 2) := by
  have scnd := (sc_behind_lamp).nd
  refine def_P T.behind_lamp.F sc_behind_lamp rfl fun cdv A outer s H E hr => ?_
  exact b_cons (s_set 2 (m_newT) scnd)
      (b_cons (s_for PassesOwn.never rfl (i_keysM (d_var 0)) (g_tup rfl (gs_cons (g_one 3 scnd) (gs_cons (g_one 4 scnd) (gs_nil)))) (b_cons (s_set 5 (XE.xm (PP.xe (d_ixD hr (PP.pv (d_var 0)) (PP.pv (d_tup (as_cons (d_var 3) (as_cons (d_var 4) (as_nil)))))))) scnd)
      (b_cons (s_if (PB.xb (t_cmp (c_eq hr (PP.pv (d_var 1)) (PP.pv (d_str))))) (b_one (s_unp rfl (n_cons 5 scnd (n_cons 6 scnd (n_nil))) (PP.xe (d_if (t_cmp (c_eq hr (PP.pv (d_var 3)) (PP.pv (d_str)))) (d_tup (as_cons (d_add (PP.pv (d_var 5)) (PP.pv (d_int))) (as_cons (d_tup (as_cons (d_var 3) (as_cons (d_int) (as_nil)))) (as_nil)))) (d_tup (as_cons (d_var 5) (as_cons (d_tup (as_cons (d_var 3) (as_cons (d_add (PP.pv (d_var 4)) (PP.pv (d_int))) (as_nil)))) (as_nil)))))))) (b_cons (s_aug 5 iop_add vw_I20 (d_if (t_cmp (c_eq hr (PP.pv (d_var 1)) (PP.pv (d_str)))) (d_mulI (PP.pv (d_int)) (PP.pv (d_var 4))) (d_int)) scnd)
      (b_one (s_par 5 6 rfl scnd (ma_cons (XE.xm (PP.xe (d_add (PP.pv (d_var 5)) (PP.pv (d_toInt T.bt (PP.pv (d_cmp (c_in hr (PP.pv (d_var 1)) (PP.pv (d_tup (as_cons (d_str) (as_cons (d_str) (as_nil))))))))))))) (ma_cons (XE.xm (PP.xe (d_tup (as_cons (d_var 1) (as_cons (d_int) (as_nil)))))) (ma_nil)))))))
      (b_one (s_if (PB.xb (t_cmp (c_gt hr (PP.pv (d_var 5)) (PP.pv (d_get2 hr (d_own 2) (d_var 6) (d_neg (PP.pv (d_int)))))))) (b_one (s_dset 2 hr (d_var 6) (PP.xe (d_var 5)))) (b_nil))))))
      (b_one (s_frzD 2 (s_ret (PP.xe (d_var 2))))))
theorem pf_greatest [FnT] (T : Tx K mg) (Y : Ty T base) (hW : WH w) (cdv : Value) (A : Around) (outer : List Env) (s : Shared) (H : Hp) (E : XK) (C : CallOk (cxOf CX0 P w K mg base N_greatest "greatest" (defScope s_greatest) T.greatest.a cdv A outer s H E).nox 1) (hr : Room 1 (A.deeper (envOfC "greatest" (defScope s_greatest) s.heap.objs.size T.greatest.a cdv))) : PBl (cxOf CX0 P w K mg base N_greatest "greatest" (defScope s_greatest) T.greatest.a cdv A outer s H E).nox (defBody s_greatest) LF.b_greatest := by
  have scnd := (sc_greatest).nd
  exact b_cons (s_set 2 (m_new1 hr (d_tup (as_cons (d_str) (as_cons (d_int) (as_nil)))) (d_int)) scnd)
      (b_cons (s_for PassesOwn.never rfl (i_rg1 T.bt (d_var 0)) (g_one 3 scnd) (b_cons (s_set 4 (m_newT) scnd)
      (b_cons (s_for PassesOwn.never rfl (i_seq (d_callV (i := 1) C (as_cons (d_var 3) (as_nil)))) (g_one 5 scnd) (b_cons (s_frzD 2 (s_set 6 (XE.xm (PP.xe (d_call (ok_behind_lamp T Y hW) (hr.mono (by decide)) T.behind_lamp.m T.behind_lamp.F.kp T.behind_lamp.b (as_cons (d_var 2) (as_cons (d_var 5) (as_nil)))))) scnd))
      (b_one (s_for PassesOwn.never rfl (i_keysM (d_var 6)) (g_one 7 scnd) (b_one (s_if (PB.xb (t_cmp (c_gt hr (PP.pv (d_ixD hr (PP.pv (d_var 6)) (PP.pv (d_var 7)))) (PP.pv (d_get2 hr (d_own 4) (d_var 7) (d_neg (PP.pv (d_int)))))))) (b_one (s_dset 4 hr (d_var 7) (PP.xe (d_ixD hr (PP.pv (d_var 6)) (PP.pv (d_var 7)))))) (b_nil)))))))
      (b_one (s_frzD 4 (s_set 2 (XE.xm (PP.xe (d_var 4))) scnd))))))
      (b_one (s_frzD 2 (s_ret (PP.xe (d_vmax rfl hr T.bt (v_vals (d_var 2))))))))
theorem ok_row_farthest (T : Tx K mg) (Y : Ty T base) (hW : WH w) : FnOk P w K mg base CX0 6 T.row_farthest.a T.row_farthest.fd ["many", "burning"] (spP K LF.f_row_farthest 2) := by
  have scnd := (sc_row_farthest).nd
  refine def_PL T.row_farthest.F sc_row_farthest rfl Y.row_farthest fun cdv A outer s H E hT hr => ?_
  exact b_cons (s_expr (PP.xe (d_call (ok_need_many T Y hW) (hr.mono (by decide)) T.need_many.m T.need_many.F.kp T.need_many.b (as_cons (d_var 0) (as_nil)))))
      (b_cons (s_expr (PP.xe (d_call (ok_need_burning T Y hW) (hr.mono (by decide)) T.need_burning.m T.need_burning.F.kp T.need_burning.b (as_cons (d_var 0) (as_cons (d_var 1) (as_nil))))))
      (b_one (s_ret (PP.xe (d_lam1 (kb := 1) (k := 2) (Ng := N_greatest) (psg := ["many"]) (pf := "sorts") (sf := LF.b_greatest) (m := 1) (ps := ["k"]) (cs := ["burning"]) (js := [1]) hT T.greatest.F sc_greatest T.greatest.m T.greatest.F.kp T.greatest.b (hr.mono (by decide)) (by decide) (fun fn cdv A outer s H E C hr => pf_greatest T Y hW cdv A outer s H E C (hr.mono (by decide))) (d_var 0) rfl (lamP_by (sc := defScope s_row_farthest) (by decide +kernel)) rfl rfl (fun _ _ _ _ _ us h => match us, h with | [_], _ => rfl) rfl (hc_of rfl) (fun A outer s H f c' hr => d_if (t_cmp (c_in hr (PP.pv (d_var 0)) (PP.pv (d_var 1)))) (d_lst (as_cons (d_str) (as_cons (d_str) (as_nil)))) (d_lst (as_cons (d_str) (as_cons (d_str) (as_nil))))) (by decide))))))
theorem ok_row_widest (T : Tx K mg) (Y : Ty T base) (hW : WH w) : FnOk P w K mg base CX0 6 T.row_widest.a T.row_widest.fd ["many"] (spP K LF.f_row_widest 1) := by
  have scnd := (sc_row_widest).nd
  refine def_PL T.row_widest.F sc_row_widest rfl Y.row_widest fun cdv A outer s H E hT hr => ?_
  exact b_cons (s_expr (PP.xe (d_call (ok_need_many T Y hW) (hr.mono (by decide)) T.need_many.m T.need_many.F.kp T.need_many.b (as_cons (d_var 0) (as_nil)))))
      (b_one (s_ret (PP.xe (d_lam1 (kb := 1) (k := 2) (Ng := N_greatest) (psg := ["many"]) (pf := "sorts") (sf := LF.b_greatest) (m := 1) (ps := ["k"]) (cs := []) (js := []) hT T.greatest.F sc_greatest T.greatest.m T.greatest.F.kp T.greatest.b (hr.mono (by decide)) (by decide) (fun fn cdv A outer s H E C hr => pf_greatest T Y hW cdv A outer s H E C (hr.mono (by decide))) (d_var 0) rfl (lamP_by (sc := defScope s_row_widest) (by decide +kernel)) rfl rfl (fun _ _ _ _ _ us h => match us, h with | [_], _ => rfl) rfl (hc_of rfl) (fun A outer s H f c' hr => d_lst (as_cons (d_str) (as_cons (d_str) (as_cons (d_str) (as_cons (d_str) (as_nil)))))) (by decide)))))
theorem ok_need_parents (T : Tx K mg) (Y : Ty T base) (hW : WH w) : FnOk P w K mg base CX0 2 T.need_parents.a T.need_parents.fd ["parents"] (spP K LF.f_need_parents 1) := by
  have scnd := (sc_need_parents).nd
  refine def_P T.need_parents.F sc_need_parents rfl fun cdv A outer s H E hr => ?_
  exact b_cons (s_if (PB.xb (PWb.pb (w_or (t_not (t_val (d_isa (id := "tuple") (by decide) boot_tuple T.bt T.bt.tuple (PP.pv (d_var 0))))) (w_or1 (t_not (t_chain (o_le hr) (o_le hr) (PP.pv (d_int)) (PP.pv (d_len T.bt (PP.pv (d_var 0)))) (PP.pv (d_gint (by rfl) T.c_MOST_ROW)))))))) (b_one (s_never)) (b_nil))
      (b_one (s_for PassesOwn.never rfl (i_enum T.bt (d_var 0)) (g_tup rfl (gs_cons (g_one 1 scnd) (gs_cons (g_one 2 scnd) (gs_nil)))) (b_one (s_if (PB.xb (PWb.pb (w_and (t_cmp (c_isn (PP.pv (d_var 2)) (PP.pv (d_non)))) (w_and1 (t_not (t_val (d_call (ok_is_in T Y hW) (hr.mono (by decide)) T.is_in.m T.is_in.F.kp T.is_in.b (as_cons (d_var 2) (as_cons (d_int) (as_cons (d_sub (PP.pv (d_var 1)) (PP.pv (d_int))) (as_nil))))))))))) (b_one (s_never)) (b_nil)))))
theorem ok_children (T : Tx K mg) (Y : Ty T base) (hW : WH w) : FnOk P w K mg base CX0 1 T.children.a T.children.fd ["parents", "lamp"] (spP K LF.f_children 2) := by
  have scnd := (sc_children).nd
  refine def_P T.children.F sc_children rfl fun cdv A outer s H E hr => ?_
  exact b_one (s_ret (PP.xe (d_lc1 (own := [("k", 2), ("one", 3)]) rfl scnd (i_enum T.bt (d_var 0)) (blkOk_by (N := N_children) (sc := defScope s_children) (by decide +kernel)) (fun _ => g_tup rfl (gs_cons (g_one 2 scnd) (gs_cons (g_one 3 scnd) (gs_nil)))) (fun _ => t_cmp (c_eq hr (PP.pv (d_var 3)) (PP.pv (d_var 1)))) (fun _ => d_var 2) (by decide))))
theorem ok_forest_web (T : Tx K mg) (Y : Ty T base) (hW : WH w) : FnOk P w K mg base CX0 3 T.forest_web.a T.forest_web.fd ["parents"] (spP K LF.f_forest_web 1) := by
  have scnd := (sc_forest_web).nd
  refine def_P T.forest_web.F sc_forest_web rfl fun cdv A outer s H E hr => ?_
  exact b_cons (s_expr (PP.xe (d_call (ok_need_parents T Y hW) (hr.mono (by decide)) T.need_parents.m T.need_parents.F.kp T.need_parents.b (as_cons (d_var 0) (as_nil)))))
      (b_cons (s_if (PB.xb (t_cmp (c_gt hr (PP.pv (d_len T.bt (PP.pv (d_var 0)))) (PP.pv (d_gint (by rfl) T.c_MOST_LAMPS))))) (b_one (s_never)) (b_nil))
      (b_one (s_ret (PP.xe (d_tup (as_cons (d_len T.bt (PP.pv (d_var 0))) (as_cons (d_tuple T.bt (PP.pv (d_sorted hr T.bt (PP.pv (d_lc1 (own := [("k", 1), ("one", 2)]) rfl scnd (i_enum T.bt (d_var 0)) (blkOk_by (N := N_forest_web) (sc := defScope s_forest_web) (by decide +kernel)) (fun _ => g_tup rfl (gs_cons (g_one 1 scnd) (gs_cons (g_one 2 scnd) (gs_nil)))) (fun _ => t_cmp (c_isn (PP.pv (d_var 2)) (PP.pv (d_non)))) (fun _ => d_tup (as_cons (d_var 2) (as_cons (d_var 1) (as_nil)))) (by decide)))))) (as_nil))))))))
theorem ok_need_two_forests (T : Tx K mg) (Y : Ty T base) (hW : WH w) : FnOk P w K mg base CX0 3 T.need_two_forests.a T.need_two_forests.fd ["parents", "one", "other"] (spP K LF.f_need_two_43b8 3) := by
  have scnd := (sc_need_two_forests).nd
  refine def_P T.need_two_forests.F sc_need_two_forests rfl fun cdv A outer s H E hr => ?_
  exact b_cons (s_expr (PP.xe (d_call (ok_need_parents T Y hW) (hr.mono (by decide)) T.need_parents.m T.need_parents.F.kp T.need_parents.b (as_cons (d_var 0) (as_nil)))))
      (b_cons (s_expr (PP.xe (d_call (ok_need_burning T Y hW) (hr.mono (by decide)) T.need_burning.m T.need_burning.F.kp T.need_burning.b (as_cons (d_len T.bt (PP.pv (d_var 0))) (as_cons (d_var 1) (as_nil))))))
      (b_one (s_expr (PP.xe (d_call (ok_need_burning T Y hW) (hr.mono (by decide)) T.need_burning.m T.need_burning.F.kp T.need_burning.b (as_cons (d_len T.bt (PP.pv (d_var 0))) (as_cons (d_var 2) (as_nil))))))))
theorem ok_spare_of_forests (T : Tx K mg) (Y : Ty T base) (hW : WH w) : FnOk P w K mg base CX0 2 T.spare_of_forests.a T.spare_of_forests.fd ["parents", "one", "other"] (spP K LF.f_spare_of 3) := by
  have scnd := (sc_spare_of_forests).nd
  refine def_P T.spare_of_forests.F sc_spare_of_forests rfl fun cdv A outer s H E hr => ?_
  exact b_cons (s_unp rfl (n_cons 3 scnd (n_cons 4 scnd (n_nil))) (PP.xe (d_call (ok_sides T Y hW) (hr.mono (by decide)) T.sides.m T.sides.F.kp T.sides.b (as_cons (d_var 1) (as_cons (d_var 2) (as_nil))))))
      (b_cons (s_tup rfl (n_cons 5 scnd (n_cons 6 scnd (n_cons 7 scnd (n_nil)))) (ma_cons (XE.xm (PP.xe (d_lst (as_nil)))) (ma_cons (XE.xm (PP.xe (d_list T.bt (PP.pv (d_var 3))))) (ma_cons (XE.xm (PP.xe (d_list T.bt (PP.pv (d_var 4))))) (ma_nil)))))
      (b_cons (s_while LF.wFuel PassesOwn.never (PB.xb (t_cmp (c_ne hr (PP.pv (d_add (PP.pv (d_var 6)) (PP.pv (d_var 7)))) (PP.pv (d_lst (as_nil)))))) (b_cons (s_lc1 (own := [("k", 8)]) 9 rfl scnd (i_seq (d_var 6)) (blkOk_by (N := N_spare_of_forests) (sc := defScope s_spare_of_forests) (by decide +kernel)) (fun _ => g_one 8 scnd) (fun _ => t_cmp (c_isn (PP.pv (d_ix (PP.pv (d_var 0)) (PP.pv (d_var 8)))) (PP.pv (d_non)))) (fun _ => d_ix (PP.pv (d_var 0)) (PP.pv (d_var 8))) (by decide) (sw_true rfl rfl rfl (by decide +kernel)))
      (b_cons (s_for PassesOwn.never rfl (i_seq (d_var 7)) (g_one 8 scnd) (b_one (s_set 9 (XE.xm (PP.xe (d_add (PP.pv (d_var 9)) (PP.pv (d_call (ok_children T Y hW) (hr.mono (by decide)) T.children.m T.children.F.kp T.children.b (as_cons (d_var 0) (as_cons (d_var 8) (as_nil)))))))) scnd)))
      (b_cons (s_lc1 (own := [("k", 8)]) 9 rfl scnd (i_seq (d_ss2 rfl hr T.bt (PP.pv (d_var 9)))) (blkOk_by (N := N_spare_of_forests) (sc := defScope s_spare_of_forests) (by decide +kernel)) (fun _ => g_one 8 scnd) (fun _ => PWb.pb (w_and (t_cmp (c_ni hr (PP.pv (d_var 8)) (PP.pv (d_var 1)))) (w_and (t_cmp (c_ni hr (PP.pv (d_var 8)) (PP.pv (d_var 2)))) (w_and1 (t_cmp (c_ni hr (PP.pv (d_var 8)) (PP.pv (d_var 5)))))))) (fun _ => d_var 8) (by decide) (sw_true rfl rfl rfl (by decide +kernel)))
      (b_one (s_tup rfl (n_cons 5 scnd (n_cons 6 scnd (n_cons 7 scnd (n_nil)))) (ma_cons (XE.xm (PP.xe (d_add (PP.pv (d_var 5)) (PP.pv (d_var 9))))) (ma_cons (XE.xm (PP.xe (d_var 9))) (ma_cons (XE.xm (PP.xe (d_var 9))) (ma_nil))))))))))
      (b_one (s_ret (PP.xe (d_sorted hr T.bt (PP.pv (d_var 5))))))))
theorem ok_forest_spare (T : Tx K mg) (Y : Ty T base) (hW : WH w) : FnOk P w K mg base CX0 4 T.forest_spare.a T.forest_spare.fd ["parents", "one", "other"] (spP K LF.f_forest_spare_4a7b 3) := by
  have scnd := (sc_forest_spare).nd
  refine def_P T.forest_spare.F sc_forest_spare rfl fun cdv A outer s H E hr => ?_
  exact b_cons (s_expr (PP.xe (d_call (ok_need_two_forests T Y hW) (hr.mono (by decide)) T.need_two_forests.m T.need_two_forests.F.kp T.need_two_forests.b (as_cons (d_var 0) (as_cons (d_var 1) (as_cons (d_var 2) (as_nil)))))))
      (b_one (s_ret (PP.xe (d_tuple T.bt (PP.pv (d_call (ok_spare_of_forests T Y hW) (hr.mono (by decide)) T.spare_of_forests.m T.spare_of_forests.F.kp T.spare_of_forests.b (as_cons (d_var 0) (as_cons (d_var 1) (as_cons (d_var 2) (as_nil))))))))))
theorem ok_word_of_forests (T : Tx K mg) (Y : Ty T base) (hW : WH w) : FnOk P w K mg base CX0 3 T.word_of_forests.a T.word_of_forests.fd ["parents", "one", "other"] (spP K LF.f_word_of_3a18 3) := by
  have scnd := (sc_word_of_forests).nd
  refine def_P T.word_of_forests.F sc_word_of_forests rfl fun cdv A outer s H E hr => ?_
  exact b_cons (s_unp rfl (n_cons 3 scnd (n_cons 4 scnd (n_nil))) (PP.xe (d_call (ok_sides T Y hW) (hr.mono (by decide)) T.sides.m T.sides.F.kp T.sides.b (as_cons (d_var 1) (as_cons (d_var 2) (as_nil))))))
      (b_cons (s_set 5 (XE.xm (PP.xe (d_call (ok_spare_of_forests T Y hW) (hr.mono (by decide)) T.spare_of_forests.m T.spare_of_forests.F.kp T.spare_of_forests.b (as_cons (d_var 0) (as_cons (d_var 1) (as_cons (d_var 2) (as_nil))))))) scnd)
      (b_one (s_ret (PP.xe (d_add (PP.pv (d_sorted hr T.bt (PP.pv (d_add (PP.pv (d_var 3)) (PP.pv (d_var 5)))))) (PP.pv (d_sorted hr T.bt (PP.pv (d_add (PP.pv (d_var 4)) (PP.pv (d_var 5)))))))))))
theorem ok_forest_fewest (T : Tx K mg) (Y : Ty T base) (hW : WH w) : FnOk P w K mg base CX0 4 T.forest_fewest.a T.forest_fewest.fd ["parents", "one", "other"] (spP K LF.f_forest_fewest_0b80 3) := by
  have scnd := (sc_forest_fewest).nd
  refine def_P T.forest_fewest.F sc_forest_fewest rfl fun cdv A outer s H E hr => ?_
  exact b_cons (s_expr (PP.xe (d_call (ok_need_two_forests T Y hW) (hr.mono (by decide)) T.need_two_forests.m T.need_two_forests.F.kp T.need_two_forests.b (as_cons (d_var 0) (as_cons (d_var 1) (as_cons (d_var 2) (as_nil)))))))
      (b_one (s_ret (PP.xe (d_len T.bt (PP.pv (d_call (ok_word_of_forests T Y hW) (hr.mono (by decide)) T.word_of_forests.m T.word_of_forests.F.kp T.word_of_forests.b (as_cons (d_var 0) (as_cons (d_var 1) (as_cons (d_var 2) (as_nil))))))))))
theorem ok_forest_word (T : Tx K mg) (Y : Ty T base) (hW : WH w) : FnOk P w K mg base CX0 4 T.forest_word.a T.forest_word.fd ["parents", "one", "other"] (spP K LF.f_forest_word_fd30 3) := by
  have scnd := (sc_forest_word).nd
  refine def_P T.forest_word.F sc_forest_word rfl fun cdv A outer s H E hr => ?_
  exact b_cons (s_expr (PP.xe (d_call (ok_need_two_forests T Y hW) (hr.mono (by decide)) T.need_two_forests.m T.need_two_forests.F.kp T.need_two_forests.b (as_cons (d_var 0) (as_cons (d_var 1) (as_cons (d_var 2) (as_nil)))))))
      (b_one (s_ret (PP.xe (d_tuple T.bt (PP.pv (d_call (ok_word_of_forests T Y hW) (hr.mono (by decide)) T.word_of_forests.m T.word_of_forests.F.kp T.word_of_forests.b (as_cons (d_var 0) (as_cons (d_var 1) (as_cons (d_var 2) (as_nil))))))))))
theorem ok_leads_to_forests (T : Tx K mg) (Y : Ty T base) (hW : WH w) : FnOk P w K mg base CX0 2 T.leads_to_forests.a T.leads_to_forests.fd ["parents", "one", "value"] (spP K LF.f_leads_to 3) := by
  have scnd := (sc_leads_to_forests).nd
  refine def_P T.leads_to_forests.F sc_leads_to_forests rfl fun cdv A outer s H E hr => ?_
  exact b_cons (s_set 3 (m_lc0 (own := [("k", 6)]) rfl scnd (i_rg1 T.bt (d_len T.bt (PP.pv (d_var 0)))) (blkOk_by (N := N_leads_to_forests) (sc := defScope s_leads_to_forests) (by decide +kernel)) (fun _ => g_one 6 scnd) (fun _ => d_cmp (c_in hr (PP.pv (d_var 6)) (PP.pv (d_var 1)))) (by decide)) scnd)
      (b_cons (s_for PassesOwn.never rfl (i_seq (d_var 2)) (g_one 4 scnd) (b_cons (s_if (PB.xb (t_not (t_val (d_call (ok_is_in T Y hW) (hr.mono (by decide)) T.is_in.m T.is_in.F.kp T.is_in.b (as_cons (d_var 4) (as_cons (d_int) (as_cons (d_sub (PP.pv (d_len T.bt (PP.pv (d_var 0)))) (PP.pv (d_int))) (as_nil)))))))) (b_one (s_ret (PP.xe (d_non)))) (b_nil))
      (b_cons (s_if (PB.xb (t_val (d_ix (d_own 3) (PP.pv (d_var 4))))) (b_one (s_lc1 (own := [("k", 6)]) 5 rfl scnd (i_seq (d_call (ok_children T Y hW) (hr.mono (by decide)) T.children.m T.children.F.kp T.children.b (as_cons (d_var 0) (as_cons (d_var 4) (as_nil))))) (blkOk_by (N := N_leads_to_forests) (sc := defScope s_leads_to_forests) (by decide +kernel)) (fun _ => g_one 6 scnd) (fun _ => t_not (t_val (d_ix (d_own 3) (PP.pv (d_var 6))))) (fun _ => d_var 6) (by decide) (sw_true rfl rfl rfl (by decide +kernel)))) (b_one (s_lc1 (own := [("k", 6)]) 5 rfl scnd (i_seq (d_slice (d_var 0) (po_at (d_var 4)) (po_at (d_add (PP.pv (d_var 4)) (PP.pv (d_int)))))) (blkOk_by (N := N_leads_to_forests) (sc := defScope s_leads_to_forests) (by decide +kernel)) (fun _ => g_one 6 scnd) (fun _ => PWb.pb (w_and (t_cmp (c_isn (PP.pv (d_var 6)) (PP.pv (d_non)))) (w_and1 (t_not (t_val (d_ix (d_own 3) (PP.pv (d_var 6)))))))) (fun _ => d_var 6) (by decide) (sw_true rfl rfl rfl (by decide +kernel)))))
      (b_cons (s_if (PB.xb (t_cmp (c_ne hr (PP.pv (d_var 5)) (PP.pv (d_lst (as_nil)))))) (b_one (s_ret (PP.xe (d_non)))) (b_nil))
      (b_one (s_put 3 (d_var 4) (PP.xe (d_not (d_ix (d_own 3) (PP.pv (d_var 4)))))))))))
      (b_one (s_ret (PP.xe (d_tuple T.bt (PP.pv (d_lc1 (own := [("k", 6)]) rfl scnd (i_rg1 T.bt (d_len T.bt (PP.pv (d_var 0)))) (blkOk_by (N := N_leads_to_forests) (sc := defScope s_leads_to_forests) (by decide +kernel)) (fun _ => g_one 6 scnd) (fun _ => t_val (d_ix (d_own 3) (PP.pv (d_var 6)))) (fun _ => d_var 6) (by decide))))))))
theorem ok_shows_forest_word (T : Tx K mg) (Y : Ty T base) (hW : WH w) : FnOk P w K mg base CX0 4 T.shows_forest_word.a T.shows_forest_word.fd ["parents", "one", "other", "value"] (spP K LF.f_shows_forest_word_a1b2 4) := by
  have scnd := (sc_shows_forest_word).nd
  refine def_P T.shows_forest_word.F sc_shows_forest_word rfl fun cdv A outer s H E hr => ?_
  exact b_cons (s_expr (PP.xe (d_call (ok_need_two_forests T Y hW) (hr.mono (by decide)) T.need_two_forests.m T.need_two_forests.F.kp T.need_two_forests.b (as_cons (d_var 0) (as_cons (d_var 1) (as_cons (d_var 2) (as_nil)))))))
      (b_cons (s_if (PB.xb (PWb.pb (w_or (t_not (t_val (d_isa (id := "tuple") (by decide) boot_tuple T.bt T.bt.tuple (PP.pv (d_var 3))))) (w_or1 (t_cmp (c_ne hr (PP.pv (d_len T.bt (PP.pv (d_var 3)))) (PP.pv (d_len T.bt (PP.pv (d_call (ok_word_of_forests T Y hW) (hr.mono (by decide)) T.word_of_forests.m T.word_of_forests.F.kp T.word_of_forests.b (as_cons (d_var 0) (as_cons (d_var 1) (as_cons (d_var 2) (as_nil)))))))))))))) (b_one (s_ret (PP.xe (d_bl)))) (b_nil))
      (b_one (s_ret (PP.xe (d_cmp (c_eq hr (PP.pv (d_call (ok_leads_to_forests T Y hW) (hr.mono (by decide)) T.leads_to_forests.m T.leads_to_forests.F.kp T.leads_to_forests.b (as_cons (d_var 0) (as_cons (d_var 1) (as_cons (d_var 3) (as_nil)))))) (PP.pv (d_var 2))))))))
theorem ok_forest_light_ways (T : Tx K mg) (Y : Ty T base) (hW : WH w) : FnOk P w K mg base CX0 4 T.forest_light_ways.a T.forest_light_ways.fd ["parents", "one", "other"] (spP K LF.f_forest_light_ways_0a2c 3) := by
  have scnd := (sc_forest_light_ways).nd
  refine def_P T.forest_light_ways.F sc_forest_light_ways rfl fun cdv A outer s H E hr => ?_
  exact b_cons (s_expr (PP.xe (d_call (ok_need_two_forests T Y hW) (hr.mono (by decide)) T.need_two_forests.m T.need_two_forests.F.kp T.need_two_forests.b (as_cons (d_var 0) (as_cons (d_var 1) (as_cons (d_var 2) (as_nil)))))))
      (b_cons (s_unp rfl (n_cons 3 scnd (n_cons 4 scnd (n_nil))) (PP.xe (d_call (ok_sides T Y hW) (hr.mono (by decide)) T.sides.m T.sides.F.kp T.sides.b (as_cons (d_var 1) (as_cons (d_var 2) (as_nil))))))
      (b_cons (s_if (PB.xb (PWb.pb (w_or (t_cmp (c_ne hr (PP.pv (d_var 4)) (PP.pv (d_lst (as_nil))))) (w_or1 (t_cmp (c_ne hr (PP.pv (d_lc1 (own := [("k", 5)]) rfl scnd (i_seq (d_var 3)) (blkOk_by (N := N_forest_light_ways) (sc := defScope s_forest_light_ways) (by decide +kernel)) (fun _ => g_one 5 scnd) (fun _ => PWb.pb (w_and (t_cmp (c_isn (PP.pv (d_ix (PP.pv (d_var 0)) (PP.pv (d_var 5)))) (PP.pv (d_non)))) (w_and1 (t_cmp (c_ni hr (PP.pv (d_ix (PP.pv (d_var 0)) (PP.pv (d_var 5)))) (PP.pv (d_var 2))))))) (fun _ => d_var 5) (by decide))) (PP.pv (d_lst (as_nil))))))))) (b_one (s_ret (PP.xe (d_int)))) (b_nil))
      (b_cons (s_tup rfl (n_cons 6 scnd (n_cons 7 scnd (n_nil))) (ma_cons (XE.xm (PP.xe (d_int))) (ma_cons (m_newK) (ma_nil))))
      (b_cons (s_for PassesOwn.never rfl (i_seq (d_rev (d_var 3))) (g_one 5 scnd) (b_one (s_dset 7 hr (d_var 5) (PP.xe (d_add (PP.pv (d_int)) (PP.pv (d_sum rfl T.bt (PP.pv (d_lc1 (own := [("j", 9)]) rfl scnd (i_seq (d_call (ok_children T Y hW) (hr.mono (by decide)) T.children.m T.children.F.kp T.children.b (as_cons (d_var 0) (as_cons (d_var 5) (as_nil))))) (blkOk_by (N := N_forest_light_ways) (sc := defScope s_forest_light_ways) (by decide +kernel)) (fun _ => g_one 9 scnd) (fun _ => t_cmp (c_inD hr (PP.pv (d_var 9)) (d_own 7))) (fun _ => d_ixD hr (d_own 7) (PP.pv (d_var 9))) (by decide))))))))))
      (b_cons (s_for PassesOwn.never rfl (i_enum T.bt (d_var 3)) (g_tup rfl (gs_cons (g_one 8 scnd) (gs_cons (g_one 5 scnd) (gs_nil)))) (b_one (s_aug 6 iop_mul (vw_I2 fun _ _ h => smI_mul h) (d_add (PP.pv (d_var 8)) (PP.pv (d_int))) scnd)))
      (b_cons (s_for PassesOwn.never rfl (i_seq (d_var 3)) (g_one 5 scnd) (b_one (s_aug 6 iop_fdiv (vw_I2 fun _ _ h => cdiv_ok h) (d_ixD hr (d_own 7) (PP.pv (d_var 5))) scnd)))
      (b_one (s_ret (PP.xe (d_var 6))))))))))
theorem ok_forest_quench_ways (T : Tx K mg) (Y : Ty T base) (hW : WH w) : FnOk P w K mg base CX0 4 T.forest_quench_ways.a T.forest_quench_ways.fd ["parents", "one", "other"] (spP K LF.f_forest_quench_ways_555d 3) := by
  have scnd := (sc_forest_quench_ways).nd
  refine def_P T.forest_quench_ways.F sc_forest_quench_ways rfl fun cdv A outer s H E hr => ?_
  exact b_cons (s_expr (PP.xe (d_call (ok_need_two_forests T Y hW) (hr.mono (by decide)) T.need_two_forests.m T.need_two_forests.F.kp T.need_two_forests.b (as_cons (d_var 0) (as_cons (d_var 1) (as_cons (d_var 2) (as_nil)))))))
      (b_cons (s_unp rfl (n_cons 3 scnd (n_cons 4 scnd (n_nil))) (PP.xe (d_call (ok_sides T Y hW) (hr.mono (by decide)) T.sides.m T.sides.F.kp T.sides.b (as_cons (d_var 1) (as_cons (d_var 2) (as_nil))))))
      (b_cons (s_if (PB.xb (PWb.pb (w_or (t_cmp (c_ne hr (PP.pv (d_var 3)) (PP.pv (d_lst (as_nil))))) (w_or1 (t_cmp (c_ne hr (PP.pv (d_lc1 (own := [("k", 5)]) rfl scnd (i_seq (d_var 4)) (blkOk_by (N := N_forest_quench_ways) (sc := defScope s_forest_quench_ways) (by decide +kernel)) (fun _ => g_one 5 scnd) (fun _ => t_cmp (c_ne hr (PP.pv (d_lc1 (own := [("j", 9)]) rfl scnd (i_seq (d_call (ok_children T Y hW) (hr.mono (by decide)) T.children.m T.children.F.kp T.children.b (as_cons (d_var 0) (as_cons (d_var 5) (as_nil))))) (blkOk_by (N := N_forest_quench_ways) (sc := (relS ⟨.function, [(".0", .local), ("k", .local), ("children", .globalImplicit), ("one", .free), ("parents", .free)], false, false, []⟩ (defScope s_forest_quench_ways))) (by decide +kernel)) (fun _ => g_one 9 scnd) (fun _ => t_cmp (c_ni hr (PP.pv (d_var 9)) (PP.pv (d_var 1)))) (fun _ => d_var 9) (by decide))) (PP.pv (d_lst (as_nil))))) (fun _ => d_var 5) (by decide))) (PP.pv (d_lst (as_nil))))))))) (b_one (s_ret (PP.xe (d_int)))) (b_nil))
      (b_cons (s_tup rfl (n_cons 6 scnd (n_cons 7 scnd (n_nil))) (ma_cons (XE.xm (PP.xe (d_int))) (ma_cons (m_newK) (ma_nil))))
      (b_cons (s_for PassesOwn.never rfl (i_seq (d_rev (d_var 4))) (g_one 5 scnd) (b_one (s_dset 7 hr (d_var 5) (PP.xe (d_add (PP.pv (d_int)) (PP.pv (d_sum rfl T.bt (PP.pv (d_lc1 (own := [("j", 9)]) rfl scnd (i_seq (d_call (ok_children T Y hW) (hr.mono (by decide)) T.children.m T.children.F.kp T.children.b (as_cons (d_var 0) (as_cons (d_var 5) (as_nil))))) (blkOk_by (N := N_forest_quench_ways) (sc := defScope s_forest_quench_ways) (by decide +kernel)) (fun _ => g_one 9 scnd) (fun _ => t_cmp (c_inD hr (PP.pv (d_var 9)) (d_own 7))) (fun _ => d_ixD hr (d_own 7) (PP.pv (d_var 9))) (by decide))))))))))
      (b_cons (s_for PassesOwn.never rfl (i_enum T.bt (d_var 4)) (g_tup rfl (gs_cons (g_one 8 scnd) (gs_cons (g_one 5 scnd) (gs_nil)))) (b_one (s_aug 6 iop_mul (vw_I2 fun _ _ h => smI_mul h) (d_add (PP.pv (d_var 8)) (PP.pv (d_int))) scnd)))
      (b_cons (s_for PassesOwn.never rfl (i_seq (d_var 4)) (g_one 5 scnd) (b_one (s_aug 6 iop_fdiv (vw_I2 fun _ _ h => cdiv_ok h) (d_ixD hr (d_own 7) (PP.pv (d_var 5))) scnd)))
      (b_one (s_ret (PP.xe (d_var 6))))))))))
theorem ok_forest_light_states (T : Tx K mg) (Y : Ty T base) (hW : WH w) : FnOk P w K mg base CX0 3 T.forest_light_states.a T.forest_light_states.fd ["parents", "burning"] (spP K LF.f_forest_light_states 2) := by
  have scnd := (sc_forest_light_states).nd
  refine def_P T.forest_light_states.F sc_forest_light_states rfl fun cdv A outer s H E hr => ?_
  exact b_cons (s_expr (PP.xe (d_call (ok_need_parents T Y hW) (hr.mono (by decide)) T.need_parents.m T.need_parents.F.kp T.need_parents.b (as_cons (d_var 0) (as_nil)))))
      (b_cons (s_expr (PP.xe (d_call (ok_need_burning T Y hW) (hr.mono (by decide)) T.need_burning.m T.need_burning.F.kp T.need_burning.b (as_cons (d_len T.bt (PP.pv (d_var 0))) (as_cons (d_var 1) (as_nil))))))
      (b_cons (s_par 2 3 rfl scnd (ma_cons (m_newK) (ma_cons (m_newK) (ma_nil))))
      (b_cons (s_for PassesOwn.never rfl (i_rgd T.bt (d_sub (PP.pv (d_len T.bt (PP.pv (d_var 0)))) (PP.pv (d_int))) (d_neg (PP.pv (d_int))) (d_neg (PP.pv (d_int)))) (g_one 4 scnd) (b_cons (s_dset2 2 3 rfl hr (d_var 4) (d_var 4) (PP.xe (d_tup (as_cons (d_int) (as_cons (d_int) (as_nil))))))
      (b_one (s_for PassesOwn.never rfl (i_seq (d_call (ok_children T Y hW) (hr.mono (by decide)) T.children.m T.children.F.kp T.children.b (as_cons (d_var 0) (as_cons (d_var 4) (as_nil))))) (g_one 5 scnd) (b_cons (s_daug 2 hr iop_mul (vw_I2 fun _ _ h => smI_mul h) (d_var 4) (d_add (PP.pv (d_ixD hr (d_own 2) (PP.pv (d_var 5)))) (PP.pv (d_if (t_cmp (c_in hr (PP.pv (d_var 5)) (PP.pv (d_var 1)))) (d_int) (d_ixD hr (d_own 3) (PP.pv (d_var 5)))))))
      (b_one (s_daug 3 hr iop_mul (vw_I2 fun _ _ h => smI_mul h) (d_var 4) (d_if (t_cmp (c_in hr (PP.pv (d_var 5)) (PP.pv (d_var 1)))) (d_ixD hr (d_own 2) (PP.pv (d_var 5))) (d_ixD hr (d_own 3) (PP.pv (d_var 5)))))))))))
      (b_cons (s_set 6 (XE.xm (PP.xe (d_int))) scnd)
      (b_cons (s_for PassesOwn.never rfl (i_seq (d_call (ok_children T Y hW) (hr.mono (by decide)) T.children.m T.children.F.kp T.children.b (as_cons (d_var 0) (as_cons (d_non) (as_nil))))) (g_one 4 scnd) (b_one (s_aug 6 iop_mul (vw_I2 fun _ _ h => smI_mul h) (d_add (PP.pv (d_ixD hr (d_own 2) (PP.pv (d_var 4)))) (PP.pv (d_if (t_cmp (c_in hr (PP.pv (d_var 4)) (PP.pv (d_var 1)))) (d_int) (d_ixD hr (d_own 3) (PP.pv (d_var 4)))))) scnd)))
      (b_one (s_ret (PP.xe (d_var 6)))))))))
theorem ok_add_to (T : Tx K mg) (Y : Ty T base) (hW : WH w) : FnOk P w K mg base CX0 1 T.add_to.a T.add_to.fd ["counts", "cost", "ways"] (spA K LF.f_add_toD false 2) := by
  have scnd := (sc_add_to).nd
  refine def_A T.add_to.F sc_add_to rfl (by decide) fun cdv A outer s H E hr => ?_
  exact b_one (s_dset 0 hr (d_var 1) (PP.xe (d_add (PP.pv (d_get2 hr (d_own 0) (d_var 1) (d_int))) (PP.pv (d_var 2)))))
theorem ok_grown (T : Tx K mg) (Y : Ty T base) (hW : WH w) : FnOk P w K mg base CX0 2 T.grown.a T.grown.fd ["rows", "sort"] (spP K LF.f_grown 2) := by
  have scnd := (sc_grown).nd
  refine def_P T.grown.F sc_grown rfl fun cdv A outer s H E hr => ?_
  exact b_nd 2 rfl scnd PassesOwn.never (i_keysM (d_var 0)) (g_tup rfl (gs_cons (g_one 3 scnd) (gs_cons (g_one 4 scnd) (gs_nil)))) (nn_one (nn_for PassesOwn.never rfl (i_keysM (d_ixD hr (PP.pv (d_var 0)) (PP.pv (d_tup (as_cons (d_var 3) (as_cons (d_var 4) (as_nil))))))) (g_one 5 scnd) (nn_cons (nn_of 2 (s_set 6 (XE.xm (PP.xe (d_call (ok_behind_lamp T Y hW) (hr.mono (by decide)) T.behind_lamp.m T.behind_lamp.F.kp T.behind_lamp.b (as_cons (d_new1 hr (d_tup (as_cons (d_var 3) (as_cons (d_var 4) (as_nil)))) (d_var 5)) (as_cons (d_var 1) (as_nil)))))) scnd))
      (nn_one (nn_for PassesOwn.never rfl (i_keysM (d_var 6)) (g_one 7 scnd) (nn_cons (nn_new 2 hr (d_var 7) (d_var 7))
      (nn_one (nn_add 2 (ok_add_to T Y hW) (hr.mono (by decide)) T.add_to.m T.add_to.F.kp T.add_to.b (d_var 7) (as_cons (d_ixD hr (PP.pv (d_var 6)) (PP.pv (d_var 7))) (as_cons (d_ixD hr (PP.pv (d_ixD hr (PP.pv (d_var 0)) (PP.pv (d_tup (as_cons (d_var 3) (as_cons (d_var 4) (as_nil))))))) (PP.pv (d_var 5))) (as_nil)))))))))))
theorem ok_joined (T : Tx K mg) (Y : Ty T base) (hW : WH w) : FnOk P w K mg base CX0 2 T.joined.a T.joined.fd ["first", "second"] (spP K LF.f_joined 2) := by
  have scnd := (sc_joined).nd
  refine def_P T.joined.F sc_joined rfl fun cdv A outer s H E hr => ?_
  exact b_nd 2 rfl scnd PassesOwn.never (i_seq (d_tup (as_cons (d_var 0) (as_cons (d_var 1) (as_nil))))) (g_one 3 scnd) (nn_one (nn_for PassesOwn.never rfl (i_keysM (d_var 3)) (g_one 4 scnd) (nn_cons (nn_new 2 hr (d_var 4) (d_var 4))
      (nn_one (nn_for PassesOwn.never rfl (i_keysM (d_ixD hr (PP.pv (d_var 3)) (PP.pv (d_var 4)))) (g_one 5 scnd) (nn_one (nn_add 2 (ok_add_to T Y hW) (hr.mono (by decide)) T.add_to.m T.add_to.F.kp T.add_to.b (d_var 4) (as_cons (d_var 5) (as_cons (d_ixD hr (PP.pv (d_ixD hr (PP.pv (d_var 3)) (PP.pv (d_var 4)))) (PP.pv (d_var 5))) (as_nil))))))))))
theorem ok_by_cost (T : Tx K mg) (Y : Ty T base) (hW : WH w) : FnOk P w K mg base CX0 2 T.by_cost.a T.by_cost.fd ["rows"] (spP K LF.f_by_costD 1) := by
  have scnd := (sc_by_cost).nd
  refine def_P T.by_cost.F sc_by_cost rfl fun cdv A outer s H E hr => ?_
  exact b_cons (s_set 1 (m_newK) scnd)
      (b_cons (s_for PassesOwn.never rfl (i_keysM (d_var 0)) (g_one 2 scnd) (b_one (s_for PassesOwn.never rfl (i_keysM (d_ixD hr (PP.pv (d_var 0)) (PP.pv (d_var 2)))) (g_one 3 scnd) (b_one (s_expr (x_callA (i := 1) (t := false) (ok_add_to T Y hW) (hr.mono (by decide)) T.add_to.m T.add_to.F.kp T.add_to.b (pv 1) (as_cons (d_var 3) (as_cons (d_ixD hr (PP.pv (d_ixD hr (PP.pv (d_var 0)) (PP.pv (d_var 2)))) (PP.pv (d_var 3))) (as_nil)))))))))
      (b_one (s_frzD 1 (s_ret (PP.xe (d_tuple T.bt (PP.pv (d_lc0 (own := [("cost", 3)]) rfl scnd (i_rg1 T.bt (d_add (PP.pv (d_vmax rfl hr T.bt (v_keys (d_var 1)))) (PP.pv (d_int)))) (blkOk_by (N := N_by_cost) (sc := defScope s_by_cost) (by decide +kernel)) (fun _ => g_one 3 scnd) (fun _ => d_get2 hr (d_own 1) (d_var 3) (d_int)) (by decide)))))))))
theorem ok_row_deed_counts (T : Tx K mg) (Y : Ty T base) (hW : WH w) : FnOk P w K mg base CX0 3 T.row_deed_counts.a T.row_deed_counts.fd ["many", "burning"] (spP K LF.f_row_deed_counts 2) := by
  have scnd := (sc_row_deed_counts).nd
  refine def_P T.row_deed_counts.F sc_row_deed_counts rfl fun cdv A outer s H E hr => ?_
  exact b_cons (s_expr (PP.xe (d_call (ok_need_many T Y hW) (hr.mono (by decide)) T.need_many.m T.need_many.F.kp T.need_many.b (as_cons (d_var 0) (as_nil)))))
      (b_cons (s_expr (PP.xe (d_call (ok_need_burning T Y hW) (hr.mono (by decide)) T.need_burning.m T.need_burning.F.kp T.need_burning.b (as_cons (d_var 0) (as_cons (d_var 1) (as_nil))))))
      (b_cons (s_set 2 (m_new1 hr (d_tup (as_cons (d_str) (as_cons (d_int) (as_nil)))) (d_newK1 (d_int) (d_int))) scnd)
      (b_cons (s_for PassesOwn.never rfl (i_rg1 T.bt (d_var 0)) (g_one 3 scnd) (b_cons (s_unp rfl (n_cons 4 scnd (n_cons 5 scnd (n_nil))) (PP.xe (d_if (t_cmp (c_in hr (PP.pv (d_var 3)) (PP.pv (d_var 1)))) (d_tup (as_cons (d_str) (as_cons (d_str) (as_nil)))) (d_tup (as_cons (d_str) (as_cons (d_str) (as_nil)))))))
      (b_one (s_frzD 2 (s_set 2 (XE.xm (PP.xe (d_call (ok_joined T Y hW) (hr.mono (by decide)) T.joined.m T.joined.F.kp T.joined.b (as_cons (d_call (ok_grown T Y hW) (hr.mono (by decide)) T.grown.m T.grown.F.kp T.grown.b (as_cons (d_var 2) (as_cons (d_var 4) (as_nil)))) (as_cons (d_call (ok_grown T Y hW) (hr.mono (by decide)) T.grown.m T.grown.F.kp T.grown.b (as_cons (d_var 2) (as_cons (d_var 5) (as_nil)))) (as_nil)))))) scnd)))))
      (b_one (s_frzD 2 (s_ret (PP.xe (d_call (ok_by_cost T Y hW) (hr.mono (by decide)) T.by_cost.m T.by_cost.F.kp T.by_cost.b (as_cons (d_var 2) (as_nil))))))))))
theorem ok_row_pair_counts (T : Tx K mg) (Y : Ty T base) (hW : WH w) : FnOk P w K mg base CX0 3 T.row_pair_counts.a T.row_pair_counts.fd ["many"] (spP K LF.f_row_pair_counts 1) := by
  have scnd := (sc_row_pair_counts).nd
  refine def_P T.row_pair_counts.F sc_row_pair_counts rfl fun cdv A outer s H E hr => ?_
  exact b_cons (s_expr (PP.xe (d_call (ok_need_many T Y hW) (hr.mono (by decide)) T.need_many.m T.need_many.F.kp T.need_many.b (as_cons (d_var 0) (as_nil)))))
      (b_cons (s_set 1 (m_new1 hr (d_tup (as_cons (d_str) (as_cons (d_int) (as_nil)))) (d_newK1 (d_int) (d_int))) scnd)
      (b_cons (s_for PassesOwn.never rfl (i_rg1 T.bt (d_var 0)) (g_one 2 scnd) (b_cons (s_frzD 1 (s_set 3 (XE.xm (PP.xe (d_call (ok_joined T Y hW) (hr.mono (by decide)) T.joined.m T.joined.F.kp T.joined.b (as_cons (d_call (ok_grown T Y hW) (hr.mono (by decide)) T.grown.m T.grown.F.kp T.grown.b (as_cons (d_var 1) (as_cons (d_str) (as_nil)))) (as_cons (d_call (ok_grown T Y hW) (hr.mono (by decide)) T.grown.m T.grown.F.kp T.grown.b (as_cons (d_var 1) (as_cons (d_str) (as_nil)))) (as_nil)))))) scnd))
      (b_one (s_frzD 1 (s_set 1 (XE.xm (PP.xe (d_call (ok_joined T Y hW) (hr.mono (by decide)) T.joined.m T.joined.F.kp T.joined.b (as_cons (d_var 3) (as_cons (d_call (ok_joined T Y hW) (hr.mono (by decide)) T.joined.m T.joined.F.kp T.joined.b (as_cons (d_call (ok_grown T Y hW) (hr.mono (by decide)) T.grown.m T.grown.F.kp T.grown.b (as_cons (d_var 1) (as_cons (d_str) (as_nil)))) (as_cons (d_call (ok_grown T Y hW) (hr.mono (by decide)) T.grown.m T.grown.F.kp T.grown.b (as_cons (d_var 1) (as_cons (d_str) (as_nil)))) (as_nil)))) (as_nil)))))) scnd)))))
      (b_one (s_frzD 1 (s_ret (PP.xe (d_call (ok_by_cost T Y hW) (hr.mono (by decide)) T.by_cost.m T.by_cost.F.kp T.by_cost.b (as_cons (d_var 1) (as_nil)))))))))
theorem ok_row_within (T : Tx K mg) (Y : Ty T base) (hW : WH w) : FnOk P w K mg base CX0 4 T.row_within.a T.row_within.fd ["many", "burning", "most"] (spP K LF.f_row_within 3) := by
  have scnd := (sc_row_within).nd
  refine def_P T.row_within.F sc_row_within rfl fun cdv A outer s H E hr => ?_
  exact b_cons (s_expr (PP.xe (d_call (ok_need_many T Y hW) (hr.mono (by decide)) T.need_many.m T.need_many.F.kp T.need_many.b (as_cons (d_var 0) (as_nil)))))
      (b_cons (s_expr (PP.xe (d_call (ok_need_burning T Y hW) (hr.mono (by decide)) T.need_burning.m T.need_burning.F.kp T.need_burning.b (as_cons (d_var 0) (as_cons (d_var 1) (as_nil))))))
      (b_cons (s_if (PB.xb (t_not (t_val (d_call (ok_is_in T Y hW) (hr.mono (by decide)) T.is_in.m T.is_in.F.kp T.is_in.b (as_cons (d_var 2) (as_cons (d_int) (as_cons (d_mulI (PP.pv (d_int)) (PP.pv (d_var 0))) (as_nil)))))))) (b_one (s_never)) (b_nil))
      (b_one (s_ret (PP.xe (d_sumT rfl T.bt (PP.pv (d_slice (d_call (ok_row_deed_counts T Y hW) (hr.mono (by decide)) T.row_deed_counts.m T.row_deed_counts.F.kp T.row_deed_counts.b (as_cons (d_var 0) (as_cons (d_var 1) (as_nil)))) po_no (po_at (d_add (PP.pv (d_var 2)) (PP.pv (d_int))))))))))))
theorem ok_free_behind (T : Tx K mg) (Y : Ty T base) (hW : WH w) : FnOk P w K mg base CX0 1 T.free_behind.a T.free_behind.fd ["last", "sort"] (spP K LF.f_free_behind 2) := by
  have scnd := (sc_free_behind).nd
  refine def_P T.free_behind.F sc_free_behind rfl fun cdv A outer s H E hr => ?_
  exact b_cons (s_if (PB.xb (t_cmp (c_eq hr (PP.pv (d_var 1)) (PP.pv (d_str))))) (b_one (s_ret (PP.xe (d_if (t_cmp (c_eq hr (PP.pv (d_var 0)) (PP.pv (d_str)))) (d_non) (d_str))))) (b_nil))
      (b_cons (s_if (PB.xb (PWb.pb (w_and (t_cmp (c_eq hr (PP.pv (d_var 1)) (PP.pv (d_str)))) (w_and1 (t_cmp (c_eq hr (PP.pv (d_var 0)) (PP.pv (d_str)))))))) (b_one (s_ret (PP.xe (d_non)))) (b_nil))
      (b_one (s_ret (PP.xe (d_var 1)))))
theorem ok_row_free_count (T : Tx K mg) (Y : Ty T base) (hW : WH w) : FnOk P w K mg base CX0 3 T.row_free_count.a T.row_free_count.fd ["many", "burning"] (spP K LF.f_row_free_countD 2) := by
  have scnd := (sc_row_free_count).nd
  refine def_P T.row_free_count.F sc_row_free_count rfl fun cdv A outer s H E hr => ?_
  exact b_cons (s_expr (PP.xe (d_call (ok_need_many T Y hW) (hr.mono (by decide)) T.need_many.m T.need_many.F.kp T.need_many.b (as_cons (d_var 0) (as_nil)))))
      (b_cons (s_expr (PP.xe (d_call (ok_need_burning T Y hW) (hr.mono (by decide)) T.need_burning.m T.need_burning.F.kp T.need_burning.b (as_cons (d_var 0) (as_cons (d_var 1) (as_nil))))))
      (b_cons (s_set 2 (m_newK1 (d_str) (d_int)) scnd)
      (b_cons (s_for PassesOwn.never rfl (i_rg1 T.bt (d_var 0)) (g_one 3 scnd) (b_cons (s_set 4 (m_newK) scnd)
      (b_cons (s_frzD 2 (s_for PassesOwn.never rfl (i_keysM (d_var 2)) (g_one 5 scnd) (b_one (s_for PassesOwn.never rfl (i_seq (d_if (t_cmp (c_in hr (PP.pv (d_var 3)) (PP.pv (d_var 1)))) (d_tup (as_cons (d_str) (as_cons (d_str) (as_nil)))) (d_tup (as_cons (d_str) (as_cons (d_str) (as_nil)))))) (g_one 6 scnd) (b_cons (s_set 7 (XE.xm (PP.xe (d_call (ok_free_behind T Y hW) (hr.mono (by decide)) T.free_behind.m T.free_behind.F.kp T.free_behind.b (as_cons (d_var 5) (as_cons (d_var 6) (as_nil)))))) scnd)
      (b_one (s_if (PB.xb (t_cmp (c_isn (PP.pv (d_var 7)) (PP.pv (d_non))))) (b_one (s_dset 4 hr (d_var 7) (PP.xe (d_add (PP.pv (d_get2 hr (d_own 4) (d_var 7) (d_int))) (PP.pv (d_ixD hr (d_own 2) (PP.pv (d_var 5)))))))) (b_nil))))))))
      (b_one (s_frzD 4 (s_set 2 (XE.xm (PP.xe (d_var 4))) scnd))))))
      (b_one (s_frzD 2 (s_ret (PP.xe (d_vsum rfl T.bt (v_vals (d_var 2))))))))))
theorem ok_law_alike (T : Tx K mg) (Y : Ty T base) (hW : WH w) : ∀ n : Nat, FnOk P w K mg base CX0 (1 + n) T.law_alike.a T.law_alike.fd ["_law_found", "_law_due"] (spP K (LF.f_law_alike n) 2)
  | 0 => fn_none
  | n + 1 => by
    have hg := ok_law_alike T Y hW n
    have scnd := (sc_law_alike).nd
    refine def_P T.law_alike.F sc_law_alike rfl fun cdv A outer s H E hr => ?_
    exact b_cons (s_if (PB.xb (t_val (d_isa2 (i := "tuple") (j := "list") (by decide) (by decide) boot_tuple boot_list T.bt T.bt.tuple T.bt.list (PP.pv (d_var 1))))) (b_cons (s_if (PB.xb (PWb.pb (w_or (t_not (t_val (d_isa2 (i := "tuple") (j := "list") (by decide) (by decide) boot_tuple boot_list T.bt T.bt.tuple T.bt.list (PP.pv (d_var 0))))) (w_or1 (t_cmp (c_ne hr (PP.pv (d_isa (id := "list") (by decide) boot_list T.bt T.bt.list (PP.pv (d_var 0)))) (PP.pv (d_isa (id := "list") (by decide) boot_list T.bt T.bt.list (PP.pv (d_var 1)))))))))) (b_one (s_ret (PP.xe (d_bl)))) (b_nil))
      (b_cons (s_if (PB.xb (t_cmp (c_ne hr (PP.pv (d_len T.bt (PP.pv (d_var 0)))) (PP.pv (d_len T.bt (PP.pv (d_var 1))))))) (b_one (s_ret (PP.xe (d_bl)))) (b_nil))
      (b_one (s_ret (PP.xe (d_cmp (c_eq hr (PP.pv (d_lc1 (own := [("_law_k", 2)]) rfl scnd (i_rg1 T.bt (d_len T.bt (PP.pv (d_var 1)))) (blkOk_by (N := N_law_alike) (sc := defScope s_law_alike) (by decide +kernel)) (fun _ => g_one 2 scnd) (fun _ => t_not (t_val (d_call hg hr T.law_alike.m T.law_alike.F.kp T.law_alike.b (as_cons (d_ix (PP.pv (d_var 0)) (PP.pv (d_var 2))) (as_cons (d_ix (PP.pv (d_var 1)) (PP.pv (d_var 2))) (as_nil)))))) (fun _ => d_var 2) (by decide))) (PP.pv (d_lst (as_nil)))))))))) (b_nil))
      (b_cons (s_if (PB.xb (PWb.pb (w_or (t_cmp (c_is (PP.pv (d_var 1)) (PP.pv (d_non)))) (w_or1 (t_val (d_isa (id := "str") (by decide) boot_str T.bt T.bt.str (PP.pv (d_var 1)))))))) (b_one (s_ret (PP.xe (d_and (d_cmp (c_eq hr (PP.pv (d_var 0)) (PP.pv (d_var 1)))) (d_one (d_cmp (c_eq hr (PP.pv (d_isa (id := "str") (by decide) boot_str T.bt T.bt.str (PP.pv (d_var 0)))) (PP.pv (d_isa (id := "str") (by decide) boot_str T.bt T.bt.str (PP.pv (d_var 1))))))))))) (b_nil))
      (b_one (s_ret (PP.xe (d_and (d_isa (id := "int") (by decide) boot_int T.bt T.bt.int (PP.pv (d_var 0))) (d_and (d_cmp (c_eq hr (PP.pv (d_isa (id := "bool") (by decide) boot_bool T.bt T.bt.bool (PP.pv (d_var 0)))) (PP.pv (d_isa (id := "bool") (by decide) boot_bool T.bt T.bt.bool (PP.pv (d_var 1)))))) (d_one (d_cmp (c_eq hr (PP.pv (d_var 0)) (PP.pv (d_var 1)))))))))))
theorem ok_law (T : Tx K mg) (Y : Ty T base) (hW : WH w) : FnOk P w K mg base CX0 11 T.law.a T.law.fd ["_law_script"] (spP K LF.f_k34 1) := by
  have scnd := (sc_law).nd
  refine def_P T.law.F sc_law rfl fun cdv A outer s H E hr => ?_
  exact b_cons (s_set 1 (XE.xm (PP.xe (d_lst (as_cons (d_var 0) (as_cons (d_int) (as_cons (d_int) (as_cons (d_int) (as_nil)))))))) scnd)
      (b_cons (s_set 2 (XE.xm (PP.xe (d_tup (as_cons (d_non) (as_cons (d_int) (as_cons (d_int) (as_cons (d_int) (as_nil)))))))) scnd)
      (b_cons (s_set 3 (XE.xm (PP.xe (d_lst (as_cons (d_call (ok_row_spare T Y hW) (hr.mono (by decide)) T.row_spare.m T.row_spare.F.kp T.row_spare.b (as_cons (d_int) (as_cons (d_tup (as_cons (d_int) (as_nil))) (as_cons (d_tup (as_cons (d_int) (as_nil))) (as_nil))))) (as_cons (d_call (ok_row_spare T Y hW) (hr.mono (by decide)) T.row_spare.m T.row_spare.F.kp T.row_spare.b (as_cons (d_int) (as_cons (d_tup (as_nil)) (as_cons (d_tup (as_cons (d_int) (as_nil))) (as_nil))))) (as_cons (d_call (ok_row_spare T Y hW) (hr.mono (by decide)) T.row_spare.m T.row_spare.F.kp T.row_spare.b (as_cons (d_int) (as_cons (d_tup (as_cons (d_int) (as_nil))) (as_cons (d_tup (as_nil)) (as_nil))))) (as_nil))))))) scnd)
      (b_cons (s_set 3 (XE.xm (PP.xe (d_add (PP.pv (d_var 3)) (PP.pv (d_lst (as_cons (d_call (ok_row_fewest T Y hW) (hr.mono (by decide)) T.row_fewest.m T.row_fewest.F.kp T.row_fewest.b (as_cons (d_int) (as_cons (d_tup (as_cons (d_int) (as_nil))) (as_cons (d_tup (as_cons (d_int) (as_nil))) (as_nil))))) (as_cons (d_call (ok_row_fewest T Y hW) (hr.mono (by decide)) T.row_fewest.m T.row_fewest.F.kp T.row_fewest.b (as_cons (d_int) (as_cons (d_tup (as_cons (d_int) (as_nil))) (as_cons (d_tup (as_nil)) (as_nil))))) (as_cons (d_call (ok_row_spare T Y hW) (hr.mono (by decide)) T.row_spare.m T.row_spare.F.kp T.row_spare.b (as_cons (d_int) (as_cons (d_tup (as_cons (d_int) (as_cons (d_int) (as_nil)))) (as_cons (d_tup (as_cons (d_int) (as_cons (d_int) (as_nil)))) (as_nil))))) (as_nil))))))))) scnd)
      (b_cons (s_if (PB.xb (t_not (t_val (d_call (ok_law_alike T Y hW 9) (hr.mono (by decide)) T.law_alike.m T.law_alike.F.kp T.law_alike.b (as_cons (d_var 3) (as_cons (d_lst (as_cons (d_tup (as_cons (d_int) (as_cons (d_int) (as_nil)))) (as_cons (d_tup (as_cons (d_int) (as_cons (d_int) (as_nil)))) (as_cons (d_tup (as_cons (d_int) (as_cons (d_int) (as_nil)))) (as_cons (d_int) (as_cons (d_int) (as_cons (d_tup (as_nil)) (as_nil)))))))) (as_nil))))))) (b_one (s_ret (PP.xe (d_bl)))) (b_nil))
      (b_cons (s_set 3 (XE.xm (PP.xe (d_lst (as_cons (d_call (ok_row_word T Y hW) (hr.mono (by decide)) T.row_word.m T.row_word.F.kp T.row_word.b (as_cons (d_int) (as_cons (d_tup (as_nil)) (as_cons (d_tup (as_cons (d_int) (as_cons (d_int) (as_nil)))) (as_nil))))) (as_cons (d_call (ok_shows_row_word T Y hW) (hr.mono (by decide)) T.shows_row_word.m T.shows_row_word.F.kp T.shows_row_word.b (as_cons (d_int) (as_cons (d_tup (as_cons (d_int) (as_nil))) (as_cons (d_tup (as_cons (d_int) (as_nil))) (as_cons (d_tup (as_cons (d_int) (as_cons (d_int) (as_cons (d_int) (as_cons (d_int) (as_nil)))))) (as_nil)))))) (as_nil)))))) scnd)
      (b_cons (s_set 3 (XE.xm (PP.xe (d_add (PP.pv (d_var 3)) (PP.pv (d_lst (as_cons (d_call (ok_shows_row_word T Y hW) (hr.mono (by decide)) T.shows_row_word.m T.shows_row_word.F.kp T.shows_row_word.b (as_cons (d_int) (as_cons (d_tup (as_cons (d_int) (as_nil))) (as_cons (d_tup (as_cons (d_int) (as_nil))) (as_cons (d_tup (as_cons (d_int) (as_cons (d_int) (as_cons (d_int) (as_cons (d_int) (as_nil)))))) (as_nil)))))) (as_cons (d_call (ok_row_farthest T Y hW) (hr.mono (by decide)) T.row_farthest.m T.row_farthest.F.kp T.row_farthest.b (as_cons (d_int) (as_cons (d_tup (as_nil)) (as_nil)))) (as_cons (d_call (ok_row_widest T Y hW) (hr.mono (by decide)) T.row_widest.m T.row_widest.F.kp T.row_widest.b (as_cons (d_int) (as_nil))) (as_nil))))))))) scnd)
      (b_cons (s_set 3 (XE.xm (PP.xe (d_add (PP.pv (d_var 3)) (PP.pv (d_lst (as_cons (d_call (ok_row_widest T Y hW) (hr.mono (by decide)) T.row_widest.m T.row_widest.F.kp T.row_widest.b (as_cons (d_int) (as_nil))) (as_nil))))))) scnd)
      (b_cons (s_if (PB.xb (t_not (t_val (d_call (ok_law_alike T Y hW 9) (hr.mono (by decide)) T.law_alike.m T.law_alike.F.kp T.law_alike.b (as_cons (d_var 3) (as_cons (d_lst (as_cons (d_tup (as_cons (d_int) (as_cons (d_int) (as_nil)))) (as_cons (d_bl) (as_cons (d_bl) (as_cons (d_int) (as_cons (d_int) (as_cons (d_int) (as_nil)))))))) (as_nil))))))) (b_one (s_ret (PP.xe (d_bl)))) (b_nil))
      (b_cons (s_set 3 (XE.xm (PP.xe (d_lst (as_cons (d_call (ok_row_deed_counts T Y hW) (hr.mono (by decide)) T.row_deed_counts.m T.row_deed_counts.F.kp T.row_deed_counts.b (as_cons (d_int) (as_cons (d_tup (as_nil)) (as_nil)))) (as_cons (d_call (ok_row_pair_counts T Y hW) (hr.mono (by decide)) T.row_pair_counts.m T.row_pair_counts.F.kp T.row_pair_counts.b (as_cons (d_int) (as_nil))) (as_cons (d_call (ok_row_pair_counts T Y hW) (hr.mono (by decide)) T.row_pair_counts.m T.row_pair_counts.F.kp T.row_pair_counts.b (as_cons (d_int) (as_nil))) (as_cons (d_call (ok_row_within T Y hW) (hr.mono (by decide)) T.row_within.m T.row_within.F.kp T.row_within.b (as_cons (d_int) (as_cons (d_tup (as_nil)) (as_cons (d_int) (as_nil))))) (as_nil)))))))) scnd)
      (b_cons (s_set 3 (XE.xm (PP.xe (d_add (PP.pv (d_var 3)) (PP.pv (d_lst (as_cons (d_call (ok_row_free_count T Y hW) (hr.mono (by decide)) T.row_free_count.m T.row_free_count.F.kp T.row_free_count.b (as_cons (d_int) (as_cons (d_tup (as_nil)) (as_nil)))) (as_cons (d_call (ok_row_free_count T Y hW) (hr.mono (by decide)) T.row_free_count.m T.row_free_count.F.kp T.row_free_count.b (as_cons (d_int) (as_cons (d_tup (as_cons (d_int) (as_nil))) (as_nil)))) (as_nil)))))))) scnd)
      (b_cons (s_if (PB.xb (t_not (t_val (d_call (ok_law_alike T Y hW 9) (hr.mono (by decide)) T.law_alike.m T.law_alike.F.kp T.law_alike.b (as_cons (d_var 3) (as_cons (d_lst (as_cons (d_tup (as_cons (d_int) (as_cons (d_int) (as_cons (d_int) (as_cons (d_int) (as_nil)))))) (as_cons (d_tup (as_cons (d_int) (as_cons (d_int) (as_nil)))) (as_cons (d_tup (as_cons (d_int) (as_cons (d_int) (as_cons (d_int) (as_cons (d_int) (as_nil)))))) (as_cons (d_int) (as_cons (d_int) (as_cons (d_int) (as_nil)))))))) (as_nil))))))) (b_one (s_ret (PP.xe (d_bl)))) (b_nil))
      (b_cons (s_set 3 (XE.xm (PP.xe (d_lst (as_cons (d_call (ok_forest_web T Y hW) (hr.mono (by decide)) T.forest_web.m T.forest_web.F.kp T.forest_web.b (as_cons (d_var 2) (as_nil))) (as_cons (d_call (ok_forest_spare T Y hW) (hr.mono (by decide)) T.forest_spare.m T.forest_spare.F.kp T.forest_spare.b (as_cons (d_var 2) (as_cons (d_tup (as_nil)) (as_cons (d_tup (as_cons (d_int) (as_nil))) (as_nil))))) (as_cons (d_call (ok_forest_spare T Y hW) (hr.mono (by decide)) T.forest_spare.m T.forest_spare.F.kp T.forest_spare.b (as_cons (d_var 2) (as_cons (d_tup (as_cons (d_int) (as_nil))) (as_cons (d_tup (as_nil)) (as_nil))))) (as_nil))))))) scnd)
      (b_cons (s_set 3 (XE.xm (PP.xe (d_add (PP.pv (d_var 3)) (PP.pv (d_lst (as_cons (d_call (ok_forest_fewest T Y hW) (hr.mono (by decide)) T.forest_fewest.m T.forest_fewest.F.kp T.forest_fewest.b (as_cons (d_var 2) (as_cons (d_tup (as_cons (d_int) (as_nil))) (as_cons (d_tup (as_nil)) (as_nil))))) (as_cons (d_call (ok_forest_word T Y hW) (hr.mono (by decide)) T.forest_word.m T.forest_word.F.kp T.forest_word.b (as_cons (d_var 2) (as_cons (d_tup (as_nil)) (as_cons (d_tup (as_cons (d_int) (as_cons (d_int) (as_nil)))) (as_nil))))) (as_nil)))))))) scnd)
      (b_cons (s_set 3 (XE.xm (PP.xe (d_add (PP.pv (d_var 3)) (PP.pv (d_lst (as_cons (d_call (ok_shows_forest_word T Y hW) (hr.mono (by decide)) T.shows_forest_word.m T.shows_forest_word.F.kp T.shows_forest_word.b (as_cons (d_var 2) (as_cons (d_tup (as_cons (d_int) (as_nil))) (as_cons (d_tup (as_cons (d_int) (as_cons (d_int) (as_nil)))) (as_cons (d_tup (as_cons (d_int) (as_nil))) (as_nil)))))) (as_nil))))))) scnd)
      (b_cons (s_if (PB.xb (t_not (t_val (d_call (ok_law_alike T Y hW 9) (hr.mono (by decide)) T.law_alike.m T.law_alike.F.kp T.law_alike.b (as_cons (d_var 3) (as_cons (d_lst (as_cons (d_tup (as_cons (d_int) (as_cons (d_tup (as_cons (d_tup (as_cons (d_int) (as_cons (d_int) (as_nil)))) (as_cons (d_tup (as_cons (d_int) (as_cons (d_int) (as_nil)))) (as_cons (d_tup (as_cons (d_int) (as_cons (d_int) (as_nil)))) (as_nil))))) (as_nil)))) (as_cons (d_tup (as_cons (d_int) (as_cons (d_int) (as_cons (d_int) (as_nil))))) (as_cons (d_tup (as_cons (d_int) (as_cons (d_int) (as_cons (d_int) (as_nil))))) (as_cons (d_int) (as_cons (d_tup (as_cons (d_int) (as_cons (d_int) (as_nil)))) (as_cons (d_bl) (as_nil)))))))) (as_nil))))))) (b_one (s_ret (PP.xe (d_bl)))) (b_nil))
      (b_cons (s_set 3 (XE.xm (PP.xe (d_lst (as_cons (d_call (ok_forest_light_ways T Y hW) (hr.mono (by decide)) T.forest_light_ways.m T.forest_light_ways.F.kp T.forest_light_ways.b (as_cons (d_var 2) (as_cons (d_tup (as_nil)) (as_cons (d_tup (as_cons (d_int) (as_cons (d_int) (as_cons (d_int) (as_cons (d_int) (as_nil)))))) (as_nil))))) (as_cons (d_call (ok_forest_light_ways T Y hW) (hr.mono (by decide)) T.forest_light_ways.m T.forest_light_ways.F.kp T.forest_light_ways.b (as_cons (d_var 2) (as_cons (d_tup (as_nil)) (as_cons (d_tup (as_cons (d_int) (as_nil))) (as_nil))))) (as_nil)))))) scnd)
      (b_cons (s_set 3 (XE.xm (PP.xe (d_add (PP.pv (d_var 3)) (PP.pv (d_lst (as_cons (d_call (ok_forest_quench_ways T Y hW) (hr.mono (by decide)) T.forest_quench_ways.m T.forest_quench_ways.F.kp T.forest_quench_ways.b (as_cons (d_var 2) (as_cons (d_tup (as_cons (d_int) (as_cons (d_int) (as_cons (d_int) (as_cons (d_int) (as_nil)))))) (as_cons (d_tup (as_nil)) (as_nil))))) (as_cons (d_call (ok_forest_quench_ways T Y hW) (hr.mono (by decide)) T.forest_quench_ways.m T.forest_quench_ways.F.kp T.forest_quench_ways.b (as_cons (d_var 2) (as_cons (d_tup (as_cons (d_int) (as_cons (d_int) (as_nil)))) (as_cons (d_tup (as_cons (d_int) (as_nil))) (as_nil))))) (as_nil)))))))) scnd)
      (b_cons (s_set 3 (XE.xm (PP.xe (d_add (PP.pv (d_var 3)) (PP.pv (d_lst (as_cons (d_call (ok_forest_light_states T Y hW) (hr.mono (by decide)) T.forest_light_states.m T.forest_light_states.F.kp T.forest_light_states.b (as_cons (d_var 2) (as_cons (d_tup (as_nil)) (as_nil)))) (as_nil))))))) scnd)
      (b_one (s_ret (PP.xe (d_call (ok_law_alike T Y hW 9) (hr.mono (by decide)) T.law_alike.m T.law_alike.F.kp T.law_alike.b (as_cons (d_var 3) (as_cons (d_lst (as_cons (d_int) (as_cons (d_int) (as_cons (d_int) (as_cons (d_int) (as_cons (d_int) (as_nil))))))) (as_nil)))))))))))))))))))))))))
end
end W34
end
section
set_option Elab.async false
set_option linter.all false
set_option maxRecDepth 100000
set_option maxHeartbeats 4000000
namespace W34
open PySem PySem.Spec PyProof.Rows L2 DL
section
def tx_mk {K : PySem.W.Frag} {h : Heap} {mg : Str → Option Value} (X : K.In h) (G : h.Ns mainGlobals mg)
    {t_MOST_LAMPS : Tok} (c_MOST_LAMPS : PySem.W.nsIn K mainGlobals "MOST_LAMPS" = some (some (.int 9 t_MOST_LAMPS)))
    {t_MOST_ROW : Tok} (c_MOST_ROW : PySem.W.nsIn K mainGlobals "MOST_ROW" = some (some (.int 40 t_MOST_ROW)))
    (z_len : PySem.W.nsIn K mainGlobals "len" = some none)
    (z_range : PySem.W.nsIn K mainGlobals "range" = some none)
    (z_int : PySem.W.nsIn K mainGlobals "int" = some none)
    (z_isinstance : PySem.W.nsIn K mainGlobals "isinstance" = some none)
    (z_tuple : PySem.W.nsIn K mainGlobals "tuple" = some none)
    (z_list : PySem.W.nsIn K mainGlobals "list" = some none)
    (z_sorted : PySem.W.nsIn K mainGlobals "sorted" = some none)
    (z_set : PySem.W.nsIn K mainGlobals "set" = some none)
    (z_max : PySem.W.nsIn K mainGlobals "max" = some none)
    (z_min : PySem.W.nsIn K mainGlobals "min" = some none)
    (z_enumerate : PySem.W.nsIn K mainGlobals "enumerate" = some none)
    (z_bool : PySem.W.nsIn K mainGlobals "bool" = some none)
    (z_str : PySem.W.nsIn K mainGlobals "str" = some none)
    (z_sum : PySem.W.nsIn K mainGlobals "sum" = some none)
    (z_zip : PySem.W.nsIn K mainGlobals "zip" = some none)
    (z_dict : PySem.W.nsIn K mainGlobals "dict" = some none)
    (z_abs : PySem.W.nsIn K mainGlobals "abs" = some none)
    {f_is_in : Addr} {od_is_in an_is_in : Option Addr} {sl_is_in : Array (Option Value)} {oc_is_in kV_is_in dc_is_in pm_is_in cd_is_in ct_is_in : Value} (a_is_in : PySem.W.nsIn K mainGlobals "is_in" = some (some (.ref f_is_in))) (l_is_in : K.lookup f_is_in = some ⟨oc_is_in, od_is_in, .func (PySem.W.fnOf "is_in" "is_in" (defArgs s_is_in) (defBody s_is_in) (defScope s_is_in) .none kV_is_in dc_is_in pm_is_in an_is_in cd_is_in ct_is_in), sl_is_in⟩) (c_is_in : PySem.W.codeIn K cd_is_in "is_in" = true) (k_is_in : PySem.W.keepIn K (.ref f_is_in) = true)
    {f_sides : Addr} {od_sides an_sides : Option Addr} {sl_sides : Array (Option Value)} {oc_sides kV_sides dc_sides pm_sides cd_sides ct_sides : Value} (a_sides : PySem.W.nsIn K mainGlobals "sides" = some (some (.ref f_sides))) (l_sides : K.lookup f_sides = some ⟨oc_sides, od_sides, .func (PySem.W.fnOf "sides" "sides" (defArgs s_sides) (defBody s_sides) (defScope s_sides) .none kV_sides dc_sides pm_sides an_sides cd_sides ct_sides), sl_sides⟩) (c_sides : PySem.W.codeIn K cd_sides "sides" = true) (k_sides : PySem.W.keepIn K (.ref f_sides) = true)
    {f_need_many : Addr} {od_need_many an_need_many : Option Addr} {sl_need_many : Array (Option Value)} {oc_need_many kV_need_many dc_need_many pm_need_many cd_need_many ct_need_many : Value} (a_need_many : PySem.W.nsIn K mainGlobals "need_many" = some (some (.ref f_need_many))) (l_need_many : K.lookup f_need_many = some ⟨oc_need_many, od_need_many, .func (PySem.W.fnOf "need_many" "need_many" (defArgs s_need_many) (defBody s_need_many) (defScope s_need_many) .none kV_need_many dc_need_many pm_need_many an_need_many cd_need_many ct_need_many), sl_need_many⟩) (c_need_many : PySem.W.codeIn K cd_need_many "need_many" = true) (k_need_many : PySem.W.keepIn K (.ref f_need_many) = true)
    {f_need_burning : Addr} {od_need_burning an_need_burning : Option Addr} {sl_need_burning : Array (Option Value)} {oc_need_burning kV_need_burning dc_need_burning pm_need_burning cd_need_burning ct_need_burning : Value} (a_need_burning : PySem.W.nsIn K mainGlobals "need_burning" = some (some (.ref f_need_burning))) (l_need_burning : K.lookup f_need_burning = some ⟨oc_need_burning, od_need_burning, .func (PySem.W.fnOf "need_burning" "need_burning" (defArgs s_need_burning) (defBody s_need_burning) (defScope s_need_burning) .none kV_need_burning dc_need_burning pm_need_burning an_need_burning cd_need_burning ct_need_burning), sl_need_burning⟩) (c_need_burning : PySem.W.codeIn K cd_need_burning "need_burning" = true) (k_need_burning : PySem.W.keepIn K (.ref f_need_burning) = true)
    {f_need_two_rows : Addr} {od_need_two_rows an_need_two_rows : Option Addr} {sl_need_two_rows : Array (Option Value)} {oc_need_two_rows kV_need_two_rows dc_need_two_rows pm_need_two_rows cd_need_two_rows ct_need_two_rows : Value} (a_need_two_rows : PySem.W.nsIn K mainGlobals "need_two_rows" = some (some (.ref f_need_two_rows))) (l_need_two_rows : K.lookup f_need_two_rows = some ⟨oc_need_two_rows, od_need_two_rows, .func (PySem.W.fnOf "need_two" "need_two" (defArgs s_need_two_rows) (defBody s_need_two_rows) (defScope s_need_two_rows) .none kV_need_two_rows dc_need_two_rows pm_need_two_rows an_need_two_rows cd_need_two_rows ct_need_two_rows), sl_need_two_rows⟩) (c_need_two_rows : PySem.W.codeIn K cd_need_two_rows "need_two" = true) (k_need_two_rows : PySem.W.keepIn K (.ref f_need_two_rows) = true)
    {f_spare_of_rows : Addr} {od_spare_of_rows an_spare_of_rows : Option Addr} {sl_spare_of_rows : Array (Option Value)} {oc_spare_of_rows kV_spare_of_rows dc_spare_of_rows pm_spare_of_rows cd_spare_of_rows ct_spare_of_rows : Value} (a_spare_of_rows : PySem.W.nsIn K mainGlobals "spare_of_rows" = some (some (.ref f_spare_of_rows))) (l_spare_of_rows : K.lookup f_spare_of_rows = some ⟨oc_spare_of_rows, od_spare_of_rows, .func (PySem.W.fnOf "spare_of" "spare_of" (defArgs s_spare_of_rows) (defBody s_spare_of_rows) (defScope s_spare_of_rows) .none kV_spare_of_rows dc_spare_of_rows pm_spare_of_rows an_spare_of_rows cd_spare_of_rows ct_spare_of_rows), sl_spare_of_rows⟩) (c_spare_of_rows : PySem.W.codeIn K cd_spare_of_rows "spare_of" = true) (k_spare_of_rows : PySem.W.keepIn K (.ref f_spare_of_rows) = true)
    {f_row_spare : Addr} {od_row_spare an_row_spare : Option Addr} {sl_row_spare : Array (Option Value)} {oc_row_spare kV_row_spare dc_row_spare pm_row_spare cd_row_spare ct_row_spare : Value} (a_row_spare : PySem.W.nsIn K mainGlobals "row_spare" = some (some (.ref f_row_spare))) (l_row_spare : K.lookup f_row_spare = some ⟨oc_row_spare, od_row_spare, .func (PySem.W.fnOf "row_spare" "row_spare" (defArgs s_row_spare) (defBody s_row_spare) (defScope s_row_spare) .none kV_row_spare dc_row_spare pm_row_spare an_row_spare cd_row_spare ct_row_spare), sl_row_spare⟩) (c_row_spare : PySem.W.codeIn K cd_row_spare "row_spare" = true) (k_row_spare : PySem.W.keepIn K (.ref f_row_spare) = true)
    {f_word_of_rows : Addr} {od_word_of_rows an_word_of_rows : Option Addr} {sl_word_of_rows : Array (Option Value)} {oc_word_of_rows kV_word_of_rows dc_word_of_rows pm_word_of_rows cd_word_of_rows ct_word_of_rows : Value} (a_word_of_rows : PySem.W.nsIn K mainGlobals "word_of_rows" = some (some (.ref f_word_of_rows))) (l_word_of_rows : K.lookup f_word_of_rows = some ⟨oc_word_of_rows, od_word_of_rows, .func (PySem.W.fnOf "word_of" "word_of" (defArgs s_word_of_rows) (defBody s_word_of_rows) (defScope s_word_of_rows) .none kV_word_of_rows dc_word_of_rows pm_word_of_rows an_word_of_rows cd_word_of_rows ct_word_of_rows), sl_word_of_rows⟩) (c_word_of_rows : PySem.W.codeIn K cd_word_of_rows "word_of" = true) (k_word_of_rows : PySem.W.keepIn K (.ref f_word_of_rows) = true)
    {f_row_fewest : Addr} {od_row_fewest an_row_fewest : Option Addr} {sl_row_fewest : Array (Option Value)} {oc_row_fewest kV_row_fewest dc_row_fewest pm_row_fewest cd_row_fewest ct_row_fewest : Value} (a_row_fewest : PySem.W.nsIn K mainGlobals "row_fewest" = some (some (.ref f_row_fewest))) (l_row_fewest : K.lookup f_row_fewest = some ⟨oc_row_fewest, od_row_fewest, .func (PySem.W.fnOf "row_fewest" "row_fewest" (defArgs s_row_fewest) (defBody s_row_fewest) (defScope s_row_fewest) .none kV_row_fewest dc_row_fewest pm_row_fewest an_row_fewest cd_row_fewest ct_row_fewest), sl_row_fewest⟩) (c_row_fewest : PySem.W.codeIn K cd_row_fewest "row_fewest" = true) (k_row_fewest : PySem.W.keepIn K (.ref f_row_fewest) = true)
    {f_row_word : Addr} {od_row_word an_row_word : Option Addr} {sl_row_word : Array (Option Value)} {oc_row_word kV_row_word dc_row_word pm_row_word cd_row_word ct_row_word : Value} (a_row_word : PySem.W.nsIn K mainGlobals "row_word" = some (some (.ref f_row_word))) (l_row_word : K.lookup f_row_word = some ⟨oc_row_word, od_row_word, .func (PySem.W.fnOf "row_word" "row_word" (defArgs s_row_word) (defBody s_row_word) (defScope s_row_word) .none kV_row_word dc_row_word pm_row_word an_row_word cd_row_word ct_row_word), sl_row_word⟩) (c_row_word : PySem.W.codeIn K cd_row_word "row_word" = true) (k_row_word : PySem.W.keepIn K (.ref f_row_word) = true)
    {f_leads_to_rows : Addr} {od_leads_to_rows an_leads_to_rows : Option Addr} {sl_leads_to_rows : Array (Option Value)} {oc_leads_to_rows kV_leads_to_rows dc_leads_to_rows pm_leads_to_rows cd_leads_to_rows ct_leads_to_rows : Value} (a_leads_to_rows : PySem.W.nsIn K mainGlobals "leads_to_rows" = some (some (.ref f_leads_to_rows))) (l_leads_to_rows : K.lookup f_leads_to_rows = some ⟨oc_leads_to_rows, od_leads_to_rows, .func (PySem.W.fnOf "leads_to" "leads_to" (defArgs s_leads_to_rows) (defBody s_leads_to_rows) (defScope s_leads_to_rows) .none kV_leads_to_rows dc_leads_to_rows pm_leads_to_rows an_leads_to_rows cd_leads_to_rows ct_leads_to_rows), sl_leads_to_rows⟩) (c_leads_to_rows : PySem.W.codeIn K cd_leads_to_rows "leads_to" = true) (k_leads_to_rows : PySem.W.keepIn K (.ref f_leads_to_rows) = true)
    {f_shows_row_word : Addr} {od_shows_row_word an_shows_row_word : Option Addr} {sl_shows_row_word : Array (Option Value)} {oc_shows_row_word kV_shows_row_word dc_shows_row_word pm_shows_row_word cd_shows_row_word ct_shows_row_word : Value} (a_shows_row_word : PySem.W.nsIn K mainGlobals "shows_row_word" = some (some (.ref f_shows_row_word))) (l_shows_row_word : K.lookup f_shows_row_word = some ⟨oc_shows_row_word, od_shows_row_word, .func (PySem.W.fnOf "shows_row_word" "shows_row_word" (defArgs s_shows_row_word) (defBody s_shows_row_word) (defScope s_shows_row_word) .none kV_shows_row_word dc_shows_row_word pm_shows_row_word an_shows_row_word cd_shows_row_word ct_shows_row_word), sl_shows_row_word⟩) (c_shows_row_word : PySem.W.codeIn K cd_shows_row_word "shows_row_word" = true) (k_shows_row_word : PySem.W.keepIn K (.ref f_shows_row_word) = true)
    {f_behind_lamp : Addr} {od_behind_lamp an_behind_lamp : Option Addr} {sl_behind_lamp : Array (Option Value)} {oc_behind_lamp kV_behind_lamp dc_behind_lamp pm_behind_lamp cd_behind_lamp ct_behind_lamp : Value} (a_behind_lamp : PySem.W.nsIn K mainGlobals "behind_lamp" = some (some (.ref f_behind_lamp))) (l_behind_lamp : K.lookup f_behind_lamp = some ⟨oc_behind_lamp, od_behind_lamp, .func (PySem.W.fnOf "behind_lamp" "behind_lamp" (defArgs s_behind_lamp) (defBody s_behind_lamp) (defScope s_behind_lamp) .none kV_behind_lamp dc_behind_lamp pm_behind_lamp an_behind_lamp cd_behind_lamp ct_behind_lamp), sl_behind_lamp⟩) (c_behind_lamp : PySem.W.codeIn K cd_behind_lamp "behind_lamp" = true) (k_behind_lamp : PySem.W.keepIn K (.ref f_behind_lamp) = true)
    {f_greatest : Addr} {od_greatest an_greatest : Option Addr} {sl_greatest : Array (Option Value)} {oc_greatest kV_greatest dc_greatest pm_greatest cd_greatest ct_greatest : Value} (a_greatest : PySem.W.nsIn K mainGlobals "greatest" = some (some (.ref f_greatest))) (l_greatest : K.lookup f_greatest = some ⟨oc_greatest, od_greatest, .func (PySem.W.fnOf "greatest" "greatest" (defArgs s_greatest) (defBody s_greatest) (defScope s_greatest) .none kV_greatest dc_greatest pm_greatest an_greatest cd_greatest ct_greatest), sl_greatest⟩) (c_greatest : PySem.W.codeIn K cd_greatest "greatest" = true) (k_greatest : PySem.W.keepIn K (.ref f_greatest) = true)
    {f_row_farthest : Addr} {od_row_farthest an_row_farthest : Option Addr} {sl_row_farthest : Array (Option Value)} {oc_row_farthest kV_row_farthest dc_row_farthest pm_row_farthest cd_row_farthest ct_row_farthest : Value} (a_row_farthest : PySem.W.nsIn K mainGlobals "row_farthest" = some (some (.ref f_row_farthest))) (l_row_farthest : K.lookup f_row_farthest = some ⟨oc_row_farthest, od_row_farthest, .func (PySem.W.fnOf "row_farthest" "row_farthest" (defArgs s_row_farthest) (defBody s_row_farthest) (defScope s_row_farthest) .none kV_row_farthest dc_row_farthest pm_row_farthest an_row_farthest cd_row_farthest ct_row_farthest), sl_row_farthest⟩) (c_row_farthest : PySem.W.codeIn K cd_row_farthest "row_farthest" = true) (k_row_farthest : PySem.W.keepIn K (.ref f_row_farthest) = true)
    {f_row_widest : Addr} {od_row_widest an_row_widest : Option Addr} {sl_row_widest : Array (Option Value)} {oc_row_widest kV_row_widest dc_row_widest pm_row_widest cd_row_widest ct_row_widest : Value} (a_row_widest : PySem.W.nsIn K mainGlobals "row_widest" = some (some (.ref f_row_widest))) (l_row_widest : K.lookup f_row_widest = some ⟨oc_row_widest, od_row_widest, .func (PySem.W.fnOf "row_widest" "row_widest" (defArgs s_row_widest) (defBody s_row_widest) (defScope s_row_widest) .none kV_row_widest dc_row_widest pm_row_widest an_row_widest cd_row_widest ct_row_widest), sl_row_widest⟩) (c_row_widest : PySem.W.codeIn K cd_row_widest "row_widest" = true) (k_row_widest : PySem.W.keepIn K (.ref f_row_widest) = true)
    {f_need_parents : Addr} {od_need_parents an_need_parents : Option Addr} {sl_need_parents : Array (Option Value)} {oc_need_parents kV_need_parents dc_need_parents pm_need_parents cd_need_parents ct_need_parents : Value} (a_need_parents : PySem.W.nsIn K mainGlobals "need_parents" = some (some (.ref f_need_parents))) (l_need_parents : K.lookup f_need_parents = some ⟨oc_need_parents, od_need_parents, .func (PySem.W.fnOf "need_parents" "need_parents" (defArgs s_need_parents) (defBody s_need_parents) (defScope s_need_parents) .none kV_need_parents dc_need_parents pm_need_parents an_need_parents cd_need_parents ct_need_parents), sl_need_parents⟩) (c_need_parents : PySem.W.codeIn K cd_need_parents "need_parents" = true) (k_need_parents : PySem.W.keepIn K (.ref f_need_parents) = true)
    {f_children : Addr} {od_children an_children : Option Addr} {sl_children : Array (Option Value)} {oc_children kV_children dc_children pm_children cd_children ct_children : Value} (a_children : PySem.W.nsIn K mainGlobals "children" = some (some (.ref f_children))) (l_children : K.lookup f_children = some ⟨oc_children, od_children, .func (PySem.W.fnOf "children" "children" (defArgs s_children) (defBody s_children) (defScope s_children) .none kV_children dc_children pm_children an_children cd_children ct_children), sl_children⟩) (c_children : PySem.W.codeIn K cd_children "children" = true) (k_children : PySem.W.keepIn K (.ref f_children) = true)
    {f_forest_web : Addr} {od_forest_web an_forest_web : Option Addr} {sl_forest_web : Array (Option Value)} {oc_forest_web kV_forest_web dc_forest_web pm_forest_web cd_forest_web ct_forest_web : Value} (a_forest_web : PySem.W.nsIn K mainGlobals "forest_web" = some (some (.ref f_forest_web))) (l_forest_web : K.lookup f_forest_web = some ⟨oc_forest_web, od_forest_web, .func (PySem.W.fnOf "forest_web" "forest_web" (defArgs s_forest_web) (defBody s_forest_web) (defScope s_forest_web) .none kV_forest_web dc_forest_web pm_forest_web an_forest_web cd_forest_web ct_forest_web), sl_forest_web⟩) (c_forest_web : PySem.W.codeIn K cd_forest_web "forest_web" = true) (k_forest_web : PySem.W.keepIn K (.ref f_forest_web) = true)
    {f_need_two_forests : Addr} {od_need_two_forests an_need_two_forests : Option Addr} {sl_need_two_forests : Array (Option Value)} {oc_need_two_forests kV_need_two_forests dc_need_two_forests pm_need_two_forests cd_need_two_forests ct_need_two_forests : Value} (a_need_two_forests : PySem.W.nsIn K mainGlobals "need_two_forests" = some (some (.ref f_need_two_forests))) (l_need_two_forests : K.lookup f_need_two_forests = some ⟨oc_need_two_forests, od_need_two_forests, .func (PySem.W.fnOf "need_two" "need_two" (defArgs s_need_two_forests) (defBody s_need_two_forests) (defScope s_need_two_forests) .none kV_need_two_forests dc_need_two_forests pm_need_two_forests an_need_two_forests cd_need_two_forests ct_need_two_forests), sl_need_two_forests⟩) (c_need_two_forests : PySem.W.codeIn K cd_need_two_forests "need_two" = true) (k_need_two_forests : PySem.W.keepIn K (.ref f_need_two_forests) = true)
    {f_spare_of_forests : Addr} {od_spare_of_forests an_spare_of_forests : Option Addr} {sl_spare_of_forests : Array (Option Value)} {oc_spare_of_forests kV_spare_of_forests dc_spare_of_forests pm_spare_of_forests cd_spare_of_forests ct_spare_of_forests : Value} (a_spare_of_forests : PySem.W.nsIn K mainGlobals "spare_of_forests" = some (some (.ref f_spare_of_forests))) (l_spare_of_forests : K.lookup f_spare_of_forests = some ⟨oc_spare_of_forests, od_spare_of_forests, .func (PySem.W.fnOf "spare_of" "spare_of" (defArgs s_spare_of_forests) (defBody s_spare_of_forests) (defScope s_spare_of_forests) .none kV_spare_of_forests dc_spare_of_forests pm_spare_of_forests an_spare_of_forests cd_spare_of_forests ct_spare_of_forests), sl_spare_of_forests⟩) (c_spare_of_forests : PySem.W.codeIn K cd_spare_of_forests "spare_of" = true) (k_spare_of_forests : PySem.W.keepIn K (.ref f_spare_of_forests) = true)
    {f_forest_spare : Addr} {od_forest_spare an_forest_spare : Option Addr} {sl_forest_spare : Array (Option Value)} {oc_forest_spare kV_forest_spare dc_forest_spare pm_forest_spare cd_forest_spare ct_forest_spare : Value} (a_forest_spare : PySem.W.nsIn K mainGlobals "forest_spare" = some (some (.ref f_forest_spare))) (l_forest_spare : K.lookup f_forest_spare = some ⟨oc_forest_spare, od_forest_spare, .func (PySem.W.fnOf "forest_spare" "forest_spare" (defArgs s_forest_spare) (defBody s_forest_spare) (defScope s_forest_spare) .none kV_forest_spare dc_forest_spare pm_forest_spare an_forest_spare cd_forest_spare ct_forest_spare), sl_forest_spare⟩) (c_forest_spare : PySem.W.codeIn K cd_forest_spare "forest_spare" = true) (k_forest_spare : PySem.W.keepIn K (.ref f_forest_spare) = true)
    {f_word_of_forests : Addr} {od_word_of_forests an_word_of_forests : Option Addr} {sl_word_of_forests : Array (Option Value)} {oc_word_of_forests kV_word_of_forests dc_word_of_forests pm_word_of_forests cd_word_of_forests ct_word_of_forests : Value} (a_word_of_forests : PySem.W.nsIn K mainGlobals "word_of_forests" = some (some (.ref f_word_of_forests))) (l_word_of_forests : K.lookup f_word_of_forests = some ⟨oc_word_of_forests, od_word_of_forests, .func (PySem.W.fnOf "word_of" "word_of" (defArgs s_word_of_forests) (defBody s_word_of_forests) (defScope s_word_of_forests) .none kV_word_of_forests dc_word_of_forests pm_word_of_forests an_word_of_forests cd_word_of_forests ct_word_of_forests), sl_word_of_forests⟩) (c_word_of_forests : PySem.W.codeIn K cd_word_of_forests "word_of" = true) (k_word_of_forests : PySem.W.keepIn K (.ref f_word_of_forests) = true)
    {f_forest_fewest : Addr} {od_forest_fewest an_forest_fewest : Option Addr} {sl_forest_fewest : Array (Option Value)} {oc_forest_fewest kV_forest_fewest dc_forest_fewest pm_forest_fewest cd_forest_fewest ct_forest_fewest : Value} (a_forest_fewest : PySem.W.nsIn K mainGlobals "forest_fewest" = some (some (.ref f_forest_fewest))) (l_forest_fewest : K.lookup f_forest_fewest = some ⟨oc_forest_fewest, od_forest_fewest, .func (PySem.W.fnOf "forest_fewest" "forest_fewest" (defArgs s_forest_fewest) (defBody s_forest_fewest) (defScope s_forest_fewest) .none kV_forest_fewest dc_forest_fewest pm_forest_fewest an_forest_fewest cd_forest_fewest ct_forest_fewest), sl_forest_fewest⟩) (c_forest_fewest : PySem.W.codeIn K cd_forest_fewest "forest_fewest" = true) (k_forest_fewest : PySem.W.keepIn K (.ref f_forest_fewest) = true)
    {f_forest_word : Addr} {od_forest_word an_forest_word : Option Addr} {sl_forest_word : Array (Option Value)} {oc_forest_word kV_forest_word dc_forest_word pm_forest_word cd_forest_word ct_forest_word : Value} (a_forest_word : PySem.W.nsIn K mainGlobals "forest_word" = some (some (.ref f_forest_word))) (l_forest_word : K.lookup f_forest_word = some ⟨oc_forest_word, od_forest_word, .func (PySem.W.fnOf "forest_word" "forest_word" (defArgs s_forest_word) (defBody s_forest_word) (defScope s_forest_word) .none kV_forest_word dc_forest_word pm_forest_word an_forest_word cd_forest_word ct_forest_word), sl_forest_word⟩) (c_forest_word : PySem.W.codeIn K cd_forest_word "forest_word" = true) (k_forest_word : PySem.W.keepIn K (.ref f_forest_word) = true)
    {f_leads_to_forests : Addr} {od_leads_to_forests an_leads_to_forests : Option Addr} {sl_leads_to_forests : Array (Option Value)} {oc_leads_to_forests kV_leads_to_forests dc_leads_to_forests pm_leads_to_forests cd_leads_to_forests ct_leads_to_forests : Value} (a_leads_to_forests : PySem.W.nsIn K mainGlobals "leads_to_forests" = some (some (.ref f_leads_to_forests))) (l_leads_to_forests : K.lookup f_leads_to_forests = some ⟨oc_leads_to_forests, od_leads_to_forests, .func (PySem.W.fnOf "leads_to" "leads_to" (defArgs s_leads_to_forests) (defBody s_leads_to_forests) (defScope s_leads_to_forests) .none kV_leads_to_forests dc_leads_to_forests pm_leads_to_forests an_leads_to_forests cd_leads_to_forests ct_leads_to_forests), sl_leads_to_forests⟩) (c_leads_to_forests : PySem.W.codeIn K cd_leads_to_forests "leads_to" = true) (k_leads_to_forests : PySem.W.keepIn K (.ref f_leads_to_forests) = true)
    {f_shows_forest_word : Addr} {od_shows_forest_word an_shows_forest_word : Option Addr} {sl_shows_forest_word : Array (Option Value)} {oc_shows_forest_word kV_shows_forest_word dc_shows_forest_word pm_shows_forest_word cd_shows_forest_word ct_shows_forest_word : Value} (a_shows_forest_word : PySem.W.nsIn K mainGlobals "shows_forest_word" = some (some (.ref f_shows_forest_word))) (l_shows_forest_word : K.lookup f_shows_forest_word = some ⟨oc_shows_forest_word, od_shows_forest_word, .func (PySem.W.fnOf "shows_forest_word" "shows_forest_word" (defArgs s_shows_forest_word) (defBody s_shows_forest_word) (defScope s_shows_forest_word) .none kV_shows_forest_word dc_shows_forest_word pm_shows_forest_word an_shows_forest_word cd_shows_forest_word ct_shows_forest_word), sl_shows_forest_word⟩) (c_shows_forest_word : PySem.W.codeIn K cd_shows_forest_word "shows_forest_word" = true) (k_shows_forest_word : PySem.W.keepIn K (.ref f_shows_forest_word) = true)
    {f_forest_light_ways : Addr} {od_forest_light_ways an_forest_light_ways : Option Addr} {sl_forest_light_ways : Array (Option Value)} {oc_forest_light_ways kV_forest_light_ways dc_forest_light_ways pm_forest_light_ways cd_forest_light_ways ct_forest_light_ways : Value} (a_forest_light_ways : PySem.W.nsIn K mainGlobals "forest_light_ways" = some (some (.ref f_forest_light_ways))) (l_forest_light_ways : K.lookup f_forest_light_ways = some ⟨oc_forest_light_ways, od_forest_light_ways, .func (PySem.W.fnOf "forest_light_ways" "forest_light_ways" (defArgs s_forest_light_ways) (defBody s_forest_light_ways) (defScope s_forest_light_ways) .none kV_forest_light_ways dc_forest_light_ways pm_forest_light_ways an_forest_light_ways cd_forest_light_ways ct_forest_light_ways), sl_forest_light_ways⟩) (c_forest_light_ways : PySem.W.codeIn K cd_forest_light_ways "forest_light_ways" = true) (k_forest_light_ways : PySem.W.keepIn K (.ref f_forest_light_ways) = true)
    {f_forest_quench_ways : Addr} {od_forest_quench_ways an_forest_quench_ways : Option Addr} {sl_forest_quench_ways : Array (Option Value)} {oc_forest_quench_ways kV_forest_quench_ways dc_forest_quench_ways pm_forest_quench_ways cd_forest_quench_ways ct_forest_quench_ways : Value} (a_forest_quench_ways : PySem.W.nsIn K mainGlobals "forest_quench_ways" = some (some (.ref f_forest_quench_ways))) (l_forest_quench_ways : K.lookup f_forest_quench_ways = some ⟨oc_forest_quench_ways, od_forest_quench_ways, .func (PySem.W.fnOf "forest_quench_ways" "forest_quench_ways" (defArgs s_forest_quench_ways) (defBody s_forest_quench_ways) (defScope s_forest_quench_ways) .none kV_forest_quench_ways dc_forest_quench_ways pm_forest_quench_ways an_forest_quench_ways cd_forest_quench_ways ct_forest_quench_ways), sl_forest_quench_ways⟩) (c_forest_quench_ways : PySem.W.codeIn K cd_forest_quench_ways "forest_quench_ways" = true) (k_forest_quench_ways : PySem.W.keepIn K (.ref f_forest_quench_ways) = true)
    {f_forest_light_states : Addr} {od_forest_light_states an_forest_light_states : Option Addr} {sl_forest_light_states : Array (Option Value)} {oc_forest_light_states kV_forest_light_states dc_forest_light_states pm_forest_light_states cd_forest_light_states ct_forest_light_states : Value} (a_forest_light_states : PySem.W.nsIn K mainGlobals "forest_light_states" = some (some (.ref f_forest_light_states))) (l_forest_light_states : K.lookup f_forest_light_states = some ⟨oc_forest_light_states, od_forest_light_states, .func (PySem.W.fnOf "forest_light_states" "forest_light_states" (defArgs s_forest_light_states) (defBody s_forest_light_states) (defScope s_forest_light_states) .none kV_forest_light_states dc_forest_light_states pm_forest_light_states an_forest_light_states cd_forest_light_states ct_forest_light_states), sl_forest_light_states⟩) (c_forest_light_states : PySem.W.codeIn K cd_forest_light_states "forest_light_states" = true) (k_forest_light_states : PySem.W.keepIn K (.ref f_forest_light_states) = true)
    {f_add_to : Addr} {od_add_to an_add_to : Option Addr} {sl_add_to : Array (Option Value)} {oc_add_to kV_add_to dc_add_to pm_add_to cd_add_to ct_add_to : Value} (a_add_to : PySem.W.nsIn K mainGlobals "add_to" = some (some (.ref f_add_to))) (l_add_to : K.lookup f_add_to = some ⟨oc_add_to, od_add_to, .func (PySem.W.fnOf "add_to" "add_to" (defArgs s_add_to) (defBody s_add_to) (defScope s_add_to) .none kV_add_to dc_add_to pm_add_to an_add_to cd_add_to ct_add_to), sl_add_to⟩) (c_add_to : PySem.W.codeIn K cd_add_to "add_to" = true) (k_add_to : PySem.W.keepIn K (.ref f_add_to) = true)
    {f_grown : Addr} {od_grown an_grown : Option Addr} {sl_grown : Array (Option Value)} {oc_grown kV_grown dc_grown pm_grown cd_grown ct_grown : Value} (a_grown : PySem.W.nsIn K mainGlobals "grown" = some (some (.ref f_grown))) (l_grown : K.lookup f_grown = some ⟨oc_grown, od_grown, .func (PySem.W.fnOf "grown" "grown" (defArgs s_grown) (defBody s_grown) (defScope s_grown) .none kV_grown dc_grown pm_grown an_grown cd_grown ct_grown), sl_grown⟩) (c_grown : PySem.W.codeIn K cd_grown "grown" = true) (k_grown : PySem.W.keepIn K (.ref f_grown) = true)
    {f_joined : Addr} {od_joined an_joined : Option Addr} {sl_joined : Array (Option Value)} {oc_joined kV_joined dc_joined pm_joined cd_joined ct_joined : Value} (a_joined : PySem.W.nsIn K mainGlobals "joined" = some (some (.ref f_joined))) (l_joined : K.lookup f_joined = some ⟨oc_joined, od_joined, .func (PySem.W.fnOf "joined" "joined" (defArgs s_joined) (defBody s_joined) (defScope s_joined) .none kV_joined dc_joined pm_joined an_joined cd_joined ct_joined), sl_joined⟩) (c_joined : PySem.W.codeIn K cd_joined "joined" = true) (k_joined : PySem.W.keepIn K (.ref f_joined) = true)
    {f_by_cost : Addr} {od_by_cost an_by_cost : Option Addr} {sl_by_cost : Array (Option Value)} {oc_by_cost kV_by_cost dc_by_cost pm_by_cost cd_by_cost ct_by_cost : Value} (a_by_cost : PySem.W.nsIn K mainGlobals "by_cost" = some (some (.ref f_by_cost))) (l_by_cost : K.lookup f_by_cost = some ⟨oc_by_cost, od_by_cost, .func (PySem.W.fnOf "by_cost" "by_cost" (defArgs s_by_cost) (defBody s_by_cost) (defScope s_by_cost) .none kV_by_cost dc_by_cost pm_by_cost an_by_cost cd_by_cost ct_by_cost), sl_by_cost⟩) (c_by_cost : PySem.W.codeIn K cd_by_cost "by_cost" = true) (k_by_cost : PySem.W.keepIn K (.ref f_by_cost) = true)
    {f_row_deed_counts : Addr} {od_row_deed_counts an_row_deed_counts : Option Addr} {sl_row_deed_counts : Array (Option Value)} {oc_row_deed_counts kV_row_deed_counts dc_row_deed_counts pm_row_deed_counts cd_row_deed_counts ct_row_deed_counts : Value} (a_row_deed_counts : PySem.W.nsIn K mainGlobals "row_deed_counts" = some (some (.ref f_row_deed_counts))) (l_row_deed_counts : K.lookup f_row_deed_counts = some ⟨oc_row_deed_counts, od_row_deed_counts, .func (PySem.W.fnOf "row_deed_counts" "row_deed_counts" (defArgs s_row_deed_counts) (defBody s_row_deed_counts) (defScope s_row_deed_counts) .none kV_row_deed_counts dc_row_deed_counts pm_row_deed_counts an_row_deed_counts cd_row_deed_counts ct_row_deed_counts), sl_row_deed_counts⟩) (c_row_deed_counts : PySem.W.codeIn K cd_row_deed_counts "row_deed_counts" = true) (k_row_deed_counts : PySem.W.keepIn K (.ref f_row_deed_counts) = true)
    {f_row_pair_counts : Addr} {od_row_pair_counts an_row_pair_counts : Option Addr} {sl_row_pair_counts : Array (Option Value)} {oc_row_pair_counts kV_row_pair_counts dc_row_pair_counts pm_row_pair_counts cd_row_pair_counts ct_row_pair_counts : Value} (a_row_pair_counts : PySem.W.nsIn K mainGlobals "row_pair_counts" = some (some (.ref f_row_pair_counts))) (l_row_pair_counts : K.lookup f_row_pair_counts = some ⟨oc_row_pair_counts, od_row_pair_counts, .func (PySem.W.fnOf "row_pair_counts" "row_pair_counts" (defArgs s_row_pair_counts) (defBody s_row_pair_counts) (defScope s_row_pair_counts) .none kV_row_pair_counts dc_row_pair_counts pm_row_pair_counts an_row_pair_counts cd_row_pair_counts ct_row_pair_counts), sl_row_pair_counts⟩) (c_row_pair_counts : PySem.W.codeIn K cd_row_pair_counts "row_pair_counts" = true) (k_row_pair_counts : PySem.W.keepIn K (.ref f_row_pair_counts) = true)
    {f_row_within : Addr} {od_row_within an_row_within : Option Addr} {sl_row_within : Array (Option Value)} {oc_row_within kV_row_within dc_row_within pm_row_within cd_row_within ct_row_within : Value} (a_row_within : PySem.W.nsIn K mainGlobals "row_within" = some (some (.ref f_row_within))) (l_row_within : K.lookup f_row_within = some ⟨oc_row_within, od_row_within, .func (PySem.W.fnOf "row_within" "row_within" (defArgs s_row_within) (defBody s_row_within) (defScope s_row_within) .none kV_row_within dc_row_within pm_row_within an_row_within cd_row_within ct_row_within), sl_row_within⟩) (c_row_within : PySem.W.codeIn K cd_row_within "row_within" = true) (k_row_within : PySem.W.keepIn K (.ref f_row_within) = true)
    {f_free_behind : Addr} {od_free_behind an_free_behind : Option Addr} {sl_free_behind : Array (Option Value)} {oc_free_behind kV_free_behind dc_free_behind pm_free_behind cd_free_behind ct_free_behind : Value} (a_free_behind : PySem.W.nsIn K mainGlobals "free_behind" = some (some (.ref f_free_behind))) (l_free_behind : K.lookup f_free_behind = some ⟨oc_free_behind, od_free_behind, .func (PySem.W.fnOf "free_behind" "free_behind" (defArgs s_free_behind) (defBody s_free_behind) (defScope s_free_behind) .none kV_free_behind dc_free_behind pm_free_behind an_free_behind cd_free_behind ct_free_behind), sl_free_behind⟩) (c_free_behind : PySem.W.codeIn K cd_free_behind "free_behind" = true) (k_free_behind : PySem.W.keepIn K (.ref f_free_behind) = true)
    {f_row_free_count : Addr} {od_row_free_count an_row_free_count : Option Addr} {sl_row_free_count : Array (Option Value)} {oc_row_free_count kV_row_free_count dc_row_free_count pm_row_free_count cd_row_free_count ct_row_free_count : Value} (a_row_free_count : PySem.W.nsIn K mainGlobals "row_free_count" = some (some (.ref f_row_free_count))) (l_row_free_count : K.lookup f_row_free_count = some ⟨oc_row_free_count, od_row_free_count, .func (PySem.W.fnOf "row_free_count" "row_free_count" (defArgs s_row_free_count) (defBody s_row_free_count) (defScope s_row_free_count) .none kV_row_free_count dc_row_free_count pm_row_free_count an_row_free_count cd_row_free_count ct_row_free_count), sl_row_free_count⟩) (c_row_free_count : PySem.W.codeIn K cd_row_free_count "row_free_count" = true) (k_row_free_count : PySem.W.keepIn K (.ref f_row_free_count) = true)
    {f_law_alike : Addr} {od_law_alike an_law_alike : Option Addr} {sl_law_alike : Array (Option Value)} {oc_law_alike kV_law_alike dc_law_alike pm_law_alike cd_law_alike ct_law_alike : Value} (a_law_alike : PySem.W.nsIn K mainGlobals "_law_alike" = some (some (.ref f_law_alike))) (l_law_alike : K.lookup f_law_alike = some ⟨oc_law_alike, od_law_alike, .func (PySem.W.fnOf "_law_alike" "_law_alike" (defArgs s_law_alike) (defBody s_law_alike) (defScope s_law_alike) .none kV_law_alike dc_law_alike pm_law_alike an_law_alike cd_law_alike ct_law_alike), sl_law_alike⟩) (c_law_alike : PySem.W.codeIn K cd_law_alike "_law_alike" = true) (k_law_alike : PySem.W.keepIn K (.ref f_law_alike) = true)
    {f_law : Addr} {od_law an_law : Option Addr} {sl_law : Array (Option Value)} {oc_law kV_law dc_law pm_law cd_law ct_law : Value} (a_law : PySem.W.nsIn K mainGlobals "law" = some (some (.ref f_law))) (l_law : K.lookup f_law = some ⟨oc_law, od_law, .func (PySem.W.fnOf "law" "law" (defArgs s_law) (defBody s_law) (defScope s_law) .none kV_law dc_law pm_law an_law cd_law ct_law), sl_law⟩) (c_law : PySem.W.codeIn K cd_law "law" = true) (k_law : PySem.W.keepIn K (.ref f_law) = true) : Tx K mg where
  bt := ⟨PySem.W.mg_none_of X G z_len, PySem.W.mg_none_of X G z_range, PySem.W.mg_none_of X G z_int, PySem.W.mg_none_of X G z_isinstance, PySem.W.mg_none_of X G z_tuple, PySem.W.mg_none_of X G z_list, PySem.W.mg_none_of X G z_sorted, PySem.W.mg_none_of X G z_set, PySem.W.mg_none_of X G z_max, PySem.W.mg_none_of X G z_min, PySem.W.mg_none_of X G z_enumerate, PySem.W.mg_none_of X G z_bool, PySem.W.mg_none_of X G z_str, PySem.W.mg_none_of X G z_sum, PySem.W.mg_none_of X G z_zip, PySem.W.mg_none_of X G z_dict, PySem.W.mg_none_of X G z_abs⟩
  t_MOST_LAMPS := t_MOST_LAMPS
  c_MOST_LAMPS := PySem.W.mg_of X G c_MOST_LAMPS
  t_MOST_ROW := t_MOST_ROW
  c_MOST_ROW := PySem.W.mg_of X G c_MOST_ROW
  is_in := def_mk X G (fun _ _ _ _ _ _ us hl => match us, hl with | [_, _, _], _ => rfl) a_is_in l_is_in c_is_in k_is_in
  sides := def_mk X G (fun _ _ _ _ _ _ us hl => match us, hl with | [_, _], _ => rfl) a_sides l_sides c_sides k_sides
  need_many := def_mk X G (fun _ _ _ _ _ _ us hl => match us, hl with | [_], _ => rfl) a_need_many l_need_many c_need_many k_need_many
  need_burning := def_mk X G (fun _ _ _ _ _ _ us hl => match us, hl with | [_, _], _ => rfl) a_need_burning l_need_burning c_need_burning k_need_burning
  need_two_rows := def_mk X G (fun _ _ _ _ _ _ us hl => match us, hl with | [_, _, _], _ => rfl) a_need_two_rows l_need_two_rows c_need_two_rows k_need_two_rows
  spare_of_rows := def_mk X G (fun _ _ _ _ _ _ us hl => match us, hl with | [_, _, _], _ => rfl) a_spare_of_rows l_spare_of_rows c_spare_of_rows k_spare_of_rows
  row_spare := def_mk X G (fun _ _ _ _ _ _ us hl => match us, hl with | [_, _, _], _ => rfl) a_row_spare l_row_spare c_row_spare k_row_spare
  word_of_rows := def_mk X G (fun _ _ _ _ _ _ us hl => match us, hl with | [_, _, _], _ => rfl) a_word_of_rows l_word_of_rows c_word_of_rows k_word_of_rows
  row_fewest := def_mk X G (fun _ _ _ _ _ _ us hl => match us, hl with | [_, _, _], _ => rfl) a_row_fewest l_row_fewest c_row_fewest k_row_fewest
  row_word := def_mk X G (fun _ _ _ _ _ _ us hl => match us, hl with | [_, _, _], _ => rfl) a_row_word l_row_word c_row_word k_row_word
  leads_to_rows := def_mk X G (fun _ _ _ _ _ _ us hl => match us, hl with | [_, _, _], _ => rfl) a_leads_to_rows l_leads_to_rows c_leads_to_rows k_leads_to_rows
  shows_row_word := def_mk X G (fun _ _ _ _ _ _ us hl => match us, hl with | [_, _, _, _], _ => rfl) a_shows_row_word l_shows_row_word c_shows_row_word k_shows_row_word
  behind_lamp := def_mk X G (fun _ _ _ _ _ _ us hl => match us, hl with | [_, _], _ => rfl) a_behind_lamp l_behind_lamp c_behind_lamp k_behind_lamp
  greatest := def_mk X G (fun _ _ _ _ _ _ us hl => match us, hl with | [_, _], _ => rfl) a_greatest l_greatest c_greatest k_greatest
  row_farthest := def_mk X G (fun _ _ _ _ _ _ us hl => match us, hl with | [_, _], _ => rfl) a_row_farthest l_row_farthest c_row_farthest k_row_farthest
  row_widest := def_mk X G (fun _ _ _ _ _ _ us hl => match us, hl with | [_], _ => rfl) a_row_widest l_row_widest c_row_widest k_row_widest
  need_parents := def_mk X G (fun _ _ _ _ _ _ us hl => match us, hl with | [_], _ => rfl) a_need_parents l_need_parents c_need_parents k_need_parents
  children := def_mk X G (fun _ _ _ _ _ _ us hl => match us, hl with | [_, _], _ => rfl) a_children l_children c_children k_children
  forest_web := def_mk X G (fun _ _ _ _ _ _ us hl => match us, hl with | [_], _ => rfl) a_forest_web l_forest_web c_forest_web k_forest_web
  need_two_forests := def_mk X G (fun _ _ _ _ _ _ us hl => match us, hl with | [_, _, _], _ => rfl) a_need_two_forests l_need_two_forests c_need_two_forests k_need_two_forests
  spare_of_forests := def_mk X G (fun _ _ _ _ _ _ us hl => match us, hl with | [_, _, _], _ => rfl) a_spare_of_forests l_spare_of_forests c_spare_of_forests k_spare_of_forests
  forest_spare := def_mk X G (fun _ _ _ _ _ _ us hl => match us, hl with | [_, _, _], _ => rfl) a_forest_spare l_forest_spare c_forest_spare k_forest_spare
  word_of_forests := def_mk X G (fun _ _ _ _ _ _ us hl => match us, hl with | [_, _, _], _ => rfl) a_word_of_forests l_word_of_forests c_word_of_forests k_word_of_forests
  forest_fewest := def_mk X G (fun _ _ _ _ _ _ us hl => match us, hl with | [_, _, _], _ => rfl) a_forest_fewest l_forest_fewest c_forest_fewest k_forest_fewest
  forest_word := def_mk X G (fun _ _ _ _ _ _ us hl => match us, hl with | [_, _, _], _ => rfl) a_forest_word l_forest_word c_forest_word k_forest_word
  leads_to_forests := def_mk X G (fun _ _ _ _ _ _ us hl => match us, hl with | [_, _, _], _ => rfl) a_leads_to_forests l_leads_to_forests c_leads_to_forests k_leads_to_forests
  shows_forest_word := def_mk X G (fun _ _ _ _ _ _ us hl => match us, hl with | [_, _, _, _], _ => rfl) a_shows_forest_word l_shows_forest_word c_shows_forest_word k_shows_forest_word
  forest_light_ways := def_mk X G (fun _ _ _ _ _ _ us hl => match us, hl with | [_, _, _], _ => rfl) a_forest_light_ways l_forest_light_ways c_forest_light_ways k_forest_light_ways
  forest_quench_ways := def_mk X G (fun _ _ _ _ _ _ us hl => match us, hl with | [_, _, _], _ => rfl) a_forest_quench_ways l_forest_quench_ways c_forest_quench_ways k_forest_quench_ways
  forest_light_states := def_mk X G (fun _ _ _ _ _ _ us hl => match us, hl with | [_, _], _ => rfl) a_forest_light_states l_forest_light_states c_forest_light_states k_forest_light_states
  add_to := def_mk X G (fun _ _ _ _ _ _ us hl => match us, hl with | [_, _, _], _ => rfl) a_add_to l_add_to c_add_to k_add_to
  grown := def_mk X G (fun _ _ _ _ _ _ us hl => match us, hl with | [_, _], _ => rfl) a_grown l_grown c_grown k_grown
  joined := def_mk X G (fun _ _ _ _ _ _ us hl => match us, hl with | [_, _], _ => rfl) a_joined l_joined c_joined k_joined
  by_cost := def_mk X G (fun _ _ _ _ _ _ us hl => match us, hl with | [_], _ => rfl) a_by_cost l_by_cost c_by_cost k_by_cost
  row_deed_counts := def_mk X G (fun _ _ _ _ _ _ us hl => match us, hl with | [_, _], _ => rfl) a_row_deed_counts l_row_deed_counts c_row_deed_counts k_row_deed_counts
  row_pair_counts := def_mk X G (fun _ _ _ _ _ _ us hl => match us, hl with | [_], _ => rfl) a_row_pair_counts l_row_pair_counts c_row_pair_counts k_row_pair_counts
  row_within := def_mk X G (fun _ _ _ _ _ _ us hl => match us, hl with | [_, _, _], _ => rfl) a_row_within l_row_within c_row_within k_row_within
  free_behind := def_mk X G (fun _ _ _ _ _ _ us hl => match us, hl with | [_, _], _ => rfl) a_free_behind l_free_behind c_free_behind k_free_behind
  row_free_count := def_mk X G (fun _ _ _ _ _ _ us hl => match us, hl with | [_, _], _ => rfl) a_row_free_count l_row_free_count c_row_free_count k_row_free_count
  law_alike := def_mk X G (fun _ _ _ _ _ _ us hl => match us, hl with | [_, _], _ => rfl) a_law_alike l_law_alike c_law_alike k_law_alike
  law := def_mk X G (fun _ _ _ _ _ _ us hl => match us, hl with | [_], _ => rfl) a_law l_law c_law k_law
theorem law_F {l : PySem.W.OpenLaw} {w : World} {K : PySem.W.Frag} {mg : Str → Option Value} {fa : Addr} {h : Heap} (T : Tx K mg) (KX : K.In h) (G : h.Ns mainGlobals mg) (hmg : mg "law" = some (.ref fa)) {f_row_farthest c_row_farthest P_row_farthest : Addr} {oc_row_farthest cl_row_farthest : Value} {od_row_farthest dd_row_farthest : Option Addr} {osl_row_farthest sl_row_farthest : Array (Option Value)} {fd_row_farthest : FuncData} {vs_row_farthest : Array Value} (ta_row_farthest : PySem.W.nsIn K mainGlobals "row_farthest" = some (some (.ref f_row_farthest))) (tl_row_farthest : K.lookup f_row_farthest = some ⟨oc_row_farthest, od_row_farthest, .func fd_row_farthest, osl_row_farthest⟩) (tc_row_farthest : fd_row_farthest.code = .ref c_row_farthest) (tk_row_farthest : K.lookup c_row_farthest = some ⟨cl_row_farthest, dd_row_farthest, .fields vs_row_farthest, sl_row_farthest⟩) (tp_row_farthest : vs_row_farthest[11]? = some (.ref P_row_farthest)) (r_row_farthest : PySem.W.codeHdIn K c_row_farthest P_row_farthest = true) (g_row_farthest : h.get? P_row_farthest = some (PySem.W.tabObj #[])) (p_row_farthest : K.lookup P_row_farthest = none) {f_row_widest c_row_widest P_row_widest : Addr} {oc_row_widest cl_row_widest : Value} {od_row_widest dd_row_widest : Option Addr} {osl_row_widest sl_row_widest : Array (Option Value)} {fd_row_widest : FuncData} {vs_row_widest : Array Value} (ta_row_widest : PySem.W.nsIn K mainGlobals "row_widest" = some (some (.ref f_row_widest))) (tl_row_widest : K.lookup f_row_widest = some ⟨oc_row_widest, od_row_widest, .func fd_row_widest, osl_row_widest⟩) (tc_row_widest : fd_row_widest.code = .ref c_row_widest) (tk_row_widest : K.lookup c_row_widest = some ⟨cl_row_widest, dd_row_widest, .fields vs_row_widest, sl_row_widest⟩) (tp_row_widest : vs_row_widest[11]? = some (.ref P_row_widest)) (r_row_widest : PySem.W.codeHdIn K c_row_widest P_row_widest = true) (g_row_widest : h.get? P_row_widest = some (PySem.W.tabObj #[])) (p_row_widest : K.lookup P_row_widest = none) (nn_0_1 : P_row_farthest ≠ P_row_widest) : LamX.LawAtS l w K CX0 11 63 "_law_script" mg fa h := by
  have e := hmg.symm.trans T.law.m
  cases e
  have all : ∀ {φ : Addr × Addr × Str → Prop}, φ (c_row_farthest, P_row_farthest, ("row_farthest" ++ ".<locals>." ++ "<lambda>" : Str)) → φ (c_row_widest, P_row_widest, ("row_widest" ++ ".<locals>." ++ "<lambda>" : Str)) → ∀ t ∈ [(c_row_farthest, P_row_farthest, ("row_farthest" ++ ".<locals>." ++ "<lambda>" : Str)), (c_row_widest, P_row_widest, ("row_widest" ++ ".<locals>." ++ "<lambda>" : Str))], φ t := fun h0 h1 t ht => by
    rcases List.mem_cons.mp ht with rfl | ht
    · exact h0
    rw [List.mem_singleton.mp ht]
    exact h1
  refine law_tabs [(c_row_farthest, P_row_farthest, ("row_farthest" ++ ".<locals>." ++ "<lambda>" : Str)), (c_row_widest, P_row_widest, ("row_widest" ++ ".<locals>." ++ "<lambda>" : Str))] (all ⟨PySem.W.codeHd_of_K KX r_row_farthest, g_row_farthest⟩ ⟨PySem.W.codeHd_of_K KX r_row_widest, g_row_widest⟩) (all p_row_farthest p_row_widest) (fun s v => .of_eq (T.law.bb [v] rfl)) LF.true_k34 fun base hTB => ?_
  letI : TabT := tabsT w [(c_row_farthest, P_row_farthest, ("row_farthest" ++ ".<locals>." ++ "<lambda>" : Str)), (c_row_widest, P_row_widest, ("row_widest" ++ ".<locals>." ++ "<lambda>" : Str))]
  exact ok_law T ⟨lamF_of2 KX G ta_row_farthest T.row_farthest.m tl_row_farthest tc_row_farthest (hTB _ (List.mem_cons_self)) (tabs_in (List.mem_cons_self)) (tabs_one (all (.inl rfl) (.inr (fun z => nn_0_1 z.symm)))), lamF_of2 KX G ta_row_widest T.row_widest.m tl_row_widest tc_row_widest (hTB _ ((List.mem_cons_of_mem _ List.mem_cons_self))) (tabs_in ((List.mem_cons_of_mem _ List.mem_cons_self))) (tabs_one (all (.inr nn_0_1) (.inl rfl)))⟩ (wh_tabs w [(c_row_farthest, P_row_farthest, ("row_farthest" ++ ".<locals>." ++ "<lambda>" : Str)), (c_row_widest, P_row_widest, ("row_widest" ++ ".<locals>." ++ "<lambda>" : Str))])
end
end W34
end
open PySem PySem.W PyProof.Rows
set_option maxHeartbeats 0 in
theorem PySem.Challenge.cw_handons_k34_known_rows_holds : PySem.Challenge.rw_handons_k34_known_rows.Holds := by
  w_on; o_law; k_head; (case hw => w_witness2)
  k_fill
  refine LamX.walk_ofTs (l := PySem.Challenge.rw_handons_k34_known_rows) (n := 63) (k := 11) (x := "_law_script") (CX := fun _ => L2.CX0) rfl (by decide) rfl ⟨rfl, by decide, by decide⟩ (fun w h Y => PySem.W.km_in_of Y) ?F (fun _ _ _ _ _ h => h)
  case F =>
    intro w mg fa h Y KX G hmg
    refine' W34.law_F (W34.tx_mk KX G ?c_MOST_LAMPS ?c_MOST_ROW ?z_len ?z_range ?z_int ?z_isinstance ?z_tuple ?z_list ?z_sorted ?z_set ?z_max ?z_min ?z_enumerate ?z_bool ?z_str ?z_sum ?z_zip ?z_dict ?z_abs ?a_is_in ?l_is_in ?c_is_in ?k_is_in ?a_sides ?l_sides ?c_sides ?k_sides ?a_need_many ?l_need_many ?c_need_many ?k_need_many ?a_need_burning ?l_need_burning ?c_need_burning ?k_need_burning ?a_need_two_rows ?l_need_two_rows ?c_need_two_rows ?k_need_two_rows ?a_spare_of_rows ?l_spare_of_rows ?c_spare_of_rows ?k_spare_of_rows ?a_row_spare ?l_row_spare ?c_row_spare ?k_row_spare ?a_word_of_rows ?l_word_of_rows ?c_word_of_rows ?k_word_of_rows ?a_row_fewest ?l_row_fewest ?c_row_fewest ?k_row_fewest ?a_row_word ?l_row_word ?c_row_word ?k_row_word ?a_leads_to_rows ?l_leads_to_rows ?c_leads_to_rows ?k_leads_to_rows ?a_shows_row_word ?l_shows_row_word ?c_shows_row_word ?k_shows_row_word ?a_behind_lamp ?l_behind_lamp ?c_behind_lamp ?k_behind_lamp ?a_greatest ?l_greatest ?c_greatest ?k_greatest ?a_row_farthest ?l_row_farthest ?c_row_farthest ?k_row_farthest ?a_row_widest ?l_row_widest ?c_row_widest ?k_row_widest ?a_need_parents ?l_need_parents ?c_need_parents ?k_need_parents ?a_children ?l_children ?c_children ?k_children ?a_forest_web ?l_forest_web ?c_forest_web ?k_forest_web ?a_need_two_forests ?l_need_two_forests ?c_need_two_forests ?k_need_two_forests ?a_spare_of_forests ?l_spare_of_forests ?c_spare_of_forests ?k_spare_of_forests ?a_forest_spare ?l_forest_spare ?c_forest_spare ?k_forest_spare ?a_word_of_forests ?l_word_of_forests ?c_word_of_forests ?k_word_of_forests ?a_forest_fewest ?l_forest_fewest ?c_forest_fewest ?k_forest_fewest ?a_forest_word ?l_forest_word ?c_forest_word ?k_forest_word ?a_leads_to_forests ?l_leads_to_forests ?c_leads_to_forests ?k_leads_to_forests ?a_shows_forest_word ?l_shows_forest_word ?c_shows_forest_word ?k_shows_forest_word ?a_forest_light_ways ?l_forest_light_ways ?c_forest_light_ways ?k_forest_light_ways ?a_forest_quench_ways ?l_forest_quench_ways ?c_forest_quench_ways ?k_forest_quench_ways ?a_forest_light_states ?l_forest_light_states ?c_forest_light_states ?k_forest_light_states ?a_add_to ?l_add_to ?c_add_to ?k_add_to ?a_grown ?l_grown ?c_grown ?k_grown ?a_joined ?l_joined ?c_joined ?k_joined ?a_by_cost ?l_by_cost ?c_by_cost ?k_by_cost ?a_row_deed_counts ?l_row_deed_counts ?c_row_deed_counts ?k_row_deed_counts ?a_row_pair_counts ?l_row_pair_counts ?c_row_pair_counts ?k_row_pair_counts ?a_row_within ?l_row_within ?c_row_within ?k_row_within ?a_free_behind ?l_free_behind ?c_free_behind ?k_free_behind ?a_row_free_count ?l_row_free_count ?c_row_free_count ?k_row_free_count ?a_law_alike ?l_law_alike ?c_law_alike ?k_law_alike ?a_law ?l_law ?c_law ?k_law) KX G hmg ?ta_row_farthest ?tl_row_farthest ?tc_row_farthest ?tk_row_farthest ?tp_row_farthest ?rr_row_farthest ?gg_row_farthest ?pp_row_farthest ?ta_row_widest ?tl_row_widest ?tc_row_widest ?tk_row_widest ?tp_row_widest ?rr_row_widest ?gg_row_widest ?pp_row_widest ?nn_0_1
    (case c_MOST_LAMPS => k_is)
    (case c_MOST_ROW => k_is)
    (case z_len => k_is)
    (case z_range => k_is)
    (case z_int => k_is)
    (case z_isinstance => k_is)
    (case z_tuple => k_is)
    (case z_list => k_is)
    (case z_sorted => k_is)
    (case z_set => k_is)
    (case z_max => k_is)
    (case z_min => k_is)
    (case z_enumerate => k_is)
    (case z_bool => k_is)
    (case z_str => k_is)
    (case z_sum => k_is)
    (case z_zip => k_is)
    (case z_dict => k_is)
    (case z_abs => k_is)
    (case a_is_in => k_is)
    (case l_is_in => k_is)
    (case c_is_in => k_is)
    (case k_is_in => k_is)
    (case a_sides => k_is)
    (case l_sides => k_is)
    (case c_sides => k_is)
    (case k_sides => k_is)
    (case a_need_many => k_is)
    (case l_need_many => k_is)
    (case c_need_many => k_is)
    (case k_need_many => k_is)
    (case a_need_burning => k_is)
    (case l_need_burning => k_is)
    (case c_need_burning => k_is)
    (case k_need_burning => k_is)
    (case a_need_two_rows => k_is)
    (case l_need_two_rows => k_is)
    (case c_need_two_rows => k_is)
    (case k_need_two_rows => k_is)
    (case a_spare_of_rows => k_is)
    (case l_spare_of_rows => k_is)
    (case c_spare_of_rows => k_is)
    (case k_spare_of_rows => k_is)
    (case a_row_spare => k_is)
    (case l_row_spare => k_is)
    (case c_row_spare => k_is)
    (case k_row_spare => k_is)
    (case a_word_of_rows => k_is)
    (case l_word_of_rows => k_is)
    (case c_word_of_rows => k_is)
    (case k_word_of_rows => k_is)
    (case a_row_fewest => k_is)
    (case l_row_fewest => k_is)
    (case c_row_fewest => k_is)
    (case k_row_fewest => k_is)
    (case a_row_word => k_is)
    (case l_row_word => k_is)
    (case c_row_word => k_is)
    (case k_row_word => k_is)
    (case a_leads_to_rows => k_is)
    (case l_leads_to_rows => k_is)
    (case c_leads_to_rows => k_is)
    (case k_leads_to_rows => k_is)
    (case a_shows_row_word => k_is)
    (case l_shows_row_word => k_is)
    (case c_shows_row_word => k_is)
    (case k_shows_row_word => k_is)
    (case a_behind_lamp => k_is)
    (case l_behind_lamp => k_is)
    (case c_behind_lamp => k_is)
    (case k_behind_lamp => k_is)
    (case a_greatest => k_is)
    (case l_greatest => k_is)
    (case c_greatest => k_is)
    (case k_greatest => k_is)
    (case a_row_farthest => k_is)
    (case l_row_farthest => k_is)
    (case c_row_farthest => k_is)
    (case k_row_farthest => k_is)
    (case a_row_widest => k_is)
    (case l_row_widest => k_is)
    (case c_row_widest => k_is)
    (case k_row_widest => k_is)
    (case a_need_parents => k_is)
    (case l_need_parents => k_is)
    (case c_need_parents => k_is)
    (case k_need_parents => k_is)
    (case a_children => k_is)
    (case l_children => k_is)
    (case c_children => k_is)
    (case k_children => k_is)
    (case a_forest_web => k_is)
    (case l_forest_web => k_is)
    (case c_forest_web => k_is)
    (case k_forest_web => k_is)
    (case a_need_two_forests => k_is)
    (case l_need_two_forests => k_is)
    (case c_need_two_forests => k_is)
    (case k_need_two_forests => k_is)
    (case a_spare_of_forests => k_is)
    (case l_spare_of_forests => k_is)
    (case c_spare_of_forests => k_is)
    (case k_spare_of_forests => k_is)
    (case a_forest_spare => k_is)
    (case l_forest_spare => k_is)
    (case c_forest_spare => k_is)
    (case k_forest_spare => k_is)
    (case a_word_of_forests => k_is)
    (case l_word_of_forests => k_is)
    (case c_word_of_forests => k_is)
    (case k_word_of_forests => k_is)
    (case a_forest_fewest => k_is)
    (case l_forest_fewest => k_is)
    (case c_forest_fewest => k_is)
    (case k_forest_fewest => k_is)
    (case a_forest_word => k_is)
    (case l_forest_word => k_is)
    (case c_forest_word => k_is)
    (case k_forest_word => k_is)
    (case a_leads_to_forests => k_is)
    (case l_leads_to_forests => k_is)
    (case c_leads_to_forests => k_is)
    (case k_leads_to_forests => k_is)
    (case a_shows_forest_word => k_is)
    (case l_shows_forest_word => k_is)
    (case c_shows_forest_word => k_is)
    (case k_shows_forest_word => k_is)
    (case a_forest_light_ways => k_is)
    (case l_forest_light_ways => k_is)
    (case c_forest_light_ways => k_is)
    (case k_forest_light_ways => k_is)
    (case a_forest_quench_ways => k_is)
    (case l_forest_quench_ways => k_is)
    (case c_forest_quench_ways => k_is)
    (case k_forest_quench_ways => k_is)
    (case a_forest_light_states => k_is)
    (case l_forest_light_states => k_is)
    (case c_forest_light_states => k_is)
    (case k_forest_light_states => k_is)
    (case a_add_to => k_is)
    (case l_add_to => k_is)
    (case c_add_to => k_is)
    (case k_add_to => k_is)
    (case a_grown => k_is)
    (case l_grown => k_is)
    (case c_grown => k_is)
    (case k_grown => k_is)
    (case a_joined => k_is)
    (case l_joined => k_is)
    (case c_joined => k_is)
    (case k_joined => k_is)
    (case a_by_cost => k_is)
    (case l_by_cost => k_is)
    (case c_by_cost => k_is)
    (case k_by_cost => k_is)
    (case a_row_deed_counts => k_is)
    (case l_row_deed_counts => k_is)
    (case c_row_deed_counts => k_is)
    (case k_row_deed_counts => k_is)
    (case a_row_pair_counts => k_is)
    (case l_row_pair_counts => k_is)
    (case c_row_pair_counts => k_is)
    (case k_row_pair_counts => k_is)
    (case a_row_within => k_is)
    (case l_row_within => k_is)
    (case c_row_within => k_is)
    (case k_row_within => k_is)
    (case a_free_behind => k_is)
    (case l_free_behind => k_is)
    (case c_free_behind => k_is)
    (case k_free_behind => k_is)
    (case a_row_free_count => k_is)
    (case l_row_free_count => k_is)
    (case c_row_free_count => k_is)
    (case k_row_free_count => k_is)
    (case a_law_alike => k_is)
    (case l_law_alike => k_is)
    (case c_law_alike => k_is)
    (case k_law_alike => k_is)
    (case a_law => k_is)
    (case l_law => k_is)
    (case c_law => k_is)
    (case k_law => k_is)
    (case ta_row_farthest => k_is)
    (case tl_row_farthest => k_is)
    (case tc_row_farthest => rfl)
    (case tk_row_farthest => k_is)
    (case tp_row_farthest => first | rfl | kernel_rfl)
    (case rr_row_farthest => first | kernel_rfl | rfl | k_is)
    (case gg_row_farthest => exact PySem.W.km_tabs_of Y _ (by first | decide | simp))
    (case pp_row_farthest => first | kernel_rfl | rfl | k_is)
    (case ta_row_widest => k_is)
    (case tl_row_widest => k_is)
    (case tc_row_widest => rfl)
    (case tk_row_widest => k_is)
    (case tp_row_widest => first | rfl | kernel_rfl)
    (case rr_row_widest => first | kernel_rfl | rfl | k_is)
    (case gg_row_widest => exact PySem.W.km_tabs_of Y _ (by first | decide | simp))
    (case pp_row_widest => first | kernel_rfl | rfl | k_is)
    (case nn_0_1 => decide)
