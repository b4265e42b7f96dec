import PyProof.Rows.All
import Wide.All
import OpenK.AllK
import Wide.FinOn
import HandS.ForMost
import HandS.Walk
import HandS.TupAny
import HandS.TupLe
import HandS.Deep
import HandS.Style
import HandS.Wide
import HandS.TupMul
import HandS.Flow
import HandS.IsInst
import KE.KDictKeyed
import KE.KRevSl
import KE.KSortTupG
import PyProof.StrOps2
import HandS.More
import HandS.Conv
import HandS.Set
import HandS.SetKeys
import PyProof.Rows.SetFrom
import PyProof.Rows.SortStr
import HandS.SetFor
import PyProof.Rows.SortShellAny
import HandS.Star
import HandS.FStr
import PyProof.SetRoads
import KE.GoesEnum
import KE.KDictDisplayH
import HandS.DictComp
import HandS.RevRange
import HandS.Words
import HandS.Ends
import PySem.Challenge.RW_dialplans_k01_exchanges_recognized
set_option Elab.async false
set_option linter.all false
set_option maxRecDepth 100000
set_option maxHeartbeats 4000000
namespace HT
open PySem PySem.Spec PyProof.Rows
section
variable {prog : Program} {w : World} {A : Around} {E : Value → Shared → Prop} {s : Shared}
theorem rev_places (n : Nat) : Builtin.Slice.sliceAdjust none none (-1) (n : Int) = ((n : Int) - 1, -1) ∧ Builtin.Slice.slicePlaces ((n : Int) - 1) (-1) (-1) = n := by
  refine ⟨?_, ?_⟩
  · unfold Builtin.Slice.sliceAdjust
    simp
  · unfold Builtin.Slice.slicePlaces
    have h1 : ¬ ((-1 : Int) > 0) := by omega
    simp only [h1, if_false]
    have e : ((n : Int) - 1 - -1 - 1) / - -1 = (n : Int) - 1 := by
      rw [show (- -1 : Int) = 1 from rfl, Int.ediv_one]
      omega
    rw [e]
    split <;> omega
theorem fmap_some {α β : Type} {f : α → Option β} {g : α → β} : ∀ {l : List α}, (∀ m ∈ l, f m = some (g m)) → l.filterMap f = l.map g
  | [], _ => rfl
  | a :: l, h => by
    rw [List.filterMap_cons, h a List.mem_cons_self, List.map_cons, fmap_some fun m hm => h m (List.mem_cons_of_mem _ hm)]
theorem sliceApplied_rev {sl : Addr} {vs : Value} {n : Nat} {Q : Int × Int × Nat → Shared → Prop} (hs : s.heap.IsSliceOf sl .none .none vs) (ps : IsPart vs (some (-1)))
    (h : Q ((n : Int) - 1, -1, n) s) : wpAny (model prog w) A (Builtin.Slice.sliceApplied (.ref sl) (pure (n : Int))) Q E s := by
  obtain ⟨os, hos, hcs, hds⟩ := id hs
  unfold Builtin.Slice.sliceApplied Builtin.Slice.sliceFields
  refine wpAny_bind (wpAny_bind (wpAny_field hos hds (x := .none) rfl (wpAny_bind (wpAny_field hos hds (x := .none) rfl (wpAny_bind (wpAny_field hos hds (x := vs) rfl (wpAny_pure ?_)))))))
  refine wpAny_bind (slicePart_ ps ?_)
  show wpAny _ _ (if ((-1 : Int) == 0) = true then _ else _) _ _ s
  rw [if_neg (by decide)]
  refine wpAny_bind (slicePart_none (wpAny_bind (slicePart_none (wpAny_bind (wpAny_pure ?_)))))
  show wpAny _ _ (match Builtin.Slice.sliceAdjust none none (-1) (n : Int) with | (lo, hi) => pure (lo, (-1 : Int), Builtin.Slice.slicePlaces lo hi (-1))) _ _ s
  rw [(rev_places n).1]
  show wpAny _ _ (pure ((n : Int) - 1, (-1 : Int), Builtin.Slice.slicePlaces ((n : Int) - 1) (-1) (-1))) _ _ s
  rw [(rev_places n).2]
  exact wpAny_pure h
theorem pick_rev (xs : Array Value) : ((List.range xs.size).filterMap fun (m : Nat) => xs[(((xs.size : Int) - 1) + (m : Int) * (-1)).toNat]?).toArray = xs.toList.reverse.toArray := by
  congr 1
  apply List.ext_getElem?
  intro i
  have e : ((List.range xs.size).filterMap fun (m : Nat) => xs[(((xs.size : Int) - 1) + (m : Int) * (-1)).toNat]?) = (List.range xs.size).map fun m => xs.toList.reverse[m]?.getD .none := by
    refine fmap_some fun m hm => ?_
    have hm := List.mem_range.mp hm
    have e1 : (((xs.size : Int) - 1) + (m : Int) * (-1)).toNat = xs.size - 1 - m := by omega
    have hl : m < xs.toList.length := by simpa using hm
    rw [e1, List.getElem?_reverse hl]
    have h2 : xs.size - 1 - m < xs.size := by omega
    simp [h2]
  rw [e, List.getElem?_map]
  by_cases hi : i < xs.size
  · rw [List.getElem?_range hi]
    have : i < xs.toList.reverse.length := by simpa using hi
    rw [List.getElem?_eq_getElem this, Option.map_some, List.getElem?_eq_getElem this]
    rfl
  · rw [List.getElem?_eq_none (by simp; omega), List.getElem?_eq_none (by simp; omega)]
    rfl
theorem getItem_tuple_rev {t sl : Addr} {items : Array Value} {vs : Value} {Q : Value → Shared → Prop} (ht : IsTup s.heap t items) (hs : s.heap.IsSliceOf sl .none .none vs) (ps : IsPart vs (some (-1)))
    (h : Q (.ref s.heap.objs.size) { s with heap := s.heap.push { cls := .type "tuple", data := .seq items.toList.reverse.toArray } })
    (hsz : items.size ≤ sizeLine) : wpAny (model prog w) A (getItem (.ref t) (.ref sl)) Q E s := by
  have htake : sizeOk (.seq items.toList.reverse.toArray) := by
    show items.toList.reverse.toArray.size ≤ sizeLine
    simpa using hsz
  obtain ⟨os, hos, hcs, hds⟩ := id hs
  have hTs : s.TypeIs (.ref sl) "slice" := ⟨os, hos, hcs⟩
  unfold getItem
  try with_reducible refine wpAny_holding ?_
  first | refine wpAny_bind (wpAny_pure ?_) | skip
  refine wpAny_bind (wpAny_sequenceKey ht.typeIs (by decide) ?_)
  refine wpAny_bind (wpAny_callSpecial?_slot (name := Str.ofString "__getitem__") ht.typeIs PyProof.Rows.slot_tuple_getitem
    (wpAny_call_entry PyProof.Rows.slot_tuple_getitem ht.typeIs entry_tuple_getitem ?_ (args_tuple_getitem _ _)))
  show wpAny _ _ (Builtin.Tuple.tupleItemsOf (.ref t) >>= _) _ _ s
  refine wpAny_bind (tupleItemsOf_ ht ?_)
  refine wpAny_bind (wpAny_typeOf hTs ?_)
  rw [if_pos (by decide)]
  refine wpAny_bind (sliceApplied_rev hs ps ?_)
  have hno : ¬ ((((items.size : Int) - 1) == 0 && (-1 : Int) == 1 && items.size == items.size) = true) := by
    intro q
    rw [Bool.and_eq_true, Bool.and_eq_true] at q
    exact absurd q.1.2 (by decide)
  show wpAny _ _ (if (((items.size : Int) - 1) == 0 && (-1 : Int) == 1 && items.size == items.size) = true then _ else _) _ _ s
  rw [if_neg hno, pick_rev]
  first
    | exact wpAny_bind (m := Builtin.Tuple.tupleExact _) (wpAny_newObj_type (wpAny_pure ⟨_, rfl, wpAny_pure h⟩) htake)
    | exact wpAny_bind (m := Builtin.Tuple.tupleExact _) (wpAny_newObj_type (wpAny_bind (wpAny_pure (wpAny_pure ⟨_, rfl, wpAny_pure h⟩))) htake)
    | exact wpAny_bind (wpAny_bind (m := Builtin.Tuple.tupleExact _) (wpAny_newObj_type (wpAny_pure (wpAny_pure ⟨_, rfl, wpAny_pure h⟩)) htake))
    | exact wpAny_bind (wpAny_bind (m := Builtin.Tuple.tupleExact _) (wpAny_newObj_type (wpAny_pure ⟨_, rfl, wpAny_pure h⟩) htake))
end
end HT

namespace L2
open PySem PySem.Spec PyProof.Rows
section
variable {X : Cx}
/-- s[::-1] of a list, a tuple -/
def tRevA (K : PySem.W.Frag) (te : TE) : TE := fun σ H Q => te σ H fun x H1 => ∃ a xs, x = .ref a ∧ ((SqL K H1 a xs ∧ ∀ p, H1 p = none → Q (.ref p) (upd H1 p (.lst xs.reverse))) ∨ (SqT K H1 a xs ∧ ∀ p, H1 p = none → Q (.ref p) (upd H1 p (.tup xs.reverse))))
theorem pe_revA {e : Expr} {te : TE} {k : Nat} {p1 p2 p3 pos : Pos} (he : PE X e te) : PE X (.Subscript e (.Slice none none (some (.UnaryOp .USub (.Constant (.int 1) k p1) p2)) p3) pos) (tRevA X.K te) := by
  refine ⟨fun pins s σ H Q I h => ?_⟩
  refine Subscript_ (thn (he.run pins s σ H _ I h) fun v s1 ⟨x, H1, I1, r1, q1⟩ => ?_)
  obtain ⟨a, xs, ex, hx⟩ := q1
  subst ex
  cases r1
  have hst : PO X (some (.UnaryOp .USub (.Constant (.int 1) k p1) p2)) (tPart (tUn (rU fun i => .int (-i)) (tC (.int 1)))) := po_some (pe_un un_neg pe_int)
  refine wpAny_Slice (thn (po_none.run pins s1 σ H1 (fun o H2 => o = none ∧ H2 = H1) I1 ⟨rfl, rfl⟩) fun vl s2 ⟨l, H2, I2, pl, el, e2⟩ => ?_)
  subst el e2
  refine thn (po_none.run pins s2 σ H2 (fun o H3 => o = none ∧ H3 = H2) I2 ⟨rfl, rfl⟩) fun vu s3 ⟨u, H3, I3, pu, eu, e3⟩ => ?_
  subst eu e3
  refine thn (hst.run pins s3 σ H3 (fun o H4 => o = some (-1) ∧ H4 = H3) I3 ⟨1, rfl, -1, rfl, rfl, rfl⟩) fun vs s4 ⟨o, H4, I4, ps, eo, e4⟩ => ?_
  subst eo e4
  have I5 : Inv X pins σ H4 { s4 with heap := s4.heap.push { cls := .type "slice", data := .fields #[vl, vu, vs] } } := I4.kept (t' := s4.toks) fun b ob q => Heap.get?_push_of_some _ q
  show wpAny (model X.prog X.w) X.A (subscriptTail e (.Slice none none (some (.UnaryOp .USub (.Constant (.int 1) k p1) p2)) p3) (.ref a) (.ref s4.heap.objs.size)) (EP X pins σ Q) X.xe { s4 with heap := s4.heap.push { cls := .type "slice", data := .fields #[vl, vu, vs] } }
  rcases hx with ⟨hx, q⟩ | ⟨hx, q⟩
  · obtain ⟨its, r, ht, hz⟩ := I5.list hx
    have hlen := r.length
    refine tail_any (ops := [.ref a, .ref s4.heap.objs.size]) ht.isList.typeIs (PySem.slot_list_getitem.lookup) ?_ (by with_unfolding_all rfl)
    refine wpAny_getItem_list_slice ht.isList (Heap.IsSliceOf.new _ vl vu vs) pl pu ps (by decide) ?_ (by rw [List.size_toArray]; omega)
    rw [PySem.W.krv_pick]
    refine ⟨.ref _, _, I5.laid (t' := s4.toks) (o := .lst xs.reverse) (fun b ob q => Heap.get?_push_of_some _ q) (Nat.le_refl _) ?_, rfl, q _ (I5.hok.fresh (Nat.le_refl _))⟩
    exact ⟨by rw [List.length_reverse]; exact hz, _, 0, r.reverse, Heap.get?_push_size _ rfl⟩
  · obtain ⟨its, r, ht, hz⟩ := I5.tuple hx
    have hlen := r.length
    cases pl
    cases pu
    refine tail_any (ops := [.ref a, .ref s4.heap.objs.size]) ht.typeIs (PyProof.Rows.slot_tuple_getitem.lookup) ?_ (by with_unfolding_all rfl)
    refine HT.getItem_tuple_rev ht (Heap.IsSliceOf.new _ .none .none vs) ps ?_ (by rw [List.size_toArray]; omega)
    refine ⟨.ref _, _, I5.laid (t' := s4.toks) (o := .tup xs.reverse) (fun b ob q => Heap.get?_push_of_some _ q) (Nat.le_refl _) ?_, rfl, q _ (I5.hok.fresh (Nat.le_refl _))⟩
    exact ⟨by rw [List.length_reverse]; exact hz, _, r.reverse, IsTup.new _ _⟩
end
end L2

/-! Mn: pure data, a store, and the lifting of weakest preconditions over them to the judgements of HandS. -/
namespace Mn
open PySem PySem.Spec L2

/-! ### data: rol is a list that is only read; ref a pointer to the store -/
inductive D where
  | non | bl (b : Bool) | int (i : Int) | str (x : Str) | tup (xs : List D) | rol (xs : List D) | ref (a : Addr)
  deriving Inhabited

/-- a cell of the store: a list; a dict (its entries in order, its epoch) -/
inductive Cell where
  | lst (xs : List D) | dct (kvs : List (D × D)) (ep : Nat)

abbrev Sto := Addr → Option Cell
def up (S : Sto) (a : Addr) (c : Cell) : Sto := fun b => if b = a then some c else S b
theorem up_same {S : Sto} {a : Addr} {c : Cell} : up S a c a = some c := by unfold up; rw [if_pos rfl]
theorem up_ne {S : Sto} {a b : Addr} {c : Cell} (h : b ≠ a) : up S a c b = S b := by unfold up; rw [if_neg h]

/-! the key that a piece of data is -/
mutual
def D.key : D → NestedKey
  | .non => .none
  | .bl b => .num (if b = true then 1 else 0)
  | .int i => .num i
  | .str x => .text x
  | .tup xs => .tup (D.keys xs)
  | .rol _ => .none
  | .ref _ => .none
def D.keys : List D → List NestedKey
  | [] => []
  | x :: xs => D.key x :: D.keys xs
end
/-! no pointer in it -/
mutual
def D.pure : D → Bool
  | .non => true
  | .bl _ => true
  | .int _ => true
  | .str _ => true
  | .tup xs => D.pures xs
  | .rol _ => false
  | .ref _ => false
def D.pures : List D → Bool
  | [] => true
  | x :: xs => D.pure x && D.pures xs
end
/-! as the library's data (pointers have none: .none stands for them) -/
mutual
def D.pd : D → PyData
  | .non => .none
  | .bl b => .bool b
  | .int i => .int i
  | .str x => .str x
  | .tup xs => .tuple (D.pds xs)
  | .rol _ => .none
  | .ref _ => .none
def D.pds : List D → List PyData
  | [] => []
  | x :: xs => D.pd x :: D.pds xs
end

/-! ### what stands for what -/
/-- a list that nobody changes -/
def SqR (K : PySem.W.Frag) (H : Hp) (a : Addr) (xs : List V) : Prop := (∃ o, H a = some (.frz o (.lst xs))) ∨ (SqL K (fun _ => none) a xs)
theorem SqR.seq {K : PySem.W.Frag} {H : Hp} {a : Addr} {xs : List V} (h : SqR K H a xs) : SqL K H a xs := by
  rcases h with ⟨o, h⟩ | (h | ⟨o, h⟩) | h
  · exact .inl (.inr ⟨o, h⟩)
  · cases h
  · cases h
  · exact .inr h
mutual
inductive RD (K : PySem.W.Frag) (H : Hp) : D → V → Prop
  | non : RD K H .non .non
  | bl (b : Bool) : RD K H (.bl b) (.bl b)
  | int (i : Int) : RD K H (.int i) (.int i)
  | str (x : Str) : RD K H (.str x) (.str x)
  | tup {a : Addr} {ds : List D} {vs : List V} : SqT K H a vs → RDs K H ds vs → RD K H (.tup ds) (.ref a)
  | rol {a : Addr} {ds : List D} {vs : List V} : SqR K H a vs → RDs K H ds vs → RD K H (.rol ds) (.ref a)
  | ref (a : Addr) : RD K H (.ref a) (.ref a)
inductive RDs (K : PySem.W.Frag) (H : Hp) : List D → List V → Prop
  | nil : RDs K H [] []
  | cons {d : D} {ds : List D} {v : V} {vs : List V} : RD K H d v → RDs K H ds vs → RDs K H (d :: ds) (v :: vs)
end

/-- tuples and locked things stay -/
structure Tx (H H' : Hp) : Prop where
  tup : ∀ a xs, H a = some (.tup xs) → H' a = some (.tup xs)
  frz : ∀ a o u, H a = some (.frz o u) → H' a = some (.frz o u)
theorem Tx.refl (H : Hp) : Tx H H := ⟨fun _ _ h => h, fun _ _ _ h => h⟩
theorem Tx.trans {H H1 H2 : Hp} (a : Tx H H1) (b : Tx H1 H2) : Tx H H2 := ⟨fun x y h => b.tup x y (a.tup x y h), fun x o u h => b.frz x o u (a.frz x o u h)⟩
theorem Tx.new {H : Hp} {p : Addr} {o : HO} (h : H p = none) : Tx H (upd H p o) :=
  ⟨fun a xs e => by rw [upd_ne (ne_of_none e h)]; exact e, fun a ob u e => by rw [upd_ne (ne_of_none e h)]; exact e⟩
theorem Tx.mut {H : Hp} {p : Addr} {o u : HO} (h : H p = some u) (m : Mut (some u)) : Tx H (upd H p o) :=
  ⟨fun a xs e => by rw [upd_ne (ne_of e h (by rintro rfl; exact m))]; exact e, fun a ob w e => by rw [upd_ne (ne_of e h (by rintro rfl; exact m))]; exact e⟩
theorem Tx.sqT {K : PySem.W.Frag} {H H' : Hp} {a : Addr} {xs : List V} (t : Tx H H') (h : SqT K H a xs) : SqT K H' a xs := by
  rcases h with (h | ⟨o, h⟩) | h
  · exact .inl (.inl (t.tup _ _ h))
  · exact .inl (.inr ⟨o, t.frz _ _ _ h⟩)
  · exact .inr h
theorem Tx.sqR {K : PySem.W.Frag} {H H' : Hp} {a : Addr} {xs : List V} (t : Tx H H') (h : SqR K H a xs) : SqR K H' a xs := by
  rcases h with ⟨o, h⟩ | h
  · exact .inl ⟨o, t.frz _ _ _ h⟩
  · exact .inr h
mutual
theorem RD.tx {K : PySem.W.Frag} {H H' : Hp} (t : Tx H H') : ∀ {d : D} {v : V}, RD K H d v → RD K H' d v
  | _, _, .non => .non
  | _, _, .bl b => .bl b
  | _, _, .int i => .int i
  | _, _, .str x => .str x
  | _, _, .tup h r => .tup (t.sqT h) (RDs.tx t r)
  | _, _, .rol h r => .rol (t.sqR h) (RDs.tx t r)
  | _, _, .ref a => .ref a
theorem RDs.tx {K : PySem.W.Frag} {H H' : Hp} (t : Tx H H') : ∀ {ds : List D} {vs : List V}, RDs K H ds vs → RDs K H' ds vs
  | _, _, .nil => .nil
  | _, _, .cons h r => .cons (RD.tx t h) (RDs.tx t r)
end
section
variable {K : PySem.W.Frag} {H H' : Hp}
theorem RDs.length : ∀ {ds : List D} {vs : List V}, RDs K H ds vs → ds.length = vs.length
  | _, _, .nil => rfl
  | _, _, .cons _ r => by simp [RDs.length r]
theorem RDs.get : ∀ {ds : List D} {vs : List V} {i : Nat} {d : D}, RDs K H ds vs → ds[i]? = some d → ∃ v, vs[i]? = some v ∧ RD K H d v
  | _, _, _, _, .nil, e => by simp at e
  | _, _, 0, _, .cons h _, e => by simp at e; subst e; exact ⟨_, rfl, h⟩
  | _, _, i + 1, d, .cons _ r, e => by
    obtain ⟨v, h1, h2⟩ := RDs.get (i := i) (d := d) r (by simpa using e)
    exact ⟨v, by simpa using h1, h2⟩
theorem RDs.getV : ∀ {ds : List D} {vs : List V} {i : Nat} {v : V}, RDs K H ds vs → vs[i]? = some v → ∃ d, ds[i]? = some d ∧ RD K H d v
  | _, _, _, _, .nil, e => by simp at e
  | _, _, 0, _, .cons h _, e => by simp at e; subst e; exact ⟨_, rfl, h⟩
  | _, _, i + 1, v, .cons _ r, e => by
    obtain ⟨d, h1, h2⟩ := RDs.getV (i := i) (v := v) r (by simpa using e)
    exact ⟨d, by simpa using h1, h2⟩
theorem RDs.append : ∀ {ds es : List D} {vs ws : List V}, RDs K H ds vs → RDs K H es ws → RDs K H (ds ++ es) (vs ++ ws)
  | _, _, _, _, .nil, s => s
  | _, _, _, _, .cons h r, s => .cons h (RDs.append r s)
theorem RDs.take : ∀ {ds : List D} {vs : List V} (n : Nat), RDs K H ds vs → RDs K H (ds.take n) (vs.take n)
  | _, _, 0, _ => .nil
  | _, _, _ + 1, .nil => .nil
  | _, _, n + 1, .cons h r => .cons h (RDs.take n r)
theorem RDs.drop : ∀ {ds : List D} {vs : List V} (n : Nat), RDs K H ds vs → RDs K H (ds.drop n) (vs.drop n)
  | _, _, 0, r => r
  | _, _, _ + 1, .nil => .nil
  | _, _, n + 1, .cons _ r => RDs.drop n r
theorem RDs.set {d : D} {v : V} (h : RD K H d v) : ∀ {ds : List D} {vs : List V} (i : Nat), RDs K H ds vs → RDs K H (ds.set i d) (vs.set i v)
  | _, _, _, .nil => .nil
  | _, _, 0, .cons _ r => .cons h r
  | _, _, i + 1, .cons q r => .cons q (RDs.set h i r)
theorem RDs.dropLast {ds : List D} {vs : List V} (r : RDs K H ds vs) : RDs K H ds.dropLast vs.dropLast := by
  rw [List.dropLast_eq_take, List.dropLast_eq_take, r.length]
  exact r.take _
theorem RDs.reverse {ds : List D} {vs : List V} (r : RDs K H ds vs) : RDs K H ds.reverse vs.reverse := by
  induction ds generalizing vs with
  | nil => cases r; exact .nil
  | cons d ds ih =>
    cases r with
    | cons h r =>
      rw [List.reverse_cons, List.reverse_cons]
      exact (ih r).append (.cons h .nil)
theorem RDs.eraseIdx : ∀ {ds : List D} {vs : List V} (i : Nat), RDs K H ds vs → RDs K H (ds.eraseIdx i) (vs.eraseIdx i)
  | _, _, _, .nil => .nil
  | _, _, 0, .cons _ r => r
  | _, _, i + 1, .cons h r => .cons h (RDs.eraseIdx i r)
theorem RDs.ints : ∀ {ns : List Int} {vs : List V}, RDs K H (ns.map D.int) vs → vs = ns.map V.int
  | [], _, .nil => rfl
  | _ :: _, _, .cons (.int _) r => by rw [RDs.ints r]; rfl
theorem RDs.strs : ∀ {ns : List Str} {vs : List V}, RDs K H (ns.map D.str) vs → vs = ns.map V.str
  | [], _, .nil => rfl
  | _ :: _, _, .cons (.str _) r => by rw [RDs.strs r]; rfl
theorem RDs.bls : ∀ {ns : List Bool} {vs : List V}, RDs K H (ns.map D.bl) vs → vs = ns.map V.bl
  | [], _, .nil => rfl
  | _ :: _, _, .cons (.bl _) r => by rw [RDs.bls r]; rfl
theorem rds_ints : ∀ {ns : List Int}, RDs K H (ns.map D.int) (ns.map V.int)
  | [] => .nil
  | _ :: _ => .cons (.int _) rds_ints
theorem rds_strs : ∀ {ns : List Str}, RDs K H (ns.map D.str) (ns.map V.str)
  | [] => .nil
  | _ :: _ => .cons (.str _) rds_strs
end

/-! ### pure data as keys and as the library's data -/
mutual
theorem RD.dp {K : PySem.W.Frag} {H : Hp} : ∀ {d : D} {v : V}, RD K H d v → d.pure = true → Dp K H v d.pd
  | _, _, .non, _ => .non
  | _, _, .bl b, _ => .bl b
  | _, _, .int i, _ => .int i
  | _, _, .str x, _ => .str x
  | _, _, .tup h r, p => by
    rw [D.pure] at p
    rw [D.pd]
    exact .tup h (RDs.dp r p)
  | _, _, .rol h r, p => by simp [D.pure] at p
  | _, _, .ref a, p => by simp [D.pure] at p
theorem RDs.dp {K : PySem.W.Frag} {H : Hp} : ∀ {ds : List D} {vs : List V}, RDs K H ds vs → D.pures ds = true → DpAll K H vs (D.pds ds)
  | _, _, .nil, _ => by rw [D.pds]; exact .nil
  | _, _, .cons h r, p => by
    rw [D.pures, Bool.and_eq_true] at p
    rw [D.pds]
    exact .cons (RD.dp h p.1) (RDs.dp r p.2)
end

/-! ### the store in the heap -/
/-- an entry and its values -/
def ER (p : NestedKey × Addr × V) (q : NestedKey × Addr × Value) : Prop := p.1 = q.1 ∧ p.2.1 = q.2.1 ∧ RelV p.2.2 q.2.2
/-- the dict's object at a: its entries (the key, the key's address, the value) -/
def DPhi (P : Program) (w : World) (a : Addr) (xs : List (NestedKey × Addr × V)) (ep : Nat) : Heap → Prop := fun h =>
  ∃ (o : Obj) (es : Array DictEntry) (us : List (NestedKey × Addr × Value)), h.get? a = some o ∧ o.ExactDict ∧ o.data = .dict es ep ∧ Paired ER xs us ∧ es.toList = us.map (entryOfKey (nestedKind P w))
/-- a dict's entry as data, and in the heap -/
def KR (K : PySem.W.Frag) (H : Hp) (p : D × D) (x : NestedKey × Addr × V) : Prop := x.1 = p.1.key ∧ p.1.pure = true ∧ RD K H p.1 (.ref x.2.1) ∧ RD K H p.2 x.2.2
theorem KR.tx {K : PySem.W.Frag} {H H' : Hp} (t : Tx H H') {kvs : List (D × D)} {xs : List (NestedKey × Addr × V)} (h : Paired (KR K H) kvs xs) : Paired (KR K H') kvs xs :=
  L2.Paired.mapP h fun _ _ r => ⟨r.1, r.2.1, r.2.2.1.tx t, r.2.2.2.tx t⟩
def CellOk (P : Program) (w : World) (K : PySem.W.Frag) (H : Hp) (a : Addr) : Cell → Prop
  | .lst ds => ∃ vs, H a = some (.lst vs) ∧ RDs K H ds vs
  | .dct kvs ep => (a == sysModules) = false ∧ kvs.length ≤ sizeLine ∧ ∃ xs : List (NestedKey × Addr × V), H a = some (.ext (DPhi P w a xs ep)) ∧ Paired (KR K H) kvs xs ∧ (xs.map (·.1)).Nodup ∧ ∀ x ∈ xs, x.1.depth ≤ 8
def Rp (P : Program) (w : World) (K : PySem.W.Frag) (H : Hp) (S : Sto) : Prop := ∀ a c, S a = some c → CellOk P w K H a c

abbrev Env := List (Option D)
structure RE (K : PySem.W.Frag) (H : Hp) (env : Env) (σ : St) : Prop where
  len : env.length = σ.length
  at_ : ∀ (i : Nat) (d : D), env[i]? = some (some d) → ∃ v, σ[i]? = some (some v) ∧ RD K H d v

section
variable {P : Program} {w : World} {K : PySem.W.Frag} {H H' : Hp} {S : Sto} {env : Env} {σ : St}
theorem CellOk.keep {a : Addr} {c : Cell} (h : CellOk P w K H a c) (t : Tx H H') (e : H' a = H a) : CellOk P w K H' a c := by
  cases c with
  | lst ds => obtain ⟨vs, h1, r⟩ := h; exact ⟨vs, e.trans h1, r.tx t⟩
  | dct kvs ep =>
    obtain ⟨h0, hz, xs, h1, r, nd, dp⟩ := h
    exact ⟨h0, hz, xs, e.trans h1, KR.tx t r, nd, dp⟩
/-- a new object does not touch the store -/
theorem Rp.new {p : Addr} {o : HO} (r : Rp P w K H S) (h : H p = none) (hs : S p = none) : Rp P w K (upd H p o) S := fun a c e =>
  (r a c e).keep (.new h) (upd_ne (by rintro rfl; rw [hs] at e; cases e))
/-- fewer cells -/
theorem Rp.less {S' : Sto} (r : Rp P w K H S) (h : ∀ a c, S' a = some c → S a = some c) : Rp P w K H S' := fun a c e => r a c (h a c e)
theorem RE.tx (r : RE K H env σ) (t : Tx H H') : RE K H' env σ := ⟨r.len, fun i d e => let ⟨v, h1, h2⟩ := r.at_ i d e; ⟨v, h1, h2.tx t⟩⟩
theorem RE.set {i : Nat} {d : D} {v : V} (r : RE K H env σ) (h : RD K H d v) : RE K H (env.set i (some d)) (σ.set i (some v)) := by
  refine ⟨by simp [r.len], fun j e hj => ?_⟩
  by_cases hij : i = j
  · subst hij
    by_cases hl : i < env.length
    · rw [List.getElem?_set_self hl] at hj
      cases hj
      exact ⟨v, List.getElem?_set_self (r.len ▸ hl), h⟩
    · rw [List.getElem?_eq_none (by simp; omega)] at hj
      cases hj
  · rw [List.getElem?_set_ne hij] at hj ⊢
    exact r.at_ j e hj
end

/-- a fresh address of the heap is none of the store's -/
theorem Rp.free {P : Program} {w : World} {K : PySem.W.Frag} {H : Hp} {S : Sto} (r : Rp P w K H S) {p : Addr} (h : H p = none) : S p = none := by
  cases e : S p with
  | none => rfl
  | some c =>
    have q := r p c e
    cases c with
    | lst ds => obtain ⟨vs, h1, _⟩ := q; rw [h] at h1; cases h1
    | dct kvs ep => obtain ⟨_, _, xs, h1, _⟩ := q; rw [h] at h1; cases h1
/-! ### how the heap and the store go on together: what stands outside the store stays, and outside -/
def Go (H : Hp) (S : Sto) (H' : Hp) (S' : Sto) : Prop := ∀ a o, H a = some o → S a = none → H' a = some o ∧ S' a = none
theorem Go.refl (H : Hp) (S : Sto) : Go H S H S := fun _ _ h q => ⟨h, q⟩
theorem Go.trans {H H1 H2 : Hp} {S S1 S2 : Sto} (a : Go H S H1 S1) (b : Go H1 S1 H2 S2) : Go H S H2 S2 := fun x o h q => let ⟨h1, q1⟩ := a x o h q; b x o h1 q1
section
variable {P : Program} {w : World} {K : PySem.W.Frag} {H H' : Hp} {S S' : Sto}
theorem Rp.tupNone {a : Addr} {xs : List V} (r : Rp P w K H S) (h : H a = some (.tup xs)) : S a = none := by
  cases e : S a with
  | none => rfl
  | some c =>
    have q := r a c e
    cases c with
    | lst ds => obtain ⟨vs, h1, _⟩ := q; rw [h] at h1; cases h1
    | dct kvs ep => obtain ⟨_, _, xs, h1, _⟩ := q; rw [h] at h1; cases h1
theorem Rp.frzNone {a : Addr} {o : Obj} {u : HO} (r : Rp P w K H S) (h : H a = some (.frz o u)) : S a = none := by
  cases e : S a with
  | none => rfl
  | some c =>
    have q := r a c e
    cases c with
    | lst ds => obtain ⟨vs, h1, _⟩ := q; rw [h] at h1; cases h1
    | dct kvs ep => obtain ⟨_, _, xs, h1, _⟩ := q; rw [h] at h1; cases h1
theorem Go.tx (g : Go H S H' S') (r : Rp P w K H S) : Tx H H' := ⟨fun a xs h => (g a _ h (r.tupNone h)).1, fun a o u h => (g a _ h (r.frzNone h)).1⟩
/-- a new object that the store does not show -/
theorem Go.new {p : Addr} {o : HO} (h : H p = none) : Go H S (upd H p o) S := fun a u e q => ⟨by rw [upd_ne (ne_of_none e h)]; exact e, q⟩
theorem Go.alloc {p : Addr} {o : HO} {c : Cell} (h : H p = none) : Go H S (upd H p o) (up S p c) := fun a u e q => by
  have ne := ne_of_none e h
  exact ⟨by rw [upd_ne ne]; exact e, by rw [up_ne ne]; exact q⟩
theorem Go.write {p : Addr} {o : HO} {c c0 : Cell} (h : S p = some c0) : Go H S (upd H p o) (up S p c) := fun a u e q => by
  have ne : a ≠ p := by rintro rfl; rw [h] at q; cases q
  exact ⟨by rw [upd_ne ne]; exact e, by rw [up_ne ne]; exact q⟩
end
section
variable {P : Program} {w : World} {K : PySem.W.Frag} {H : Hp} {S : Sto}
/-- a new list -/
theorem Rp.alloc {p : Addr} {ds : List D} {vs : List V} (r : Rp P w K H S) (h : H p = none) (rd : RDs K H ds vs) : Rp P w K (upd H p (.lst vs)) (up S p (.lst ds)) := fun a c e => by
  by_cases ha : a = p
  · subst ha
    rw [up_same] at e
    cases e
    exact ⟨vs, upd_same, rd.tx (.new h)⟩
  · rw [up_ne ha] at e
    exact (r a c e).keep (.new h) (upd_ne ha)
/-- a list changed -/
theorem Rp.write {p : Addr} {vs0 : List V} {ds : List D} {vs : List V} (r : Rp P w K H S) (h : H p = some (.lst vs0)) (rd : RDs K H ds vs) : Rp P w K (upd H p (.lst vs)) (up S p (.lst ds)) := fun a c e => by
  have t : Tx H (upd H p (.lst vs)) := .mut h trivial
  by_cases ha : a = p
  · subst ha
    rw [up_same] at e
    cases e
    exact ⟨vs, upd_same, rd.tx t⟩
  · rw [up_ne ha] at e
    exact (r a c e).keep t (upd_ne ha)
theorem Rp.lst {a : Addr} {ds : List D} (r : Rp P w K H S) (h : S a = some (.lst ds)) : ∃ vs, H a = some (.lst vs) ∧ RDs K H ds vs := r a _ h
end
end Mn

/-! Mn: lifting, and the rules of expressions. -/
namespace Mn
open PySem PySem.Spec L2

abbrev MK := D → Sto → Prop
abbrev ME := Env → Sto → MK → Prop
abbrev MT := Env → Sto → (Bool → Sto → Prop) → Prop
abbrev MA := Env → Sto → (List D → Sto → Prop) → Prop
abbrev MO := Env → Sto → (Option Int → Sto → Prop) → Prop

section
variable (P : Program) (w : World) (K : PySem.W.Frag)
def Post (H : Hp) (S : Sto) (R : MK) (Q : VK) : Prop := ∀ d S' v H', R d S' → RD K H' d v → Rp P w K H' S' → Go H S H' S' → Q v H'
def lift (m : ME) : TE := fun σ H Q => ∃ env S R, RE K H env σ ∧ Rp P w K H S ∧ m env S R ∧ Post P w K H S R Q
def liftT (m : MT) : TT := fun σ H Q => ∃ env S R, RE K H env σ ∧ Rp P w K H S ∧ m env S R ∧ ∀ (b : Bool) S' H', R b S' → Rp P w K H' S' → Go H S H' S' → Q b H'
def liftA (m : MA) : TA := fun σ H Q => ∃ env S R, RE K H env σ ∧ Rp P w K H S ∧ m env S R ∧ ∀ (ds : List D) S' vs H', R ds S' → RDs K H' ds vs → Rp P w K H' S' → Go H S H' S' → Q vs H'
def liftO (m : MO) : TO := fun σ H Q => ∃ env S R, RE K H env σ ∧ Rp P w K H S ∧ m env S R ∧ ∀ (o : Option Int) S' H', R o S' → Rp P w K H' S' → Go H S H' S' → Q o H'
def lift2 (f : D → D → Sto → MK → Prop) : R2 := fun x y H Q => ∃ d e S R, RD K H d x ∧ RD K H e y ∧ Rp P w K H S ∧ f d e S R ∧ Post P w K H S R Q
def liftC (f : List D → Sto → MK → Prop) : List V → Hp → VK → Prop := fun xs H Q => ∃ ds S R, RDs K H ds xs ∧ Rp P w K H S ∧ f ds S R ∧ Post P w K H S R Q
def liftM (f : D → List D → Sto → MK → Prop) : V → List V → Hp → VK → Prop := fun x xs H Q => ∃ d ds S R, RD K H d x ∧ RDs K H ds xs ∧ Rp P w K H S ∧ f d ds S R ∧ Post P w K H S R Q
def liftS (f : D → Option Int → Option Int → Sto → MK → Prop) : V → Option Int → Option Int → Hp → VK → Prop := fun x lo hi H Q => ∃ d S R, RD K H d x ∧ Rp P w K H S ∧ f d lo hi S R ∧ Post P w K H S R Q
end

theorem peImp {X : Cx} {e : Expr} {t t' : TE} (h : PE X e t) (hi : ∀ σ H Q, t' σ H Q → t σ H Q) : PE X e t' := ⟨fun pins s σ H Q I q => h.run pins s σ H Q I (hi _ _ _ q)⟩
theorem ptImp {X : Cx} {e : Expr} {t t' : TT} (h : PT X e t) (hi : ∀ σ H Q, t' σ H Q → t σ H Q) : PT X e t' := ⟨fun pins s σ H Q I q => h.run pins s σ H Q I (hi _ _ _ q)⟩
theorem paImp {X : Cx} {e : List Expr} {t t' : TA} (h : PA X e t) (hi : ∀ σ H Q, t' σ H Q → t σ H Q) : PA X e t' := ⟨fun pos pins s σ H Q I q => h.run pos pins s σ H Q I (hi _ _ _ q)⟩
theorem poImp {X : Cx} {e : Option Expr} {t t' : TO} (h : PO X e t) (hi : ∀ σ H Q, t' σ H Q → t σ H Q) : PO X e t' := ⟨fun pins s σ H Q I q => h.run pins s σ H Q I (hi _ _ _ q)⟩
theorem psImp {X : Cx} {e : Stmt} {t t' : TS} (h : PS X e t) (hi : ∀ D σ H, t' D σ H → t D σ H) : PS X e t' := ⟨fun pins s σ H D I q => h.run pins s σ H D I (hi _ _ _ q)⟩
theorem pssImp {X : Cx} {e : List Stmt} {t t' : TS} (h : PSs X e t) (hi : ∀ D σ H, t' D σ H → t D σ H) : PSs X e t' := ⟨fun pins s σ H D I q => h.run pins s σ H D I (hi _ _ _ q)⟩

section
variable {P : Program} {w : World} {K : PySem.W.Frag} {H H' : Hp} {S S' : Sto} {R : MK} {Q : VK}
theorem Post.go (p : Post P w K H S R Q) (g : Go H S H' S') : Post P w K H' S' R Q := fun d S2 v H2 h r rp g2 => p d S2 v H2 h r rp (g.trans g2)
theorem Post.here (p : Post P w K H S R Q) {d : D} {v : V} (h : R d S) (r : RD K H d v) (rp : Rp P w K H S) : Q v H := p d S v H h r rp (Go.refl H S)
/-- a new list is handed on -/
theorem Post.newList (p : Post P w K H S R Q) (rp : Rp P w K H S) {ds : List D} {vs : List V} (rd : RDs K H ds vs) (h : ∀ a, S a = none → R (.ref a) (up S a (.lst ds))) {a : Addr} (ha : H a = none) : Q (.ref a) (upd H a (.lst vs)) :=
  p _ _ _ _ (h a (rp.free ha)) (.ref a) (rp.alloc ha rd) (.alloc ha)
/-- a new tuple is handed on -/
theorem Post.newTup (p : Post P w K H S R Q) (rp : Rp P w K H S) {ds : List D} {vs : List V} (rd : RDs K H ds vs) (h : R (.tup ds) S) {a : Addr} (ha : H a = none) : Q (.ref a) (upd H a (.tup vs)) :=
  p _ _ _ _ h (.tup (SqT.of upd_same) (rd.tx (.new ha))) (rp.new ha (rp.free ha)) (.new ha)
/-- a list is changed in place -/
theorem Post.wrote (p : Post P w K H S R Q) (rp : Rp P w K H S) {a : Addr} {ds0 ds : List D} {vs : List V} {d : D} {v : V} (e : S a = some (.lst ds0)) (rd : RDs K H ds vs) (rv : RD K H d v) (h : R d (up S a (.lst ds))) : Q v (upd H a (.lst vs)) := by
  obtain ⟨vs0, q, _⟩ := rp.lst e
  exact p _ _ _ _ h (rv.tx (.mut q trivial)) (rp.write q rd) (.write e)
end

theorem rep_cps (l : List Nat) : ∀ (k : Nat) (acc : List Nat), List.foldl (fun x1 x2 => x1 ++ x2) acc.toArray (List.replicate k l.toArray) = (acc ++ (List.replicate k l).flatten).toArray
  | 0, acc => by simp
  | k + 1, acc => by
    have e : acc.toArray ++ l.toArray = (acc ++ l).toArray := by simp
    have e2 : (acc ++ l) ++ (List.replicate k l).flatten = acc ++ (List.replicate (k + 1) l).flatten := by
      rw [List.replicate_succ, List.flatten_cons, List.append_assoc]
    rw [← e2, ← rep_cps l k (acc ++ l), ← e, List.replicate_succ, List.foldl_cons]
theorem op_repS {X : Cx} : OpR X (binaryOp .Mult) (fun x y H Q => ∃ (i : Str) (k : Int), x = .str i ∧ y = .int k ∧ 1 ≤ k ∧ k ≤ 100000 ∧ 1 ≤ i.length ∧ i.length ≤ 100 ∧ Q (.str ⟨(List.replicate k.toNat i.cps.toList).flatten.toArray⟩) H) := by
  intro pins s σ H x y v u Q I rx ry h
  obtain ⟨i, k, rfl, rfl, h2, h3, h4, h5, q⟩ := h
  obtain ⟨t, rfl⟩ := rx
  obtain ⟨t', rfl⟩ := ry
  have hm : i.length * k.toNat ≤ 100 * 100000 := Nat.mul_le_mul h5 (by omega)
  refine P.mul_str ?_ (fun _ _ => ?_) (fun _ _ => ?_) ?_
  · rw [decide_eq_false (by omega), decide_eq_false (by omega)]; rfl
  · have : (100 : Int) ≤ (2 ^ 63 - 1) / k := Int.le_ediv_of_mul_le (by omega) (by omega)
    omega
  · show decide (i.length * k.toNat > sizeLine) = false
    have : (100 * 100000 : Nat) ≤ sizeLine := by decide
    exact decide_eq_false (by omega)
  · rw [if_neg (by omega)]
    by_cases h1 : k = 1
    · subst h1
      rw [if_pos (by rfl)]
      refine ⟨.str i, H, I, ⟨_, rfl⟩, ?_⟩
      have : (⟨(List.replicate (1 : Int).toNat i.cps.toList).flatten.toArray⟩ : Str) = i := by
        have e : (List.replicate (1 : Int).toNat i.cps.toList).flatten = i.cps.toList := by
          show (List.replicate 1 i.cps.toList).flatten = _
          simp
        rw [e, Array.toArray_toList]
      rw [this] at q
      exact q
    have e1 : (k == 1 || i.length == 0) = false := by
      rw [Bool.or_eq_false_iff]
      exact ⟨beq_eq_false_iff_ne.mpr h1, beq_eq_false_iff_ne.mpr (by omega)⟩
    rw [if_neg (by rw [e1]; exact Bool.false_ne_true)]
    have e : (List.replicate k.toNat i.cps).foldl (· ++ ·) #[] = (List.replicate k.toNat i.cps.toList).flatten.toArray := by
      have := rep_cps i.cps.toList k.toNat []
      rw [List.nil_append, Array.toArray_toList] at this
      exact this
    rw [e]
    refine ⟨?_, .str _, H, I.tok _, ⟨_, rfl⟩, q⟩
    show (List.replicate k.toNat i.cps.toList).flatten.toArray.size ≤ sizeLine
    rw [List.size_toArray, List.length_flatten, List.map_replicate, List.sum_replicate_nat]
    have : (100 * 100000 : Nat) ≤ sizeLine := by decide
    have e : k.toNat * i.cps.toList.length = i.length * k.toNat := by rw [Nat.mul_comm]; rfl
    omega
/-! ### operators by values -/
def addD : D → D → Sto → MK → Prop
  | .int i, .int j, S, R => R (.int (i + j)) S
  | .str x, .str y, S, R => x.length + y.length ≤ sizeLine ∧ R (.str (x ++ y)) S
  | .tup xs, .tup ys, S, R => xs.length + ys.length ≤ sizeLine ∧ R (.tup (xs ++ ys)) S
  | .ref a, .ref b, S, R => ∃ xs ys, S a = some (.lst xs) ∧ S b = some (.lst ys) ∧ xs.length + ys.length ≤ sizeLine ∧ ∀ p, S p = none → R (.ref p) (up S p (.lst (xs ++ ys)))
  | _, _, _, _ => False
def subD : D → D → Sto → MK → Prop
  | .int i, .int j, S, R => R (.int (i - j)) S
  | _, _, _, _ => False
def mulD : D → D → Sto → MK → Prop
  | .int i, .int j, S, R => i.natAbs.log2 + j.natAbs.log2 < 1000000 ∧ R (.int (i * j)) S
  | .ref a, .int k, S, R => ∃ xs, S a = some (.lst xs) ∧ 0 ≤ k ∧ k < 2 ^ 63 ∧ xs.length * k.toNat ≤ sizeLine ∧ ∀ p, S p = none → R (.ref p) (up S p (.lst (List.replicate k.toNat xs).flatten))
  | .str x, .int k, S, R => 1 ≤ k ∧ k ≤ 100000 ∧ 1 ≤ x.length ∧ x.length ≤ 100 ∧ R (.str ⟨(List.replicate k.toNat x.cps.toList).flatten.toArray⟩) S
  | .tup xs, .int k, S, R => xs ≠ [] ∧ 2 ≤ k ∧ k ≤ 1000 ∧ xs.length ≤ 1000 ∧ R (.tup (List.replicate k.toNat xs).flatten) S
  | _, _, _, _ => False
def fdivD : D → D → Sto → MK → Prop
  | .int i, .int j, S, R => 0 < j ∧ j.natAbs.log2 < 9000 ∧ R (.int (i / j)) S
  | _, _, _, _ => False
def modD : D → D → Sto → MK → Prop
  | .int i, .int j, S, R => 0 < j ∧ R (.int (i % j)) S
  | _, _, _, _ => False
def powD : D → D → Sto → MK → Prop
  | .int i, .int j, S, R => 0 ≤ j ∧ j ≤ 1000000 ∧ i.natAbs < 2 ^ 64 ∧ R (.int (i ^ j.toNat)) S
  | _, _, _, _ => False
def binD : Operator → D → D → Sto → MK → Prop
  | .Add => addD
  | .Sub => subD
  | .Mult => mulD
  | .FloorDiv => fdivD
  | .Mod => modD
  | .Pow => powD
  | _ => fun _ _ _ _ => False

section
variable {X : Cx}
theorem o_add : OpR X (binaryOp .Add) (lift2 X.prog X.w X.K addD) := by
  intro pins s σ H x y v u Q I rx ry h
  obtain ⟨d, e, S, R, rd, re, rp, h, p⟩ := h
  cases rd <;> first | exact False.elim h | (cases re <;> first | exact False.elim h | skip)
  · exact op_add pins s σ H _ _ v u Q I rx ry ⟨_, _, rfl, rfl, p.here h (.int _) rp⟩
  · exact op_add_str pins s σ H _ _ v u Q I rx ry ⟨_, _, rfl, rfl, h.1, p.here h.2 (.str _) rp⟩
  · rename_i a ds vs h1 r1 b es ws h2 r2
    refine op_catA pins s σ H _ _ v u Q I rx ry ⟨a, b, vs, ws, rfl, rfl, h1, h2, by rw [← r1.length, ← r2.length]; exact h.1, fun e1 => ?_, fun e1 e2 => ?_, fun e1 e2 q hq => ?_⟩
    · subst e1
      cases r1
      exact p.here h.2 (.tup h2 r2) rp
    · subst e2
      cases r2
      exact p.here (by simpa using h.2) (.tup h1 r1) rp
    · exact p.newTup rp (r1.append r2) h.2 hq
  · obtain ⟨xs, ys, e1, e2, hz, h⟩ := h
    obtain ⟨vs, q1, r1⟩ := rp.lst e1
    obtain ⟨ws, q2, r2⟩ := rp.lst e2
    exact op_cat pins s σ H _ _ v u Q I rx ry ⟨_, _, vs, ws, rfl, rfl, q1, q2, by rw [← r1.length, ← r2.length]; exact hz, fun q hq => p.newList rp (r1.append r2) h hq⟩
theorem o_sub : OpR X (binaryOp .Sub) (lift2 X.prog X.w X.K subD) := by
  intro pins s σ H x y v u Q I rx ry h
  obtain ⟨d, e, S, R, rd, re, rp, h, p⟩ := h
  cases rd <;> first | exact False.elim h | (cases re <;> first | exact False.elim h | exact op_sub pins s σ H _ _ v u Q I rx ry ⟨_, _, rfl, rfl, p.here h (.int _) rp⟩)
theorem o_mod : OpR X (binaryOp .Mod) (lift2 X.prog X.w X.K modD) := by
  intro pins s σ H x y v u Q I rx ry h
  obtain ⟨d, e, S, R, rd, re, rp, h, p⟩ := h
  cases rd <;> first | exact False.elim h | (cases re <;> first | exact False.elim h | exact op_mod pins s σ H _ _ v u Q I rx ry ⟨_, _, rfl, rfl, h.1, p.here h.2 (.int _) rp⟩)
theorem o_pow : OpR X (binaryOp .Pow) (lift2 X.prog X.w X.K powD) := by
  intro pins s σ H x y v u Q I rx ry h
  obtain ⟨d, e, S, R, rd, re, rp, h, p⟩ := h
  cases rd <;> first | exact False.elim h | (cases re <;> first | exact False.elim h | exact op_pow pins s σ H _ _ v u Q I rx ry ⟨_, _, rfl, rfl, ⟨h.1, h.2.1, h.2.2.1⟩, p.here h.2.2.2 (.int _) rp⟩)
theorem o_fdiv : OpR X (binaryOp .FloorDiv) (lift2 X.prog X.w X.K fdivD) := by
  intro pins s σ H x y v u Q I rx ry h
  obtain ⟨d, e, S, R, rd, re, rp, h, p⟩ := h
  cases rd <;> first | exact False.elim h | (cases re <;> first | exact False.elim h | exact op_fdivW pins s σ H _ _ v u Q I rx ry ⟨_, _, rfl, rfl, ⟨h.1, h.2.1⟩, p.here h.2.2 (.int _) rp⟩)
theorem rds_rep {K : PySem.W.Frag} {H : Hp} {ds : List D} {vs : List V} (r : RDs K H ds vs) : ∀ n : Nat, RDs K H (List.replicate n ds).flatten (List.replicate n vs).flatten
  | 0 => .nil
  | n + 1 => by
    rw [List.replicate_succ, List.replicate_succ, List.flatten_cons, List.flatten_cons]
    exact r.append (rds_rep r n)
theorem o_mul : OpR X (binaryOp .Mult) (lift2 X.prog X.w X.K mulD) := by
  intro pins s σ H x y v u Q I rx ry h
  obtain ⟨d, e, S, R, rd, re, rp, h, p⟩ := h
  cases rd <;> first | exact False.elim h | (cases re <;> first | exact False.elim h | skip)
  · exact op_mulW pins s σ H _ _ v u Q I rx ry ⟨_, _, rfl, rfl, h.1, p.here h.2 (.int _) rp⟩
  · exact op_repS pins s σ H _ _ v u Q I rx ry ⟨_, _, rfl, rfl, h.1, h.2.1, h.2.2.1, h.2.2.2.1, p.here h.2.2.2.2 (.str _) rp⟩
  · rename_i a ds vs h1 r1 k
    obtain ⟨hne, h2, h3, h4, h⟩ := h
    refine op_repT pins s σ H _ _ v u Q I rx ry ⟨a, k, vs, rfl, rfl, h1, fun e => ?_, h2, h3, by rw [← r1.length]; exact h4, fun q hq => p.newTup rp (rds_rep r1 _) h hq⟩
    subst e
    cases r1
    exact hne rfl
  · obtain ⟨xs, e1, h0, h1, hz, h⟩ := h
    obtain ⟨vs, q1, r1⟩ := rp.lst e1
    exact op_rep pins s σ H _ _ v u Q I rx ry ⟨_, _, vs, rfl, rfl, q1, by omega, h1, by rw [← r1.length]; exact hz, fun q hq => p.newList rp (rds_rep r1 _) h hq⟩
theorem no2 {f : Value → Value → Sem Value} : OpR X f (lift2 X.prog X.w X.K fun _ _ _ _ => False) := by
  intro pins s σ H x y v u Q I rx ry h
  obtain ⟨d, e, S, R, rd, re, rp, h, p⟩ := h
  exact False.elim h
theorem o_bin : ∀ op : Operator, OpR X (binaryOp op) (lift2 X.prog X.w X.K (binD op))
  | .Add => o_add
  | .Sub => o_sub
  | .Mult => o_mul
  | .MatMult => no2
  | .Div => no2
  | .Mod => o_mod
  | .Pow => o_pow
  | .LShift => no2
  | .RShift => no2
  | .BitOr => no2
  | .BitXor => no2
  | .BitAnd => no2
  | .FloorDiv => o_fdiv
end
end Mn

/-! Mn: codes, what they mean over the store, and how a text becomes a code. -/
namespace Mn
open PySem PySem.Spec L2

inductive Tg where
  | nm (i : Nat) | tp (ts : List Tg)
inductive Bf where
  | len | int | str | bool | all | any | sum | max | max2 | min2 | list | tuple | srt
  deriving DecidableEq
inductive Ty where
  | int | bool | str | tup | lst
  deriving DecidableEq
inductive Mf where
  | append | pop | index | insert | get | join | split | partition | startswith | endswith
  deriving DecidableEq
mutual
inductive Cd where
  | var (i : Nat) | cst (d : D) | glb (x : Str)
  | bin (op : Operator) (a b : Cd) | neg (a : Cd)
  | cmp (op : CmpOp) (a b : Cd) | chn (op op2 : CmpOp) (a b c : Cd)
  | and (a b : Cd) | or (a b : Cd) | not (a : Cd) | ife (c : Ct) (a b : Cd)
  | tup (es : List Cd) | lst (es : List Cd) | star (a : Cd) | emp | ss (a : Cd)
  | idx (a i : Cd) | sli (a : Cd) (lo hi : Cp) | rev (a : Cd)
  | call (f : Str) (es : List Cd) | blt (f : Bf) (es : List Cd) | isi (a : Cd) (ts : List Ty) | mth (m : Mf) (a : Cd) (es : List Cd)
  | lc (own : List Nat) (e : Cd) (t : Tg) (s : Cs) (c : Ct)
  | lc2 (own own1 : List Nat) (e : Cd) (t : Tg) (s : Cs) (c : Ct) (t1 : Tg) (s1 : Cs) (c1 : Ct)
  | ls (a : Cd) | fst (es : List Cd)
  | dd (k v : Cd) | dc (own : List Nat) (k v : Cd) (t : Tg) (s : Cs) (c : Ct)
inductive Ct where
  | yes | and (a b : Ct) | or (a b : Ct) | not (a : Ct) | val (a : Cd)
inductive Cp where
  | no | at (e : Cd)
inductive Cs where
  | it (e : Cd) | rng (a : Cd) | rng2 (a b : Cd) | enm (a : Cd) | zip (a b : Cd) | keys (a : Cd) | zz (a b c : Cd) | rvr (a : Cd)
end
inductive Sd where
  | exp (e : Cd) | ret (e : Cd) | retN | asg (t : Tg) (e : Cd) | put (a i e : Cd) | aug (i : Nat) (op : Operator) (e : Cd)
  | ite (c : Ct) (a b : List Sd) | whl (c : Ct) (b : List Sd) | fr (t : Tg) (s : Cs) (b : List Sd) | brk | cnt | pas

/-! ### targets -/
mutual
def asgD : Tg → D → Env → Option Env
  | .nm i, d, env => some (env.set i (some d))
  | .tp ts, .tup ds, env => asgsD ts ds env
  | .tp _, _, _ => none
def asgsD : List Tg → List D → Env → Option Env
  | [], [], env => some env
  | t :: ts, d :: ds, env => match asgD t d env with
    | some env1 => asgsD ts ds env1
    | none => none
  | _, _, _ => none
end
mutual
def Tg.slots : Tg → List Nat
  | .nm i => [i]
  | .tp ts => Tg.slotsAll ts
def Tg.slotsAll : List Tg → List Nat
  | [] => []
  | t :: ts => Tg.slots t ++ Tg.slotsAll ts
end
def wipeD (env : Env) : List Nat → Env
  | [] => env
  | v :: vs => (wipeD env vs).set v none

/-! ### values -/
abbrev SpD := List D → Sto → MK → Prop
def lstAt (S : Sto) (a : Addr) (k : List D → Prop) : Prop := ∃ xs, S a = some (.lst xs) ∧ k xs
def newL (S : Sto) (xs : List D) (R : MK) : Prop := ∀ p, S p = none → R (.ref p) (up S p (.lst xs))
/-- the items of a list, a tuple -/
def seqD : D → Sto → (List D → Prop) → Prop
  | .tup xs, _, k => k xs
  | .rol xs, _, k => k xs
  | .ref a, S, k => lstAt S a k
  | _, _, _ => False
def chars (x : Str) : List D := x.cps.toList.map fun c => D.str ⟨#[c]⟩
mutual
def D.dep : D → Nat
  | .tup xs => D.deps xs + 1
  | _ => 0
def D.deps : List D → Nat
  | [] => 0
  | x :: xs => max (D.dep x) (D.deps xs)
end
mutual
/-- what a value is, lists in it too -/
inductive Den (S : Sto) : D → PyData → Prop
  | non : Den S .non .none
  | bl (b : Bool) : Den S (.bl b) (.bool b)
  | int (i : Int) : Den S (.int i) (.int i)
  | str (x : Str) : Den S (.str x) (.str x)
  | tup {ds : List D} {us : List PyData} : Dens S ds us → Den S (.tup ds) (.tuple us)
  | ref {a : Addr} {ds : List D} {us : List PyData} : S a = some (.lst ds) → Dens S ds us → Den S (.ref a) (.list us)
inductive Dens (S : Sto) : List D → List PyData → Prop
  | nil : Dens S [] []
  | cons {d : D} {ds : List D} {u : PyData} {us : List PyData} : Den S d u → Dens S ds us → Dens S (d :: ds) (u :: us)
end
/-- what a comparison compares -/
def contP : D → Sto → (PyData → Prop) → Prop
  | .ref a, S, k => ∃ xs, S a = some (.lst xs) ∧ D.pures xs = true ∧ D.deps xs ≤ 40 ∧ PyData.canLayAll0 (D.pds xs) = true ∧ k (.list (D.pds xs))
  | d, _, k => d.pure = true ∧ d.dep ≤ 40 ∧ d.pd.canLay0 = true ∧ k d.pd
def contD (d : D) (S : Sto) (k : PyData → Prop) : Prop := contP d S k ∨ ∃ u, Den S d u ∧ u.depth ≤ 40 ∧ u.canLay0 = true ∧ k u
def eqD (neg : Bool) : D → D → Sto → MK → Prop
  | .str x, .str y, S, R => R (.bl (if neg then !decide (x = y) else decide (x = y))) S
  | .int x, .int y, S, R => R (.bl (if neg then !decide (x = y) else decide (x = y))) S
  | .bl x, .bl y, S, R => R (.bl (if neg then !decide (x = y) else decide (x = y))) S
  | x, y, S, R => contD x S fun u => contD y S fun v => R (.bl (if neg then !PyData.eqv u v else PyData.eqv u v)) S
def ltD : D → D → (Bool → Prop) → Prop
  | .int i, .int j, k => k (decide (i < j))
  | .str x, .str y, k => k (decide (x.cps.toList < y.cps.toList))
  | _, _, _ => False
def D.flat : D → Bool
  | .non => true
  | .bl _ => true
  | .int _ => true
  | .str _ => true
  | _ => false
def findK (k : NestedKey) : List (D × D) → Option D
  | [] => none
  | (x, v) :: r => if x.key = k then some v else findK k r
def putK (k : D) (v : D) (kvs : List (D × D)) : List (D × D) := if (findK k.key kvs).isSome then kvs.map fun p => if p.1.key = k.key then (p.1, v) else p else kvs ++ [(k, v)]
def isTup : D → Bool
  | .tup _ => true
  | _ => false
def inD (neg : Bool) : D → D → Sto → MK → Prop
  | .str x, .str y, S, R => ∃ c, x = ⟨#[c]⟩ ∧ R (.bl (if neg then !decide (c ∈ y.cps.toList) else decide (c ∈ y.cps.toList))) S
  | x, .tup ys, S, R => x.flat = true ∧ ys.all D.flat = true ∧ R (.bl (if neg then !(ys.any fun z => PyData.eqv z.pd x.pd) else ys.any fun z => PyData.eqv z.pd x.pd)) S
  | x, .ref a, S, R =>
    (∃ ys, S a = some (.lst ys) ∧ x.pure = true ∧ x.dep ≤ 40 ∧ x.pd.canLay0 = true ∧ D.pures ys = true ∧ D.deps ys ≤ 40 ∧ PyData.canLayAll0 (D.pds ys) = true ∧ R (.bl (if neg then !(ys.any fun z => PyData.eqv z.pd x.pd) else ys.any fun z => PyData.eqv z.pd x.pd)) S) ∨
    (∃ kvs ep, S a = some (.dct kvs ep) ∧ isTup x = true ∧ x.pure = true ∧ x.key.depth ≤ 8 ∧ R (.bl (if neg then !(findK x.key kvs).isSome else (findK x.key kvs).isSome)) S)
  | _, _, _, _ => False
def isD (neg : Bool) : D → D → Sto → MK → Prop
  | .non, .non, S, R => R (.bl (!neg)) S
  | _, .non, S, R => R (.bl neg) S
  | .bl a, .bl b, S, R => R (.bl (if neg then !decide (a = b) else decide (a = b))) S
  | _, _, _, _ => False
def cmpD : CmpOp → D → D → Sto → MK → Prop
  | .Eq, x, y, S, R => eqD false x y S R
  | .NotEq, x, y, S, R => eqD true x y S R
  | .Lt, x, y, S, R => ltD x y fun b => R (.bl b) S
  | .Gt, x, y, S, R => ltD y x fun b => R (.bl b) S
  | .LtE, x, y, S, R => ltD y x fun b => R (.bl (!b)) S
  | .GtE, x, y, S, R => ltD x y fun b => R (.bl (!b)) S
  | .In, x, y, S, R => inD false x y S R
  | .NotIn, x, y, S, R => inD true x y S R
  | .Is, x, y, S, R => isD false x y S R
  | .IsNot, x, y, S, R => isD true x y S R
/-- truth -/
def truD : D → Sto → (Bool → Prop) → Prop
  | .non, _, k => k false
  | .bl b, _, k => k b
  | .int i, _, k => k (i != 0)
  | .str x, _, k => x.length ≤ sizeLine ∧ k ((x.length : Int) != 0)
  | .tup xs, _, k => k (!xs.isEmpty)
  | .ref a, S, k => lstAt S a fun xs => k (!xs.isEmpty)
  | _, _, _ => False
def idxD : D → D → Sto → MK → Prop
  | .tup xs, .int i, S, R => ∃ v, atI xs i = some v ∧ R v S
  | .rol xs, .int i, S, R => ∃ v, atI xs i = some v ∧ R v S
  | .ref a, .int i, S, R => lstAt S a fun xs => ∃ v, atI xs i = some v ∧ R v S
  | .str x, .int i, S, R => x.length ≤ sizeLine ∧ ∃ c, atI x.cps.toList i = some c ∧ R (.str ⟨#[c]⟩) S
  | .ref a, .tup ks, S, R => ∃ kvs ep v, S a = some (.dct kvs ep) ∧ (D.tup ks).pure = true ∧ (D.tup ks).key.depth ≤ 8 ∧ findK (D.tup ks).key kvs = some v ∧ R v S
  | _, _, _, _ => False
def cutG {α : Type} (xs : List α) (lo hi : Option Int) : List α := (xs.drop (HT.sIx xs.length 0 lo)).take (HT.sIx xs.length xs.length hi - HT.sIx xs.length 0 lo)
def sliD : D → Option Int → Option Int → Sto → MK → Prop
  | .tup xs, lo, hi, S, R => R (.tup (cutG xs lo hi)) S
  | .ref a, lo, hi, S, R => lstAt S a fun xs => newL S (cutG xs lo hi) R
  | .str x, lo, hi, S, R => x.length ≤ sizeLine ∧ R (.str (cutS x lo hi)) S
  | _, _, _, _, _ => False
def revD : D → Sto → MK → Prop
  | .tup xs, S, R => R (.tup xs.reverse) S
  | .ref a, S, R => lstAt S a fun xs => newL S xs.reverse R
  | _, _, _ => False
/-- o[i] = v -/
def putD : D → D → D → Sto → (Sto → Prop) → Prop
  | .ref a, .int i, v, S, k => lstAt S a fun xs => ∃ j, ixN xs.length i = some j ∧ k (up S a (.lst (xs.set j v)))
  | .ref a, .tup ks, v, S, k => ∃ kvs ep, S a = some (.dct kvs ep) ∧ (D.tup ks).pure = true ∧ (D.tup ks).key.depth ≤ 8 ∧ kvs.length < sizeLine ∧ ∀ ep', k (up S a (.dct (putK (.tup ks) v kvs) ep'))
  | _, _, _, _, _ => False
def allInts : List D → Option (List Int)
  | [] => some []
  | .int i :: r => (allInts r).map (i :: ·)
  | _ :: _ => none
def allStrs : List D → Option (List Str)
  | [] => some []
  | .str x :: r => (allStrs r).map (x :: ·)
  | _ :: _ => none
def allBls : List D → Option (List Bool)
  | [] => some []
  | .bl x :: r => (allBls r).map (x :: ·)
  | _ :: _ => none
/-- texts in Python's order -/
def leS (x y : Str) : Prop := ¬ y.cps.toList < x.cps.toList
/-- a tuple of ints and texts as a key; which items are texts -/
def tKeyL (sh : Nat → Bool) : Nat → List D → Option (List (Int ⊕ List Nat))
  | _, [] => some []
  | i, .int n :: r => if sh i = true then none else (tKeyL sh (i + 1) r).map (Sum.inl n :: ·)
  | i, .str x :: r => if sh i = true then (tKeyL sh (i + 1) r).map (Sum.inr x.cps.toList :: ·) else none
  | _, _ :: _ => none
def tKey (sh : Nat → Bool) : D → Option (List (Int ⊕ List Nat))
  | .tup (x :: xs) => tKeyL sh 0 (x :: xs)
  | _ => none
def bltD : Bf → List D → Sto → MK → Prop
  | .len, [.str x], S, R => x.length ≤ sizeLine ∧ R (.int x.length) S
  | .len, [d], S, R => seqD d S fun xs => R (.int xs.length) S
  | .int, [.int i], S, R => R (.int i) S
  | .int, [.bl b], S, R => R (.int (if b then 1 else 0)) S
  | .int, [.str x], S, R => ∃ n, PySem.intText? x = some n ∧ x.length ≤ 640 ∧ R (.int n) S
  | .str, [.int i], S, R => i.natAbs.log2 < 1920 ∧ R (.str (Str.ofString (toString i))) S
  | .bool, [.int i], S, R => R (.bl (i != 0)) S
  | .bool, [.bl b], S, R => R (.bl b) S
  | .all, [.ref a], S, R => lstAt S a fun xs => ∃ bs, allBls xs = some bs ∧ R (.bl (bs.all id)) S
  | .any, [.ref a], S, R => lstAt S a fun xs => ∃ bs, allBls xs = some bs ∧ R (.bl (bs.any id)) S
  | .sum, [.ref a], S, R => lstAt S a fun xs => ∃ ns, allInts xs = some ns ∧ R (.int ns.sum) S
  | .max, [.ref a], S, R => lstAt S a fun xs => ∃ ns, allInts xs = some ns ∧ 0 < ns.length ∧ ∀ m, m ∈ ns → (∀ y, y ∈ ns → y ≤ m) → R (.int m) S
  | .max2, [.int i, .int j], S, R => R (.int (if j > i then j else i)) S
  | .min2, [.int i, .int j], S, R => R (.int (if j < i then j else i)) S
  | .list, [.ref a], S, R => (lstAt S a fun xs => newL S xs R) ∨ (∃ kvs ep, S a = some (.dct kvs ep) ∧ newL S (kvs.map (·.1)) R)
  | .list, [.str x], S, R => x.length ≤ sizeLine ∧ newL S (chars x) R
  | .list, [d], S, R => seqD d S fun xs => newL S xs R
  | .tuple, [d], S, R => seqD d S fun xs => R (.tup xs) S
  | .srt, [.ref a], S, R => lstAt S a fun xs => ∃ (sh : Nat → Bool) (ks : D → List (Int ⊕ List Nat)), (∀ x ∈ xs, tKey sh x = some (ks x)) ∧ ∀ ys : List D, ys.Perm xs → ys.Pairwise (fun x y => PyProof.Rows.lexLt PyProof.Rows.itemOrd (ks y) (ks x) = false) → newL S ys R
  | _, _, _, _ => False
def D.isTy : D → Sto → Ty → (Bool → Prop) → Prop := fun d S t k =>
  match d, t with
  | .ref a, t => (∃ xs, S a = some (.lst xs) ∧ k (t == .lst))
  | .tup _, t => k (t == .tup)
  | .str _, t => k (t == .str)
  | .int _, t => k (t == .int)
  | .bl _, t => k (t == .int || t == .bool)
  | .non, _ => k false
  | _, _ => False
def isiD (d : D) (S : Sto) : List Ty → (Bool → Prop) → Prop
  | [], k => k false
  | t :: ts, k => D.isTy d S t fun b => isiD d S ts fun c => k (b || c)
/-- o.m(..): what is asked of o ahead of the arguments; what it does -/
def mtyD : Mf → D → Sto → Prop
  | .append, .ref a, S => lstAt S a fun _ => True
  | .pop, .ref a, S => lstAt S a fun _ => True
  | .index, .ref a, S => lstAt S a fun _ => True
  | .insert, .ref a, S => lstAt S a fun _ => True
  | .get, .ref a, S => ∃ kvs ep, S a = some (.dct kvs ep)
  | .join, .str _, _ => True
  | .split, .str _, _ => True
  | .partition, .str _, _ => True
  | .startswith, .str _, _ => True
  | .endswith, .str _, _ => True
  | _, _, _ => False
def mthD : Mf → D → List D → Sto → MK → Prop
  | .append, .ref a, [v], S, R => lstAt S a fun xs => xs.length < sizeLine ∧ R .non (up S a (.lst (xs ++ [v])))
  | .pop, .ref a, [], S, R => lstAt S a fun xs => ∃ y, xs[xs.length - 1]? = some y ∧ R y (up S a (.lst xs.dropLast))
  | .pop, .ref a, [.int i], S, R => lstAt S a fun xs => -(2 ^ 63) ≤ i ∧ i < 2 ^ 63 ∧ ∃ k y, ixN xs.length i = some k ∧ xs[k]? = some y ∧ R y (up S a (.lst (xs.eraseIdx k)))
  | .insert, .ref a, [.int i, y], S, R => lstAt S a fun xs => xs.length < sizeLine ∧ 0 ≤ i ∧ i < 2 ^ 63 ∧ R .non (up S a (.lst (xs.take i.toNat ++ [y] ++ xs.drop i.toNat)))
  | .index, .ref a, [v], S, R => lstAt S a fun xs => v.pure = true ∧ v.dep ≤ 40 ∧ v.pd.canLay0 = true ∧ D.pures xs = true ∧ D.deps xs ≤ 40 ∧ PyData.canLayAll0 (D.pds xs) = true ∧
      ∃ j z, xs[j]? = some z ∧ PyData.eqv z.pd v.pd = true ∧ (∀ m z', m < j → xs[m]? = some z' → PyData.eqv z'.pd v.pd = false) ∧ R (.int (j : Nat)) S
  | .get, .ref a, [k, v], S, R => ∃ kvs ep, S a = some (.dct kvs ep) ∧ isTup k = true ∧ k.pure = true ∧ k.key.depth ≤ 8 ∧ R ((findK k.key kvs).getD v) S
  | .join, .str x, [d], S, R => seqD d S fun xs => ∃ ys, allStrs xs = some ys ∧ (ys.map (·.length)).sum + ys.length * x.length ≤ 16777216 ∧ R (.str (Txt.join x ys)) S
  | .split, .str x, [.str y], S, R => (y.length == 0) = false ∧ x.length + 2 ≤ sizeLine ∧ newL S ((Txt.split x y).map D.str) R
  | .partition, .str x, [.str y], S, R => (y.length == 0) = false ∧ x.length ≤ sizeLine ∧ R (.tup [.str (Txt.partition x y).1, .str (Txt.partition x y).2.1, .str (Txt.partition x y).2.2]) S
  | .startswith, .str x, [.str y], S, R => R (.bl (Txt.startswith x y)) S
  | .endswith, .str x, [.str y], S, R => R (.bl (Txt.endswith x y)) S
  | _, _, _, _, _ => False
/-- what a loop walks: the items, and what must stay -/
abbrev MS := Env → Sto → (List D → (Sto → Prop) → Sto → Prop) → Prop
def itD : D → Sto → (List D → (Sto → Prop) → Sto → Prop) → Prop
  | .tup xs, S, T => T xs (fun _ => True) S
  | .rol xs, S, T => T xs (fun _ => True) S
  | .str x, S, T => T (chars x) (fun _ => True) S
  | .ref a, S, T => lstAt S a fun xs => T xs (fun S' => S' a = some (.lst xs)) S
  | _, _, _ => False

def ltS (x y : Str) : Prop := x.cps.toList < y.cps.toList
/-- sorted(set(xs)) over the store -/
def signs (x : Str) : List Str := x.cps.toList.map fun c => (⟨#[c]⟩ : Str)
def ssD : D → Sto → MK → Prop
  | .str x, S, R => x.length < 4000 ∧ ∀ ns' : List Str, ns'.Pairwise ltS → (∀ k, k ∈ ns' ↔ k ∈ signs x) → newL S (ns'.map D.str) R
  | .ref a, S, R => lstAt S a fun xs => xs.length < 4000 ∧ ((∃ ns, allInts xs = some ns ∧ ∀ ns' : List Int, ns'.Pairwise (· < ·) → (∀ k, k ∈ ns' ↔ k ∈ ns) → newL S (ns'.map D.int) R) ∨
      (∃ ns, allStrs xs = some ns ∧ ∀ ns' : List Str, ns'.Pairwise ltS → (∀ k, k ∈ ns' ↔ k ∈ ns) → newL S (ns'.map D.str) R))
  | _, _, _ => False
/-- len(set(xs)) -/
def lsD : D → Sto → MK → Prop
  | .ref a, S, R => lstAt S a fun xs => xs.length < 4000 ∧ ((∃ ns, allInts xs = some ns ∧ ∀ ks : List Int, ks.Nodup → (∀ k, k ∈ ks ↔ k ∈ ns) → R (.int ks.length) S) ∨
      (∃ ns, allStrs xs = some ns ∧ ∀ ks : List Str, ks.Nodup → (∀ k, k ∈ ks ↔ k ∈ ns) → R (.int ks.length) S))
  | _, _, _ => False
/-- a field of an f-string -/
def fmtD : D → Option Str
  | .str y => some y
  | .int i => if i.natAbs.log2 < 1920 then some (Str.ofString (toString i)) else none
  | _ => none
def enumD : Nat → List D → List D
  | _, [] => []
  | i, x :: xs => .tup [.int (i : Nat), x] :: enumD (i + 1) xs
def zipD : List D → List D → List D
  | x :: xs, y :: ys => .tup [x, y] :: zipD xs ys
  | _, _ => []

/-! ### meanings -/
def lcRun (g : D → Env → Option Env) (t : MT) (e : ME) (G : Sto → Prop) (env : Env) : List D → List D → Sto → (List D → Sto → Prop) → Prop
  | [], acc, S, Q => G S ∧ Q acc S
  | x :: xs, acc, S, Q => G S ∧ ∃ env1, g x env = some env1 ∧ t env1 S fun b S1 => if b = true then e env1 S1 fun y S2 => acc.length < sizeLine ∧ lcRun g t e G env xs (acc ++ [y]) S2 Q else lcRun g t e G env xs acc S1 Q
/-- two fors: m runs the inner one -/
def lcRun2 (g : D → Env → Option Env) (t : MT) (m : Env → List D → Sto → (List D → Sto → Prop) → Prop) (G : Sto → Prop) (env : Env) : List D → List D → Sto → (List D → Sto → Prop) → Prop
  | [], acc, S, Q => G S ∧ Q acc S
  | x :: xs, acc, S, Q => G S ∧ ∃ env1, g x env = some env1 ∧ t env1 S fun b S1 => if b = true then m env1 acc S1 fun acc1 S2 => lcRun2 g t m G env xs acc1 S2 Q else lcRun2 g t m G env xs acc S1 Q
/-- a dict comprehension: kv the key, vv the value -/
def dcRun (g : D → Env → Option Env) (t : MT) (kv vv : ME) (G : Sto → Prop) (env : Env) : List D → List (D × D) → Sto → (List (D × D) → Sto → Prop) → Prop
  | [], acc, S, Q => G S ∧ Q acc S
  | x :: xs, acc, S, Q => G S ∧ ∃ env1, g x env = some env1 ∧ t env1 S fun b S1 => if b = true then kv env1 S1 fun y S2 => vv env1 S2 fun z S3 =>
      isTup y = true ∧ y.pure = true ∧ y.key.depth ≤ 8 ∧ acc.length < sizeLine ∧ dcRun g t kv vv G env xs (putK y z acc) S3 Q else dcRun g t kv vv G env xs acc S1 Q
def keysD : D → Sto → (List D → (Sto → Prop) → Sto → Prop) → Prop
  | .ref a, S, T => ∃ kvs ep, S a = some (.dct kvs ep) ∧ T (kvs.map (·.1)) (fun S' => S' a = some (.dct kvs ep)) S
  | _, _, _ => False
section
variable (Φ : Str → Option SpD) (Γ : Str → Option D)
mutual
def wE : Cd → ME
  | .var i => fun env S R => match env.getD i none with
    | some d => R d S
    | none => False
  | .cst d => fun _ S R => R d S
  | .glb x => fun _ S R => ∃ d, Γ x = some d ∧ R d S
  | .bin op a b => fun env S R => wE a env S fun d S1 => wE b env S1 fun e S2 => binD op d e S2 R
  | .neg a => fun env S R => wE a env S fun d S1 => match d with
    | .int i => R (.int (-i)) S1
    | _ => False
  | .cmp op a b => fun env S R => wE a env S fun d S1 => wE b env S1 fun e S2 => cmpD op d e S2 R
  | .chn op op2 a b c => fun env S R => wE a env S fun d S1 => wE b env S1 fun e S2 => cmpD op d e S2 fun z S3 => match z with
    | .bl true => wE c env S3 fun f S4 => cmpD op2 e f S4 R
    | .bl false => R (.bl false) S3
    | _ => False
  | .and a b => fun env S R => wE a env S fun d S1 => truD d S1 fun k => if k = true then wE b env S1 R else R d S1
  | .or a b => fun env S R => wE a env S fun d S1 => truD d S1 fun k => if k = true then R d S1 else wE b env S1 R
  | .not a => fun env S R => wE a env S fun d S1 => truD d S1 fun k => R (.bl (!k)) S1
  | .ife c a b => fun env S R => wT c env S fun k S1 => if k = true then wE a env S1 R else wE b env S1 R
  | .tup es => fun env S R => wEs es env S fun ds S1 => ds.length ≤ sizeLine ∧ R (.tup ds) S1
  | .lst es => fun env S R => wEs es env S fun ds S1 => ds.length ≤ sizeLine ∧ newL S1 ds R
  | .star _ => fun _ _ _ => False
  | .emp => fun _ S R => ∀ p, S p = none → R (.ref p) (up S p (.dct [] 0))
  | .ss a => fun env S R => wE a env S fun d S1 => ssD d S1 R
  | .ls a => fun env S R => wE a env S fun d S1 => lsD d S1 R
  | .fst es => fun env S R => wFs es Str.empty env S fun x S1 => R (.str x) S1
  | .idx a i => fun env S R => wE a env S fun d S1 => wE i env S1 fun e S2 => idxD d e S2 R
  | .sli a lo hi => fun env S R => wE a env S fun d S1 => wP lo env S1 fun l S2 => wP hi env S2 fun h S3 => sliD d l h S3 R
  | .rev a => fun env S R => wE a env S fun d S1 => revD d S1 R
  | .call f es => fun env S R => wEs es env S fun ds S1 => ∃ sp, Φ f = some sp ∧ sp ds S1 R
  | .blt f es => fun env S R => wEs es env S fun ds S1 => bltD f ds S1 R
  | .isi a ts => fun env S R => wE a env S fun d S1 => isiD d S1 ts fun b => R (.bl b) S1
  | .mth m a es => fun env S R => wE a env S fun d S1 => mtyD m d S1 ∧ wEs es env S1 fun ds S2 => mthD m d ds S2 R
  | .lc own e t s c => fun env S R => wSr s env S fun xs G S1 => lcRun (asgD t) (wT c) (wE e) G (wipeD env own) xs [] S1 fun acc S2 => newL S2 acc R
  | .lc2 own own1 e t s c t1 s1 c1 => fun env S R => wSr s env S fun xs G S1 =>
      lcRun2 (asgD t) (wT c) (fun env1 acc S2 Q => wSr s1 env1 S2 fun ys G1 S3 => lcRun (asgD t1) (wT c1) (wE e) G1 (wipeD env1 own1) ys acc S3 Q) G (wipeD env own) xs [] S1 fun acc S2 => newL S2 acc R
  | .dd k v => fun env S R => wE k env S fun y S1 => wE v env S1 fun z S2 => isTup y = true ∧ y.pure = true ∧ y.key.depth ≤ 8 ∧ ∀ p, S2 p = none → ∀ ep, R (.ref p) (up S2 p (.dct [(y, z)] ep))
  | .dc own k v t s c => fun env S R => wSr s env S fun xs G S1 => dcRun (asgD t) (wT c) (wE k) (wE v) G (wipeD env own) xs [] S1 fun acc S2 => ∀ p, S2 p = none → ∀ ep, R (.ref p) (up S2 p (.dct acc ep))
def wFs : List Cd → Str → Env → Sto → (Str → Sto → Prop) → Prop
  | [] => fun acc _ S K => K acc S
  | e :: es => fun acc env S K => wE e env S fun d S1 => ∃ y, fmtD d = some y ∧ (acc ++ y).length ≤ sizeLine ∧ wFs es (acc ++ y) env S1 K
def wEs : List Cd → MA
  | [] => fun _ S R => R [] S
  | .star a :: es => fun env S R => wE a env S fun d S1 => seqD d S1 fun xs => wEs es env S1 fun ds S2 => R (xs ++ ds) S2
  | e :: es => fun env S R => wE e env S fun d S1 => wEs es env S1 fun ds S2 => R (d :: ds) S2
def wT : Ct → MT
  | .yes => fun _ S R => R true S
  | .and a b => fun env S R => wT a env S fun k S1 => if k = true then wT b env S1 R else R false S1
  | .or a b => fun env S R => wT a env S fun k S1 => if k = true then R true S1 else wT b env S1 R
  | .not a => fun env S R => wT a env S fun k S1 => R (!k) S1
  | .val a => fun env S R => wE a env S fun d S1 => truD d S1 fun k => R k S1
def wP : Cp → MO
  | .no => fun _ S R => R none S
  | .at e => fun env S R => wE e env S fun d S1 => match d with
    | .int i => R (some i) S1
    | _ => False
def wSr : Cs → MS
  | .it e => fun env S T => wE e env S fun d S1 => itD d S1 T
  | .rng a => fun env S T => wE a env S fun d S1 => match d with
    | .int n => -(2 ^ 62) ≤ n ∧ n < 2 ^ 62 ∧ T ((List.range n.toNat).map fun (k : Nat) => D.int k) (fun _ => True) S1
    | _ => False
  | .rng2 a b => fun env S T => wE a env S fun d S1 => wE b env S1 fun e S2 => match d, e with
    | .int i, .int j => -(2 ^ 62) ≤ i ∧ i < 2 ^ 62 ∧ -(2 ^ 62) ≤ j ∧ j < 2 ^ 62 ∧ T ((List.range (j - i).toNat).map fun (k : Nat) => D.int (i + k)) (fun _ => True) S2
    | _, _ => False
  | .enm a => fun env S T => wE a env S fun d S1 => itD d S1 fun xs G S2 => T (enumD 0 xs) G S2
  | .zip a b => fun env S T => wE a env S fun d S1 => wE b env S1 fun e S2 => itD d S2 fun xs G S3 => itD e S3 fun ys G' S4 => T (zipD xs ys) (fun S => G S ∧ G' S) S4
  | .keys a => fun env S T => wE a env S fun d S1 => keysD d S1 T
  | .zz a b c => fun env S T => wE a env S fun d S1 => wE b env S1 fun e S2 => wE c env S2 fun f S3 => itD d S3 fun xs G S4 => itD e S4 fun ys G' S5 => itD f S5 fun zs G2 S6 => T (zipD xs (zipD ys zs)) (fun S => G S ∧ G' S ∧ G2 S) S6
  | .rvr a => fun env S T => wE a env S fun d S1 => match d with
    | .int n => 0 ≤ n ∧ n < 2 ^ 62 ∧ T ((List.range n.toNat).map fun (k : Nat) => D.int (n - 1 - k)) (fun _ => True) S1
    | _ => False
end
structure EndsD where
  nx : Env → Sto → Prop
  rt : D → Sto → Prop
  bk : Env → Sto → Prop
  ct : Env → Sto → Prop
abbrev MSt := EndsD → Env → Sto → Prop
def frRun (g : D → Env → Option Env) (b : MSt) (G : Sto → Prop) (E : EndsD) : List D → Env → Sto → Prop
  | [], env, S => G S ∧ E.nx env S
  | x :: xs, env, S => G S ∧ ∃ env1, g x env = some env1 ∧ b ⟨frRun g b G E xs, E.rt, E.nx, frRun g b G E xs⟩ env1 S
def whRun (c : MT) (b : MSt) (E : EndsD) (env : Env) (S : Sto) : Prop := ∃ W : Nat → Env → Sto → Prop, (∃ m, W m env S) ∧ ∀ m env S, W m env S →
  c env S fun k S1 => if k = true then b ⟨fun env' S' => ∃ m', m' < m ∧ W m' env' S', E.rt, E.nx, fun env' S' => ∃ m', m' < m ∧ W m' env' S'⟩ env S1 else E.nx env S1
mutual
def wS : Sd → MSt
  | .exp e => fun E env S => wE Φ Γ e env S fun _ S1 => E.nx env S1
  | .ret e => fun E env S => wE Φ Γ e env S E.rt
  | .retN => fun E _ S => E.rt .non S
  | .asg t e => fun E env S => wE Φ Γ e env S fun d S1 => ∃ env1, asgD t d env = some env1 ∧ E.nx env1 S1
  | .put a i e => fun E env S => wE Φ Γ e env S fun v S1 => wE Φ Γ a env S1 fun o S2 => wE Φ Γ i env S2 fun k S3 => putD o k v S3 fun S4 => E.nx env S4
  | .aug i op e => fun E env S => match env.getD i none with
    | some x => wE Φ Γ e env S fun y S1 => (match x, y with
      | .int m, .int n => (op = .Add ∧ E.nx (env.set i (some (.int (m + n)))) S1) ∨ (op = .Sub ∧ E.nx (env.set i (some (.int (m - n)))) S1)
      | _, _ => False)
    | none => False
  | .ite c a b => fun E env S => wT Φ Γ c env S fun k S1 => if k = true then wSs a E env S1 else wSs b E env S1
  | .whl c b => fun E env S => whRun (wT Φ Γ c) (wSs b) E env S
  | .fr t s b => fun E env S => wSr Φ Γ s env S fun xs G S1 => frRun (asgD t) (wSs b) G E xs env S1
  | .brk => fun E env S => E.bk env S
  | .cnt => fun E env S => E.ct env S
  | .pas => fun E env S => E.nx env S
def wSs : List Sd → MSt
  | [] => fun E env S => E.nx env S
  | s :: ss => fun E env S => wS s ⟨wSs ss E, E.rt, E.bk, E.ct⟩ env S
end
/-- a def: its names (the parameters first), how many parameters, its body -/
structure Df where
  N : List Str
  ps : Nat
  body : List Sd
def wDf (f : Df) : SpD := fun ds S R => ds.length = f.ps ∧ wSs Φ Γ f.body ⟨fun _ S' => R .non S', R, fun _ _ => False, fun _ _ => False⟩ (ds.map some ++ List.replicate (f.N.length - f.ps) none) S
end
end Mn

/-! Mn: what the machine does on values, told over the store: comparisons, truth, subscripts, built-ins, methods, dicts. -/
namespace Mn
open PySem PySem.Spec L2

/-! ### depth and shape -/
mutual
theorem pd_depth : ∀ d : D, PyData.depth d.pd = d.dep
  | .non => by simp [D.pd, D.dep, PyData.depth]
  | .bl _ => by simp [D.pd, D.dep, PyData.depth]
  | .int _ => by simp [D.pd, D.dep, PyData.depth]
  | .str _ => by simp [D.pd, D.dep, PyData.depth]
  | .tup xs => by rw [D.pd, D.dep, PyData.depth, pds_depth xs]
  | .rol _ => by simp [D.pd, D.dep, PyData.depth]
  | .ref _ => by simp [D.pd, D.dep, PyData.depth]
theorem pds_depth : ∀ ds : List D, PyData.depthAll (D.pds ds) = D.deps ds
  | [] => by simp [D.pds, D.deps, PyData.depthAll]
  | d :: ds => by rw [D.pds, D.deps, PyData.depthAll, pd_depth d, pds_depth ds]
end
theorem shaped_of {d : PyData} (h : d.canLay0 = true) (hd : d.depth ≤ 64) : SeqAt.shaped d = true := by
  unfold SeqAt.shaped
  rw [h, decide_eq_true hd]
  rfl
section
variable {P : Program} {w : World} {K : PySem.W.Frag} {H : Hp} {S : Sto}
mutual
theorem Den.dp (rp : Rp P w K H S) : ∀ (u : PyData) (d : D) (x : V), Den S d u → RD K H d x → Dp K H x u
  | .none, _, _, h, r => by cases h; cases r; exact .non
  | .bool b, _, _, h, r => by cases h; cases r; exact .bl b
  | .int i, _, _, h, r => by cases h; cases r; exact .int i
  | .str x, _, _, h, r => by cases h; cases r; exact .str x
  | .tuple us, _, _, h, r => by
    cases h with
    | tup h =>
      cases r with
      | tup q rs => exact .tup q (Dens.dp rp us _ _ h rs)
  | .list us, _, _, h, r => by
    cases h with
    | ref e h =>
      cases r
      obtain ⟨vs, e2, r⟩ := rp.lst e
      exact .lst (SqL.of e2) (Dens.dp rp us _ _ h r)
  | .dict _, _, _, h, _ => by cases h
theorem Dens.dp (rp : Rp P w K H S) : ∀ (us : List PyData) (ds : List D) (xs : List V), Dens S ds us → RDs K H ds xs → DpAll K H xs us
  | [], _, _, h, r => by cases h; cases r; exact .nil
  | u :: us, _, _, h, r => by
    cases h with
    | cons h1 h2 =>
      cases r with
      | cons r1 r2 => exact .cons (Den.dp rp u _ _ h1 r1) (Dens.dp rp us _ _ h2 r2)
end
theorem contP_ok (rp : Rp P w K H S) {d : D} {x : V} (rd : RD K H d x) {k : PyData → Prop} (h : contP d S k) : ∃ u, k u ∧ Dp K H x u ∧ SeqAt.shaped u = true := by
  have go : d.pure = true ∧ d.dep ≤ 40 ∧ d.pd.canLay0 = true ∧ k d.pd → ∃ u, k u ∧ Dp K H x u ∧ SeqAt.shaped u = true := fun h =>
    ⟨d.pd, h.2.2.2, rd.dp h.1, shaped_of h.2.2.1 (by rw [pd_depth]; omega)⟩
  cases rd with
  | ref a =>
    obtain ⟨xs, e, pu, dp, cl, q⟩ := h
    obtain ⟨vs, e2, r⟩ := rp.lst e
    refine ⟨_, q, .lst (SqL.of e2) (r.dp pu), shaped_of (by rw [PyData.canLay0]; exact cl) ?_⟩
    rw [PyData.depth, pds_depth]
    omega
  | non => exact go h
  | bl _ => exact go h
  | int _ => exact go h
  | str _ => exact go h
  | tup _ _ => exact go h
  | rol _ _ => exact go h
theorem cont_ok (rp : Rp P w K H S) {d : D} {x : V} (rd : RD K H d x) {k : PyData → Prop} (h : contD d S k) : ∃ u, k u ∧ Dp K H x u ∧ SeqAt.shaped u = true := by
  rcases h with h | ⟨u, h1, h2, h3, h4⟩
  · exact contP_ok rp rd h
  · exact ⟨u, h4, h1.dp rp _ _ _ rd, shaped_of h3 (by omega)⟩
end
section
variable {X : Cx}
theorem o_eqn (hu : X.A.units + 64 < cLine) : OpR X (compareOp .Eq) (lift2 X.prog X.w X.K (eqD false)) := by
  intro pins s σ H x y v u Q I rx ry h
  obtain ⟨d, e, S, R, rd, re, rp, h, p⟩ := h
  have go : contD d S (fun u => contD e S fun v => R (.bl (PyData.eqv u v)) S) → wpAny (model X.prog X.w) X.A (compareOp .Eq v u) (EP X pins σ Q) X.xe s := fun h => by
    obtain ⟨du, h1, d1, s1⟩ := cont_ok rp rd h
    obtain ⟨dv, h2, d2, s2⟩ := cont_ok rp re h1
    exact op_eqD hu pins s σ H x y v u Q I rx ry ⟨du, dv, d1, d2, s1, s2, p.here h2 (.bl _) rp⟩
  cases rd with
  | str a =>
    cases re with
    | str b => exact op_eq pins s σ H _ _ v u Q I rx ry ⟨rfl, by rw [show decide (V.str a = V.str b) = decide (a = b) by simp]; exact p.here h (.bl _) rp⟩
    | _ => exact go h
  | int a =>
    cases re with
    | int b => exact op_eq pins s σ H _ _ v u Q I rx ry ⟨rfl, by rw [show decide (V.int a = V.int b) = decide (a = b) by simp]; exact p.here h (.bl _) rp⟩
    | _ => exact go h
  | bl a =>
    cases re with
    | bl b => exact op_eq pins s σ H _ _ v u Q I rx ry ⟨rfl, by rw [show decide (V.bl a = V.bl b) = decide (a = b) by simp]; exact p.here h (.bl _) rp⟩
    | _ => exact go h
  | _ => exact go h
theorem o_neq (hu : X.A.units + 64 < cLine) : OpR X (compareOp .NotEq) (lift2 X.prog X.w X.K (eqD true)) := by
  intro pins s σ H x y v u Q I rx ry h
  obtain ⟨d, e, S, R, rd, re, rp, h, p⟩ := h
  have go : contD d S (fun u => contD e S fun v => R (.bl (!PyData.eqv u v)) S) → wpAny (model X.prog X.w) X.A (compareOp .NotEq v u) (EP X pins σ Q) X.xe s := fun h => by
    obtain ⟨du, h1, d1, s1⟩ := cont_ok rp rd h
    obtain ⟨dv, h2, d2, s2⟩ := cont_ok rp re h1
    exact op_neD hu pins s σ H x y v u Q I rx ry ⟨du, dv, d1, d2, s1, s2, p.here h2 (.bl _) rp⟩
  cases rd with
  | str a =>
    cases re with
    | str b => exact op_ne pins s σ H _ _ v u Q I rx ry ⟨rfl, by rw [show decide (V.str a = V.str b) = decide (a = b) by simp]; exact p.here h (.bl _) rp⟩
    | _ => exact go h
  | int a =>
    cases re with
    | int b => exact op_ne pins s σ H _ _ v u Q I rx ry ⟨rfl, by rw [show decide (V.int a = V.int b) = decide (a = b) by simp]; exact p.here h (.bl _) rp⟩
    | _ => exact go h
  | bl a =>
    cases re with
    | bl b => exact op_ne pins s σ H _ _ v u Q I rx ry ⟨rfl, by rw [show decide (V.bl a = V.bl b) = decide (a = b) by simp]; exact p.here h (.bl _) rp⟩
    | _ => exact go h
  | _ => exact go h
theorem o_lt : OpR X (compareOp .Lt) (lift2 X.prog X.w X.K (cmpD .Lt)) := by
  intro pins s σ H x y v u Q I rx ry h
  obtain ⟨d, e, S, R, rd, re, rp, h, p⟩ := h
  cases rd <;> first | exact False.elim h | (cases re <;> first | exact False.elim h | skip)
  · exact op_lt pins s σ H _ _ v u Q I rx ry ⟨_, _, rfl, rfl, p.here h (.bl _) rp⟩
  · exact op_lt_str pins s σ H _ _ v u Q I rx ry ⟨_, _, rfl, rfl, p.here h (.bl _) rp⟩
theorem o_gt : OpR X (compareOp .Gt) (lift2 X.prog X.w X.K (cmpD .Gt)) := by
  intro pins s σ H x y v u Q I rx ry h
  obtain ⟨d, e, S, R, rd, re, rp, h, p⟩ := h
  cases re <;> first | exact False.elim h | (cases rd <;> first | exact False.elim h | skip)
  · exact op_gt pins s σ H _ _ v u Q I rx ry ⟨_, _, rfl, rfl, p.here h (.bl _) rp⟩
  · exact op_gt_str pins s σ H _ _ v u Q I rx ry ⟨_, _, rfl, rfl, p.here h (.bl _) rp⟩
theorem not_lt_dec (i j : Int) : (!decide (i < j)) = decide (j ≤ i) := by
  by_cases h : i < j
  · rw [decide_eq_true h, decide_eq_false (by omega)]; rfl
  · rw [decide_eq_false h, decide_eq_true (by omega)]; rfl
theorem o_le : OpR X (compareOp .LtE) (lift2 X.prog X.w X.K (cmpD .LtE)) := by
  intro pins s σ H x y v u Q I rx ry h
  obtain ⟨d, e, S, R, rd, re, rp, h, p⟩ := h
  cases re <;> first | exact False.elim h | (cases rd <;> first | exact False.elim h | skip)
  · exact op_le pins s σ H _ _ v u Q I rx ry ⟨_, _, rfl, rfl, by dsimp only; rw [← not_lt_dec]; exact p.here h (.bl _) rp⟩
  · exact op_le_str pins s σ H _ _ v u Q I rx ry ⟨_, _, rfl, rfl, p.here h (.bl _) rp⟩
theorem o_ge : OpR X (compareOp .GtE) (lift2 X.prog X.w X.K (cmpD .GtE)) := by
  intro pins s σ H x y v u Q I rx ry h
  obtain ⟨d, e, S, R, rd, re, rp, h, p⟩ := h
  cases rd <;> first | exact False.elim h | (cases re <;> first | exact False.elim h | skip)
  · exact op_ge pins s σ H _ _ v u Q I rx ry ⟨_, _, rfl, rfl, by dsimp only; rw [← not_lt_dec]; exact p.here h (.bl _) rp⟩
  · exact op_ge_str pins s σ H _ _ v u Q I rx ry ⟨_, _, rfl, rfl, p.here h (.bl _) rp⟩
theorem o_is : OpR X (compareOp .Is) (lift2 X.prog X.w X.K (isD false)) := by
  intro pins s σ H x y v u Q I rx ry h
  obtain ⟨d, e, S, R, rd, re, rp, h, p⟩ := h
  cases re with
  | non =>
    refine op_isN pins s σ H _ _ v u Q I rx ry ⟨rfl, ?_⟩
    cases rd with
    | non => exact p.here h (.bl _) rp
    | _ => exact p.here h (.bl _) rp
  | bl b =>
    cases rd with
    | bl a => exact op_is_bl pins s σ H _ _ v u Q I rx ry ⟨_, _, rfl, rfl, p.here h (.bl _) rp⟩
    | _ => exact False.elim h
  | _ => exact (by cases rd <;> exact False.elim h)
theorem o_isn : OpR X (compareOp .IsNot) (lift2 X.prog X.w X.K (isD true)) := by
  intro pins s σ H x y v u Q I rx ry h
  obtain ⟨d, e, S, R, rd, re, rp, h, p⟩ := h
  cases re with
  | non =>
    refine op_notN pins s σ H _ _ v u Q I rx ry ⟨rfl, ?_⟩
    cases rd with
    | non => exact p.here h (.bl _) rp
    | _ => exact p.here h (.bl _) rp
  | bl b =>
    cases rd with
    | bl a => exact op_isnot_bl pins s σ H _ _ v u Q I rx ry ⟨_, _, rfl, rfl, p.here h (.bl _) rp⟩
    | _ => exact False.elim h
  | _ => exact (by cases rd <;> exact False.elim h)
end

/-! ### dicts -/
mutual
theorem nested_of {X : Cx} {pins : List (Addr × Obj)} {σ : L2.St} {H : Hp} {s : Shared} (I : Inv X pins σ H s) : ∀ (d : D) (v : V) (u : Value), RD X.K H d v → d.pure = true → RelV v u → NestedIs s.heap d.key u
  | .non, _, _, r, _, q => by cases r; cases q; rw [D.key]; exact .none
  | .bl b, _, _, r, _, q => by cases r; cases q; rw [D.key]; exact .bool rfl
  | .int i, _, _, r, _, q => by cases r; obtain ⟨t, rfl⟩ := q; rw [D.key]; exact .int _ _
  | .str x, _, _, r, _, q => by cases r; obtain ⟨t, rfl⟩ := q; rw [D.key]; exact .text _ _
  | .tup ds, _, _, r, p, q => by
    cases r with
    | tup h rs =>
      cases q
      rw [D.pure] at p
      obtain ⟨its, rv, ⟨o, e, c, n, dt⟩, _⟩ := I.tuple h
      rw [D.key]
      exact .tup e c dt (by simpa using nesteds_of I ds _ its rs p rv)
  | .rol _, _, _, r, p, _ => by simp [D.pure] at p
  | .ref _, _, _, r, p, _ => by simp [D.pure] at p
theorem nesteds_of {X : Cx} {pins : List (Addr × Obj)} {σ : L2.St} {H : Hp} {s : Shared} (I : Inv X pins σ H s) : ∀ (ds : List D) (vs : List V) (us : List Value), RDs X.K H ds vs → D.pures ds = true → Vals vs us → NestedAll s.heap (D.keys ds) us
  | [], _, _, r, _, q => by cases r; cases q; rw [D.keys]; exact .nil
  | d :: ds, _, _, r, p, q => by
    cases r with
    | cons h rs =>
      cases q with
      | cons q1 q2 =>
        rw [D.pures, Bool.and_eq_true] at p
        rw [D.keys]
        exact .cons (nested_of I d _ _ h p.1 q1) (nesteds_of I ds _ _ rs p.2 q2)
end
/-- a key's entry -/
def atV (xs : List (NestedKey × Addr × V)) (k : NestedKey) : Option (Addr × V) := (xs.find? fun x => decide (x.1 = k)).map (·.2)
def storedV (xs : List (NestedKey × Addr × V)) (k : NestedKey) (a : Addr) (v : V) : List (NestedKey × Addr × V) :=
  if (atV xs k).isSome then xs.map (fun x => if x.1 = k then (x.1, x.2.1, v) else x) else xs ++ [(k, a, v)]
theorem er_find {k : NestedKey} : ∀ {xs : List (NestedKey × Addr × V)} {us : List (NestedKey × Addr × Value)}, Paired ER xs us →
    (∃ p q, atV xs k = some p ∧ atKey us k = some q ∧ RelV p.2 q.2) ∨ (atV xs k = none ∧ atKey us k = none)
  | _, _, .nil => .inr ⟨rfl, rfl⟩
  | _, _, @Paired.cons _ _ _ x u xs us ⟨h1, h2, h3⟩ t => by
    by_cases e : x.1 = k
    · refine .inl ⟨x.2, u.2, ?_, ?_, h3⟩
      · simp [atV, e]
      · simp [atKey, ← h1, e]
    · rcases er_find (k := k) t with ⟨p, q, e1, e2, r⟩ | ⟨e1, e2⟩
      · refine .inl ⟨p, q, ?_, ?_, r⟩
        · simpa [atV, e] using e1
        · simpa [atKey, ← h1, e] using e2
      · refine .inr ⟨?_, ?_⟩
        · simpa [atV, e] using e1
        · simpa [atKey, ← h1, e] using e2
theorem er_app : ∀ {xs xs' : List (NestedKey × Addr × V)} {us us' : List (NestedKey × Addr × Value)}, Paired ER xs us → Paired ER xs' us' → Paired ER (xs ++ xs') (us ++ us')
  | _, _, _, _, .nil, q => q
  | _, _, _, _, .cons r t, q => .cons r (er_app t q)
theorem er_put {k : NestedKey} {v : V} {u : Value} (r : RelV v u) : ∀ {xs : List (NestedKey × Addr × V)} {us : List (NestedKey × Addr × Value)}, Paired ER xs us → Paired ER (xs.map (fun x => if x.1 = k then (x.1, x.2.1, v) else x)) (us.map (putAt k u))
  | _, _, .nil => .nil
  | _, _, @Paired.cons _ _ _ x y xs us ⟨h1, h2, h3⟩ t => by
    refine .cons ?_ (er_put r t)
    unfold putAt
    dsimp only
    by_cases e : x.1 = k
    · rw [if_pos e, if_pos (h1 ▸ e)]
      exact ⟨h1, h2, r⟩
    · rw [if_neg e, if_neg (h1 ▸ e)]
      exact ⟨h1, h2, h3⟩
theorem er_stored {k : NestedKey} {a : Addr} {v : V} {u : Value} (r : RelV v u) {xs : List (NestedKey × Addr × V)} {us : List (NestedKey × Addr × Value)} (h : Paired ER xs us) : Paired ER (storedV xs k a v) (storedH us k a u) := by
  unfold storedV storedH
  rcases er_find (k := k) h with ⟨p, q, e1, e2, _⟩ | ⟨e1, e2⟩
  · rw [e1, e2]
    exact er_put r h
  · rw [e1, e2]
    exact er_app h (.cons ⟨rfl, rfl, r⟩ .nil)
section
variable {K : PySem.W.Frag} {H : Hp}
theorem kr_find {k : NestedKey} : ∀ {kvs : List (D × D)} {xs : List (NestedKey × Addr × V)}, Paired (KR K H) kvs xs →
    (∃ d p, findK k kvs = some d ∧ atV xs k = some p ∧ RD K H d p.2) ∨ (findK k kvs = none ∧ atV xs k = none)
  | _, _, .nil => .inr ⟨rfl, rfl⟩
  | _, _, @Paired.cons _ _ _ p x kvs xs ⟨h1, h2, h3, h4⟩ t => by
    by_cases e : p.1.key = k
    · refine .inl ⟨p.2, x.2, ?_, ?_, h4⟩
      · obtain ⟨d, v⟩ := p
        simp only [findK]
        rw [if_pos e]
      · simp [atV, h1, e]
    · rcases kr_find (k := k) t with ⟨d, q, e1, e2, r⟩ | ⟨e1, e2⟩
      · refine .inl ⟨d, q, ?_, ?_, r⟩
        · obtain ⟨d0, v⟩ := p
          simp only [findK]
          rw [if_neg e]
          exact e1
        · simpa [atV, h1, e] using e2
      · refine .inr ⟨?_, ?_⟩
        · obtain ⟨d0, v⟩ := p
          simp only [findK]
          rw [if_neg e]
          exact e1
        · simpa [atV, h1, e] using e2
theorem kr_app : ∀ {a c : List (D × D)} {b d : List (NestedKey × Addr × V)}, Paired (KR K H) a b → Paired (KR K H) c d → Paired (KR K H) (a ++ c) (b ++ d)
  | _, _, _, _, .nil, q => q
  | _, _, _, _, .cons r t, q => .cons r (kr_app t q)
theorem kr_put {k : NestedKey} {d : D} {v : V} (r : RD K H d v) : ∀ {kvs : List (D × D)} {xs : List (NestedKey × Addr × V)}, Paired (KR K H) kvs xs →
    Paired (KR K H) (kvs.map fun p => if p.1.key = k then (p.1, d) else p) (xs.map fun x => if x.1 = k then (x.1, x.2.1, v) else x)
  | _, _, .nil => .nil
  | _, _, @Paired.cons _ _ _ p x kvs xs ⟨h1, h2, h3, h4⟩ t => by
    refine .cons ?_ (kr_put r t)
    dsimp only
    by_cases e : p.1.key = k
    · rw [if_pos e, if_pos (h1.trans e)]
      exact ⟨h1, h2, h3, r⟩
    · rw [if_neg e, if_neg (fun z => e (h1.symm.trans z))]
      exact ⟨h1, h2, h3, h4⟩
theorem kr_stored {k d : D} {a : Addr} {v : V} (rk : RD K H k (.ref a)) (pk : k.pure = true) (r : RD K H d v) {kvs : List (D × D)} {xs : List (NestedKey × Addr × V)} (h : Paired (KR K H) kvs xs) :
    Paired (KR K H) (putK k d kvs) (storedV xs k.key a v) := by
  unfold putK storedV
  rcases kr_find (k := k.key) h with ⟨e, p, e1, e2, _⟩ | ⟨e1, e2⟩
  · rw [e1, e2]
    exact kr_put r h
  · rw [e1, e2]
    exact kr_app h (.cons ⟨rfl, pk, rk, r⟩ .nil)
end
theorem stored_keys {k : NestedKey} {a : Addr} {v : V} {xs : List (NestedKey × Addr × V)} (nd : (xs.map (·.1)).Nodup) : ((storedV xs k a v).map (·.1)).Nodup := by
  unfold storedV
  cases e : atV xs k with
  | some p =>
    simp only [Option.isSome_some, if_true]
    have : (xs.map (fun x => if x.1 = k then (x.1, x.2.1, v) else x)).map (·.1) = xs.map (·.1) := by
      rw [List.map_map]
      refine List.map_congr_left fun x _ => ?_
      simp only [Function.comp]
      split <;> rfl
    rw [this]
    exact nd
  | none =>
    simp only [Option.isSome_none, Bool.false_eq_true, if_false]
    rw [List.map_append, List.nodup_append]
    refine ⟨nd, by simp, fun y hy z hz => ?_⟩
    simp only [List.map_cons, List.map_nil, List.mem_singleton] at hz
    subst hz
    rintro rfl
    obtain ⟨x, hx, e2⟩ := List.mem_map.mp hy
    unfold atV at e
    rw [Option.map_eq_none_iff, List.find?_eq_none] at e
    exact e x hx (by simp [e2])
theorem stored_depth {k : NestedKey} {a : Addr} {v : V} {xs : List (NestedKey × Addr × V)} (h : ∀ x ∈ xs, x.1.depth ≤ 8) (hk : k.depth ≤ 8) : ∀ x ∈ storedV xs k a v, x.1.depth ≤ 8 := by
  intro x hx
  unfold storedV at hx
  split at hx
  · obtain ⟨y, hy, rfl⟩ := List.mem_map.mp hx
    split
    · exact h y hy
    · exact h y hy
  · rcases List.mem_append.mp hx with hx | hx
    · exact h x hx
    · rw [List.mem_singleton.mp hx]; exact hk
theorem stored_len {k : NestedKey} {a : Addr} {v : V} {xs : List (NestedKey × Addr × V)} : (storedV xs k a v).length ≤ xs.length + 1 := by
  unfold storedV
  split <;> simp
section
variable {X : Cx} {pins : List (Addr × Obj)} {σ : L2.St} {H : Hp} {s : Shared} {S : Sto}
/-- the dict of a cell, as the library's rules take it -/
theorem dict_of (I : Inv X pins σ H s) {a : Addr} {xs : List (NestedKey × Addr × V)} {ep : Nat} {kvs : List (D × D)} (hH : H a = some (.ext (DPhi X.prog X.w a xs ep))) (kr : Paired (KR X.K H) kvs xs) (nd : (xs.map (·.1)).Nodup) (dp : ∀ x ∈ xs, x.1.depth ≤ 8) :
    ∃ (o : Obj) (es : Array DictEntry) (us : List (NestedKey × Addr × Value)), s.heap.get? a = some o ∧ o.ExactDict ∧ o.data = .dict es ep ∧ Paired ER xs us ∧ s.heap.DictOfH (nestedKind X.prog X.w) a us ∧ es.toList = us.map (entryOfKey (nestedKind X.prog X.w)) := by
  obtain ⟨⟨o, es, us, e, ex, dt, er, el⟩, _, _⟩ := I.hok a _ hH
  refine ⟨o, es, us, e, ex, dt, er, ⟨o, es, ep, e, ex, dt, el, ?_, ?_⟩, el⟩
  · have go : ∀ {kvs : List (D × D)} {xs : List (NestedKey × Addr × V)} {us : List (NestedKey × Addr × Value)}, Paired (KR X.K H) kvs xs → Paired ER xs us → (∀ x ∈ xs, x.1.depth ≤ 8) → ∀ u ∈ us, (nestedKind X.prog X.w).is s.heap u.1 u.2.1 := by
      intro kvs xs us kr er dp
      induction er generalizing kvs with
      | nil => intro u hu; cases hu
      | @cons x u xs us h t ih =>
        cases kr with
        | cons k kt =>
          intro y hy
          rcases List.mem_cons.mp hy with rfl | hy
          · obtain ⟨k1, k2, k3, k4⟩ := k
            refine ⟨?_, ?_⟩
            · rw [← h.1, ← h.2.1, k1]
              exact nested_of I _ _ _ k3 k2 rfl
            · rw [← h.1]
              exact dp x List.mem_cons_self
          · exact ih kt (fun x hx => dp x (List.mem_cons_of_mem _ hx)) y hy
    exact go kr er dp
  · have : us.map (·.1) = xs.map (·.1) := by
      have go : ∀ {xs : List (NestedKey × Addr × V)} {us : List (NestedKey × Addr × Value)}, Paired ER xs us → us.map (·.1) = xs.map (·.1) := by
        intro xs us er
        induction er with
        | nil => rfl
        | cons h _ ih => rw [List.map_cons, List.map_cons, ih, h.1]
      exact go er
    rw [this]
    exact nd
/-- a key's value -/
theorem key_of (I : Inv X pins σ H s) {k : D} {b : Addr} (rk : RD X.K H k (.ref b)) (pk : k.pure = true) (dk : k.key.depth ≤ 8) : (nestedKind X.prog X.w).is s.heap k.key b := ⟨nested_of I _ _ _ rk pk rfl, dk⟩
end
section
variable {X : Cx}
theorem o_in (neg : Bool) (hu : X.A.units + 65 < cLine) : OpR X (compareOp (if neg then .NotIn else .In)) (lift2 X.prog X.w X.K (inD neg)) := by
  have fl : ∀ {K : PySem.W.Frag} {H : Hp} {d e : D} {x y : V}, RD K H d x → RD K H e y → d.flat = true → e.flat = true → eqV y x = PyData.eqv e.pd d.pd := by
    intro K H d e x y r1 r2 f1 f2
    cases r1 <;> first | (simp [D.flat] at f1; done) | (cases r2 <;> first | (simp [D.flat] at f2; done) | skip)
    all_goals simp [eqV, D.pd, PyData.eqv]
  have fv : ∀ {K : PySem.W.Frag} {H : Hp} {d : D} {x : V}, RD K H d x → d.flat = true → flatV x = true := by
    intro K H d x r f
    cases r <;> first | rfl | (simp [D.flat] at f)
  have fvs : ∀ {K : PySem.W.Frag} {H : Hp} {ds : List D} {xs : List V}, RDs K H ds xs → ds.all D.flat = true → xs.all flatV = true := by
    intro K H ds xs r f
    induction ds generalizing xs with
    | nil => cases r; rfl
    | cons d ds ih =>
      cases r with
      | cons h t =>
        rw [List.all_cons, Bool.and_eq_true] at f ⊢
        exact ⟨fv h f.1, ih t f.2⟩
  have iv : ∀ {K : PySem.W.Frag} {H : Hp} {d : D} {x : V} {ds : List D} {xs : List V}, RD K H d x → RDs K H ds xs → d.flat = true → ds.all D.flat = true → inV x xs = ds.any fun z => PyData.eqv z.pd d.pd := by
    intro K H d x ds xs r rs f fs
    induction ds generalizing xs with
    | nil => cases rs; rfl
    | cons e ds ih =>
      cases rs with
      | cons h t =>
        rw [List.all_cons, Bool.and_eq_true] at fs
        have := ih t fs.2
        unfold inV at this ⊢
        rw [List.any_cons, List.any_cons, this, fl r h f fs.1]
  have pa : ∀ {d : D} {ds : List D}, ((D.pds ds).any fun z => PyData.eqv z d.pd) = ds.any fun z => PyData.eqv z.pd d.pd := by
    intro d ds
    induction ds with
    | nil => rw [D.pds]; rfl
    | cons e ds ih => rw [D.pds, List.any_cons, List.any_cons, ih]
  intro pins s σ H x y v u Q I rx ry h
  obtain ⟨d, e, S, R, rd, re, rp, h, p⟩ := h
  have tuple : ∀ {ys : List D}, e = .tup ys → (d.flat = true ∧ ys.all D.flat = true ∧ R (.bl (if neg then !(ys.any fun z => PyData.eqv z.pd d.pd) else ys.any fun z => PyData.eqv z.pd d.pd)) S) →
      wpAny (model X.prog X.w) X.A (compareOp (if neg then .NotIn else .In) v u) (EP X pins σ Q) X.xe s := by
    rintro ys rfl ⟨h1, h2, h3⟩
    cases re with
    | tup q r =>
      cases neg with
      | false => exact op_in_seq pins s σ H _ _ v u Q I rx ry ⟨_, _, rfl, .inr q, fv rd h1, fvs r h2, by rw [iv rd r h1 h2]; exact p.here h3 (.bl _) rp⟩
      | true => exact op_notIn_seq pins s σ H _ _ v u Q I rx ry ⟨_, _, rfl, .inr q, fv rd h1, fvs r h2, by rw [iv rd r h1 h2]; exact p.here h3 (.bl _) rp⟩
  have lst : ∀ {a : Addr}, e = .ref a → ((∃ ys, S a = some (.lst ys) ∧ d.pure = true ∧ d.dep ≤ 40 ∧ d.pd.canLay0 = true ∧ D.pures ys = true ∧ D.deps ys ≤ 40 ∧ PyData.canLayAll0 (D.pds ys) = true ∧ R (.bl (if neg then !(ys.any fun z => PyData.eqv z.pd d.pd) else ys.any fun z => PyData.eqv z.pd d.pd)) S) ∨
      (∃ kvs ep, S a = some (.dct kvs ep) ∧ isTup d = true ∧ d.pure = true ∧ d.key.depth ≤ 8 ∧ R (.bl (if neg then !(findK d.key kvs).isSome else (findK d.key kvs).isSome)) S)) →
      wpAny (model X.prog X.w) X.A (compareOp (if neg then .NotIn else .In) v u) (EP X pins σ Q) X.xe s := by
    rintro a rfl (⟨ys, e1, p1, p2, p3, p4, p5, p6, h⟩ | ⟨kvs, ep, e1, it, pd, dk, h⟩)
    · cases re
      obtain ⟨vs, e2, r⟩ := rp.lst e1
      have dl : Dp X.K H (.ref a) (.list (D.pds ys)) := .lst (SqL.of e2) (r.dp p4)
      have s1 : SeqAt.shaped d.pd = true := shaped_of p3 (by rw [pd_depth]; omega)
      have s2 : SeqAt.shaped (.list (D.pds ys)) = true := shaped_of (by rw [PyData.canLay0]; exact p6) (by rw [PyData.depth, pds_depth]; omega)
      cases neg with
      | false => exact op_inD hu pins s σ H _ _ v u Q I rx ry ⟨_, _, rd.dp p1, dl, s1, s2, by rw [pa]; exact p.here h (.bl _) rp⟩
      | true => exact op_notInD hu pins s σ H _ _ v u Q I rx ry ⟨_, _, rd.dp p1, dl, s1, s2, by rw [pa]; exact p.here h (.bl _) rp⟩
    · cases re
      obtain ⟨h0, hz, xs, e2, kr, nd, dp⟩ := rp a _ e1
      obtain ⟨o, es, us, g1, g2, g3, er, dh, _⟩ := dict_of I e2 kr nd dp
      obtain ⟨b, rfl⟩ : ∃ b, x = .ref b := by
        cases rd with
        | @tup b _ _ _ _ => exact ⟨b, rfl⟩
        | _ => simp [isTup] at it
      cases rx
      cases ry
      have hk := key_of I rd pd dk
      have hr : (nestedKind X.prog X.w).room X.A.in1 := by show X.A.units + 1 + 8 < cLine; omega
      have es : (atKey us d.key).isSome = (findK d.key kvs).isSome := by
        rcases kr_find (k := d.key) kr with ⟨z, q, z1, z2, _⟩ | ⟨z1, z2⟩
        · rcases er_find (k := d.key) er with ⟨q1, q2, z3, z4, _⟩ | ⟨z3, _⟩
          · rw [z4, z1]; rfl
          · rw [z2] at z3; cases z3
        · rcases er_find (k := d.key) er with ⟨q1, q2, z3, z4, _⟩ | ⟨_, z4⟩
          · rw [z2] at z3; cases z3
          · rw [z4, z1]; rfl
      cases neg with
      | false => exact in_keyed hr hk h0 ⟨us, dh, rfl⟩ ⟨.bl _, H, I.tok _, rfl, by rw [valueAt_pairsH, Option.isSome_map, es]; exact p.here h (.bl _) rp⟩
      | true => exact notIn_keyed hr hk h0 ⟨us, dh, rfl⟩ ⟨.bl _, H, I.tok _, rfl, by rw [valueAt_pairsH, Option.isSome_map, es]; exact p.here h (.bl _) rp⟩
  cases re with
  | str z =>
    cases rd with
    | str x =>
      obtain ⟨c, rfl, h⟩ := h
      cases neg with
      | false => exact op_in_sign pins s σ H _ _ v u Q I rx ry ⟨_, _, rfl, rfl, p.here h (.bl _) rp⟩
      | true => exact op_notIn_sign pins s σ H _ _ v u Q I rx ry ⟨_, _, rfl, rfl, p.here h (.bl _) rp⟩
    | _ => exact False.elim h
  | tup q r => exact tuple rfl (by cases rd <;> exact h)
  | ref a => exact lst rfl (by cases rd <;> exact h)
  | _ => exact (by cases rd <;> exact False.elim h)
/-- a comparison -/
theorem o_cmp (hu : X.A.units + 65 < cLine) : ∀ op : CmpOp, OpR X (compareOp op) (lift2 X.prog X.w X.K (cmpD op))
  | .Eq => o_eqn (by omega)
  | .NotEq => o_neq (by omega)
  | .Lt => o_lt
  | .LtE => o_le
  | .Gt => o_gt
  | .GtE => o_ge
  | .Is => o_is
  | .IsNot => o_isn
  | .In => o_in false hu
  | .NotIn => o_in true hu
end
end Mn

/-! Mn: truth, subscripts, slices, stores, built-in functions and methods by values. -/
namespace Mn
open PySem PySem.Spec L2

section
variable {P : Program} {w : World} {K : PySem.W.Frag} {H : Hp} {S : Sto}
theorem isEmpty_rds {ds : List D} {vs : List V} (r : RDs K H ds vs) : (!vs.isEmpty) = !ds.isEmpty := by cases r <;> rfl
theorem tru_of (rp : Rp P w K H S) {d : D} {x : V} (rd : RD K H d x) {k : Bool → Prop} (h : truD d S k) : ∃ b, TruV K x H b ∧ k b := by
  cases rd with
  | non => exact ⟨_, rfl, h⟩
  | bl b => exact ⟨_, rfl, h⟩
  | int i => exact ⟨_, rfl, h⟩
  | str x => exact ⟨_, ⟨h.1, rfl⟩, h.2⟩
  | tup q r => exact ⟨_, .inr (.inl ⟨_, q, rfl⟩), by rw [isEmpty_rds r]; exact h⟩
  | rol q r => exact False.elim h
  | ref a =>
    obtain ⟨xs, e, h⟩ := h
    obtain ⟨vs, e2, r⟩ := rp.lst e
    exact ⟨_, .inl ⟨_, SqL.of e2, rfl⟩, by rw [isEmpty_rds r]; exact h⟩
theorem seq_of (rp : Rp P w K H S) {d : D} {x : V} (rd : RD K H d x) {k : List D → Prop} (h : seqD d S k) : ∃ a vs ds, x = .ref a ∧ (SqL K H a vs ∨ SqT K H a vs) ∧ RDs K H ds vs ∧ k ds := by
  cases rd with
  | tup q r => exact ⟨_, _, _, rfl, .inr q, r, h⟩
  | rol q r => exact ⟨_, _, _, rfl, .inl q.seq, r, h⟩
  | ref a =>
    obtain ⟨xs, e, h⟩ := h
    obtain ⟨vs, e2, r⟩ := rp.lst e
    exact ⟨_, _, _, rfl, .inl (SqL.of e2), r, h⟩
  | _ => exact False.elim h
theorem ixN_lt {n : Nat} {i : Int} {j : Nat} (h : ixN n i = some j) : j < n := (ixN_seq h).2.1
theorem atI_rds {ds : List D} {vs : List V} (r : RDs K H ds vs) {i : Int} {d : D} (h : atI ds i = some d) : ∃ v, atI vs i = some v ∧ RD K H d v := by
  unfold atI at h ⊢
  rw [← r.length]
  cases e : ixN ds.length i with
  | none => rw [e] at h; cases h
  | some j =>
    rw [e] at h
    exact r.get h
theorem cut_rds {ds : List D} {vs : List V} (r : RDs K H ds vs) (lo hi : Option Int) : RDs K H (cutG ds lo hi) (cutV vs lo hi) := by
  unfold cutG cutV
  rw [r.length]
  exact (r.drop _).take _
theorem cut_whole {ds : List D} {lo hi : Option Int} (h : HT.sIx ds.length 0 lo = 0 ∧ HT.sIx ds.length ds.length hi = ds.length) : cutG ds lo hi = ds := by
  unfold cutG
  rw [h.1, h.2]
  simp
end
section
variable {X : Cx}
theorem ix_any (hu : X.A.units + 65 < cLine) : IxR X (lift2 X.prog X.w X.K idxD) := by
  intro value slice pins s σ H x y v u Q I rx ry h hs
  obtain ⟨d, e, S, R, rd, re, rp, h, p⟩ := h
  cases rd <;> first | exact False.elim h | (cases re <;> first | exact False.elim h | skip)
  · obtain ⟨hz, c, e1, h⟩ := h
    exact ix_str value slice pins s σ H _ _ v u Q I rx ry ⟨_, _, c, rfl, rfl, hz, e1, p.here h (.str _) rp⟩ hs
  · rename_i q r i
    obtain ⟨z, e1, h⟩ := h
    obtain ⟨zv, e2, rz⟩ := atI_rds r e1
    exact ix_tup value slice pins s σ H _ _ v u Q I rx ry ⟨_, _, _, zv, rfl, rfl, q, e2, p.here h rz rp⟩ hs
  · rename_i q r i
    obtain ⟨z, e1, h⟩ := h
    obtain ⟨zv, e2, rz⟩ := atI_rds r e1
    exact ix_list value slice pins s σ H _ _ v u Q I rx ry ⟨_, _, _, zv, rfl, rfl, q.seq, e2, p.here h rz rp⟩ hs
  · obtain ⟨xs, e0, z, e1, h⟩ := h
    obtain ⟨vs, q, r⟩ := rp.lst e0
    obtain ⟨zv, e2, rz⟩ := atI_rds r e1
    exact ix_list value slice pins s σ H _ _ v u Q I rx ry ⟨_, _, _, zv, rfl, rfl, SqL.of q, e2, p.here h rz rp⟩ hs
  · rename_i a b ds vs q r
    obtain ⟨kvs, ep, z, e1, pd, dk, ef, h⟩ := h
    obtain ⟨h0, hz, xs, e2, kr, nd, dp⟩ := rp a _ e1
    obtain ⟨o, es, us, g1, g2, g3, er, dh, _⟩ := dict_of I e2 kr nd dp
    cases rx
    cases ry
    have rk : RD X.K H (.tup ds) (.ref b) := .tup q r
    have hk := key_of I rk pd dk
    have hr : (nestedKind X.prog X.w).room X.A := by show X.A.units + 8 < cLine; omega
    have hr1 : (nestedKind X.prog X.w).room X.A.in1 := by show X.A.units + 1 + 8 < cLine; omega
    rcases kr_find (k := (D.tup ds).key) kr with ⟨z', q1, z1, z2, rz⟩ | ⟨z1, _⟩
    · rw [ef] at z1
      cases z1
      rcases er_find (k := (D.tup ds).key) er with ⟨q2, q3, z3, z4, rv⟩ | ⟨z3, _⟩
      · rw [z2] at z3
        cases z3
        exact PyProof.Rows.tail_any dh.typeIs PySem.F.slot_dict_getitem.lookup (getItem_keyed (v := q3.2) hr1 hk ⟨us, dh, rfl⟩ (by rw [valueAt_pairsH, z4]; rfl) ⟨_, H, I.tok _, rv, p.here h rz rp⟩) hs
      · rw [z2] at z3; cases z3
    · rw [ef] at z1; cases z1
theorem sl_any : SlR X (liftS X.prog X.w X.K sliD) := by
  intro pins s σ H x v vl vu lo hi sl Q I rx hs pl pu h
  obtain ⟨d, S, R, rd, rp, h, p⟩ := h
  cases rd <;> first | exact False.elim h | skip
  · exact sl_str pins s σ H _ v vl vu lo hi sl Q I rx hs pl pu ⟨_, rfl, h.1, p.here h.2 (.str _) rp⟩
  · rename_i a ds vs q r
    refine sl_tupA pins s σ H _ v vl vu lo hi sl Q I rx hs pl pu ⟨a, vs, rfl, q, fun hw => ?_, fun _ b hb => p.newTup rp (cut_rds r lo hi) h hb⟩
    rw [← r.length] at hw
    have h' : R (.tup ds) S := by rw [← cut_whole hw]; exact h
    exact p.here h' (.tup q r) rp
  · obtain ⟨xs, e, h⟩ := h
    obtain ⟨vs, q, r⟩ := rp.lst e
    exact sl_list pins s σ H _ v vl vu lo hi sl Q I rx hs pl pu ⟨_, vs, rfl, SqL.of q, fun b hb => p.newList rp (cut_rds r lo hi) h hb⟩
/-- o[i] = v -/
def liftPut (P : Program) (w : World) (K : PySem.W.Frag) : V → V → V → Hp → (Hp → Prop) → Prop := fun o i v H Q => ∃ d e z S k, RD K H d o ∧ RD K H e i ∧ RD K H z v ∧ Rp P w K H S ∧ putD d e z S k ∧ ∀ S' H', k S' → Rp P w K H' S' → Go H S H' S' → Q H'
theorem set_any (hu : X.A.units + 65 < cLine) : PSet X (liftPut X.prog X.w X.K) := by
  intro pins s σ H o i v ov iv u Q I ro ri rv h
  obtain ⟨d, e, z, S, k, rd, re, rz, rp, h, p⟩ := h
  cases rd <;> first | exact False.elim h | (cases re <;> first | exact False.elim h | skip)
  · obtain ⟨xs, e0, j, ej, h⟩ := h
    obtain ⟨vs, q, r⟩ := rp.lst e0
    refine set_list pins s σ H _ _ _ ov iv u Q I ro ri rv ⟨_, vs, _, j, rfl, rfl, q, by rw [← r.length]; exact ej, ?_⟩
    exact p _ _ h (rp.write q (r.set rz j)) (.write e0)
  · rename_i a b ds vs q r
    obtain ⟨kvs, ep, e1, pd, dk, hl, h⟩ := h
    obtain ⟨h0, hz, xs, e2, kr, nd, dp⟩ := rp a _ e1
    obtain ⟨ob, es, us, g1, g2, g3, er, dh, _⟩ := dict_of I e2 kr nd dp
    cases ro
    cases ri
    have rk : RD X.K H (.tup ds) (.ref b) := .tup q r
    have hk := key_of I rk pd dk
    have hr : (nestedKind X.prog X.w).room X.A.in1 := by show X.A.units + 1 + 8 < cLine; omega
    have lx : xs.length = kvs.length := (Paired.length kr).symm
    have lu : us.length = kvs.length := (Paired.length er).symm.trans lx
    refine wpAny_setItem_heap hr hk dh (fun h' hm hsb => ?_) (by omega)
    obtain ⟨o', es', ep', e', ex', dt', el', _, _⟩ := id hm
    have es2 := er_stored (k := (D.tup ds).key) (a := b) rv er
    have phi : DPhi X.prog X.w a (storedV xs (D.tup ds).key b v) ep' h' := ⟨o', es', _, e', ex', dt', es2, el'⟩
    have t : Tx H (upd H a (.ext (DPhi X.prog X.w a (storedV xs (D.tup ds).key b v) ep'))) := .mut e2 trivial
    have ok : ObjOk X.prog X.w (upd H a (.ext (DPhi X.prog X.w a (storedV xs (D.tup ds).key b v) ep'))) h' a (.ext (DPhi X.prog X.w a (storedV xs (D.tup ds).key b v) ep')) :=
      ⟨phi, ⟨o', e'⟩, fun h1 h2 ⟨oo, ee, uu, a1, a2⟩ k2 => ⟨oo, ee, uu, k2 _ a1, a2⟩⟩
    have I' := I.write (x := a) (e := a) (t' := s.toks + (nestedKind X.prog X.w).draws (D.tup ds).key) (by rw [e2]; trivial) (.inl rfl) (fun c o2 hc q2 => (hsb.2 c hc).trans q2) ⟨o', e'⟩ ok
    refine ⟨_, I', p (up S a (.dct (putK (.tup ds) z kvs) ep')) _ (h ep') (fun c cc ec => ?_) (.write e1)⟩
    by_cases hc : c = a
    · subst hc
      rw [up_same] at ec
      cases ec
      refine ⟨h0, ?_, _, upd_same, KR.tx t (kr_stored rk pd rz kr), stored_keys nd, stored_depth dp dk⟩
      have := stored_len (k := (D.tup ds).key) (a := b) (v := v) (xs := xs)
      have l2 := Paired.length (kr_stored rk pd rz kr)
      omega
    · rw [up_ne hc] at ec
      exact (rp c cc ec).keep t (upd_ne hc)
/-- a new dict -/
theorem new_dict {pos : Pos} : PE X (.Dict [] [] pos) (lift X.prog X.w X.K fun _ S R => ∀ p, S p = none → R (.ref p) (up S p (.dct [] 0))) := by
  refine ⟨fun pins s σ H Q I h => ?_⟩
  obtain ⟨env, S, R, re, rp, h, p⟩ := h
  have hn : H s.heap.objs.size = none := I.hok.fresh (Nat.le_refl _)
  have hg : (s.heap.push { cls := .type "dict", data := .dict #[] }).get? s.heap.objs.size = some { cls := .type "dict", data := .dict #[] } := Heap.get?_push_size _ rfl
  have phi : DPhi X.prog X.w s.heap.objs.size [] 0 (s.heap.push { cls := .type "dict", data := .dict #[] }) := ⟨_, #[], [], hg, ⟨rfl, rfl, rfl⟩, rfl, .nil, rfl⟩
  have I' := I.laid (a := s.heap.objs.size) (o := .ext (DPhi X.prog X.w s.heap.objs.size [] 0)) (t' := s.toks) (fun _ _ q => Heap.get?_push_of_some _ q) (Nat.le_refl _) ⟨phi, ⟨_, hg⟩, fun h1 h2 ⟨oo, ee, uu, a1, a2⟩ k2 => ⟨oo, ee, uu, k2 _ a1, a2⟩⟩
  refine wpAny_Dict_empty ⟨.ref s.heap.objs.size, _, I', rfl, p _ _ _ _ (h _ (rp.free hn)) (.ref _) (fun c cc ec => ?_) (.alloc hn)⟩
  by_cases hc : c = s.heap.objs.size
  · subst hc
    rw [up_same] at ec
    cases ec
    exact ⟨beq_eq_false_iff_ne.mpr (Ne.symm (Nat.ne_of_lt I.big)), Nat.zero_le _, [], upd_same, .nil, List.nodup_nil, fun _ hx => by cases hx⟩
  · rw [up_ne hc] at ec
    exact (rp c cc ec).keep (.new hn) (upd_ne hc)
end
end Mn

/-! Mn: sorted(xs), xs a list of tuples of ints and texts. -/
namespace Mn
open PySem PySem.Spec L2 PyProof.Rows
theorem permP {α β : Type} {F : α → β → Prop} {l l' : List α} (p : l'.Perm l) : ∀ {ks : List β}, Paired F l ks → ∃ ks', Paired F l' ks' ∧ ks'.Perm ks := by
  induction p with
  | nil => intro ks h; cases h; exact ⟨[], .nil, .nil⟩
  | cons x _ ih =>
    intro ks h
    cases h with
    | cons f r =>
      obtain ⟨ks', a, b⟩ := ih r
      exact ⟨_ :: ks', .cons f a, b.cons _⟩
  | swap x y l =>
    intro ks h
    cases h with
    | cons f r =>
      cases r with
      | cons g r => exact ⟨_ :: _ :: _, .cons g (.cons f r), .swap _ _ _⟩
  | trans _ _ ih1 ih2 =>
    intro ks h
    obtain ⟨k1, a1, b1⟩ := ih2 h
    obtain ⟨k2, a2, b2⟩ := ih1 a1
    exact ⟨k2, a2, b2.trans b1⟩
theorem pairedAt {α β : Type} {F : α → β → Prop} : ∀ {l : List α} {ks : List β}, Paired F l ks → ∀ i (h1 : i < l.length) (h2 : i < ks.length), F l[i] ks[i]
  | _, _, .cons f r, 0, _, _ => f
  | _, _, .cons f r, i + 1, h1, h2 => by
    rw [List.getElem_cons_succ, List.getElem_cons_succ]
    exact pairedAt r i _ _
section
variable {X : Cx} {pins : List (Addr × Obj)} {σ : L2.St} {H : Hp} {s : Shared}
/-- a value, and what it is -/
def Stands (K : PySem.W.Frag) (H : Hp) (u : Value) (q : D × V) : Prop := RelV q.2 u ∧ RD K H q.1 q.2
theorem stands_of {K : PySem.W.Frag} {H : Hp} : ∀ {xs : List D} {vs : List V} {us : List Value}, RDs K H xs vs → Vals vs us → Paired (Stands K H) us (xs.zip vs)
  | _, _, _, .nil, .nil => .nil
  | _, _, _, .cons a r, .cons b t => .cons ⟨b, a⟩ (stands_of r t)
theorem stands_rd {K : PySem.W.Frag} {H : Hp} : ∀ {qs : List (D × V)} {us : List Value}, Paired (Stands K H) us qs → RDs K H (qs.map (·.1)) (qs.map (·.2)) ∧ Vals (qs.map (·.2)) us
  | _, _, .nil => ⟨.nil, .nil⟩
  | _, _, .cons a r => ⟨.cons a.2 (stands_rd r).1, .cons a.1 (stands_rd r).2⟩
theorem tKey_items {K : PySem.W.Frag} {H : Hp} {sh : Nat → Bool} : ∀ {ds : List D} {vs : List V} {us : List Value} {i : Nat} {l : List (Int ⊕ List Nat)}, RDs K H ds vs → Vals vs us → tKeyL sh i ds = some l → tupItems sh i us = some l
  | [], _, _, i, l, .nil, .nil, h => h
  | .int n :: ds, _, _, i, l, .cons a r, .cons b t, h => by
    cases a
    obtain ⟨tk, rfl⟩ := b
    unfold tKeyL at h
    unfold tupItems
    by_cases c : sh i = true
    · rw [if_pos c] at h; cases h
    · rw [if_neg c] at h ⊢
      cases q : tKeyL sh (i + 1) ds with
      | none => rw [q] at h; cases h
      | some l' => rw [q] at h; rw [tKey_items r t q]; exact h
  | .str x :: ds, _, _, i, l, .cons a r, .cons b t, h => by
    cases a
    obtain ⟨tk, rfl⟩ := b
    unfold tKeyL at h
    unfold tupItems
    by_cases c : sh i = true
    · rw [if_pos c] at h ⊢
      cases q : tKeyL sh (i + 1) ds with
      | none => rw [q] at h; cases h
      | some l' => rw [q] at h; rw [tKey_items r t q]; exact h
    · rw [if_neg c] at h; cases h
  | .non :: _, _, _, _, _, _, _, h => by cases h
  | .bl _ :: _, _, _, _, _, _, _, h => by cases h
  | .tup _ :: _, _, _, _, _, _, _, h => by cases h
  | .rol _ :: _, _, _, _, _, _, _, h => by cases h
  | .ref _ :: _, _, _, _, _, _, _, h => by cases h
theorem stands_key (I : Inv X pins σ H s) {sh : Nat → Bool} {u : Value} {q : D × V} {l : List (Int ⊕ List Nat)} (h : Stands X.K H u q) (hk : tKey sh q.1 = some l) : G.tupKeyC s.heap sh u = some l ∧ ∃ f, TupOf s.heap sh u f := by
  obtain ⟨d, v⟩ := q
  obtain ⟨h1, h2⟩ := h
  dsimp only at h1 h2 hk
  cases d with
  | tup ds =>
    cases ds with
    | nil => cases hk
    | cons d0 ds =>
      cases h2 with
      | @tup ad _ _ sq rs =>
        cases h1
        obtain ⟨its, rv, ⟨o, ho, hc, n, hd⟩, _⟩ := I.tuple sq
        have hi := tKey_items rs rv hk
        refine ⟨?_, ?_⟩
        · unfold G.tupKeyC
          have ht : G.isTupObj s.heap (.ref ad) = true := by
            simp only [G.isTupObj, ho, hc]
            rfl
          rw [if_pos ht]
          simp only [tupKey, ho, hd]
          exact hi
        · cases rs with
          | cons r0 rs =>
            cases rv with
            | cons b t =>
              rename_i u0 us
              refine ⟨u0, _, o, _, n, rfl, ho, hc, hd, by simp, ?_, ?_⟩
              · intro hs
                obtain ⟨k, tk, _, e, _⟩ := tupItems_int hs hi
                exact ⟨k, tk, e⟩
              · intro hs
                obtain ⟨k, tk, _, e, _⟩ := tupItems_str hs hi
                exact ⟨k, tk, e⟩
  | non => cases hk
  | bl b => cases hk
  | int i => cases hk
  | str x => cases hk
  | rol xs => cases hk
  | ref a => cases hk
theorem tups_of (I : Inv X pins σ H s) {sh : Nat → Bool} {ks : D → List (Int ⊕ List Nat)} : ∀ {us : List Value} {qs : List (D × V)}, Paired (Stands X.K H) us qs → (∀ q ∈ qs, tKey sh q.1 = some (ks q.1)) → ∃ fs, TupsOf s.heap sh us fs
  | _, _, .nil, _ => ⟨[], .nil⟩
  | _, _, .cons a r, h => by
    obtain ⟨fs, hf⟩ := tups_of I r fun q hq => h q (List.mem_cons_of_mem _ hq)
    obtain ⟨_, f, h1⟩ := stands_key I a (h _ List.mem_cons_self)
    exact ⟨f :: fs, .cons h1 hf⟩
theorem keys_of (I : Inv X pins σ H s) {sh : Nat → Bool} {ks : D → List (Int ⊕ List Nat)} : ∀ {us : List Value} {qs : List (D × V)}, Paired (Stands X.K H) us qs → (∀ q ∈ qs, tKey sh q.1 = some (ks q.1)) → ∀ u ∈ us, ∃ l, G.tupKeyC s.heap sh u = some l
  | _, _, .nil, _, u, hu => nomatch hu
  | _, _, .cons a r, h, u, hu => by
    rcases List.mem_cons.mp hu with rfl | hu
    · exact ⟨_, (stands_key I a (h _ List.mem_cons_self)).1⟩
    · exact keys_of I r (fun q hq => h q (List.mem_cons_of_mem _ hq)) u hu
theorem cr_srtT {P : Program} {w : World} : CallR X (.builtin "sorted") (fun vs H Q => ∃ (a : Addr) (xs : List D) (us : List V) (sh : Nat → Bool) (ks : D → List (Int ⊕ List Nat)), vs = [V.ref a] ∧ SqL X.K H a us ∧ RDs X.K H xs us ∧ (∀ x ∈ xs, tKey sh x = some (ks x)) ∧
    ∀ (ys : List D) (ws : List V) (p : Addr), ys.Perm xs → ys.Pairwise (fun x y => lexLt itemOrd (ks y) (ks x) = false) → RDs X.K H ys ws → H p = none → Q (.ref p) (upd H p (.lst ws))) := by
  intro pins s σ H vs us Q I r h
  obtain ⟨a, xs, us', sh, ks, rfl, hs, rd, hk, q⟩ := h
  obtain ⟨its, rv, hl, hz⟩ := I.list hs
  rw [Vals.ref1 r]
  have st := stands_of rd rv
  have hk' : ∀ q ∈ xs.zip us', tKey sh q.1 = some (ks q.1) := fun q hq => hk _ (List.of_mem_zip hq).1
  obtain ⟨fs, hf⟩ := tups_of I st hk'
  refine G.sorted_tups hl.isList hf (keys_of I st hk') (by rw [← rv.length]; exact hz) fun st' hp hsort hstab => ?_
  have hp' : (arrOf st').toList.Perm (its.zip its) := by rw [← pairsOf_toList]; exact Array.perm_iff_toList_perm.mp hp
  have same : ∀ p ∈ (arrOf st').toList, p.1 = p.2 := fun p hpm => (mem_zip_self (hp'.mem_iff.mp hpm)).1
  have outp : ((arrOf st').map (·.2)).toList.Perm its := by
    rw [Array.toList_map]
    have := hp'.map Prod.snd
    rw [List.map_snd_zip (Nat.le_refl _)] at this
    exact this
  obtain ⟨qs, hq1, hq2⟩ := permP outp st
  obtain ⟨r1, r2⟩ := stands_rd hq1
  have lz : (xs.zip us').map (·.1) = xs := List.map_fst_zip (by rw [rd.length]; exact Nat.le_refl _)
  have lz2 : (xs.zip us').map (·.2) = us' := List.map_snd_zip (by rw [rd.length]; exact Nat.le_refl _)
  have yp : (qs.map (·.1)).Perm xs := by have := hq2.map (·.1); rw [lz] at this; exact this
  have wp : (qs.map (·.2)).Perm us' := by have := hq2.map (·.2); rw [lz2] at this; exact this
  obtain ⟨ep, he'⟩ := sortedAll_at s.heap its ((arrOf st').map (·.2))
  refine ⟨.ref _, upd H (s.heap.objs.size + 1) (.lst (qs.map (·.2))), I.laid (t' := s.toks) (fun _ _ => sortedAll_old) (Nat.le_succ _) ⟨by rw [wp.length_eq]; exact hz, _, ep, r2, he'⟩, rfl, q _ _ _ yp ?_ r1 (I.hok.fresh (Nat.le_succ _))⟩
  rw [List.pairwise_map, List.pairwise_iff_getElem]
  intro i j hi hj hij
  have ql : qs.length = (arrOf st').size := by
    have := Paired.length hq1
    rw [Array.length_toList, Array.size_map] at this
    exact this.symm
  have hsz : (arrOf st').size = (pairsOf its).size := hp.size_eq
  have hs2 := hsort i j (Nat.le_of_lt hij) (by omega)
  have kat : ∀ i (hi : i < qs.length), KK (G.tupKindC s.heap sh) (arrOf st') i = ks qs[i].1 := fun i hi => by
    have hi2 : i < (arrOf st').size := by omega
    have hF := pairedAt hq1 i (by rw [Array.length_toList, Array.size_map]; exact hi2) hi
    have e1 : ((arrOf st').map (·.2)).toList[i]'(by rw [Array.length_toList, Array.size_map]; exact hi2) = (arrOf st')[i].2 := by simp
    rw [e1] at hF
    have e2 := same (arrOf st')[i] (by rw [← Array.getElem_toList]; exact List.getElem_mem _)
    rw [← e2] at hF
    have hm : qs[i] ∈ xs.zip us' := hq2.mem_iff.mp (List.getElem_mem hi)
    have hkk := (stands_key I hF (hk' _ hm)).1
    unfold KK
    rw [Array.getElem?_eq_getElem hi2]
    dsimp only
    show ((G.tupKindC s.heap sh).keyOf _).getD _ = _
    have : (G.tupKindC s.heap sh).keyOf (arrOf st')[i].1 = some (ks qs[i].1) := hkk
    rw [this]
    rfl
  rw [kat i hi, kat j hj] at hs2
  exact hs2
end
end Mn

/-! Mn: built-in functions, isinstance, methods by values. -/
namespace Mn
open PySem PySem.Spec L2

theorem allInts_eq : ∀ {xs : List D} {ns : List Int}, allInts xs = some ns → xs = ns.map D.int
  | [], _, h => by simp [allInts] at h; subst h; rfl
  | .int i :: r, ns, h => by
    simp only [allInts, Option.map_eq_some_iff] at h
    obtain ⟨m, h1, rfl⟩ := h
    rw [allInts_eq h1]; rfl
  | .non :: _, _, h => by simp [allInts] at h
  | .bl _ :: _, _, h => by simp [allInts] at h
  | .str _ :: _, _, h => by simp [allInts] at h
  | .tup _ :: _, _, h => by simp [allInts] at h
  | .rol _ :: _, _, h => by simp [allInts] at h
  | .ref _ :: _, _, h => by simp [allInts] at h
theorem allStrs_eq : ∀ {xs : List D} {ns : List Str}, allStrs xs = some ns → xs = ns.map D.str
  | [], _, h => by simp [allStrs] at h; subst h; rfl
  | .str i :: r, ns, h => by
    simp only [allStrs, Option.map_eq_some_iff] at h
    obtain ⟨m, h1, rfl⟩ := h
    rw [allStrs_eq h1]; rfl
  | .non :: _, _, h => by simp [allStrs] at h
  | .bl _ :: _, _, h => by simp [allStrs] at h
  | .int _ :: _, _, h => by simp [allStrs] at h
  | .tup _ :: _, _, h => by simp [allStrs] at h
  | .rol _ :: _, _, h => by simp [allStrs] at h
  | .ref _ :: _, _, h => by simp [allStrs] at h
theorem allBls_eq : ∀ {xs : List D} {ns : List Bool}, allBls xs = some ns → xs = ns.map D.bl
  | [], _, h => by simp [allBls] at h; subst h; rfl
  | .bl i :: r, ns, h => by
    simp only [allBls, Option.map_eq_some_iff] at h
    obtain ⟨m, h1, rfl⟩ := h
    rw [allBls_eq h1]; rfl
  | .non :: _, _, h => by simp [allBls] at h
  | .int _ :: _, _, h => by simp [allBls] at h
  | .str _ :: _, _, h => by simp [allBls] at h
  | .tup _ :: _, _, h => by simp [allBls] at h
  | .rol _ :: _, _, h => by simp [allBls] at h
  | .ref _ :: _, _, h => by simp [allBls] at h

/-- the function that a built-in is -/
def bfVal : Bf → Value
  | .len => .builtin "len"
  | .int => .type "int"
  | .str => .type "str"
  | .bool => .type "bool"
  | .all => .builtin "all"
  | .any => .builtin "any"
  | .sum => .builtin "sum"
  | .max => .builtin "max"
  | .max2 => .builtin "max"
  | .min2 => .builtin "min"
  | .list => .type "list"
  | .tuple => .type "tuple"
  | .srt => .builtin "sorted"
section
variable {X : Cx}
theorem b_len : CallR X (.builtin "len") (liftC X.prog X.w X.K (bltD .len)) := by
  intro pins s σ H xs us Q I r h
  obtain ⟨ds, S, R, rs, rp, h, p⟩ := h
  rcases rs with _ | ⟨rd, rs⟩
  · exact False.elim h
  rcases rs with _ | ⟨_, _⟩
  · have sq : ∀ {d : D} {x : V}, RD X.K H d x → Vals [x] us → (seqD d S fun xs => R (.int xs.length) S) → wpAny (model X.prog X.w) X.A (call (.builtin "len") us) (EP X pins σ Q) X.xe s := fun rd r h => by
      obtain ⟨a, vs, ds, rfl, q, r2, h⟩ := seq_of rp rd h
      exact call_len_seq pins s σ H _ us Q I r ⟨a, vs, rfl, q, by rw [← r2.length]; exact p.here h (.int _) rp⟩
    cases rd with
    | str x => exact call_len_str pins s σ H _ us Q I r ⟨x, rfl, h.1, p.here h.2 (.int _) rp⟩
    | tup q r1 => exact sq (.tup q r1) r h
    | rol q r1 => exact sq (.rol q r1) r h
    | ref a => exact sq (.ref a) r h
    | _ => exact False.elim h
  · exact False.elim (by cases rd <;> exact h)
theorem one_of {P : Program} {w : World} {K : PySem.W.Frag} {H : Hp} {ds : List D} {xs : List V} {f : Bf} {S : Sto} {R : MK} (rs : RDs K H ds xs) (h : bltD f ds S R) (hf : ∀ d e es, ¬ bltD f (d :: e :: es) S R) (h0 : ¬ bltD f [] S R) : ∃ d x, ds = [d] ∧ xs = [x] ∧ RD K H d x := by
  rcases rs with _ | ⟨rd, rs⟩
  · exact absurd h h0
  rcases rs with _ | ⟨_, _⟩
  · exact ⟨_, _, rfl, rfl, rd⟩
  · exact absurd h (hf _ _ _)
theorem b_int : CallR X (.type "int") (liftC X.prog X.w X.K (bltD .int)) := by
  intro pins s σ H xs us Q I r h
  obtain ⟨ds, S, R, rs, rp, h, p⟩ := h
  obtain ⟨d, x, rfl, rfl, rd⟩ := one_of (P := X.prog) (w := X.w) rs h (fun d e es z => by cases d <;> exact z) (fun z => z)
  cases rd with
  | int i => exact call_int1 pins s σ H _ us Q I r (.inl ⟨_, rfl, p.here h (.int _) rp⟩)
  | bl b => exact call_int1 pins s σ H _ us Q I r (.inr ⟨_, rfl, p.here h (.int _) rp⟩)
  | str x =>
    obtain ⟨n, h1, h2, h⟩ := h
    exact call_int_str pins s σ H _ us Q I r ⟨_, n, rfl, h1, h2, p.here h (.int _) rp⟩
  | _ => exact False.elim h
theorem b_str : CallR X (.type "str") (liftC X.prog X.w X.K (bltD .str)) := by
  intro pins s σ H xs us Q I r h
  obtain ⟨ds, S, R, rs, rp, h, p⟩ := h
  obtain ⟨d, x, rfl, rfl, rd⟩ := one_of (P := X.prog) (w := X.w) rs h (fun d e es z => by cases d <;> exact z) (fun z => z)
  cases rd with
  | int i => exact call_str_int pins s σ H _ us Q I r ⟨_, rfl, h.1, p.here h.2 (.str _) rp⟩
  | _ => exact False.elim h
theorem b_bool : CallR X (.type "bool") (liftC X.prog X.w X.K (bltD .bool)) := by
  intro pins s σ H xs us Q I r h
  obtain ⟨ds, S, R, rs, rp, h, p⟩ := h
  obtain ⟨d, x, rfl, rfl, rd⟩ := one_of (P := X.prog) (w := X.w) rs h (fun d e es z => by cases d <;> exact z) (fun z => z)
  cases rd with
  | int i => exact call_bool1 pins s σ H _ us Q I r (.inl ⟨_, rfl, p.here h (.bl _) rp⟩)
  | bl b => exact call_bool1 pins s σ H _ us Q I r (.inr ⟨_, rfl, p.here h (.bl _) rp⟩)
  | _ => exact False.elim h
theorem b_all (hc : X.calm = true) : CallR X (.builtin "all") (liftC X.prog X.w X.K (bltD .all)) := by
  intro pins s σ H xs us Q I r h
  obtain ⟨ds, S, R, rs, rp, h, p⟩ := h
  obtain ⟨d, x, rfl, rfl, rd⟩ := one_of (P := X.prog) (w := X.w) rs h (fun d e es z => by cases d <;> exact z) (fun z => z)
  cases rd with
  | ref a =>
    obtain ⟨ys, e, bs, h1, h⟩ := h
    obtain ⟨vs, e2, r2⟩ := rp.lst e
    rw [allBls_eq h1] at r2
    exact cr_all hc pins s σ H _ us Q I r ⟨a, bs, rfl, by rw [← r2.bls]; exact SqL.of e2, p.here h (.bl _) rp⟩
  | _ => exact False.elim h
theorem b_any (hc : X.calm = true) : CallR X (.builtin "any") (liftC X.prog X.w X.K (bltD .any)) := by
  intro pins s σ H xs us Q I r h
  obtain ⟨ds, S, R, rs, rp, h, p⟩ := h
  obtain ⟨d, x, rfl, rfl, rd⟩ := one_of (P := X.prog) (w := X.w) rs h (fun d e es z => by cases d <;> exact z) (fun z => z)
  cases rd with
  | ref a =>
    obtain ⟨ys, e, bs, h1, h⟩ := h
    obtain ⟨vs, e2, r2⟩ := rp.lst e
    rw [allBls_eq h1] at r2
    exact cr_any hc pins s σ H _ us Q I r ⟨a, bs, rfl, by rw [← r2.bls]; exact SqL.of e2, p.here h (.bl _) rp⟩
  | _ => exact False.elim h
theorem b_sum (hc : X.calm = true) : CallR X (.builtin "sum") (liftC X.prog X.w X.K (bltD .sum)) := by
  intro pins s σ H xs us Q I r h
  obtain ⟨ds, S, R, rs, rp, h, p⟩ := h
  obtain ⟨d, x, rfl, rfl, rd⟩ := one_of (P := X.prog) (w := X.w) rs h (fun d e es z => by cases d <;> exact z) (fun z => z)
  cases rd with
  | ref a =>
    obtain ⟨ys, e, bs, h1, h⟩ := h
    obtain ⟨vs, e2, r2⟩ := rp.lst e
    rw [allInts_eq h1] at r2
    exact cr_sum hc pins s σ H _ us Q I r ⟨a, bs, rfl, by rw [← r2.ints]; exact SqL.of e2, p.here h (.int _) rp⟩
  | _ => exact False.elim h
theorem b_max (hc : X.calm = true) : CallR X (.builtin "max") (liftC X.prog X.w X.K (bltD .max)) := by
  intro pins s σ H xs us Q I r h
  obtain ⟨ds, S, R, rs, rp, h, p⟩ := h
  obtain ⟨d, x, rfl, rfl, rd⟩ := one_of (P := X.prog) (w := X.w) rs h (fun d e es z => by cases d <;> exact z) (fun z => z)
  cases rd with
  | ref a =>
    obtain ⟨ys, e, bs, h1, h0, h⟩ := h
    obtain ⟨vs, e2, r2⟩ := rp.lst e
    rw [allInts_eq h1] at r2
    exact cr_max hc pins s σ H _ us Q I r ⟨a, bs, rfl, by rw [← r2.ints]; exact SqL.of e2, h0, fun m m1 m2 => p.here (h m m1 m2) (.int _) rp⟩
  | _ => exact False.elim h
theorem b_max2 (hc : X.calm = true) : CallR X (.builtin "max") (liftC X.prog X.w X.K (bltD .max2)) := by
  intro pins s σ H xs us Q I r h
  obtain ⟨ds, S, R, rs, rp, h, p⟩ := h
  rcases rs with _ | ⟨rd, rs⟩
  · exact False.elim h
  rcases rs with _ | ⟨re, rs⟩
  · exact False.elim (by cases rd <;> exact h)
  rcases rs with _ | ⟨_, _⟩
  · cases rd <;> first | exact False.elim h | (cases re <;> first | exact False.elim h | exact call_max2 hc pins s σ H _ us Q I r ⟨_, _, rfl, p.here h (.int _) rp⟩)
  · exact False.elim (by cases rd <;> first | exact h | (cases re <;> exact h))
theorem b_min2 (hc : X.calm = true) : CallR X (.builtin "min") (liftC X.prog X.w X.K (bltD .min2)) := by
  intro pins s σ H xs us Q I r h
  obtain ⟨ds, S, R, rs, rp, h, p⟩ := h
  rcases rs with _ | ⟨rd, rs⟩
  · exact False.elim h
  rcases rs with _ | ⟨re, rs⟩
  · exact False.elim (by cases rd <;> exact h)
  rcases rs with _ | ⟨_, _⟩
  · cases rd <;> first | exact False.elim h | (cases re <;> first | exact False.elim h | exact call_min2 hc pins s σ H _ us Q I r ⟨_, _, rfl, p.here h (.int _) rp⟩)
  · exact False.elim (by cases rd <;> first | exact h | (cases re <;> exact h))
theorem vals_signs {x : Str} {us : List Value} (hl : us.length = x.cps.toList.length) (h : ∀ (j : Nat) (v : Value), us[j]? = some v → SignAt x j v) : Vals ((x.cps.toList.map fun c => (⟨#[c]⟩ : Str)).map V.str) us := by
  have go : ∀ (cs : List Nat) (us : List Value), us.length = cs.length → (∀ (j : Nat) (v : Value), us[j]? = some v → ∃ c u, cs[j]? = some c ∧ v = Value.str ⟨#[c]⟩ u) → Vals ((cs.map fun c => (⟨#[c]⟩ : Str)).map V.str) us := by
    intro cs
    induction cs with
    | nil => intro us hl _; rw [List.eq_nil_of_length_eq_zero hl]; exact .nil
    | cons c cs ih =>
      intro us hl h
      cases us with
      | nil => exact absurd hl (by simp)
      | cons u us =>
        obtain ⟨c', t, e, rfl⟩ := h 0 u rfl
        obtain rfl : c = c' := by simpa using e
        exact .cons ⟨t, rfl⟩ (ih us (by simpa using hl) fun j v hj => h (j + 1) v hj)
  exact go _ us hl fun j v hj => by
    obtain ⟨c, u, e, r⟩ := h j v hj
    exact ⟨c, u, by rw [Array.getElem?_toList]; exact e, r⟩
theorem rds_signs {K : PySem.W.Frag} {H : Hp} : ∀ cs : List Nat, RDs K H (cs.map fun c => D.str ⟨#[c]⟩) ((cs.map fun c => (⟨#[c]⟩ : Str)).map V.str)
  | [] => .nil
  | c :: cs => .cons (.str _) (rds_signs cs)
theorem b_list (hc : X.calm = true) : CallR X (.type "list") (liftC X.prog X.w X.K (bltD .list)) := by
  intro pins s σ H xs us Q I r h
  obtain ⟨ds, S, R, rs, rp, h, p⟩ := h
  obtain ⟨d, x, rfl, rfl, rd⟩ := one_of (P := X.prog) (w := X.w) rs h (fun d e es z => by cases d <;> exact z) (fun z => z)
  have gen : seqD d S (fun xs => newL S xs R) → wpAny (model X.prog X.w) X.A (call (.type "list") us) (EP X pins σ Q) X.xe s := fun h => by
    obtain ⟨a, vs, ys, rfl, q, r2, h⟩ := seq_of rp rd h
    exact call_list_of pins s σ H _ us Q I r ⟨a, vs, rfl, q, fun b hb => p.newList rp r2 h hb⟩
  cases rd with
  | str z =>
    obtain ⟨hz, h⟩ := h
    obtain ⟨u, rfl, rx⟩ := r.one
    obtain ⟨tk0, rfl⟩ := rx
    refine call_list_str (I.ok.hd hc) z tk0 (fun h' tk acc' c' kp e it => ?_) hz
    have rv : Vals ((z.cps.toList.map fun c => (⟨#[c]⟩ : Str)).map V.str) acc'.toList := vals_signs (by rw [Array.length_toList, it.1, Array.length_toList]) fun j v hj => it.2 j v (by rw [← Array.getElem?_toList]; exact hj)
    refine ⟨.ref s.heap.objs.size, _, I.laid (t' := tk) (o := .lst ((z.cps.toList.map fun c => (⟨#[c]⟩ : Str)).map V.str)) kp (Nat.le_refl _) ⟨by rw [List.length_map, List.length_map, Array.length_toList]; exact hz, _, _, rv, e⟩, rfl, ?_⟩
    have := p.newList rp (rds_signs (K := X.K) (H := H) z.cps.toList) h (I.hok.fresh (Nat.le_refl _))
    exact this
  | ref a =>
    rcases h with h | ⟨kvs, ep, e1, h⟩
    · exact gen h
    obtain ⟨h0, hz, xs, e2, kr, nd, dp⟩ := rp a _ e1
    obtain ⟨o, es, ks, g1, g2, g3, er, dh, he⟩ := dict_of I e2 kr nd dp
    obtain ⟨u, rfl, rx⟩ := r.one
    cases rx
    have l1 : es.size = ks.length := by rw [← Array.length_toList, he, List.length_map]
    have l2 : xs.length = ks.length := Paired.length er
    have l3 : kvs.length = xs.length := Paired.length kr
    refine PySem.W.kdl_call (kdl_raw h0 g2 g3) (I.ok.hd hc) g1 (by omega) fun h' tk acc' c' kp e it => ?_
    have ea : acc'.toList = ks.map fun x => Value.ref x.2.1 := by
      have hl : acc'.toList.length = ks.length := by rw [Array.length_toList, it.1]; exact l1
      apply List.ext_getElem?
      intro j
      rw [List.getElem?_map]
      cases hj : acc'.toList[j]? with
      | none =>
        have h1 := List.getElem?_eq_none_iff.mp hj
        rw [List.getElem?_eq_none (by omega)]
        all_goals rfl
      | some v =>
        obtain ⟨en, hen, hv⟩ := it.2 j v (by rw [← Array.getElem?_toList]; exact hj)
        have qe : es[j]? = (ks[j]?).map (entryOfKey (nestedKind X.prog X.w)) := by rw [← Array.getElem?_toList, he, List.getElem?_map]
        rw [hen] at qe
        cases hb : ks[j]? with
        | none =>
          rw [hb] at qe
          exact nomatch (show some en = none from qe)
        | some b =>
          rw [hb] at qe
          have e2 : en = entryOfKey (nestedKind X.prog X.w) b := Option.some.inj qe
          rw [hv, e2]
          all_goals rfl
    have rv : ∀ {xs : List (NestedKey × Addr × V)} {ks : List (NestedKey × Addr × Value)}, Paired ER xs ks → Vals (xs.map fun x => V.ref x.2.1) (ks.map fun x => Value.ref x.2.1) := by
      intro xs ks er
      induction er with
      | nil => exact .nil
      | cons h _ ih => exact .cons (show RelV (V.ref _) (Value.ref _) by rw [h.2.1]; rfl) ih
    have rk : ∀ {kvs : List (D × D)} {xs : List (NestedKey × Addr × V)}, Paired (KR X.K H) kvs xs → RDs X.K H (kvs.map (·.1)) (xs.map fun x => V.ref x.2.1) := by
      intro kvs xs kr
      induction kr with
      | nil => exact .nil
      | cons h _ ih => exact .cons h.2.2.1 ih
    have rv' := rv er
    rw [← ea] at rv'
    refine ⟨.ref s.heap.objs.size, _, I.laid (t' := tk) (o := .lst (xs.map fun x => V.ref x.2.1)) kp (Nat.le_refl _) ?_, rfl, p.newList rp (rk kr) h (I.hok.fresh (Nat.le_refl _))⟩
    exact ⟨by rw [List.length_map]; omega, acc'.toList, c', rv', by rw [Array.toArray_toList]; exact e⟩
  | non => exact gen h
  | bl b => exact gen h
  | int i => exact gen h
  | tup q r2 => exact gen h
  | rol q r2 => exact gen h
theorem b_tuple : CallR X (.type "tuple") (liftC X.prog X.w X.K (bltD .tuple)) := by
  intro pins s σ H xs us Q I r h
  obtain ⟨ds, S, R, rs, rp, h, p⟩ := h
  obtain ⟨d, x, rfl, rfl, rd⟩ := one_of (P := X.prog) (w := X.w) rs h (fun d e es z => by cases d <;> exact z) (fun z => z)
  have h : seqD d S fun xs => R (.tup xs) S := h
  obtain ⟨a, vs, ys, rfl, q, r2, h⟩ := seq_of rp rd h
  rcases q with q | q
  · exact call_tuple_of pins s σ H _ us Q I r ⟨a, vs, rfl, .inl ⟨q, fun b hb => p.newTup rp r2 h hb⟩⟩
  · exact call_tuple_of pins s σ H _ us Q I r ⟨a, vs, rfl, .inr ⟨q, p.here h (.tup q r2) rp⟩⟩
theorem b_srt : CallR X (.builtin "sorted") (liftC X.prog X.w X.K (bltD .srt)) := by
  intro pins s σ H xs us Q I r h
  obtain ⟨ds, S, R, rs, rp, h, p⟩ := h
  obtain ⟨d, x, rfl, rfl, rd⟩ := one_of (P := X.prog) (w := X.w) rs h (fun d e es z => by cases d <;> exact z) (fun z => z)
  cases rd with
  | ref a =>
    obtain ⟨ys, e, sh, ks, hk, h⟩ := h
    obtain ⟨vs, e2, r2⟩ := rp.lst e
    exact cr_srtT (P := X.prog) (w := X.w) pins s σ H _ us Q I r ⟨a, ys, vs, sh, ks, rfl, SqL.of e2, r2, hk, fun zs ws p' h1 h2 h3 h4 => p.newList rp h3 (h zs h1 h2) h4⟩
  | _ => exact False.elim h
theorem b_any_bf (hc : X.calm = true) : ∀ f : Bf, CallR X (bfVal f) (liftC X.prog X.w X.K (bltD f))
  | .len => b_len
  | .int => b_int
  | .str => b_str
  | .bool => b_bool
  | .all => b_all hc
  | .any => b_any hc
  | .sum => b_sum hc
  | .max => b_max hc
  | .max2 => b_max2 hc
  | .min2 => b_min2 hc
  | .list => b_list hc
  | .tuple => b_tuple
  | .srt => b_srt

/-! ### isinstance -/
def tyName : Ty → String
  | .int => "int"
  | .bool => "bool"
  | .str => "str"
  | .tup => "tuple"
  | .lst => "list"
theorem kit_at (K : PySem.W.Frag) : ∀ (n : String) (t : Ty) (b : Bool), (n, t, b) ∈ ([("list", .int, false), ("list", .bool, false), ("list", .str, false), ("list", .tup, false), ("list", .lst, true), ("tuple", .int, false), ("tuple", .bool, false), ("tuple", .str, false), ("tuple", .tup, true), ("tuple", .lst, false),
    ("str", .int, false), ("str", .bool, false), ("str", .str, true), ("str", .tup, false), ("str", .lst, false), ("int", .int, true), ("int", .bool, false), ("int", .str, false), ("int", .tup, false), ("int", .lst, false),
    ("bool", .int, true), ("bool", .bool, true), ("bool", .str, false), ("bool", .tup, false), ("bool", .lst, false), ("NoneType", .int, false), ("NoneType", .bool, false), ("NoneType", .str, false), ("NoneType", .tup, false), ("NoneType", .lst, false)] : List (String × Ty × Bool)) → PySem.W.kitOne K (.type n) (.type (tyName t)) = some b := by
  have h : ∀ x ∈ ([("list", .int, false), ("list", .bool, false), ("list", .str, false), ("list", .tup, false), ("list", .lst, true), ("tuple", .int, false), ("tuple", .bool, false), ("tuple", .str, false), ("tuple", .tup, true), ("tuple", .lst, false),
    ("str", .int, false), ("str", .bool, false), ("str", .str, true), ("str", .tup, false), ("str", .lst, false), ("int", .int, true), ("int", .bool, false), ("int", .str, false), ("int", .tup, false), ("int", .lst, false),
    ("bool", .int, true), ("bool", .bool, true), ("bool", .str, false), ("bool", .tup, false), ("bool", .lst, false), ("NoneType", .int, false), ("NoneType", .bool, false), ("NoneType", .str, false), ("NoneType", .tup, false), ("NoneType", .lst, false)] : List (String × Ty × Bool)), kitB x.1 (tyName x.2.1) = some x.2.2 := by decide +kernel
  exact fun n t b hx => kit_ty (h _ hx)
theorem ty_of {H : Hp} {S : Sto} (rp : Rp X.prog X.w X.K H S) {d : D} {x : V} (rd : RD X.K H d x) {t : Ty} {k : Bool → Prop} (h : D.isTy d S t k) : ∃ n, TyX X.K H x (.type n) ∧ ∀ t' k', D.isTy d S t' k' → ∃ b, PySem.W.kitOne X.K (.type n) (.type (tyName t')) = some b ∧ k' b := by
  cases rd with
  | non => exact ⟨"NoneType", .base .non, fun t' k' h' => ⟨false, kit_at _ _ _ _ (by cases t' <;> simp), h'⟩⟩
  | bl b => exact ⟨"bool", .base (.bl b), fun t' k' h' => ⟨_, kit_at _ _ _ _ (by cases t' <;> simp <;> rfl), h'⟩⟩
  | int i => exact ⟨"int", .base (.int i), fun t' k' h' => ⟨_, kit_at _ _ _ _ (by cases t' <;> simp <;> rfl), h'⟩⟩
  | str y => exact ⟨"str", .base (.str y), fun t' k' h' => ⟨_, kit_at _ _ _ _ (by cases t' <;> simp <;> rfl), h'⟩⟩
  | tup q r =>
    refine ⟨"tuple", ?_, fun t' k' h' => ⟨_, kit_at _ _ _ _ (by cases t' <;> simp <;> rfl), h'⟩⟩
    rcases q with (q | ⟨o, q⟩) | ⟨o, its, n, q, c, _⟩
    · exact .base (.tup q)
    · exact .fTuple q
    · exact .kTuple q c
  | rol q r => exact False.elim (by cases t <;> exact h)
  | ref a =>
    obtain ⟨xs, e, _⟩ := h
    obtain ⟨vs, e2, _⟩ := rp.lst e
    refine ⟨"list", .base (.lst e2), fun t' k' h' => ?_⟩
    obtain ⟨ys, _, h'⟩ := h'
    exact ⟨_, kit_at _ _ _ _ (by cases t' <;> simp <;> rfl), h'⟩
end
end Mn

/-! Mn: sorted(set(xs)) of a list of ints or of texts. -/
namespace Mn
open PySem PySem.Spec L2
open PyProof.Rows (seqObj kind_sorted plain_sorted entry_sorted args_sorted1 slot_list_sort entry_list_sort list_sort_tree args_list_sort sortedHeap sortedHeap_at sortedHeap_old size_push' StrsAre IntsAre sortedS)

theorem paired_perm {α β : Type} {F : α → β → Prop} {l l' : List α} (p : l'.Perm l) : ∀ {ks : List β}, Paired F l ks → ∃ ks', Paired F l' ks' ∧ ks'.Perm ks := by
  induction p with
  | nil => intro ks h; cases h; exact ⟨[], .nil, .nil⟩
  | cons x _ ih =>
    intro ks h
    cases h with
    | cons r t =>
      obtain ⟨ks', h1, h2⟩ := ih t
      exact ⟨_, .cons r h1, h2.cons _⟩
  | swap x y l =>
    intro ks h
    cases h with
    | cons r t =>
      cases t with
      | cons r2 t => exact ⟨_, .cons r2 (.cons r t), .swap _ _ _⟩
  | trans _ _ ih1 ih2 =>
    intro ks h
    obtain ⟨k1, h1, p1⟩ := ih2 h
    obtain ⟨k2, h2, p2⟩ := ih1 h1
    exact ⟨k2, h2, p2.trans p1⟩
theorem paired_memL {α β : Type} {F : α → β → Prop} : ∀ {l : List α} {ks : List β}, Paired F l ks → ∀ x ∈ l, ∃ k ∈ ks, F x k
  | _, _, .nil, x, h => by cases h
  | _, _, .cons r t, x, h => by
    rcases List.mem_cons.mp h with rfl | h
    · exact ⟨_, List.mem_cons_self, r⟩
    · obtain ⟨k, h1, h2⟩ := paired_memL t x h
      exact ⟨k, List.mem_cons_of_mem _ h1, h2⟩
theorem paired_memR {α β : Type} {F : α → β → Prop} : ∀ {l : List α} {ks : List β}, Paired F l ks → ∀ k ∈ ks, ∃ x ∈ l, F x k
  | _, _, .nil, x, h => by cases h
  | _, _, .cons r t, x, h => by
    rcases List.mem_cons.mp h with rfl | h
    · exact ⟨_, List.mem_cons_self, r⟩
    · obtain ⟨k, h1, h2⟩ := paired_memR t x h
      exact ⟨k, List.mem_cons_of_mem _ h1, h2⟩

def ME1 (w : World) (e : Int × Value) (k : Key) : Prop := keyIs k e.2 = true ∧ e.1 = keyH w k
/-- a set at a, its members ks -/
def SM (w : World) (h : Heap) (a : Addr) (ks : List Key) : Prop :=
  ∃ o es ep t, h.get? a = some o ∧ o.ExactSet ∧ o.data = .set es ep t ∧ Paired (ME1 w) es.toList ks ∧ ks.Nodup ∧ es.size < scanBound ∧ t.fits es.size = true ∧ Ris t.place.toList ∧ (w.params.followText "set-order" = true ∨ t.led = true)
theorem SM.at {w : World} {h h' : Heap} {a : Addr} {ks : List Key} (m : SM w h a ks) (k : ∀ o, h.get? a = some o → h'.get? a = some o) : SM w h' a ks := by
  obtain ⟨o, es, ep, t, e, r⟩ := m
  exact ⟨o, es, ep, t, k o e, r⟩
theorem scan_of {k : Key} {u : Value} (h : keyIs k u = true) : u.scannable = true := by
  rcases keyIs_shape h with ⟨i, t, _, rfl⟩ | ⟨x, t, _, rfl⟩ <;> rfl
theorem keys_same {k k' : Key} {u : Value} (h : keyIs k u = true) (h' : keyIs k' u = true) : k = k' := by
  rcases keyIs_shape h with ⟨i, t, rfl, rfl⟩ | ⟨x, t, rfl, rfl⟩
  · rcases keyIs_shape h' with ⟨j, t', rfl, e⟩ | ⟨x, t', rfl, e⟩
    · cases e; rfl
    · cases e
  · rcases keyIs_shape h' with ⟨j, t', rfl, e⟩ | ⟨y, t', rfl, e⟩
    · cases e
    · cases e; rfl
section
variable {P : Program} {w : World} {A : Around} {E : Value → Shared → Prop} {s : Shared} {a : Addr} {ks : List Key}
theorem elems_of {l : List (Int × Value)} (m : Paired (ME1 w) l ks) : ElemsOf (mixKind P w) l := fun e he => by
  obtain ⟨k, _, h1, h2⟩ := paired_memL m e he
  exact ⟨⟨k, h1, h2⟩, scan_of h1⟩
theorem give_way {b : Bool} {s₁ : Shared} {Q : Unit → Shared → Prop} (q : Q () s₁) : wpAny (model P w) A (match b with | true => rule "set.scan.the-table-gave-way" | false => pure ()) Q E s₁ := by
  cases b
  · exact wpAny_pure q
  · exact wpAny_rule q
/-- the end of an add: the new entries are stored, and laid anew if the table is too full -/
theorem add_tail {g : Bool → Sem Unit} (hg : ∀ (b : Bool) (s₁ : Shared) (Q' : Unit → Shared → Prop), Q' () s₁ → wpAny (model P w) A (g b) Q' E s₁)
    {o : Obj} {es : Array (Int × Value)} {ep : Nat} {t : SetTable} (ho : s.heap.get? a = some o) (hx : o.ExactSet) (hd : o.data = .set es ep t)
    {es1 : Array (Int × Value)} {t2 : SetTable} {ks1 : List Key} (m1 : Paired (ME1 w) es1.toList ks1) (nd1 : ks1.Nodup) (hb1 : es1.size < scanBound) (hf2 : t2.fits es1.size = true) (hr : Ris t2.place.toList)
    (hl : w.params.followText "set-order" = true ∨ t2.led = true) {wd : Bool} {R : Option Bool → Shared → Prop}
    (hR : ∀ h' ks', Heap.SameBut a s.heap h' → SM w h' a ks' → ks'.Perm ks1 → R (some true) { s with heap := h' }) :
    wpAny (model P w) A (do
        storeSet a es1 t2
        if (!wd && t2.tooFull) = true then do
            g (relayAll t2 es1 (SetTable.grown es1.size)).2.2
            storeSet a (relayAll t2 es1 (SetTable.grown es1.size)).1 (relayAll t2 es1 (SetTable.grown es1.size)).2.1
            pure (some true)
          else pure (some true)) R E s := by
  refine wpAny_bind (wpAny_storeSet_of ho hd ?_ (fits_of_scanBound hb1))
  have o1 := store_at (es' := es1) (t' := t2) ho hd
  have b1 := Heap.SameBut.update s.heap a (Obj.putSet es1 t2)
  split
  · have pm := relayAll_perm t2 es1 (SetTable.grown es1.size)
    have f3 := relayAll_fits t2 es1 (SetTable.grown es1.size)
    have r3 := relayAll_ris t2 es1 (SetTable.grown es1.size)
    have l3 := relayAll_led t2 es1 (SetTable.grown es1.size)
    generalize relayAll t2 es1 (SetTable.grown es1.size) = Z at pm f3 r3 l3 ⊢
    obtain ⟨es2, t3, gv⟩ := Z
    dsimp only at pm f3 r3 l3 ⊢
    obtain ⟨ks2, m2, p2⟩ := paired_perm pm m1
    have sz : es2.size = es1.size := by simpa using pm.length_eq
    have hb2 : es2.size < scanBound := by omega
    refine wpAny_bind (hg _ _ _ (wpAny_bind (wpAny_storeSet_of o1 rfl ?_ (fits_of_scanBound hb2))))
    have o2 := store_at (es' := es2) (t' := t3) o1 rfl
    exact wpAny_pure (hR _ ks2 (b1.trans (Heap.SameBut.update _ a _)) ⟨_, es2, _, t3, o2, hx, rfl, m2, p2.nodup_iff.mpr nd1, hb2, f3, r3, hl.imp id fun z => by rw [l3]; exact z⟩ p2)
  · exact wpAny_pure (hR _ ks1 b1 ⟨_, es1, _, t2, o1, hx, rfl, m1, nd1, hb1, hf2, hr, hl⟩ (.refl _))
theorem add_one {k : Key} {x : Value} {Q : Bool → Shared → Prop} (hk : keyIs k x = true) (m : SM w s.heap a ks) (room : ks.length + 1 < scanBound)
    (h0 : k ∈ ks → Q false s) (h1 : k ∉ ks → ∀ h' ks', Heap.SameBut a s.heap h' → SM w h' a ks' → ks'.Perm (k :: ks) → Q true { s with heap := h' }) :
    wpAny (model P w) A (setAddHashed a x ((mixKind P w).hash k)) Q E s := by
  obtain ⟨o, es, ep, t, ho, hx, hd, pr, nd, hb, hf, hr, hl⟩ := m
  have key : (mixKind P w).is k x = true := hk
  have hs : x.scannable = true := scan_of hk
  have el : ElemsOf (mixKind P w) es.toList := elems_of pr
  have lk : es.size = ks.length := by simpa using Paired.length pr
  unfold setAddHashed setAddHashedIn
  refine wpAny_holding (wpAny_bind (wpAny_setState_of ho hd hf ?_))
  dsimp only
  rw [byScan_of hs hb el]
  simp only [↓reduceIte]
  unfold setAddByScan
  refine wpAny_bind (wpAny_bind (wpAny_rule (wpAny_bind (wpAny_setScan_of key ho hd hf el ?_))))
  cases hq : List.findIdx? (fun e => (mixKind P w).is k e.2) es.toList with
  | some j =>
    dsimp only
    obtain ⟨hj, pj, _⟩ := List.findIdx?_eq_some_iff_getElem.mp hq
    obtain ⟨k', hk', e1, _⟩ := paired_memL pr _ (List.getElem_mem hj)
    have e2 : k = k' := keys_same pj e1
    exact wpAny_pure (wpAny_pure (h0 (e2 ▸ hk')))
  | none =>
    dsimp only
    have hn : k ∉ ks := fun z => by
      obtain ⟨e, he, e1, _⟩ := paired_memR pr k z
      have c := List.findIdx?_eq_none_iff.mp hq e he
      rw [show (mixKind P w).is k e.2 = true from e1] at c
      cases c
    have pm := layNew_perm t es ((mixKind P w).hash k) x
    have f1 := layNew_fits t es ((mixKind P w).hash k) x
    have r1 := layNew_ris t es ((mixKind P w).hash k) x hr
    have l1 := layNew_led t es ((mixKind P w).hash k) x
    generalize layNew t es ((mixKind P w).hash k) x = Z at pm f1 r1 l1 ⊢
    obtain ⟨es1, t1, wd, gv⟩ := Z
    dsimp only at pm f1 r1 l1 ⊢
    rw [Array.toList_push] at pm
    have pc : es1.toList.Perm (((mixKind P w).hash k, x) :: es.toList) := pm.trans (List.perm_append_singleton _ _)
    have m0 : Paired (ME1 w) (((mixKind P w).hash k, x) :: es.toList) (k :: ks) := .cons ⟨hk, rfl⟩ pr
    obtain ⟨ks1, m1, p1⟩ := paired_perm pc m0
    have nd1 : ks1.Nodup := p1.nodup_iff.mpr (List.nodup_cons.mpr ⟨hn, nd⟩)
    have sz : es1.size = ks.length + 1 := by
      have := pc.length_eq
      simp at this
      omega
    have hb1 : es1.size < scanBound := by omega
    have ld : w.params.followText "set-order" = true ∨ t1.led = true := hl.imp id fun z => by rw [l1]; exact z
    refine wpAny_bind (give_way ?_)
    split
    · refine wpAny_bind ?_
      rw [hashByValue_scannable 8 hs]
      refine wpAny_pure (add_tail ?_ ho hx hd m1 nd1 hb1 ?_ ?_ ?_ ?_)
      · intro b s₁ Q' q; cases b <;> first | exact wpAny_pure q | exact wpAny_rule q
      · first | (split <;> first | exact f1 | exact SetTable.fits_plain_off f1) | exact f1
      · first | (split <;> exact r1) | exact r1
      · first | (split <;> exact ld) | exact ld
      · intro h' ks' sb m' p'; dsimp only; exact wpAny_pure (h1 hn h' ks' sb m' (p'.trans p1))
    · refine wpAny_bind (wpAny_pure ?_)
      simp only [↓reduceIte]
      refine add_tail ?_ ho hx hd m1 nd1 hb1 f1 r1 ld ?_
      · intro b s₁ Q' q; cases b <;> first | exact wpAny_pure q | exact wpAny_rule q
      · intro h' ks' sb m' p'; dsimp only; exact wpAny_pure (h1 hn h' ks' sb m' (p'.trans p1))
end

/-- the members met so far -/
def Met (xs : List Key) (i : Nat) (ks : List Key) : Prop := (∀ k, k ∈ ks ↔ k ∈ xs.take i) ∧ ks.length ≤ i
section
variable {P : Program} {w : World} {A : Around} {E : Value → Shared → Prop} {s : Shared} {R : Result → Shared → Prop} {I : Addr} {fp wr : List Addr} {G : Array GenState → Array GenState → Prop} {n : Nat} {Pv : Nat → Value → Prop} {St : Nat → Shared → Prop}
theorem upd_loop (W : WalksS P w A.in1 I fp wr G n Pv St) (S : Addr) (hS : S ∉ fp) (xs : List Key) (hn : n = xs.length) (hv : ∀ i v, Pv i v → ∃ k, xs[i]? = some k ∧ keyIs k v = true) (hb : n + 1 < scanBound) :
    ∀ (c i : Nat) (s : Shared), n - i = c → i ≤ n → St i s → (∃ ks, SM w s.heap S ks ∧ Met xs i ks) → (∀ s' ks, Moved (S :: wr) G s s' → SM w s'.heap S ks → Met xs n ks → R (.ok (.ret .none)) s') →
      codeAny (model P w) A (.builtin "set.update.loop" ⟨[.ref S, .ref I], []⟩) R s := by
  have hw : S ∉ wr := fun h => hS (W.sub _ h)
  have sub : ∀ b ∈ wr, b ∈ S :: wr := fun b hb => List.mem_cons_of_mem _ hb
  intro c
  induction c with
  | zero =>
    intro i s hc hi st ⟨ks, m, mt⟩ hR
    obtain rfl : i = n := by omega
    refine codeAny_builtin PyProof.Rows.F.entry_set_update_loop ?_
    rw [Around.under_plainId PyProof.Rows.F.plain_set_update_loop _]
    show wpAny _ A.in1 (pyNext (.ref I) >>= _) _ _ s
    refine wpAny_bind (W.done s _ _ st fun s' hm => ?_)
    show wpAny _ A.in1 (ret Value.none) _ _ s'
    exact wpAny_pure (hR s' ks (hm.mono sub) (m.at fun o e => hm.heap S o hw e) mt)
  | succ c ih =>
    intro i s hc hi st ⟨ks, m, mt⟩ hR
    have lt : i < n := by omega
    refine codeAny_builtin PyProof.Rows.F.entry_set_update_loop ?_
    rw [Around.under_plainId PyProof.Rows.F.plain_set_update_loop _]
    show wpAny _ A.in1 (pyNext (.ref I) >>= _) _ _ s
    refine wpAny_bind (W.item i s _ _ lt st fun v s' hP st' hm => ?_)
    obtain ⟨k, hx, hk⟩ := hv i v hP
    have m' : SM w s'.heap S ks := m.at fun o e => hm.heap S o hw e
    have tk : xs.take (i + 1) = xs.take i ++ [k] := by rw [List.take_add_one, hx]; rfl
    have rest : ∀ (h' : Heap) (ks' : List Key), Heap.SameBut S s'.heap h' → SM w h' S ks' → Met xs (i + 1) ks' → codeAny (model P w) A (.builtin "set.update.loop" ⟨[.ref S, .ref I], []⟩) R { s' with heap := h', toks := s'.toks + 1 } := fun h' ks' sb m2 mt2 => by
      refine ih (i + 1) _ (by omega) lt (W.frame _ s' _ _ st' (Nat.le_succ _) fun b hb o e => ?_) ⟨ks', m2, mt2⟩ fun s'' k2 hm2 m3 mt3 => ?_
      · rw [sb.2 b (fun h : b = S => hS (by rw [← h]; exact hb))]; exact e
      · refine hR s'' k2 (Moved.trans W.gtrans ((hm.mono sub).then_heap (Nat.le_succ _) fun b o hb e => ?_) hm2) m3 mt3
        rw [sb.2 b (fun h : b = S => hb (by rw [h]; exact List.mem_cons_self))]; exact e
    show wpAny _ A.in1 (holding [v] (setAdd S v) >>= _) _ _ s'
    refine wpAny_bind (wpAny_holding ?_)
    unfold setAdd
    refine wpAny_holding (wpAny_bind ((mixKind P w).pyHash (k := k) hk (add_one (s := { s' with toks := s'.toks + 1 }) hk m' ?_ (fun hin => ?_) fun hnin h' ks' sb m2 pm => ?_)))
    · have := mt.2; omega
    · refine wpAny_pure ⟨plainId_quiet PyProof.Rows.F.plain_set_update_loop _, rest s'.heap ks (Heap.SameBut.refl _ _) m' ⟨fun k' => ?_, Nat.le_succ_of_le mt.2⟩⟩
      rw [tk, List.mem_append, mt.1 k', List.mem_singleton]
      exact ⟨.inl, fun z => z.elim id fun e => (mt.1 k').mp (e ▸ hin)⟩
    · refine wpAny_pure ⟨plainId_quiet PyProof.Rows.F.plain_set_update_loop _, rest h' ks' sb m2 ⟨fun k' => ?_, ?_⟩⟩
      · rw [pm.mem_iff, tk, List.mem_append, List.mem_cons, mt.1 k', List.mem_singleton]
        exact Or.comm
      · have := pm.length_eq
        have := mt.2
        simp at *
        omega
end
end Mn

/-! Mn: set(xs) of a list. -/
namespace Mn
open PySem PySem.Spec L2
section
variable {P : Program} {w : World} {A : Around} {E : Value → Shared → Prop} {s : Shared}
abbrev freshSet (w : World) : Obj := { cls := .type "set", dict := none, data := .set #[] 0 (.fresh 0 0 (!w.params.followText "set-order")) }
theorem init_set {S l : Addr} {b : Bool} {items : Array Value} {n : Nat} {od : Option Addr} {sl : Array (Option Value)} {R : PySem.Fin → Shared → Prop} (hS : s.heap.get? S = some { cls := .type "set", dict := none, data := .set #[] 0 (.fresh 0 0 b) })
    (hl : s.heap.get? l = some { cls := .type "list", dict := od, data := .seq items n, slots := sl })
    (h : wpAny (model P w) A (pyIter (.ref l)) (fun v s1 => wpAny (model P w) A (runValue (.builtin "set.update.loop" ⟨[.ref S, v], []⟩)) (fun _ s2 => R (.done (.ret .none)) s2) E s1) E s) :
    wpAny (model P w) A (Builtin.«set.__init__» ⟨[.ref S, .ref l], []⟩) R E s := by
  have hT : s.TypeIs (.ref S) "set" := ⟨_, hS, rfl⟩
  have hL : s.TypeIs (.ref l) "list" := ⟨_, hl, rfl⟩
  unfold Builtin.«set.__init__» noKeywords
  have hsls := F.sub_list_set
  have hslf := F.sub_list_frozenset
  have hne : (Value.type "list" == Value.type "dict") = false := by decide
  unfold Builtin.Frozenset.updateFrom
  generalize hPI : pyIter = PI at h ⊢
  wp_walk
  exact thn h fun v s1 q => wpAny_bind (thn q fun _ s2 q2 => wpAny_pure (wpAny_pure q2))
theorem init_setStr {S : Addr} {b : Bool} {x : Str} {t : Tok} {R : PySem.Fin → Shared → Prop} (hS : s.heap.get? S = some { cls := .type "set", dict := none, data := .set #[] 0 (.fresh 0 0 b) })
    (h : wpAny (model P w) A (pyIter (.str x t)) (fun v s1 => wpAny (model P w) A (runValue (.builtin "set.update.loop" ⟨[.ref S, v], []⟩)) (fun _ s2 => R (.done (.ret .none)) s2) E s1) E s) :
    wpAny (model P w) A (Builtin.«set.__init__» ⟨[.ref S, .str x t], []⟩) R E s := by
  have hT : s.TypeIs (.ref S) "set" := ⟨_, hS, rfl⟩
  have hL : s.TypeIs (.str x t) "str" := rfl
  unfold Builtin.«set.__init__» noKeywords
  have hsls := PySem.F.sub_str_set
  have hslf := PySem.F.sub_str_frozenset
  have hne : (Value.type "str" == Value.type "dict") = false := by decide
  unfold Builtin.Frozenset.updateFrom
  generalize hPI : pyIter = PI at h ⊢
  wp_walk
  exact thn h fun v s1 q => wpAny_bind (thn q fun _ s2 q2 => wpAny_pure (wpAny_pure q2))
theorem set_by (v : Value) {Q : Value → Shared → Prop} (hi : wpAny (model P w) A.in1.in1 (Builtin.«set.__init__» ⟨[.ref s.heap.objs.size, v], []⟩) (fun r s2 => r = .done (.ret .none) ∧ Q (.ref s.heap.objs.size) s2) E { s with heap := s.heap.push (freshSet w) }) :
    wpAny (model P w) A (call (.type "set") [v]) Q E s := by
  obtain ⟨c, tl, hmro⟩ := F.called_set.mro
  have hmade := F.called_set.made
  have hsub := F.called_set.sub
  refine wpAny_call (codeAny_of_tree ?_)
  show wpAny _ _ (callAny (.type "set") _) _ _ _
  refine wpAny_pure ⟨Code.quiet_builtin _ (by decide +kernel), codeAny_builtin F.entry_type_call ?_⟩
  rw [Around.under_plain (weight_type_call_type "set" [v] []) rfl]
  have h1 := F.called_set.notType
  have h2 := F.called_set.canCreate
  have hct := F.typeCall_set_1 v
  repeat wp_step
  refine codeAny_mono (code_set_led1 v (E := E) (Q₁ := fun obj s₁ => obj = .ref s.heap.objs.size ∧ s₁ = { s with heap := s.heap.push (freshSet w) }) ⟨rfl, rfl⟩) fun r s₁ hr => ?_
  cases r with
  | error e => exact hr
  | ok fl =>
    cases fl with
    | ret obj =>
      obtain ⟨rfl, rfl⟩ := hr
      clear h1 h2 hct hmro hmade
      have hT : Shared.TypeIs { s with heap := s.heap.push (freshSet w) } (.ref s.heap.objs.size) "set" := ⟨_, Heap.get?_push_size _ rfl, rfl⟩
      have hli := F.called_set.init.lookup
      have hbi := F.called_set.init.bind (.ref s.heap.objs.size)
      repeat wp_step
      refine codeAny_mono (codeAny_call_builtin (R := wants (fun r s₂ => r = .none ∧ Q (.ref s.heap.objs.size) s₂) E) F.called_set.init.plain F.entry_set_init (check_set_init_1 hT (thn hi fun r s2 q => ?_))) fun r₂ s₂ hr₂ => ?_
      · obtain ⟨rfl, q⟩ := q
        exact ⟨rfl, q⟩
      · cases r₂ with
        | error e => exact hr₂
        | ok fl₂ =>
          cases fl₂ with
          | ret r =>
            obtain ⟨rfl, hm⟩ := hr₂
            repeat wp_step
            exact hm
          | _ => exact hr₂.elim
    | _ => exact hr.elim
theorem fresh_set {h : Heap} : SM w (h.push (freshSet w)) h.objs.size [] :=
  ⟨_, #[], 0, _, Heap.get?_push_size _ rfl, ⟨rfl, rfl, rfl⟩, rfl, .nil, List.nodup_nil, by decide, by rfl, List.Pairwise.nil, by
    show _ ∨ (!w.params.followText "set-order") = true
    cases w.params.followText "set-order"
    · exact .inr rfl
    · exact .inl rfl⟩
/-- what set(xs) leaves -/
def SetMade (w : World) (s : Shared) (xs : List Key) (h' : Heap) : Prop := (∃ ks, SM w h' s.heap.objs.size ks ∧ Met xs xs.length ks) ∧ ∀ b o, s.heap.get? b = some o → h'.get? b = some o
theorem call_set {l : Addr} {items : Array Value} {xs : List Key} {Q : Value → Shared → Prop} (hh : A.handled = none) (hl : s.heap.IsList l items) (hi : Paired (fun v k => keyIs k v = true) items.toList xs) (hb : xs.length + 1 < scanBound)
    (h : ∀ (h' : Heap) (tk : Nat), SetMade w s xs h' → Q (.ref s.heap.objs.size) { s with heap := h', toks := tk }) :
    wpAny (model P w) A (call (.type "set") [.ref l]) Q E s := by
  have hsz : items.size = xs.length := by simpa using Paired.length hi
  obtain ⟨⟨c, od, dt, sl⟩, hol, hc, n, hd⟩ := id hl
  simp only at hc hd
  subst hc hd
  have ll : l < s.heap.objs.size := Heap.lt_size hol
  have g1 : (s.heap.push (freshSet w)).get? l = some ⟨.type "list", od, .seq items n, sl⟩ := Heap.get?_push_of_some _ hol
  have l1 : (s.heap.push (freshSet w)).IsList l items := ⟨_, g1, rfl, n, rfl⟩
  refine set_by (.ref l) (init_set (s := { s with heap := s.heap.push (freshSet w) }) (Heap.get?_push_size _ rfl) g1 (wpAny_pyIter_list l1 (wpAny_runValue ?_)))
  have h3 : A.in1.in1.in1.handled = none := by simp [hh]
  have ne : l ≠ (s.heap.push (freshSet w)).objs.size := by rw [Heap.size_push]; exact Nat.ne_of_lt (Nat.lt_succ_of_lt ll)
  have sf : s.heap.objs.size ∉ [(s.heap.push (freshSet w)).objs.size, l] := fun z => by
    rw [Heap.size_push] at z
    rcases List.mem_cons.mp z with z | z
    · exact absurd z (Nat.ne_of_lt (Nat.lt_succ_self _))
    · exact absurd (List.mem_singleton.mp z) (Nat.ne_of_gt ll)
  refine upd_loop ((Walks.list h3 _ l ne items).toS) s.heap.objs.size sf xs hsz (fun i v hv => ?_) (by omega) (items.size - 0) 0 _ (by omega) (Nat.zero_le _)
    ⟨⟨_, Heap.get?_push_size _ rfl, rfl, rfl⟩, (l1.push _)⟩ ⟨[], fresh_set.at fun o e => Heap.get?_push_of_some _ e, fun k => by simp, Nat.le_refl _⟩ fun s' ks hm m mt => ?_
  · have hv' : items.toList[i]? = some v := by rw [Array.getElem?_toList]; exact hv
    exact paired_get hi hv'
  · obtain ⟨h', g', d', tk', os'⟩ := s'
    have eg : g' = s.gens := hm.gens
    have ed : d' = s.drawn := hm.drawn
    have eo : os' = s.os := hm.os
    subst eg ed eo
    refine ⟨rfl, h h' tk' ⟨⟨ks, m, by rw [← hsz]; exact mt⟩, fun b o e => ?_⟩⟩
    have hb := Heap.lt_size e
    refine hm.heap b o (fun z => ?_) (Heap.get?_push_of_some _ (Heap.get?_push_of_some _ e))
    rw [Heap.size_push] at z
    rcases List.mem_cons.mp z with z | z
    · exact absurd z (Nat.ne_of_lt hb)
    · exact absurd (List.mem_singleton.mp z) (Nat.ne_of_lt (Nat.lt_succ_of_lt hb))
theorem call_setStr {x : Str} {tk0 : Tok} {Q : Value → Shared → Prop} (hh : A.handled = none) (hb : x.cps.size + 1 < scanBound)
    (h : ∀ (h' : Heap) (tk : Nat), SetMade w s ((signs x).map Sum.inr) h' → Q (.ref s.heap.objs.size) { s with heap := h', toks := tk }) :
    wpAny (model P w) A (call (.type "set") [.str x tk0]) Q E s := by
  have hsz : x.cps.size = ((signs x).map (Sum.inr : Str → Key)).length := by unfold signs; rw [List.length_map, List.length_map, Array.length_toList]
  refine set_by (.str x tk0) (init_setStr (s := { s with heap := s.heap.push (freshSet w) }) (Heap.get?_push_size _ rfl) (wpAny_pyIter_str fun o St W hst => wpAny_runValue ?_))
  have h3 : A.in1.in1.in1.handled = none := by simp [hh]
  have sf : s.heap.objs.size ∉ [(s.heap.push (freshSet w)).objs.size] := fun z => by
    rw [Heap.size_push] at z
    exact absurd (List.mem_singleton.mp z) (Nat.ne_of_lt (Nat.lt_succ_self _))
  refine upd_loop ((W _ h3).toS) s.heap.objs.size sf ((signs x).map Sum.inr) hsz (fun i v hv => ?_) (by omega) (x.cps.size - 0) 0 _ (by omega) (Nat.zero_le _) hst
    ⟨[], fresh_set.at fun o e => Heap.get?_push_of_some _ e, fun k => by simp, Nat.le_refl _⟩ fun s' ks hm m mt => ?_
  · obtain ⟨c, u, e, rfl⟩ := hv
    refine ⟨.inr ⟨#[c]⟩, ?_, by simp [keyIs, Value.isStrOf]⟩
    unfold signs
    rw [List.getElem?_map, List.getElem?_map, Array.getElem?_toList, e]
    rfl
  · obtain ⟨h', g', d', tk', os'⟩ := s'
    have eg : g' = s.gens := hm.gens
    have ed : d' = s.drawn := hm.drawn
    have eo : os' = s.os := hm.os
    subst eg ed eo
    refine ⟨rfl, h h' tk' ⟨⟨ks, m, by rw [← hsz]; exact mt⟩, fun b o e => ?_⟩⟩
    have hb := Heap.lt_size e
    refine hm.heap b o (fun z => ?_) (Heap.get?_push_of_some _ (Heap.get?_push_of_some _ e))
    rw [Heap.size_push] at z
    rcases List.mem_cons.mp z with z | z
    · exact absurd z (Nat.ne_of_lt hb)
    · exact absurd (List.mem_singleton.mp z) (Nat.ne_of_lt (Nat.lt_succ_of_lt hb))
end
end Mn

/-! Mn: sorted(set(xs)). -/
namespace Mn
open PySem PySem.Spec L2
open PyProof.Rows (list_sort_treeAny list_sort_treeKAny strKind_oneLt sorted_out_str keyKind_strs seqObj kind_sorted plain_sorted entry_sorted args_sorted1 slot_list_sort entry_list_sort list_sort_tree args_list_sort sortedHeap sortedHeap_at sortedHeap_old size_push' StrsAre IntsAre risingS sortedS)
/-- a list of ints or of texts as keys -/
inductive KeysAre : List Key → List D → Prop
  | ints (ns : List Int) : KeysAre (ns.map Sum.inl) (ns.map D.int)
  | strs (ns : List Str) : KeysAre (ns.map Sum.inr) (ns.map D.str)
theorem ints_keys : ∀ {vs : List Value} {ks : List Key}, Paired (fun v k => keyIs k v = true) vs ks → ∀ {xs : List Int}, (∀ k ∈ ks, k ∈ (xs.map Sum.inl : List Key)) → ∃ ns, ks = ns.map Sum.inl ∧ IntsAre vs ns
  | _, _, .nil, _, _ => ⟨[], rfl, .nil⟩
  | _, _, @Paired.cons _ _ _ v k vs ks r t, xs, h => by
    obtain ⟨ns, rfl, i⟩ := ints_keys t (xs := xs) fun k hk => h k (List.mem_cons_of_mem _ hk)
    obtain ⟨n, _, rfl⟩ := List.mem_map.mp (h k List.mem_cons_self)
    rcases keyIs_shape r with ⟨j, tk, e, rfl⟩ | ⟨x, tk, e, _⟩
    · cases e
      exact ⟨n :: ns, rfl, .cons _ _ i⟩
    · cases e
theorem strs_keys : ∀ {vs : List Value} {ks : List Key}, Paired (fun v k => keyIs k v = true) vs ks → ∀ {xs : List Str}, (∀ k ∈ ks, k ∈ (xs.map Sum.inr : List Key)) → ∃ ns, ks = ns.map Sum.inr ∧ StrsAre vs ns
  | _, _, .nil, _, _ => ⟨[], rfl, .nil⟩
  | _, _, @Paired.cons _ _ _ v k vs ks r t, xs, h => by
    obtain ⟨ns, rfl, i⟩ := strs_keys t (xs := xs) fun k hk => h k (List.mem_cons_of_mem _ hk)
    obtain ⟨n, _, rfl⟩ := List.mem_map.mp (h k List.mem_cons_self)
    rcases keyIs_shape r with ⟨j, tk, e, _⟩ | ⟨x, tk, e, rfl⟩
    · cases e
    · cases e
      exact ⟨n :: ns, rfl, .cons _ _ i⟩
theorem nlt_tri : ∀ a b : List Nat, a < b ∨ a = b ∨ b < a
  | [], [] => .inr (.inl rfl)
  | [], b :: t => .inl (List.nil_lt_cons _ _)
  | a :: r, [] => .inr (.inr (List.nil_lt_cons _ _))
  | a :: r, b :: t => by
    rcases Nat.lt_trichotomy a b with h | h | h
    · exact .inl (List.cons_lt_cons_iff.mpr (.inl h))
    · subst h
      rcases nlt_tri r t with q | q | q
      · exact .inl (List.cons_lt_cons_iff.mpr (.inr ⟨rfl, q⟩))
      · exact .inr (.inl (by rw [q]))
      · exact .inr (.inr (List.cons_lt_cons_iff.mpr (.inr ⟨rfl, q⟩)))
    · exact .inr (.inr (List.cons_lt_cons_iff.mpr (.inl h)))
theorem ltS_tri (x y : Str) : ltS x y ∨ x = y ∨ ltS y x := by
  rcases nlt_tri x.cps.toList y.cps.toList with h | h | h
  · exact .inl h
  · exact .inr (.inl (Str.ext' (Array.toList_inj.mp h)))
  · exact .inr (.inr h)
theorem ltS_trans {x y z : Str} (h : ltS x y) (h' : ltS y z) : ltS x z := List.lt_trans h h'
theorem rising_pw : ∀ (l : List Str) (p : Str), risingS p l = true → (p :: l).Nodup → (p :: l).Pairwise ltS := by
  intro l
  induction l with
  | nil => intro p _ _; exact List.pairwise_singleton _ _
  | cons x l ih =>
    intro p h nd
    have h' : (!PySem.Spec.ltCps x.cps.toList p.cps.toList && risingS x l) = true := h
    rw [Bool.and_eq_true] at h'
    obtain ⟨h1, h2⟩ := h'
    have pw := ih x h2 (List.nodup_cons.mp nd).2
    have px : ltS p x := by
      have ne : p ≠ x := fun e => (List.nodup_cons.mp nd).1 (e ▸ List.mem_cons_self)
      have nl : ¬ ltS x p := by
        rw [PyProof.Rows.ltCps_eq] at h1
        exact fun z => by
          have z' : x.cps.toList < p.cps.toList := z
          rw [decide_eq_true z'] at h1
          cases h1
      rcases ltS_tri p x with z | z | z
      · exact z
      · exact absurd z ne
      · exact absurd z nl
    refine List.pairwise_cons.mpr ⟨fun y hy => ?_, pw⟩
    rcases List.mem_cons.mp hy with rfl | hy
    · exact px
    · exact ltS_trans px ((List.pairwise_cons.mp pw).1 y hy)
theorem sorted_pw {l : List Str} (h : sortedS l = true) (nd : l.Nodup) : l.Pairwise ltS := by
  cases l with
  | nil => exact .nil
  | cons x l => exact rising_pw l x h nd
theorem keysOf_ints {ns : List Int} : ∀ {vs : List Value}, Vals (ns.map V.int) vs → Paired (fun v k => keyIs k v = true) vs (ns.map Sum.inl) := by
  induction ns with
  | nil => intro vs h; cases h; exact .nil
  | cons n ns ih =>
    intro vs h
    cases h with
    | cons r t =>
      obtain ⟨tk, rfl⟩ := r
      exact .cons (by simp [keyIs, Value.isInt, Value.isStrOf]) (ih t)
theorem keysOf_strs {ns : List Str} : ∀ {vs : List Value}, Vals (ns.map V.str) vs → Paired (fun v k => keyIs k v = true) vs (ns.map Sum.inr) := by
  induction ns with
  | nil => intro vs h; cases h; exact .nil
  | cons n ns ih =>
    intro vs h
    cases h with
    | cons r t =>
      obtain ⟨tk, rfl⟩ := r
      exact .cons (by simp [keyIs, Value.isInt, Value.isStrOf]) (ih t)
/-- the set that was made of the members -/
def SPhi (w : World) (a : Addr) (xs : List Key) : Heap → Prop := fun h => ∃ ks, SM w h a ks ∧ (∀ k, k ∈ ks ↔ k ∈ xs) ∧ ks.length ≤ xs.length
def rSetK (w : World) (K : PySem.W.Frag) : List V → Hp → VK → Prop := fun vs H Q => ∃ (a : Addr) (us : List V) (xs : List Key), vs = [V.ref a] ∧ SqL K H a us ∧
  ((∃ ns : List Int, us = ns.map V.int ∧ xs = ns.map Sum.inl) ∨ (∃ ns : List Str, us = ns.map V.str ∧ xs = ns.map Sum.inr)) ∧ xs.length + 1 < scanBound ∧ ∀ p, H p = none → Q (.ref p) (upd H p (.ext (SPhi w p xs)))
def rSrtK (w : World) (K : PySem.W.Frag) : List V → Hp → VK → Prop := fun vs H Q => ∃ (a : Addr) (xs : List Key), vs = [V.ref a] ∧ H a = some (.ext (SPhi w a xs)) ∧
  ((∃ ns : List Int, xs = ns.map Sum.inl ∧ ∀ (ns' : List Int) (p : Addr), ns'.Pairwise (· < ·) → (∀ k, k ∈ ns' ↔ k ∈ ns) → H p = none → Q (.ref p) (upd H p (.lst (ns'.map V.int)))) ∨
   (∃ ns : List Str, xs = ns.map Sum.inr ∧ ∀ (ns' : List Str) (p : Addr), ns'.Pairwise ltS → (∀ k, k ∈ ns' ↔ k ∈ ns) → H p = none → Q (.ref p) (upd H p (.lst (ns'.map V.str)))))
section
variable {X : Cx}
theorem cr_setK (hc : X.calm = true) : CallR X (.type "set") (rSetK X.w X.K) := by
  intro pins s σ H vs us Q I r h
  obtain ⟨a, us', xs, rfl, hs, hk, hb, q⟩ := h
  obtain ⟨its, rv, hl, _⟩ := I.list hs
  rw [Vals.ref1 r]
  have pk : Paired (fun v k => keyIs k v = true) its.toArray.toList xs := by
    rw [List.toList_toArray]
    rcases hk with ⟨ns, rfl, rfl⟩ | ⟨ns, rfl, rfl⟩
    · exact keysOf_ints rv
    · exact keysOf_strs rv
  refine call_set (I.ok.hd hc) hl.isList pk hb fun h' tk hm => ?_
  obtain ⟨⟨ks, m, mt⟩, keep⟩ := hm
  have hn : H s.heap.objs.size = none := I.hok.fresh (Nat.le_refl _)
  have phi : SPhi X.w s.heap.objs.size xs h' := ⟨ks, m, fun k => by rw [mt.1, List.take_length], mt.2⟩
  obtain ⟨o, es, ep, t, e, r'⟩ := id m
  exact ⟨.ref s.heap.objs.size, _, I.laid (a := s.heap.objs.size) (o := .ext (SPhi X.w s.heap.objs.size xs)) (fun b o h => keep b o h) (Nat.le_refl _)
    ⟨phi, ⟨_, e⟩, fun h1 h2 ⟨kk, mm, a1, a2⟩ k2 => ⟨kk, mm.at fun o e => k2 o e, a1, a2⟩⟩, rfl, q _ hn⟩
/-- the set's members as a sorted list -/
theorem sorted_sm {P : Program} {w : World} {A : Around} {E : Value → Shared → Prop} {s : Shared} {a : Addr} {ks : List Key} {Q : Value → Shared → Prop} (hh : A.handled = none) (m : SM w s.heap a ks) {C : List Value → Prop}
    (hs : ∀ (vs : List Value) (s1 : Shared) (l : Addr) (Q' : Fin → Shared → Prop), (∃ ks', ks'.Perm ks ∧ Paired (fun v k => keyIs k v = true) vs ks') → vs.length ≤ sizeLine → s1.heap.get? l = some (seqObj "list" vs.toArray 0) →
      (∀ out : Array Value, C out.toList → Q' (.done (.ret .none)) { s1 with heap := sortedHeap s1.heap l vs out }) → wpAny (model P w) A.in1.in1 (Builtin.«list.sort» ⟨[.ref l], []⟩) Q' E s1)
    (hQ : ∀ s' p (out : Array Value) (c : Nat), (∀ b o, s.heap.get? b = some o → s'.heap.get? b = some o) → s'.gens = s.gens → s'.os = s.os → s.heap.objs.size ≤ p →
      s'.heap.get? p = some (seqObj "list" out c) → C out.toList → Q (.ref p) s') :
    wpAny (model P w) A (call (.builtin "sorted") [.ref a]) Q E s := by
  obtain ⟨o, es, ep, t, ho, hex, hd, pr, nd, hb, hf, hr, hl⟩ := m
  refine Calls.call_function_entry kind_sorted plain_sorted entry_sorted (args_sorted1 _) ?_
  unfold Builtin.«sorted»
  refine wpAny_bind (m := checkCount "sorted" 1 1 _) (wpAny_pure ?_)
  refine wpAny_bind (collect_set (A := A.in1) hh ⟨o, ho, hex.1, hd⟩ hf hb hr hl fun s1 vs k1 hz g1 o1 pm => ?_)
  have hvl : vs.length = es.size := by rw [pm.length_eq, List.length_map, Array.length_toList]
  have pk0 : Paired (fun v k => keyIs k v = true) (es.toList.map (·.2)) ks := by
    clear pm nd hf hr hl hd hb hvl hs hQ
    generalize es.toList = l at pr
    induction pr with
    | nil => exact .nil
    | cons h _ ih => exact .cons h.1 ih
  obtain ⟨ks', pk, pp⟩ := paired_perm pm pk0
  refine wpAny_bind (wpAny_newList ?_ (by rw [hvl]; exact fits_of_scanBound hb))
  have hoL : (s1.heap.push (seqObj "list" vs.toArray 0)).get? s1.heap.objs.size = some (seqObj "list" vs.toArray 0) := Heap.get?_push_size _ rfl
  refine wpAny_bind (wpAny_holding (wpAny_call_entry slot_list_sort ⟨_, hoL, rfl⟩ entry_list_sort (hs vs { s1 with heap := s1.heap.push (seqObj "list" vs.toArray 0) } _ _ ⟨ks', pp, pk⟩ (by rw [hvl]; exact fits_of_scanBound hb) hoL fun out a1 => ⟨_, rfl, ?_⟩) (args_list_sort _)))
  obtain ⟨c, hc⟩ := sortedHeap_at (vs := vs) (out := out) hoL
  refine wpAny_pure ⟨_, rfl, hQ _ s1.heap.objs.size out c (fun b u e => ?_) g1 o1 hz hc a1⟩
  have q := k1 b u e
  have hlt := Heap.lt_size q
  show (sortedHeap (s1.heap.push (seqObj "list" vs.toArray 0)) s1.heap.objs.size vs out).get? b = some u
  rw [sortedHeap_old (Nat.ne_of_lt hlt) (by rw [size_push']; exact Nat.lt_succ_of_lt hlt)]
  exact Heap.get?_push_of_some _ q
theorem vals_ints' : ∀ {vs : List Value} {ns : List Int}, IntsAre vs ns → Vals (ns.map V.int) vs
  | _, _, .nil => .nil
  | _, _, .cons n t r => .cons ⟨t, rfl⟩ (vals_ints' r)
theorem vals_strs' : ∀ {vs : List Value} {ns : List Str}, StrsAre vs ns → Vals (ns.map V.str) vs
  | _, _, .nil => .nil
  | _, _, .cons n t r => .cons ⟨t, rfl⟩ (vals_strs' r)
theorem nodup_inl {α β : Type} {ns : List α} (h : (ns.map (Sum.inl : α → α ⊕ β)).Nodup) : ns.Nodup := (List.pairwise_map.mp h).imp fun q e => q (by rw [e])
theorem nodup_inr {α β : Type} {ns : List α} (h : (ns.map (Sum.inr : α → β ⊕ α)).Nodup) : ns.Nodup := (List.pairwise_map.mp h).imp fun q e => q (by rw [e])
theorem mem_inl {α β : Type} {ns : List α} {x : α} : (Sum.inl x : α ⊕ β) ∈ ns.map Sum.inl ↔ x ∈ ns := by simp
theorem mem_inr {α β : Type} {ns : List α} {x : α} : (Sum.inr x : β ⊕ α) ∈ ns.map Sum.inr ↔ x ∈ ns := by simp
theorem inv_lst {pins : List (Addr × Obj)} {σ : L2.St} {H : Hp} {s s' : Shared} (I : Inv X pins σ H s) {p : Addr} {out : Array Value} {c : Nat} {us : List V} (k : ∀ b o, s.heap.get? b = some o → s'.heap.get? b = some o) (g : s'.gens = s.gens) (o : s'.os = s.os) (hp : s.heap.objs.size ≤ p)
    (hg : s'.heap.get? p = some (seqObj "list" out c)) (rv : Vals us out.toList) (hz : us.length ≤ sizeLine) : Inv X pins σ (upd H p (.lst us)) s' :=
  I.call' (ch := []) o (Un.laid k hp (I.hok.fresh hp)) (I.hok.laid k hp ⟨hz, out.toList, c, rv, hg⟩) (by rw [g]; exact I.bare) (fun _ z => nomatch z)
theorem cr_srtI (hc : X.calm = true) : CallR X (.builtin "sorted") (fun vs H Q => ∃ (a : Addr) (ns : List Int), vs = [V.ref a] ∧ H a = some (.ext (SPhi X.w a (ns.map Sum.inl))) ∧
    ∀ (ns' : List Int) (p : Addr), ns'.Pairwise (· < ·) → (∀ k, k ∈ ns' ↔ k ∈ ns) → H p = none → Q (.ref p) (upd H p (.lst (ns'.map V.int)))) := by
  intro pins s σ H vs us Q I r h
  obtain ⟨a, ns, rfl, ha, q⟩ := h
  rw [Vals.ref1 r]
  obtain ⟨ks, m, hm, hle⟩ := (I.hok a _ ha).1
  have nd : ks.Nodup := by obtain ⟨_, _, _, _, _, _, _, _, nd, _⟩ := id m; exact nd
  refine sorted_sm (C := fun out => ∃ ns', IntsAre out ns' ∧ ns'.length ≤ sizeLine ∧ ns'.Pairwise (· < ·) ∧ ∀ k, k ∈ ns' ↔ k ∈ ns) (I.ok.hd hc) m (fun vs s1 l Q' hv hz hl h => ?_) fun s' p out c k1 g1 o1 hp ho hC => ?_
  · obtain ⟨ks', pp, pk⟩ := hv
    obtain ⟨ns0, rfl, hi⟩ := ints_keys pk (xs := ns) fun k hk => (hm k).mp (pp.mem_iff.mp hk)
    refine list_sort_treeAny hl hi hz fun out ns' a1 a2 a3 => h out ⟨ns', a1, ?_, lt_of_le_nodup ns' a3 (a2.nodup_iff.mpr (nodup_inl (pp.nodup_iff.mpr nd))), fun k => ?_⟩
    · rw [a2.length_eq, ← hi.length]; exact hz
    · rw [a2.mem_iff, ← mem_inl (β := Str), pp.mem_iff, hm, mem_inl]
  · obtain ⟨ns', a1, hz, a2, a3⟩ := hC
    exact ⟨.ref p, upd H p (.lst (ns'.map V.int)), inv_lst I k1 g1 o1 hp ho (vals_ints' a1) (by rw [List.length_map]; exact hz), rfl, q ns' p a2 a3 (I.hok.fresh hp)⟩
theorem cr_srtS (hc : X.calm = true) : CallR X (.builtin "sorted") (fun vs H Q => ∃ (a : Addr) (ns : List Str), vs = [V.ref a] ∧ H a = some (.ext (SPhi X.w a (ns.map Sum.inr))) ∧
    ∀ (ns' : List Str) (p : Addr), ns'.Pairwise ltS → (∀ k, k ∈ ns' ↔ k ∈ ns) → H p = none → Q (.ref p) (upd H p (.lst (ns'.map V.str)))) := by
  intro pins s σ H vs us Q I r h
  obtain ⟨a, ns, rfl, ha, q⟩ := h
  rw [Vals.ref1 r]
  obtain ⟨ks, m, hm, hle⟩ := (I.hok a _ ha).1
  have nd : ks.Nodup := by obtain ⟨_, _, _, _, _, _, _, _, nd, _⟩ := id m; exact nd
  refine sorted_sm (C := fun out => ∃ ns', StrsAre out ns' ∧ ns'.length ≤ sizeLine ∧ ns'.Pairwise ltS ∧ ∀ k, k ∈ ns' ↔ k ∈ ns) (I.ok.hd hc) m (fun vs s1 l Q' hv hz hl h => ?_) fun s' p out c k1 g1 o1 hp ho hC => ?_
  · obtain ⟨ks', pp, pk⟩ := hv
    obtain ⟨ns0, rfl, hi⟩ := strs_keys pk (xs := ns) fun k hk => (hm k).mp (pp.mem_iff.mp hk)
    refine list_sort_treeKAny strKind_oneLt hl hi.keysOf (fun v₁ v₂ rest e => keyKind_strs (by rw [← e]; exact hi)) hz fun st' hp hs => ?_
    obtain ⟨ns', a1, a2, a3⟩ := sorted_out_str hi hp hs
    refine h _ ⟨ns', a1, ?_, sorted_pw a3 (a2.nodup_iff.mpr (nodup_inr (pp.nodup_iff.mpr nd))), fun k => ?_⟩
    · rw [a2.length_eq, ← StrsAre.length hi]; exact hz
    · rw [a2.mem_iff, ← mem_inr (β := Int), pp.mem_iff, hm, mem_inr]
  · obtain ⟨ns', a1, hz, a2, a3⟩ := hC
    exact ⟨.ref p, upd H p (.lst (ns'.map V.str)), inv_lst I k1 g1 o1 hp ho (vals_strs' a1) (by rw [List.length_map]; exact hz), rfl, q ns' p a2 a3 (I.hok.fresh hp)⟩
theorem tx_ext {K : PySem.W.Frag} {H : Hp} {P : Program} {w : World} {S : Sto} (rp : Rp P w K H S) {p : Addr} {o : HO} (h : H p = none) : Rp P w K (upd H p o) S := rp.new h (rp.free h)
/-- the set is made, by values; what comes next is asked of it -/
def rSS (P : Program) (w : World) (K : PySem.W.Frag) : List V → Hp → VK → Prop := fun vs H Q => ∃ d ds S R, ds = [d] ∧ RDs K H ds vs ∧ Rp P w K H S ∧ ssD d S R ∧ ∀ p (H' : Hp), (∃ o, H' = upd H p o) → H p = none →
  ((∃ ns : List Int, H' p = some (.ext (SPhi w p (ns.map Sum.inl))) ∧ ∀ ns' : List Int, ns'.Pairwise (· < ·) → (∀ k, k ∈ ns' ↔ k ∈ ns) → newL S (ns'.map D.int) R) ∨
     (∃ ns : List Str, H' p = some (.ext (SPhi w p (ns.map Sum.inr))) ∧ ∀ ns' : List Str, ns'.Pairwise ltS → (∀ k, k ∈ ns' ↔ k ∈ ns) → newL S (ns'.map D.str) R)) → Rp P w K H' S → Q (.ref p) H'
theorem cr_setStr (hc : X.calm = true) : CallR X (.type "set") (fun vs H Q => ∃ x : Str, vs = [V.str x] ∧ x.cps.size + 1 < scanBound ∧ ∀ p, H p = none → Q (.ref p) (upd H p (.ext (SPhi X.w p ((signs x).map Sum.inr))))) := by
  intro pins s σ H vs us Q I r h
  obtain ⟨x, rfl, hb, q⟩ := h
  obtain ⟨u, rfl, rx⟩ := r.one
  obtain ⟨tk0, rfl⟩ := rx
  refine call_setStr (I.ok.hd hc) hb fun h' tk hm => ?_
  obtain ⟨⟨ks, m, mt⟩, keep⟩ := hm
  have hn : H s.heap.objs.size = none := I.hok.fresh (Nat.le_refl _)
  have phi : SPhi X.w s.heap.objs.size ((signs x).map Sum.inr) h' := ⟨ks, m, fun k => by rw [mt.1, List.take_length], mt.2⟩
  obtain ⟨o, es, ep, t, e, r'⟩ := id m
  exact ⟨.ref s.heap.objs.size, _, I.laid (a := s.heap.objs.size) (o := .ext (SPhi X.w s.heap.objs.size ((signs x).map Sum.inr))) (fun b o h => keep b o h) (Nat.le_refl _)
    ⟨phi, ⟨_, e⟩, fun h1 h2 ⟨kk, mm, a1, a2⟩ k2 => ⟨kk, mm.at fun o e => k2 o e, a1, a2⟩⟩, rfl, q _ hn⟩
theorem cr_ss (hc : X.calm = true) : CallR X (.type "set") (rSS X.prog X.w X.K) := by
  intro pins s σ H vs us Q I r h
  obtain ⟨d, ds, S, R, rfl, rd, rp, h, q⟩ := h
  cases rd with
  | cons r1 rn =>
  cases rn
  cases r1 <;> first | exact False.elim h | skip
  · rename_i x
    obtain ⟨hz, h⟩ := h
    exact cr_setStr hc pins s σ H _ us Q I r ⟨x, rfl, show _ < 4096 by have : x.cps.size = x.length := rfl; omega, fun p hp => q p _ ⟨_, rfl⟩ hp (.inr ⟨signs x, upd_same, h⟩) (rp.new hp (rp.free hp))⟩
  rename_i a
  obtain ⟨xs, e, hz, h⟩ := h
  obtain ⟨vs', ha, rv⟩ := rp.lst e
  rcases h with ⟨ns, hn, h⟩ | ⟨ns, hn, h⟩
  · have := allInts_eq hn
    subst this
    have := rv.ints
    subst this
    refine cr_setK hc pins s σ H _ us Q I r ⟨a, _, ns.map Sum.inl, rfl, .inl (.inl ha), .inl ⟨ns, rfl, rfl⟩, ?_, fun p hp => q p _ ⟨_, rfl⟩ hp (.inl ⟨ns, upd_same, h⟩) (rp.new hp (rp.free hp))⟩
    rw [List.length_map] at hz ⊢
    show _ < 4096
    omega
  · have := allStrs_eq hn
    subst this
    have := rv.strs
    subst this
    refine cr_setK hc pins s σ H _ us Q I r ⟨a, _, ns.map Sum.inr, rfl, .inl (.inl ha), .inr ⟨ns, rfl, rfl⟩, ?_, fun p hp => q p _ ⟨_, rfl⟩ hp (.inr ⟨ns, upd_same, h⟩) (rp.new hp (rp.free hp))⟩
    rw [List.length_map] at hz ⊢
    show _ < 4096
    omega
end
end Mn

/-! Mn: methods. -/
namespace Mn
open PySem PySem.Spec L2
def mfTy : Mf → String
  | .append => "list" | .pop => "list" | .index => "list" | .insert => "list" | .get => "dict"
  | .join => "str" | .split => "str" | .partition => "str" | .startswith => "str" | .endswith => "str"
def mfNm : Mf → Str
  | .append => "append" | .pop => "pop" | .index => "index" | .insert => "insert" | .get => "get"
  | .join => "join" | .split => "split" | .partition => "partition" | .startswith => "startswith" | .endswith => "endswith"
def mfId : Mf → String
  | .append => "list.append" | .pop => "list.pop" | .index => "list.index" | .insert => "list.insert" | .get => "dict.get"
  | .join => "str.join" | .split => "str.split" | .partition => "str.partition" | .startswith => "str.startswith" | .endswith => "str.endswith"
section
variable {X : Cx}
/-- the method's own facts -/
structure MfOk (m : Mf) : Prop where
  pa : PlainAttrs (mfTy m)
  slot : Slot (mfTy m) (mfNm m) (mfId m)
  ty : typeOf (.builtin (mfId m)) = pure (.type "method_descriptor")
theorem mf_ok : ∀ m : Mf, MfOk m
  | .append => ⟨F.plainAttrs_list, PySem.F.slot_list_append, F.type_list_append⟩
  | .pop => ⟨F.plainAttrs_list, PySem.F.slot_list_pop, F.type_list_pop⟩
  | .index => ⟨F.plainAttrs_list, PySem.F.slot_list_index, F.type_list_index⟩
  | .insert => ⟨F.plainAttrs_list, PySem.F.slot_list_insert, F.type_list_insert⟩
  | .get => ⟨F.plainAttrs_dict, PySem.F.slot_dict_get, F.type_dict_get⟩
  | .join => ⟨F.plainAttrs_str, PySem.F.slot_str_join, F.type_str_join⟩
  | .split => ⟨F.plainAttrs_str, PySem.F.slot_str_split, F.type_str_split⟩
  | .partition => ⟨F.plainAttrs_str, PySem.F.slot_str_partition, F.type_str_partition⟩
  | .startswith => ⟨F.plainAttrs_str, PySem.F.slot_str_startswith, F.type_str_startswith⟩
  | .endswith => ⟨F.plainAttrs_str, PySem.F.slot_str_endswith, F.type_str_endswith⟩
theorem mty_is {pins : List (Addr × Obj)} {σ : L2.St} {H : Hp} {s : Shared} {S : Sto} (I : Inv X pins σ H s) (rp : Rp X.prog X.w X.K H S) {d : D} {x : V} {v : Value} (rd : RD X.K H d x) (r : RelV x v) {m : Mf} (h : mtyD m d S) :
    s.TypeIs v (mfTy m) ∧ ∀ a, v = .ref a → ∃ ob, s.heap.get? a = some ob ∧ ob.dict = none := by
  have txt : ∀ z : Str, x = .str z → s.TypeIs v "str" ∧ ∀ a, v = .ref a → ∃ ob, s.heap.get? a = some ob ∧ ob.dict = none := fun z e => by
    subst e
    exact tyV_is (X := X) I r (T := "str") rfl
  have lst : ∀ a, x = .ref a → lstAt S a (fun _ => True) → s.TypeIs v "list" ∧ ∀ a, v = .ref a → ∃ ob, s.heap.get? a = some ob ∧ ob.dict = none := fun a e ⟨xs, e1, _⟩ => by
    subst e
    obtain ⟨vs, q, _⟩ := rp.lst e1
    exact tyV_is (X := X) I r (T := "list") (.inl ⟨rfl, vs, .of q⟩)
  cases m <;> cases rd <;> first
    | exact False.elim h
    | exact txt _ rfl
    | exact lst _ rfl h
    | skip
  rename_i a
  obtain ⟨kvs, ep, e⟩ := h
  obtain ⟨h0, hz, xs, e2, kr, nd, dp⟩ := rp a _ e
  obtain ⟨o, es, us, g1, g2, g3, er, dh, _⟩ := dict_of I e2 kr nd dp
  cases r
  refine ⟨dh.typeIs, fun b q => ?_⟩
  cases q
  exact ⟨o, g1, g2.2.1⟩
theorem rds1 {K : PySem.W.Frag} {H : Hp} {d : D} {xs : List V} (r : RDs K H [d] xs) : ∃ x, xs = [x] ∧ RD K H d x := by
  cases r with
  | cons r1 r2 =>
  cases r2
  exact ⟨_, rfl, r1⟩
theorem rds2 {K : PySem.W.Frag} {H : Hp} {d e : D} {xs : List V} (r : RDs K H [d, e] xs) : ∃ x y, xs = [x, y] ∧ RD K H d x ∧ RD K H e y := by
  cases r with
  | cons r1 r2 =>
  obtain ⟨y, rfl, r3⟩ := rds1 r2
  exact ⟨_, y, rfl, r1, r3⟩
theorem m_append : MtR X "list.append" (liftM X.prog X.w X.K (mthD .append)) := by
  intro pins s σ H x xs v us Q I rx rs h
  obtain ⟨d, ds, S, R, rd, rds, rp, h, p⟩ := h
  cases rd <;> first | exact False.elim h | skip
  match ds, h, rds with
  | [], h, _ => exact False.elim h
  | _ :: _ :: _, h, _ => exact False.elim h
  | [z], ⟨ys, e, hz, h⟩, rds =>
    obtain ⟨zv, rfl, rz⟩ := rds1 rds
    obtain ⟨vs, q, r⟩ := rp.lst e
    exact mt_append pins s σ H _ _ v us Q I rx rs ⟨_, vs, zv, rfl, rfl, q, by rw [← r.length]; exact hz, p.wrote rp e (r.append (.cons rz .nil)) .non h⟩
theorem m_pop : MtR X "list.pop" (liftM X.prog X.w X.K (mthD .pop)) := by
  intro pins s σ H x xs v us Q I rx rs h
  obtain ⟨d, ds, S, R, rd, rds, rp, h, p⟩ := h
  cases rd <;> first | exact False.elim h | skip
  match ds, h, rds with
  | [], ⟨ys, e, y, hy, h⟩, rds =>
    cases rds
    obtain ⟨vs, q, r⟩ := rp.lst e
    obtain ⟨yv, e2, ry⟩ := r.get hy
    exact mt_pop pins s σ H _ _ v us Q I rx rs ⟨_, vs, yv, rfl, rfl, q, by rw [← r.length]; exact e2, p.wrote rp e r.dropLast ry h⟩
  | [.int i], ⟨ys, e, h1, h2, k, y, hk, hy, h⟩, rds =>
    obtain ⟨zv, rfl, rz⟩ := rds1 rds
    cases rz
    obtain ⟨vs, q, r⟩ := rp.lst e
    obtain ⟨yv, e2, ry⟩ := r.get hy
    exact mt_popAt pins s σ H _ _ v us Q I rx rs ⟨_, vs, i, k, yv, rfl, rfl, q, h1, h2, by rw [← r.length]; exact (ixN_seq hk).1, e2, p.wrote rp e (r.eraseIdx k) ry h⟩
  | [.non], h, _ => exact False.elim h
  | [.bl _], h, _ => exact False.elim h
  | [.str _], h, _ => exact False.elim h
  | [.tup _], h, _ => exact False.elim h
  | [.rol _], h, _ => exact False.elim h
  | [.ref _], h, _ => exact False.elim h
  | e1 :: _ :: _, h, _ => cases e1 <;> exact False.elim h
theorem m_index (hu : X.A.units + 65 < cLine) : MtR X "list.index" (liftM X.prog X.w X.K (mthD .index)) := by
  intro pins s σ H x xs v us Q I rx rs h
  obtain ⟨d, ds, S, R, rd, rds, rp, h, p⟩ := h
  cases rd <;> first | exact False.elim h | skip
  match ds, h, rds with
  | [], h, _ => exact False.elim h
  | _ :: _ :: _, h, _ => exact False.elim h
  | [z], ⟨ys, e, p1, p2, p3, p4, p5, p6, j, y, hy, e1, hn, h⟩, rds =>
    obtain ⟨zv, rfl, rz⟩ := rds1 rds
    obtain ⟨vs, q, r⟩ := rp.lst e
    have pds_get : ∀ (ys : List D) (i : Nat), (D.pds ys)[i]? = (ys[i]?).map D.pd := by
      intro ys
      induction ys with
      | nil => intro i; simp [D.pds]
      | cons y ys ih =>
        intro i
        cases i with
        | zero => simp [D.pds]
        | succ i => simpa [D.pds] using ih i
    refine mt_indexD hu pins s σ H _ _ v us Q I rx rs ⟨_, zv, z.pd, D.pds ys, j, y.pd, rfl, rfl, .lst (SqL.of q) (r.dp p4), rz.dp p1, shaped_of (by rw [PyData.canLay0]; exact p6) ?_, shaped_of p3 (by rw [pd_depth]; omega), ?_, e1, fun m z' hm hz => ?_, p.here h (.int _) rp⟩
    · rw [PyData.depth, pds_depth]
      omega
    · rw [pds_get, hy]
      rfl
    · rw [pds_get] at hz
      cases hq : ys[m]? with
      | none => rw [hq] at hz; cases hz
      | some w =>
        rw [hq] at hz
        cases hz
        exact hn m w hm hq
theorem m_get (hu : X.A.units + 65 < cLine) : MtR X "dict.get" (liftM X.prog X.w X.K (mthD .get)) := by
  intro pins s σ H x xs v us Q I rx rs h
  obtain ⟨d, ds, S, R, rd, rds, rp, h, p⟩ := h
  cases rd <;> first | exact False.elim h | skip
  rename_i a
  match ds, h, rds with
  | [], h, _ => exact False.elim h
  | [_], h, _ => exact False.elim h
  | _ :: _ :: _ :: _, h, _ => exact False.elim h
  | [k, z], ⟨kvs, ep, e1, it, pd, dk, h⟩, rds =>
    obtain ⟨kv, zv, rfl, rk, rz⟩ := rds2 rds
    obtain ⟨h0, hz, xs, e2, kr, nd, dp⟩ := rp a _ e1
    obtain ⟨o, es, us', g1, g2, g3, er, dh, _⟩ := dict_of I e2 kr nd dp
    cases rx
    obtain ⟨ku, zu, rfl, rku, rzu⟩ := rs.two
    cases k <;> first | (cases it; done) | skip
    rename_i ks
    cases rk with
    | @tup b _ vs q r =>
    cases rku
    have rk : RD X.K H (.tup ks) (.ref b) := .tup q r
    have hk := key_of I rk pd dk
    have hr1 : (nestedKind X.prog X.w).room X.A.in1 := by show X.A.units + 1 + 8 < cLine; omega
    refine call_meetsIn PySem.F.slot_dict_get dh.typeIs PySem.F.entry_dict_get (PySem.F.args_dict_get_3 _ _ _) (meetsH_dict_get_default (nestedKind X.prog X.w) a b h0 zu) ⟨hr1, _, us', hk, dh, ?_⟩
    rcases kr_find (k := (D.tup ks).key) kr with ⟨z', q1, z1, z2, rz'⟩ | ⟨z1, z2⟩
    · rcases er_find (k := (D.tup ks).key) er with ⟨q2, q3, z3, z4, rv⟩ | ⟨z3, _⟩
      · rw [z2] at z3
        cases z3
        rw [z1] at h
        rw [z4]
        exact ⟨_, H, I.tok _, rv, p.here h rz' rp⟩
      · rw [z2] at z3; cases z3
    · rcases er_find (k := (D.tup ks).key) er with ⟨q2, q3, z3, z4, rv⟩ | ⟨z3, z4⟩
      · rw [z2] at z3; cases z3
      · rw [z1] at h
        rw [z4]
        exact ⟨_, H, I.tok _, rzu, p.here h rz rp⟩
theorem ins_eq {α : Type} (xs : List α) (n : Nat) (y : α) : xs.take n ++ [y] ++ xs.drop n = xs.take n ++ y :: xs.drop n := by simp
theorem m_insert : MtR X "list.insert" (liftM X.prog X.w X.K (mthD .insert)) := by
  intro pins s σ H x xs v us Q I rx rs h
  obtain ⟨d, ds, S, R, rd, rds, rp, h, p⟩ := h
  cases rd <;> first | exact False.elim h | skip
  match ds, h, rds with
  | [], h, _ => exact False.elim h
  | [e1], h, _ => cases e1 <;> exact False.elim h
  | [.int i, z], ⟨ys, e, hz, h1, h2, h⟩, rds =>
    obtain ⟨iv, zv, rfl, ri, rz⟩ := rds2 rds
    cases ri
    obtain ⟨vs, q, r⟩ := rp.lst e
    exact mt_insert pins s σ H _ _ v us Q I rx rs ⟨_, vs, i, zv, rfl, rfl, q, by rw [← r.length]; exact hz, h1, h2, p.wrote rp e (((r.take i.toNat).append (.cons rz .nil)).append (r.drop i.toNat)) .non h⟩
  | [.non, _], h, _ => exact False.elim h
  | [.bl _, _], h, _ => exact False.elim h
  | [.str _, _], h, _ => exact False.elim h
  | [.tup _, _], h, _ => exact False.elim h
  | [.rol _, _], h, _ => exact False.elim h
  | [.ref _, _], h, _ => exact False.elim h
  | e1 :: _ :: _ :: _, h, _ => cases e1 <;> exact False.elim h
theorem m_join : MtR X "str.join" (liftM X.prog X.w X.K (mthD .join)) := by
  intro pins s σ H x xs v us Q I rx rs h
  obtain ⟨d, ds, S, R, rd, rds, rp, h, p⟩ := h
  cases rd <;> first | exact False.elim h | skip
  match ds, h, rds with
  | [], h, _ => exact False.elim h
  | _ :: _ :: _, h, _ => exact False.elim h
  | [z], h, rds =>
    obtain ⟨zv, rfl, rz⟩ := rds1 rds
    obtain ⟨a, vs, es, rfl, hs, r, ys, hy, hz, h⟩ := seq_of rp rz h
    have := allStrs_eq hy
    subst this
    have := r.strs
    subst this
    exact mt_join pins s σ H _ _ v us Q I rx rs ⟨_, a, ys, rfl, rfl, hs, hz, p.here h (.str _) rp⟩
theorem m_split : MtR X "str.split" (liftM X.prog X.w X.K (mthD .split)) := by
  intro pins s σ H x xs v us Q I rx rs h
  obtain ⟨d, ds, S, R, rd, rds, rp, h, p⟩ := h
  cases rd <;> first | exact False.elim h | skip
  match ds, h, rds with
  | [], h, _ => exact False.elim h
  | e1 :: _ :: _, h, _ => cases e1 <;> exact False.elim h
  | [z], h, rds =>
    obtain ⟨zv, rfl, rz⟩ := rds1 rds
    cases rz <;> first | exact False.elim h | skip
    obtain ⟨h1, h2, h⟩ := h
    exact mt_split pins s σ H _ _ v us Q I rx rs ⟨_, _, rfl, rfl, h1, h2, fun q hq => p.newList rp rds_strs h hq⟩
theorem m_partition : MtR X "str.partition" (liftM X.prog X.w X.K (mthD .partition)) := by
  intro pins s σ H x xs v us Q I rx rs h
  obtain ⟨d, ds, S, R, rd, rds, rp, h, p⟩ := h
  cases rd <;> first | exact False.elim h | skip
  match ds, h, rds with
  | [], h, _ => exact False.elim h
  | e1 :: _ :: _, h, _ => cases e1 <;> exact False.elim h
  | [z], h, rds =>
    obtain ⟨zv, rfl, rz⟩ := rds1 rds
    cases rz <;> first | exact False.elim h | skip
    obtain ⟨h1, h2, h⟩ := h
    exact mt_partition pins s σ H _ _ v us Q I rx rs ⟨_, _, rfl, rfl, h1, h2, fun q hq => p.newTup rp (.cons (.str _) (.cons (.str _) (.cons (.str _) .nil))) h hq⟩
theorem m_startswith : MtR X "str.startswith" (liftM X.prog X.w X.K (mthD .startswith)) := by
  intro pins s σ H x xs v us Q I rx rs h
  obtain ⟨d, ds, S, R, rd, rds, rp, h, p⟩ := h
  cases rd <;> first | exact False.elim h | skip
  match ds, h, rds with
  | [], h, _ => exact False.elim h
  | e1 :: _ :: _, h, _ => cases e1 <;> exact False.elim h
  | [z], h, rds =>
    obtain ⟨zv, rfl, rz⟩ := rds1 rds
    cases rz <;> first | exact False.elim h | skip
    exact mt_startswith pins s σ H _ _ v us Q I rx rs ⟨_, _, rfl, rfl, p.here h (.bl _) rp⟩
theorem m_endswith : MtR X "str.endswith" (liftM X.prog X.w X.K (mthD .endswith)) := by
  intro pins s σ H x xs v us Q I rx rs h
  obtain ⟨d, ds, S, R, rd, rds, rp, h, p⟩ := h
  cases rd <;> first | exact False.elim h | skip
  match ds, h, rds with
  | [], h, _ => exact False.elim h
  | e1 :: _ :: _, h, _ => cases e1 <;> exact False.elim h
  | [z], h, rds =>
    obtain ⟨zv, rfl, rz⟩ := rds1 rds
    cases rz <;> first | exact False.elim h | skip
    exact mt_endswith pins s σ H _ _ v us Q I rx rs ⟨_, _, rfl, rfl, p.here h (.bl _) rp⟩
theorem m_any (hu : X.A.units + 65 < cLine) : ∀ m : Mf, MtR X (mfId m) (liftM X.prog X.w X.K (mthD m))
  | .append => m_append
  | .pop => m_pop
  | .index => m_index hu
  | .insert => m_insert
  | .get => m_get hu
  | .join => m_join
  | .split => m_split
  | .partition => m_partition
  | .startswith => m_startswith
  | .endswith => m_endswith
end
end Mn

/-! Mn: the rules of expressions, one a constructor. -/
namespace Mn
open PySem PySem.Spec L2
theorem wEs_cons {Φ : Str → Option SpD} {Γ : Str → Option D} {e : Cd} {es : List Cd} (h : ∀ a, e ≠ .star a) : wEs Φ Γ (e :: es) = fun env S R => wE Φ Γ e env S fun d S1 => wEs Φ Γ es env S1 fun ds S2 => R (d :: ds) S2 := by
  cases e <;> first | rfl | exact absurd rfl (h _)
def noStar : Expr → Bool
  | .Starred _ _ => false
  | _ => true
theorem star_cons {e : Expr} {es : List Expr} {env : PySem.Env} (h : noStar e = true) : starEach (e :: es) env = (false, eval e env) :: starEach es env := by
  cases e <;> first | rfl | (simp [noStar] at h; done)
theorem star_none {es : List Expr} {env : PySem.Env} {pos : Pos} (h : es.all noStar = true) : (backTo pos (starEach es env)).any (·.1) = false := by
  induction es with
  | nil => rfl
  | cons e es ih =>
    rw [List.all_cons, Bool.and_eq_true] at h
    rw [star_cons h.1]
    show (false || (backTo pos (starEach es env)).any (·.1)) = false
    rw [ih h.2]
    rfl
theorem star_few {es : List Expr} {env : PySem.Env} {pos : Pos} (h : es.all noStar = true) : (backTo pos (starEach es env)).all (fun x => !x.1) = true := by
  induction es with
  | nil => rfl
  | cons e es ih =>
    rw [List.all_cons, Bool.and_eq_true] at h
    rw [star_cons h.1]
    show (true && (backTo pos (starEach es env)).all (fun x => !x.1)) = true
    rw [ih h.2]
    rfl
section
variable {X : Cx} {Φ : Str → Option SpD} {Γ : Str → Option D} {pos : Pos}
abbrev LE (X : Cx) (m : ME) : TE := lift X.prog X.w X.K m
abbrev LT (X : Cx) (m : MT) : TT := liftT X.prog X.w X.K m
abbrev LA (X : Cx) (m : MA) : TA := liftA X.prog X.w X.K m
abbrev LO (X : Cx) (m : MO) : TO := liftO X.prog X.w X.K m
/-- one more step: what is lifted runs, then k -/
theorem lift_step {m : ME} {σ : L2.St} {H : Hp} {Q : VK} {env : Env} {S : Sto} {R : MK} {Q' : VK} (re : RE X.K H env σ) (rp : Rp X.prog X.w X.K H S) (h : m env S R) (k : ∀ d S1 v H1, R d S1 → RD X.K H1 d v → RE X.K H1 env σ → Rp X.prog X.w X.K H1 S1 → Go H S H1 S1 → Tx H H1 → Q' v H1) : LE X m σ H Q' :=
  ⟨env, S, R, re, rp, h, fun d S1 v H1 hR rd rp1 g => k d S1 v H1 hR rd (re.tx (g.tx rp)) rp1 g (g.tx rp)⟩
theorem liftT_step {m : MT} {σ : L2.St} {H : Hp} {env : Env} {S : Sto} {R : Bool → Sto → Prop} {Q' : Bool → Hp → Prop} (re : RE X.K H env σ) (rp : Rp X.prog X.w X.K H S) (h : m env S R) (k : ∀ b S1 H1, R b S1 → RE X.K H1 env σ → Rp X.prog X.w X.K H1 S1 → Go H S H1 S1 → Tx H H1 → Q' b H1) : LT X m σ H Q' :=
  ⟨env, S, R, re, rp, h, fun b S1 H1 hR rp1 g => k b S1 H1 hR (re.tx (g.tx rp)) rp1 g (g.tx rp)⟩
theorem liftA_step {m : MA} {σ : L2.St} {H : Hp} {env : Env} {S : Sto} {R : List D → Sto → Prop} {Q' : List V → Hp → Prop} (re : RE X.K H env σ) (rp : Rp X.prog X.w X.K H S) (h : m env S R) (k : ∀ ds S1 vs H1, R ds S1 → RDs X.K H1 ds vs → RE X.K H1 env σ → Rp X.prog X.w X.K H1 S1 → Go H S H1 S1 → Tx H H1 → Q' vs H1) : LA X m σ H Q' :=
  ⟨env, S, R, re, rp, h, fun ds S1 vs H1 hR rd rp1 g => k ds S1 vs H1 hR rd (re.tx (g.tx rp)) rp1 g (g.tx rp)⟩
theorem liftO_step {m : MO} {σ : L2.St} {H : Hp} {env : Env} {S : Sto} {R : Option Int → Sto → Prop} {Q' : Option Int → Hp → Prop} (re : RE X.K H env σ) (rp : Rp X.prog X.w X.K H S) (h : m env S R) (k : ∀ o S1 H1, R o S1 → RE X.K H1 env σ → Rp X.prog X.w X.K H1 S1 → Go H S H1 S1 → Tx H H1 → Q' o H1) : LO X m σ H Q' :=
  ⟨env, S, R, re, rp, h, fun o S1 H1 hR rp1 g => k o S1 H1 hR (re.tx (g.tx rp)) rp1 g (g.tx rp)⟩
theorem r_var {i : Nat} {x : Str} (hN : X.N[i]? = some x) (hv : Vis X.env.scope x) (hd : (x == ("__debug__" : Str)) = false) (hcd : (x == ("__classdict__" : Str)) = false) : PE X (.Name x pos) (LE X (wE Φ Γ (.var i))) :=
  peImp (pe_var hN hv hd hcd) fun σ H Q ⟨env, S, R, re, rp, h, p⟩ => by
    have h' : (match env.getD i none with | some d => R d S | none => False) := h
    cases e : env[i]? with
    | none =>
      rw [List.getD_eq_getElem?_getD, e] at h'
      exact h'.elim
    | some o =>
      rw [List.getD_eq_getElem?_getD, e] at h'
      cases o with
      | none => exact h'.elim
      | some d =>
        obtain ⟨v, h1, h2⟩ := re.at_ i d e
        exact ⟨v, h1, p.here h' h2 rp⟩
theorem r_int {i : Int} {j : Nat} : PE X (.Constant (.int i) j pos) (LE X (wE Φ Γ (.cst (.int i)))) := peImp pe_int fun σ H Q ⟨env, S, R, re, rp, h, p⟩ => p.here h (.int _) rp
theorem r_bl {i : Bool} {j : Nat} : PE X (.Constant (.bool i) j pos) (LE X (wE Φ Γ (.cst (.bl i)))) := peImp pe_bl fun σ H Q ⟨env, S, R, re, rp, h, p⟩ => p.here h (.bl _) rp
theorem r_non {j : Nat} : PE X (.Constant .none j pos) (LE X (wE Φ Γ (.cst .non))) := peImp pe_non fun σ H Q ⟨env, S, R, re, rp, h, p⟩ => p.here h .non rp
theorem r_str {x : Str} {j : Nat} : PE X (.Constant (.str x) j pos) (LE X (wE Φ Γ (.cst (.str x)))) := peImp pe_str fun σ H Q ⟨env, S, R, re, rp, h, p⟩ => p.here h (.str _) rp
theorem r_glb {x : Str} (hg : Gl X x) (hv : ∀ d, Γ x = some d → ∃ v u, X.mg x = some u ∧ RelV v u ∧ ∀ H, RD X.K H d v) (hd : (x == ("__debug__" : Str)) = false) : PE X (.Name x pos) (LE X (wE Φ Γ (.glb x))) := by
  refine ⟨fun pins s σ H Q I h => ?_⟩
  obtain ⟨env, S, R, re, rp, ⟨d, e, h⟩, p⟩ := h
  obtain ⟨v, u, hm, r, rd⟩ := hv d e
  exact (pe_glob hg hm r hd).run pins s σ H Q I (p.here h (rd H) rp)
section
variable {a b c : Expr} {ca cb cc : Cd}
theorem r_bin {op : Operator} (ha : PE X a (LE X (wE Φ Γ ca))) (hb : PE X b (LE X (wE Φ Γ cb))) : PE X (.BinOp a op b pos) (LE X (wE Φ Γ (.bin op ca cb))) :=
  peImp (pe_op (o_bin op) ha hb) fun σ H Q ⟨env, S, R, re, rp, h, p⟩ => lift_step (Q := Q) re rp h fun d S1 v H1 h1 rd re1 rp1 g1 _ =>
    lift_step (Q := Q) re1 rp1 h1 fun e S2 u H2 h2 rd2 re2 rp2 g2 t2 => ⟨d, e, S2, R, rd.tx t2, rd2, rp2, h2, (p.go g1).go g2⟩
theorem r_neg (ha : PE X a (LE X (wE Φ Γ ca))) : PE X (.UnaryOp .USub a pos) (LE X (wE Φ Γ (.neg ca))) :=
  peImp (pe_un un_neg ha) fun σ H Q ⟨env, S, R, re, rp, h, p⟩ => lift_step (Q := Q) re rp h fun d S1 v H1 h1 rd re1 rp1 g1 _ => by
    cases rd <;> first | exact False.elim h1 | exact ⟨_, rfl, (p.go g1).here h1 (.int _) rp1⟩
theorem r_cmp {op : CmpOp} (hu : X.A.units + 65 < cLine) (hm : behindInMarks op b = false) (ha : PE X a (LE X (wE Φ Γ ca))) (hb : PE X b (LE X (wE Φ Γ cb))) : PE X (.Compare a [op] [b] pos) (LE X (wE Φ Γ (.cmp op ca cb))) :=
  peImp (pe_cmpR (o_cmp hu op) ha hb hm) fun σ H Q ⟨env, S, R, re, rp, h, p⟩ => lift_step (Q := Q) re rp h fun d S1 v H1 h1 rd re1 rp1 g1 _ =>
    lift_step (Q := Q) re1 rp1 h1 fun e S2 u H2 h2 rd2 re2 rp2 g2 t2 => ⟨d, e, S2, R, rd.tx t2, rd2, rp2, h2, (p.go g1).go g2⟩
theorem r_chn {op op2 : CmpOp} (hu : X.A.units + 65 < cLine) (hm : lastMarks [op, op2] [b, c] = false) (ha : PE X a (LE X (wE Φ Γ ca))) (hb : PE X b (LE X (wE Φ Γ cb))) (hc : PE X c (LE X (wE Φ Γ cc))) : PE X (.Compare a [op, op2] [b, c] pos) (LE X (wE Φ Γ (.chn op op2 ca cb cc))) :=
  peImp (pe_chain (o_cmp hu op) (o_cmp hu op2) ha hb hc hm) fun σ H Q ⟨env, S, R, re, rp, h, p⟩ => lift_step (Q := Q) re rp h fun d S1 v H1 h1 rd re1 rp1 g1 _ =>
    lift_step (Q := Q) re1 rp1 h1 fun e S2 u H2 h2 rd2 re2 rp2 g2 t2 => ⟨d, e, S2, _, rd.tx t2, rd2, rp2, h2, fun z S3 w H3 h3 rd3 rp3 g3 => by
      have t3 := g3.tx rp2
      cases rd3 <;> first | exact False.elim h3 | skip
      rename_i k
      refine ⟨k, rfl, ?_⟩
      cases k with
      | true => exact lift_step (Q := Q) (re2.tx t3) rp3 h3 fun f S4 w4 H4 h4 rd4 re4 rp4 g4 t4 => ⟨e, f, S4, R, (rd2.tx t3).tx t4, rd4, rp4, h4, ((p.go g1).go g2).go (g3.trans g4)⟩
      | false => exact (((p.go g1).go g2).go g3).here h3 (.bl _) rp3⟩
theorem r_and {rest : List Expr} (ha : PE X a (LE X (wE Φ Γ ca))) (hb : PE X (.BoolOp .And (b :: rest) pos) (LE X (wE Φ Γ cb))) : PE X (.BoolOp .And (a :: b :: rest) pos) (LE X (wE Φ Γ (.and ca cb))) :=
  peImp (pe_andT ha hb) fun σ H Q ⟨env, S, R, re, rp, h, p⟩ => lift_step (Q := Q) re rp h fun d S1 v H1 h1 rd re1 rp1 g1 _ => by
    obtain ⟨k, e, h1⟩ := tru_of rp1 rd h1
    refine ⟨k, e, ?_⟩
    cases k with
    | true => exact lift_step (Q := Q) re1 rp1 h1 fun e S2 u H2 h2 rd2 re2 rp2 g2 t2 => (p.go g1) _ _ _ _ h2 rd2 rp2 g2
    | false => exact (p.go g1).here h1 rd rp1
theorem r_or {rest : List Expr} (ha : PE X a (LE X (wE Φ Γ ca))) (hb : PE X (.BoolOp .Or (b :: rest) pos) (LE X (wE Φ Γ cb))) : PE X (.BoolOp .Or (a :: b :: rest) pos) (LE X (wE Φ Γ (.or ca cb))) :=
  peImp (pe_orT ha hb) fun σ H Q ⟨env, S, R, re, rp, h, p⟩ => lift_step (Q := Q) re rp h fun d S1 v H1 h1 rd re1 rp1 g1 _ => by
    obtain ⟨k, e, h1⟩ := tru_of rp1 rd h1
    refine ⟨k, e, ?_⟩
    cases k with
    | false => exact lift_step (Q := Q) re1 rp1 h1 fun e S2 u H2 h2 rd2 re2 rp2 g2 t2 => (p.go g1) _ _ _ _ h2 rd2 rp2 g2
    | true => exact (p.go g1).here h1 rd rp1
theorem r_one {op : BoolOp} {t : TE} (h : PE X a t) : PE X (.BoolOp op [a] pos) t := pe_one h
theorem r_not (ha : PE X a (LE X (wE Φ Γ ca))) : PE X (.UnaryOp .Not a pos) (LE X (wE Φ Γ (.not ca))) :=
  peImp (pe_notT ha) fun σ H Q ⟨env, S, R, re, rp, h, p⟩ => lift_step (Q := Q) re rp h fun d S1 v H1 h1 rd re1 rp1 g1 _ => by
    obtain ⟨k, e, h1⟩ := tru_of rp1 rd h1
    exact ⟨k, e, (p.go g1).here h1 (.bl _) rp1⟩
theorem r_ife {ct : Ct} (hc : PT X c (LT X (wT Φ Γ ct))) (ha : PE X a (LE X (wE Φ Γ ca))) (hb : PE X b (LE X (wE Φ Γ cb))) : PE X (.IfExp c a b pos) (LE X (wE Φ Γ (.ife ct ca cb))) :=
  peImp (pe_ifExp hc ha hb) fun σ H Q ⟨env, S, R, re, rp, h, p⟩ => liftT_step re rp h fun k S1 H1 h1 re1 rp1 g1 _ => by
    cases k with
    | true => exact lift_step (Q := Q) re1 rp1 h1 fun e S2 u H2 h2 rd2 re2 rp2 g2 t2 => (p.go g1) _ _ _ _ h2 rd2 rp2 g2
    | false => exact lift_step (Q := Q) re1 rp1 h1 fun e S2 u H2 h2 rd2 re2 rp2 g2 t2 => (p.go g1) _ _ _ _ h2 rd2 rp2 g2
theorem r_idx (hu : X.A.units + 65 < cLine) (hs : PlainIx b) (ha : PE X a (LE X (wE Φ Γ ca))) (hb : PE X b (LE X (wE Φ Γ cb))) : PE X (.Subscript a b pos) (LE X (wE Φ Γ (.idx ca cb))) :=
  peImp (pe_ix (ix_any hu) ha hb hs) fun σ H Q ⟨env, S, R, re, rp, h, p⟩ => lift_step (Q := Q) re rp h fun d S1 v H1 h1 rd re1 rp1 g1 _ =>
    lift_step (Q := Q) re1 rp1 h1 fun e S2 u H2 h2 rd2 re2 rp2 g2 t2 => ⟨d, e, S2, R, rd.tx t2, rd2, rp2, h2, (p.go g1).go g2⟩
theorem r_sli {lo hi : Option Expr} {cl ch : Cp} {p2 : Pos} (ha : PE X a (LE X (wE Φ Γ ca))) (hl : PO X lo (LO X (wP Φ Γ cl))) (hh : PO X hi (LO X (wP Φ Γ ch))) : PE X (.Subscript a (.Slice lo hi none p2) pos) (LE X (wE Φ Γ (.sli ca cl ch))) :=
  peImp (pe_slice sl_any ha hl hh) fun σ H Q ⟨env, S, R, re, rp, h, p⟩ => lift_step (Q := Q) re rp h fun d S1 v H1 h1 rd re1 rp1 g1 _ =>
    liftO_step re1 rp1 h1 fun l S2 H2 h2 re2 rp2 g2 t2 => liftO_step re2 rp2 h2 fun u S3 H3 h3 re3 rp3 g3 t3 => ⟨d, S3, R, (rd.tx t2).tx t3, rp3, h3, ((p.go g1).go g2).go g3⟩
theorem r_rev {k : Nat} {p1 p2 p3 : Pos} (ha : PE X a (LE X (wE Φ Γ ca))) : PE X (.Subscript a (.Slice none none (some (.UnaryOp .USub (.Constant (.int 1) k p1) p2)) p3) pos) (LE X (wE Φ Γ (.rev ca))) :=
  peImp (pe_revA ha) fun σ H Q ⟨env, S, R, re, rp, h, p⟩ => lift_step (Q := Q) re rp h fun d S1 v H1 h1 rd re1 rp1 g1 _ => by
    cases rd <;> first | exact False.elim h1 | skip
    · rename_i a ds vs q r
      exact ⟨_, vs, rfl, .inr ⟨q, fun q hq => (p.go g1).newTup rp1 r.reverse h1 hq⟩⟩
    obtain ⟨xs, e, h1⟩ := h1
    obtain ⟨vs, q, r⟩ := rp1.lst e
    exact ⟨_, vs, rfl, .inl ⟨.of q, fun q hq => (p.go g1).newList rp1 r.reverse h1 hq⟩⟩
theorem r_cpn : PO X none (LO X (wP Φ Γ .no)) := poImp po_none fun σ H Q ⟨env, S, R, re, rp, h, p⟩ => p _ _ _ h rp (Go.refl _ _)
theorem r_cpa (ha : PE X a (LE X (wE Φ Γ ca))) : PO X (some a) (LO X (wP Φ Γ (.at ca))) :=
  poImp (po_some ha) fun σ H Q ⟨env, S, R, re, rp, h, p⟩ => lift_step (Q := fun _ _ => True) re rp h fun d S1 v H1 h1 rd re1 rp1 g1 _ => by
    cases rd <;> first | exact False.elim h1 | exact ⟨_, rfl, p _ _ _ h1 rp1 g1⟩
/-! lists of expressions -/
variable {es : List Expr} {cs : List Cd}
theorem r_nil : PA X [] (LA X (wEs Φ Γ [])) := paImp pa_nil fun σ H Q ⟨env, S, R, re, rp, h, p⟩ => p _ _ _ _ h .nil rp (Go.refl _ _)
theorem r_cons (hn : noStar a = true) (hc : ∀ z, ca ≠ .star z) (ha : PE X a (LE X (wE Φ Γ ca))) (hs : PA X es (LA X (wEs Φ Γ cs))) : PA X (a :: es) (LA X (wEs Φ Γ (ca :: cs))) :=
  paImp (pa_cons ha hs (star_cons hn)) fun σ H Q ⟨env, S, R, re, rp, h, p⟩ => by
    rw [wEs_cons hc] at h
    exact lift_step (Q := fun _ _ => True) re rp h fun d S1 v H1 h1 rd re1 rp1 g1 _ => liftA_step re1 rp1 h1 fun ds S2 vs H2 h2 rd2 re2 rp2 g2 t2 => p _ _ _ _ h2 (.cons (rd.tx t2) rd2) rp2 (g1.trans g2)
theorem r_star {p1 : Pos} (ha : PE X a (LE X (wE Φ Γ ca))) (hs : PA X es (LA X (wEs Φ Γ cs))) : PA X (.Starred a p1 :: es) (LA X (wEs Φ Γ (.star ca :: cs))) :=
  paImp (StX.pa_star ha hs) fun σ H Q ⟨env, S, R, re, rp, h, p⟩ => lift_step (Q := fun _ _ => True) re rp h fun d S1 v H1 h1 rd re1 rp1 g1 _ => by
    obtain ⟨q, vs, ds, rfl, hq, r, h1⟩ := seq_of rp1 rd h1
    exact ⟨q, vs, rfl, hq.symm, liftA_step re1 rp1 h1 fun ds S2 vs H2 h2 rd2 re2 rp2 g2 t2 => p _ _ _ _ h2 ((r.tx t2).append rd2) rp2 (g1.trans g2)⟩
theorem r_tup {k : Nat} (hs : PA X es (LA X (wEs Φ Γ cs))) : PE X (.Tuple es k pos) (LE X (wE Φ Γ (.tup cs))) :=
  peImp (pe_tup hs) fun σ H Q ⟨env, S, R, re, rp, h, p⟩ => liftA_step re rp h fun ds S1 vs H1 h1 rd re1 rp1 g1 _ => ⟨by rw [← rd.length]; exact h1.1, fun q hq => (p.go g1).newTup rp1 rd h1.2 hq⟩
theorem r_lst (hs : PA X es (LA X (wEs Φ Γ cs))) : PE X (.List es pos) (LE X (wE Φ Γ (.lst cs))) :=
  peImp (pe_lst hs) fun σ H Q ⟨env, S, R, re, rp, h, p⟩ => liftA_step re rp h fun ds S1 vs H1 h1 rd re1 rp1 g1 _ => ⟨by rw [← rd.length]; exact h1.1, fun q hq => (p.go g1).newList rp1 rd h1.2 hq⟩
theorem r_emp : PE X (.Dict [] [] pos) (LE X (wE Φ Γ .emp)) := new_dict
/-! calls -/
/-- the promise of a def, by its meaning over data -/
def spOf (P : Program) (w : World) (K : PySem.W.Frag) (sp : SpD) : Sp := fun vs H Q _ => ∃ ds S R, RDs K H ds vs ∧ Rp P w K H S ∧ sp ds S R ∧ Post P w K H S R Q
structure CallOk (X : Cx) (x : Str) (sp : SpD) : Prop where
  ex : ∃ (f : Addr) (fd : FuncData) (ps : List Str) (k : Nat), FnOk X.prog X.w X.K X.mg X.base CX0 k f fd ps (spOf X.prog X.w X.K sp) ∧ Room k X.A ∧ X.mg x = some (.ref f) ∧ PySem.W.keepIn X.K (.ref f) = true ∧ Binds X.K fd ps []
theorem r_call {x : Str} {p1 : Pos} (hg : Gl X x) (hf : ∃ sp, Φ x = some sp ∧ CallOk X x sp) (hd : (x == ("__debug__" : Str)) = false) (hn : (a :: es).all noStar = true) (hs : PA X (a :: es) (LA X (wEs Φ Γ cs))) :
    PE X (.Call (.Name x p1) (a :: es) [] pos) (LE X (wE Φ Γ (.call x cs))) := by
  rw [List.all_cons, Bool.and_eq_true] at hn
  obtain ⟨sp, e, ⟨f, fd, ps, k, F, hr, hm, hk, hb⟩⟩ := hf
  refine peImp (pe_call (E := E0) F hr hg hm hk hb .nil pass0 hs hd (star_cons hn.1) (star_none hn.2)) fun σ H Q ⟨env, S, R, re, rp, h, p⟩ => liftA_step re rp h fun ds S1 vs H1 h1 rd re1 rp1 g1 _ => ?_
  obtain ⟨sp', e', h1⟩ := h1
  rw [e] at e'
  cases e'
  exact ⟨ds, S1, R, by rw [List.append_nil]; exact rd, rp1, h1, p.go g1⟩
/-! built-ins -/
def bfName : Bf → Str
  | .len => "len" | .int => "int" | .str => "str" | .bool => "bool" | .all => "all" | .any => "any" | .sum => "sum" | .max => "max" | .max2 => "max" | .min2 => "min" | .list => "list" | .tuple => "tuple" | .srt => "sorted"
theorem r_blt {f : Bf} {x : Str} {p1 : Pos} (hc : X.calm = true) (hg : Gl X x) (hm : X.mg x = none) (hx : x = bfName f) (hn : (a :: es).all noStar = true) (hs : PA X (a :: es) (LA X (wEs Φ Γ cs))) :
    PE X (.Call (.Name x p1) (a :: es) [] pos) (LE X (wE Φ Γ (.blt f cs))) := by
  rw [List.all_cons, Bool.and_eq_true] at hn
  have go : ∀ {v : Value}, bootBuiltins (bfName f) = some v → CallR X v (liftC X.prog X.w X.K (bltD f)) → PE X (.Call (.Name x p1) (a :: es) [] pos) (tCB (liftC X.prog X.w X.K (bltD f)) (LA X (wEs Φ Γ cs))) → PE X (.Call (.Name x p1) (a :: es) [] pos) (LE X (wE Φ Γ (.blt f cs))) := fun _ _ h =>
    peImp h fun σ H Q ⟨env, S, R, re, rp, h, p⟩ => liftA_step re rp h fun ds S1 vs H1 h1 rd re1 rp1 g1 _ => ⟨ds, S1, R, rd, rp1, h1, p.go g1⟩
  subst hx
  have B := b_any_bf hc f
  cases f <;> first
    | exact go rfl B (pe_callB B hg hm rfl hs (by decide +kernel) (by decide +kernel) (star_cons hn.1) (star_none hn.2))
    | exact go rfl B (pe_callTy B hg hm rfl hs (by decide +kernel) (by decide +kernel) (star_cons hn.1) (star_none hn.2))
/-! len(set(xs)) -/
def rLenS (w : World) : List V → Hp → VK → Prop := fun vs H Q => ∃ (a : Addr) (xs : List Key), vs = [V.ref a] ∧ H a = some (.ext (SPhi w a xs)) ∧ ∀ ks : List Key, ks.Nodup → (∀ k, k ∈ ks ↔ k ∈ xs) → Q (.int ks.length) H
theorem cr_lenS : CallR X (.builtin "len") (rLenS X.w) := by
  intro pins s σ H vs us Q I r h
  obtain ⟨a, xs, rfl, ha, q⟩ := h
  rw [Vals.ref1 r]
  obtain ⟨ks, m, hm, hle⟩ := (I.hok a _ ha).1
  obtain ⟨o, es, ep, t, ho, hex, hd, hp, hnd, hb, hf, _, _⟩ := m
  have hl : es.size = ks.length := by rw [← Array.length_toList]; exact Paired.length hp
  have hb' : es.size < 4096 := hb
  refine PySem.call_len_set ho hex hd hf (by omega) ⟨.int ks.length, H, I.tok _, ⟨_, by rw [hl]⟩, q ks hnd hm⟩
/-- the set is made of a list; what comes next is asked of it -/
def rSL (P : Program) (w : World) (K : PySem.W.Frag) : List V → Hp → VK → Prop := fun vs H Q => ∃ d ds S R, ds = [d] ∧ RDs K H ds vs ∧ Rp P w K H S ∧ lsD d S R ∧ ∀ p (H' : Hp), (∃ o, H' = upd H p o) → H p = none →
  (∃ ks : List Key, H' p = some (.ext (SPhi w p ks)) ∧ ∀ zs : List Key, zs.Nodup → (∀ k, k ∈ zs ↔ k ∈ ks) → R (.int zs.length) S) → Rp P w K H' S → Q (.ref p) H'
theorem len_inl {ns : List Int} {zs : List Key} {Q : Nat → Prop} (h : ∀ ks : List Int, ks.Nodup → (∀ k, k ∈ ks ↔ k ∈ ns) → Q ks.length) (nd : zs.Nodup) (hm : ∀ k, k ∈ zs ↔ k ∈ (ns.map Sum.inl : List Key)) : Q zs.length := by
  have : ∃ ms : List Int, zs = ms.map Sum.inl := by
    have : ∀ zs : List Key, (∀ k ∈ zs, k ∈ (ns.map Sum.inl : List Key)) → ∃ ms : List Int, zs = ms.map Sum.inl := by
      intro zs
      induction zs with
      | nil => exact fun _ => ⟨[], rfl⟩
      | cons z zs ih =>
        intro h
        obtain ⟨ms, rfl⟩ := ih fun k hk => h k (List.mem_cons_of_mem _ hk)
        obtain ⟨n, _, rfl⟩ := List.mem_map.mp (h z List.mem_cons_self)
        exact ⟨n :: ms, rfl⟩
    exact this zs fun k hk => (hm k).mp hk
  obtain ⟨ms, rfl⟩ := this
  rw [List.length_map]
  exact h ms (nodup_inl nd) fun k => by rw [← mem_inl (β := Str), hm, mem_inl]
theorem len_inr {ns : List Str} {zs : List Key} {Q : Nat → Prop} (h : ∀ ks : List Str, ks.Nodup → (∀ k, k ∈ ks ↔ k ∈ ns) → Q ks.length) (nd : zs.Nodup) (hm : ∀ k, k ∈ zs ↔ k ∈ (ns.map Sum.inr : List Key)) : Q zs.length := by
  have : ∃ ms : List Str, zs = ms.map Sum.inr := by
    have : ∀ zs : List Key, (∀ k ∈ zs, k ∈ (ns.map Sum.inr : List Key)) → ∃ ms : List Str, zs = ms.map Sum.inr := by
      intro zs
      induction zs with
      | nil => exact fun _ => ⟨[], rfl⟩
      | cons z zs ih =>
        intro h
        obtain ⟨ms, rfl⟩ := ih fun k hk => h k (List.mem_cons_of_mem _ hk)
        obtain ⟨n, _, rfl⟩ := List.mem_map.mp (h z List.mem_cons_self)
        exact ⟨n :: ms, rfl⟩
    exact this zs fun k hk => (hm k).mp hk
  obtain ⟨ms, rfl⟩ := this
  rw [List.length_map]
  exact h ms (nodup_inr nd) fun k => by rw [← mem_inr (β := Int), hm, mem_inr]
theorem cr_sl (hc : X.calm = true) : CallR X (.type "set") (rSL X.prog X.w X.K) := by
  intro pins s σ H vs us Q I r h
  obtain ⟨d, ds, S, R, rfl, rd, rp, h, q⟩ := h
  cases rd with
  | cons r1 rn =>
  cases rn
  cases r1 <;> first | exact False.elim h | skip
  rename_i a
  obtain ⟨xs, e, hz, h⟩ := h
  obtain ⟨vs', ha, rv⟩ := rp.lst e
  rcases h with ⟨ns, hn, h⟩ | ⟨ns, hn, h⟩
  · have := allInts_eq hn
    subst this
    have := rv.ints
    subst this
    refine cr_setK hc pins s σ H _ us Q I r ⟨a, _, ns.map Sum.inl, rfl, .inl (.inl ha), .inl ⟨ns, rfl, rfl⟩, ?_, fun p hp => q p _ ⟨_, rfl⟩ hp ⟨ns.map Sum.inl, upd_same, fun zs nd hm => len_inl (Q := fun n => R (.int (n : Nat)) S) h nd hm⟩ (rp.new hp (rp.free hp))⟩
    rw [List.length_map] at hz ⊢
    show _ < 4096
    omega
  · have := allStrs_eq hn
    subst this
    have := rv.strs
    subst this
    refine cr_setK hc pins s σ H _ us Q I r ⟨a, _, ns.map Sum.inr, rfl, .inl (.inl ha), .inr ⟨ns, rfl, rfl⟩, ?_, fun p hp => q p _ ⟨_, rfl⟩ hp ⟨ns.map Sum.inr, upd_same, fun zs nd hm => len_inr (Q := fun n => R (.int (n : Nat)) S) h nd hm⟩ (rp.new hp (rp.free hp))⟩
    rw [List.length_map] at hz ⊢
    show _ < 4096
    omega
theorem r_ls {p1 p2 pos2 : Pos} (hc : X.calm = true) (hg : Gl X "len") (hm : X.mg "len" = none) (hg2 : Gl X "set") (hm2 : X.mg "set" = none) (hn : noStar a = true) (ha : PE X a (LE X (wE Φ Γ ca))) :
    PE X (.Call (.Name "len" p1) [.Call (.Name "set" p2) [a] [] pos2] [] pos) (LE X (wE Φ Γ (.ls ca))) := by
  have h1 : PE X (.Call (.Name "set" p2) [a] [] pos2) (tCB (rSL X.prog X.w X.K) (tCons (LE X (wE Φ Γ ca)) tNil)) :=
    pe_callTy (cr_sl hc) hg2 hm2 rfl (pa_cons ha pa_nil (star_cons hn)) (by decide +kernel) (by decide +kernel) (star_cons hn) rfl
  refine peImp (pe_callB cr_lenS hg hm rfl (pa_cons h1 pa_nil) (by decide +kernel) (by decide +kernel)) fun σ H Q ⟨env, S, R, re, rp, h, p⟩ => ?_
  refine lift_step (Q := Q) re rp h fun d S1 v H1 h1 rd re1 rp1 g1 _ => ?_
  refine ⟨d, [d], S1, R, rfl, .cons rd .nil, rp1, h1, fun q H2 e2 hq hs rp2 => ?_⟩
  obtain ⟨o, rfl⟩ := e2
  have g2 : Go H1 S1 (upd H1 q o) S1 := .new hq
  obtain ⟨ks, hx, hr⟩ := hs
  exact ⟨q, ks, rfl, hx, fun zs nd hm => ((p.go g1).go g2).here (hr zs nd hm) (.int _) rp2⟩
/-! f-strings -/
inductive PF (X : Cx) (Φ : Str → Option SpD) (Γ : Str → Option D) : List Expr → List Cd → List TE → Prop
  | nil : PF X Φ Γ [] [] []
  | cst {x : Str} {k : Nat} {p : Pos} {es : List Expr} {cs : List Cd} {ts : List TE} (r : PF X Φ Γ es cs ts) : PF X Φ Γ (.Constant (.str x) k p :: es) (.cst (.str x) :: cs) (LE X (wE Φ Γ (.cst (.str x))) :: ts)
  | fmt {e : Expr} {p : Pos} {c : Cd} {es : List Expr} {cs : List Cd} {ts : List TE} (h : PE X e (LE X (wE Φ Γ c))) (r : PF X Φ Γ es cs ts) : PF X Φ Γ (.FormattedValue e (-1) none p :: es) (c :: cs) (tFmt (LE X (wE Φ Γ c)) :: ts)
theorem PF.pj {es : List Expr} {cs : List Cd} {ts : List TE} (h : PF X Φ Γ es cs ts) : PJ X es ts := by
  induction h with
  | nil => exact .nil
  | cst r ih => exact .cons r_str ih
  | fmt h r ih => exact .cons (pe_fmt h) ih
theorem len_app_le {a b : Str} {n : Nat} (h : (a ++ b).length ≤ n) : b.length ≤ n := by
  have : (a ++ b).length = a.length + b.length := Array.size_append ..
  omega
theorem PF.run {es : List Expr} {cs : List Cd} {ts : List TE} (h : PF X Φ Γ es cs ts) : ∀ {acc : Str} {env : Env} {S : Sto} {K : Str → Sto → Prop} {σ : L2.St} {H : Hp} {Q : Str → Hp → Prop}, RE X.K H env σ → Rp X.prog X.w X.K H S → wFs Φ Γ cs acc env S K →
    (∀ x S1 H1, K x S1 → RE X.K H1 env σ → Rp X.prog X.w X.K H1 S1 → Go H S H1 S1 → Q x H1) → tJs ts acc σ H Q := by
  induction h with
  | nil => intro acc env S K σ H Q re rp h q; exact q acc S H h re rp (Go.refl _ _)
  | cst r ih =>
    intro acc env S K σ H Q re rp h q
    obtain ⟨y, e, hz, h⟩ := h
    cases e
    refine ⟨env, S, fun d S1 => d = .str _ ∧ S1 = S, re, rp, ⟨rfl, rfl⟩, fun d S' v H' hd rd rp' g => ?_⟩
    obtain ⟨rfl, rfl⟩ := hd
    cases rd
    exact ⟨_, rfl, hz, ih (re.tx (g.tx rp)) rp' h fun x S1 H1 hk re1 rp1 g1 => q x S1 H1 hk re1 rp1 (g.trans g1)⟩
  | @fmt e p c es cs ts h' r ih =>
    intro acc env S K σ H Q re rp h q
    refine ⟨env, S, fun d S1 => ∃ y, fmtD d = some y ∧ (acc ++ y).length ≤ sizeLine ∧ wFs Φ Γ cs (acc ++ y) env S1 K, re, rp, h, fun d S' v H' hd rd rp' g => ?_⟩
    obtain ⟨y, e, hz, h⟩ := hd
    have fin : ∃ z : Str, V.str y = .str z ∧ (acc ++ z).length ≤ sizeLine ∧ tJs ts (acc ++ z) σ H' Q := ⟨y, rfl, hz, ih (re.tx (g.tx rp)) rp' h fun x S1 H1 hk re1 rp1 g1 => q x S1 H1 hk re1 rp1 (g.trans g1)⟩
    cases rd with
    | str x => cases e; exact .inl ⟨_, rfl, len_app_le hz, fin⟩
    | int i =>
      have e : (if i.natAbs.log2 < 1920 then some (Str.ofString (toString i)) else none) = some y := e
      by_cases hi : i.natAbs.log2 < 1920
      · rw [if_pos hi] at e
        cases e
        exact .inr ⟨i, rfl, hi, fin⟩
      · rw [if_neg hi] at e; cases e
    | _ => cases e
theorem r_fst {v1 v2 : Expr} {rest : List Expr} {cs : List Cd} {ts : List TE} (h : PF X Φ Γ (v1 :: v2 :: rest) cs ts) : PE X (.JoinedStr (v1 :: v2 :: rest) pos) (LE X (wE Φ Γ (.fst cs))) :=
  peImp (pe_joined h.pj) fun σ H Q ⟨env, S, R, re, rp, h', p⟩ => h.run re rp h' fun x S1 H1 hk re1 rp1 g1 => (p.go g1).here hk (.str x) rp1
/-! sorted(set(xs)) -/
def rSrt (w : World) : List V → Hp → VK → Prop := fun vs H Q =>
  (∃ (a : Addr) (ns : List Int), vs = [V.ref a] ∧ H a = some (.ext (SPhi w a (ns.map Sum.inl))) ∧ ∀ (ns' : List Int) (p : Addr), ns'.Pairwise (· < ·) → (∀ k, k ∈ ns' ↔ k ∈ ns) → H p = none → Q (.ref p) (upd H p (.lst (ns'.map V.int)))) ∨
  (∃ (a : Addr) (ns : List Str), vs = [V.ref a] ∧ H a = some (.ext (SPhi w a (ns.map Sum.inr))) ∧ ∀ (ns' : List Str) (p : Addr), ns'.Pairwise ltS → (∀ k, k ∈ ns' ↔ k ∈ ns) → H p = none → Q (.ref p) (upd H p (.lst (ns'.map V.str))))
theorem cr_srt (hc : X.calm = true) : CallR X (.builtin "sorted") (rSrt X.w) := by
  intro pins s σ H vs us Q I r h
  rcases h with h | h
  · exact cr_srtI hc pins s σ H vs us Q I r h
  · exact cr_srtS hc pins s σ H vs us Q I r h
theorem r_ss {p1 p2 pos2 : Pos} (hc : X.calm = true) (hg : Gl X "sorted") (hm : X.mg "sorted" = none) (hg2 : Gl X "set") (hm2 : X.mg "set" = none) (hn : noStar a = true) (ha : PE X a (LE X (wE Φ Γ ca))) :
    PE X (.Call (.Name "sorted" p1) [.Call (.Name "set" p2) [a] [] pos2] [] pos) (LE X (wE Φ Γ (.ss ca))) := by
  have h1 : PE X (.Call (.Name "set" p2) [a] [] pos2) (tCB (rSS X.prog X.w X.K) (tCons (LE X (wE Φ Γ ca)) tNil)) :=
    pe_callTy (cr_ss hc) hg2 hm2 rfl (pa_cons ha pa_nil (star_cons hn)) (by decide +kernel) (by decide +kernel) (star_cons hn) rfl
  refine peImp (pe_callB (cr_srt hc) hg hm rfl (pa_cons h1 pa_nil) (by decide +kernel) (by decide +kernel)) fun σ H Q ⟨env, S, R, re, rp, h, p⟩ => ?_
  refine lift_step (Q := Q) re rp h fun d S1 v H1 h1 rd re1 rp1 g1 _ => ?_
  refine ⟨d, [d], S1, R, rfl, .cons rd .nil, rp1, h1, fun q H2 e2 hq hs rp2 => ?_⟩
  obtain ⟨o, rfl⟩ := e2
  have g2 : Go H1 S1 (upd H1 q o) S1 := .new hq
  rcases hs with ⟨ns, hx, hr⟩ | ⟨ns, hx, hr⟩
  · exact .inl ⟨q, ns, rfl, hx, fun ns' q' h3 h4 hq' => ((p.go g1).go g2).newList rp2 rds_ints (hr ns' h3 h4) hq'⟩
  · exact .inr ⟨q, ns, rfl, hx, fun ns' q' h3 h4 hq' => ((p.go g1).go g2).newList rp2 rds_strs (hr ns' h3 h4) hq'⟩
end
end
end Mn

/-! Mn: isinstance, methods. -/
namespace Mn
open PySem PySem.Spec L2
section
variable {X : Cx} {Φ : Str → Option SpD} {Γ : Str → Option D} {pos : Pos} {a b c : Expr} {ca cb cc : Cd} {es : List Expr} {cs : List Cd}
def tyStr : Ty → Str
  | .int => "int" | .bool => "bool" | .str => "str" | .tup => "tuple" | .lst => "list"
theorem boot_ty : ∀ t : Ty, bootBuiltins (tyStr t) = some (.type (tyName t))
  | .int => rfl
  | .bool => rfl
  | .str => rfl
  | .tup => rfl
  | .lst => rfl
theorem ty_name : ∀ t : Ty, tyStr t ≠ "__name__" := fun t => by cases t <;> decide +kernel
theorem ty_dbg : ∀ t : Ty, (tyStr t == ("__debug__" : Str)) = false := fun t => by cases t <;> decide +kernel
theorem pe_ty {t : Ty} {p2 : Pos} (hg : Gl X (tyStr t)) (hm : X.mg (tyStr t) = none) : PE X (.Name (tyStr t) p2) (tC (.ty (tyName t))) := pe_bltn hg hm (boot_ty t) rfl (ty_name t) (ty_dbg t)
theorem r_isi1 {t : Ty} {p1 p2 : Pos} (hg : Gl X "isinstance") (hm : X.mg "isinstance" = none) (hgt : Gl X (tyStr t)) (hmt : X.mg (tyStr t) = none) (hn : noStar a = true) (ha : PE X a (LE X (wE Φ Γ ca))) :
    PE X (.Call (.Name "isinstance" p1) [a, .Name (tyStr t) p2] [] pos) (LE X (wE Φ Γ (.isi ca [t]))) := by
  refine peImp (pe_callB call_isi hg hm rfl (pa_cons ha (pa_cons (pe_ty hgt hmt) pa_nil) (star_cons hn)) (by decide +kernel) (by decide +kernel) (star_cons hn)) fun σ H Q ⟨env, S, R, re, rp, h, p⟩ => ?_
  refine lift_step (Q := Q) re rp h fun d S1 v H1 h1 rd re1 rp1 g1 _ => ?_
  obtain ⟨n, ty, hk⟩ := ty_of rp1 rd h1
  obtain ⟨k, e, h2⟩ := hk t _ h1
  rw [isiD, Bool.or_false] at h2
  exact ⟨v, .ty (tyName t), .type n, .type (tyName t), k, rfl, .ty _, ty, e, (p.go g1).here h2 (.bl _) rp1⟩
theorem r_isi2 {t u : Ty} {p1 p2 p3 p4 : Pos} {kk : Nat} (hg : Gl X "isinstance") (hm : X.mg "isinstance" = none) (hgt : Gl X (tyStr t)) (hmt : X.mg (tyStr t) = none) (hgu : Gl X (tyStr u)) (hmu : X.mg (tyStr u) = none) (hn : noStar a = true) (ha : PE X a (LE X (wE Φ Γ ca))) :
    PE X (.Call (.Name "isinstance" p1) [a, .Tuple [.Name (tyStr t) p2, .Name (tyStr u) p3] kk p4] [] pos) (LE X (wE Φ Γ (.isi ca [t, u]))) := by
  refine peImp (pe_callB call_isiT hg hm rfl (pa_cons ha (pa_cons (pe_tup (pa_cons (pe_ty hgt hmt) (pa_cons (pe_ty hgu hmu) pa_nil))) pa_nil) (star_cons hn)) (by decide +kernel) (by decide +kernel) (star_cons hn)) fun σ H Q ⟨env, S, R, re, rp, h, p⟩ => ?_
  refine lift_step (Q := Q) re rp h fun d S1 v H1 h1 rd re1 rp1 g1 _ => ⟨(show 2 ≤ sizeLine by decide), fun q hq => ?_⟩
  have rp2 : Rp X.prog X.w X.K (upd H1 q (.tup [.ty (tyName t), .ty (tyName u)])) S1 := rp1.new hq (rp1.free hq)
  have rd2 := rd.tx (Tx.new (o := .tup [.ty (tyName t), .ty (tyName u)]) hq)
  obtain ⟨n, ty, hk⟩ := ty_of rp2 rd2 h1
  obtain ⟨k1, e1, h2⟩ := hk t _ h1
  obtain ⟨k2, e2, h3⟩ := hk u _ h2
  rw [isiD, Bool.or_false] at h3
  refine ⟨v, q, _, .type n, [.type (tyName t), .type (tyName u)], k1 || k2, rfl, upd_same, .cons (.ty _) (.cons (.ty _) .nil), ty, ?_, ((p.go g1).go (Go.new hq)).here h3 (.bl _) rp2⟩
  simp only [PySem.W.kitAny, e1, e2]
  cases k1 <;> cases k2 <;> rfl
theorem m_few {es : List Expr} {cpos : Pos} (h : es.all noStar = true) (hl : es.length < 29) : ((backTo cpos (starEach es X.env)).all (fun x => !x.1) && (backToKw cpos (keywordEach [] X.env)).all (fun x => x.1.isSome)
      && decide (es.length + ([] : List Keyword).length + (if ([] : List Keyword).isEmpty then 0 else 1) < 30)) = true := by
  rw [star_few h]
  have : es.length + ([] : List Keyword).length + (if ([] : List Keyword).isEmpty then 0 else 1) < 30 := by simp; omega
  rw [decide_eq_true this]
  rfl
def noSuper : Expr → Bool
  | .Call (.Name x _) [] [] _ => x != "super"
  | _ => true
theorem super_no {o : Expr} {x : Str} (h : noSuper o = true) : attributeBase o x X.env (eval o X.env) = eval o X.env := by
  unfold noSuper at h
  unfold attributeBase
  split at h
  · rename_i z p q
    dsimp only
    rw [if_pos (by rw [h]; rfl)]
  · split
    · rename_i h1
      exact absurd rfl (h1 _ _ _)
    · rfl
theorem r_mth {m : Mf} {x : Str} {apos cpos : Pos} (hu : X.A.units + 65 < cLine) (hx : x = mfNm m) (hb : noSuper a = true) (hline : (apos.endLine == cpos.line) = true) (hn : (b :: es).all noStar = true) (hl : (b :: es).length < 29)
    (ha : PE X a (LE X (wE Φ Γ ca))) (hs : PA X (b :: es) (LA X (wEs Φ Γ cs))) : PE X (.Call (.Attribute a x apos) (b :: es) [] cpos) (LE X (wE Φ Γ (.mth m ca cs))) := by
  subst hx
  refine ⟨fun pins s σ H Q I h => ?_⟩
  obtain ⟨env, S, R, re, rp, h, p⟩ := h
  have M := mf_ok m
  have hn' := hn
  rw [List.all_cons, Bool.and_eq_true] at hn
  refine wpAny_Call_method_late (super_no hb) (m_few hn' hl) hline rfl (thn (ha.run pins s σ H _ I (lift_step (Q := Q) re rp h fun d S1 v H1 h1 rd re1 rp1 g1 _ => (⟨d, S1, rd, re1, rp1, g1, h1⟩ : ∃ d S1, RD X.K H1 d v ∧ RE X.K H1 env σ ∧ Rp X.prog X.w X.K H1 S1 ∧ Go H S H1 S1 ∧ mtyD m d S1 ∧ wEs Φ Γ cs env S1 fun ds S2 => mthD m d ds S2 R))) fun v s1 ⟨x, H1, I1, r1, q1⟩ => ?_)
  obtain ⟨d, S1, rd, re1, rp1, g1, ty, h1⟩ := q1
  obtain ⟨t1, t2⟩ := mty_is I1 rp1 rd r1 ty
  refine ⟨mfTy m, mfId m, M.pa, M.slot, M.ty, t1, t2, ?_⟩
  have hA := hs.run cpos pins s1 σ H1 (fun vs H2 => liftM X.prog X.w X.K (mthD m) x vs H2 Q) I1 (liftA_step re1 rp1 h1 fun ds S2 vs H2 h2 rd2 re2 rp2 g2 t2 => ⟨d, ds, S2, R, rd.tx t2, rd2, rp2, h2, (p.go g1).go g2⟩)
  rw [star_cons hn.1] at hA ⊢
  refine Calls.callWith_builtin (by show (false || (backTo cpos (starEach es X.env)).any (·.1)) = false; rw [star_none hn.2] <;> rfl) (Calls.evalArgs_plain ?_)
  exact thn hA fun us s2 ⟨vs, H2, I2, r2, q2⟩ => m_any hu m pins s2 σ H2 x vs v us Q I2 r1 r2 q2
theorem r_mth0 {m : Mf} {x : Str} {apos cpos : Pos} (hu : X.A.units + 65 < cLine) (hx : x = mfNm m) (hb : noSuper a = true) (hline : (apos.endLine == cpos.line) = true)
    (ha : PE X a (LE X (wE Φ Γ ca))) : PE X (.Call (.Attribute a x apos) [] [] cpos) (LE X (wE Φ Γ (.mth m ca []))) := by
  subst hx
  refine ⟨fun pins s σ H Q I h => ?_⟩
  obtain ⟨env, S, R, re, rp, h, p⟩ := h
  have M := mf_ok m
  refine wpAny_Call_method0_late (super_no hb) hline (thn (ha.run pins s σ H _ I (lift_step (Q := Q) re rp h fun d S1 v H1 h1 rd re1 rp1 g1 _ => (⟨d, S1, rd, re1, rp1, g1, h1⟩ : ∃ d S1, RD X.K H1 d v ∧ RE X.K H1 env σ ∧ Rp X.prog X.w X.K H1 S1 ∧ Go H S H1 S1 ∧ mtyD m d S1 ∧ wEs Φ Γ [] env S1 fun ds S2 => mthD m d ds S2 R))) fun v s1 ⟨x, H1, I1, r1, q1⟩ => ?_)
  obtain ⟨d, S1, rd, re1, rp1, g1, ty, h1⟩ := q1
  obtain ⟨t1, t2⟩ := mty_is I1 rp1 rd r1 ty
  exact ⟨mfTy m, mfId m, M.pa, M.slot, M.ty, t1, t2, Calls.callWith_builtin rfl (PySem.evalArgs_none (m_any hu m pins s1 σ H1 x [] v [] Q I1 r1 .nil ⟨d, [], S1, R, rd, .nil, rp1, h1, p.go g1⟩))⟩
/-! tests -/
theorem r_tval (he : ∀ whole, isTrue a X.env whole = (do let v ← whole; standAt a.pos; holding [v] (truthy v))) (ha : PE X a (LE X (wE Φ Γ ca))) : PT X a (LT X (wT Φ Γ (.val ca))) :=
  ptImp (pt_truth ha he) fun σ H Q ⟨env, S, R, re, rp, h, p⟩ => lift_step (Q := fun _ _ => True) re rp h fun d S1 v H1 h1 rd re1 rp1 g1 _ => by
    obtain ⟨k, e, h1⟩ := tru_of rp1 rd h1
    exact ⟨k, e, p _ _ _ h1 rp1 g1⟩
/-- a comparison's value is a bool -/
def bD (R : MK) : MK := fun z S => (∃ k, z = .bl k) ∧ R z S
theorem contP_mono {d : D} {S : Sto} {k k' : PyData → Prop} (h : contP d S k) (hk : ∀ u, k u → k' u) : contP d S k' := by
  cases d with
  | ref a => obtain ⟨xs, e, p1, p2, p3, h⟩ := h; exact ⟨xs, e, p1, p2, p3, hk _ h⟩
  | non => obtain ⟨p1, p2, p3, h⟩ := h; exact ⟨p1, p2, p3, hk _ h⟩
  | bl b => obtain ⟨p1, p2, p3, h⟩ := h; exact ⟨p1, p2, p3, hk _ h⟩
  | int i => obtain ⟨p1, p2, p3, h⟩ := h; exact ⟨p1, p2, p3, hk _ h⟩
  | str x => obtain ⟨p1, p2, p3, h⟩ := h; exact ⟨p1, p2, p3, hk _ h⟩
  | tup xs => obtain ⟨p1, p2, p3, h⟩ := h; exact ⟨p1, p2, p3, hk _ h⟩
  | rol xs => obtain ⟨p1, p2, p3, h⟩ := h; exact ⟨p1, p2, p3, hk _ h⟩
theorem cont_mono {d : D} {S : Sto} {k k' : PyData → Prop} (h : contD d S k) (hk : ∀ u, k u → k' u) : contD d S k' := by
  rcases h with h | ⟨u, h1, h2, h3, h4⟩
  · exact .inl (contP_mono h hk)
  · exact .inr ⟨u, h1, h2, h3, hk u h4⟩
theorem eq_bl {n : Bool} {d e : D} {S : Sto} {R : MK} (h : eqD n d e S R) : eqD n d e S (bD R) := by
  unfold eqD at h ⊢
  split at h
  · exact ⟨⟨_, rfl⟩, h⟩
  · exact ⟨⟨_, rfl⟩, h⟩
  · exact ⟨⟨_, rfl⟩, h⟩
  · exact cont_mono h fun u h => cont_mono h fun v h => ⟨⟨_, rfl⟩, h⟩
theorem lt_bl {f : Bool → Bool} {d e : D} {S : Sto} {R : MK} (h : ltD d e fun b => R (.bl (f b)) S) : ltD d e fun b => bD R (.bl (f b)) S := by
  unfold ltD at h ⊢
  split at h
  · exact ⟨⟨_, rfl⟩, h⟩
  · exact ⟨⟨_, rfl⟩, h⟩
  · exact h
theorem in_bl {n : Bool} {d e : D} {S : Sto} {R : MK} (h : inD n d e S R) : inD n d e S (bD R) := by
  unfold inD at h ⊢
  split at h
  · obtain ⟨c, e, h⟩ := h
    exact ⟨c, e, ⟨_, rfl⟩, h⟩
  · exact ⟨h.1, h.2.1, ⟨_, rfl⟩, h.2.2⟩
  · rcases h with ⟨ys, p1, p2, p3, p4, p5, p6, p7, h⟩ | ⟨kvs, ep, p1, p2, p3, p4, h⟩
    · exact .inl ⟨ys, p1, p2, p3, p4, p5, p6, p7, ⟨_, rfl⟩, h⟩
    · exact .inr ⟨kvs, ep, p1, p2, p3, p4, ⟨_, rfl⟩, h⟩
  · exact h
theorem is_bl {n : Bool} {d e : D} {S : Sto} {R : MK} (h : isD n d e S R) : isD n d e S (bD R) := by
  unfold isD at h ⊢
  split at h
  · exact ⟨⟨_, rfl⟩, h⟩
  · exact ⟨⟨_, rfl⟩, h⟩
  · exact ⟨⟨_, rfl⟩, h⟩
  · exact h
theorem cmp_bl {op : CmpOp} {d e : D} {S : Sto} {R : MK} (h : cmpD op d e S R) : cmpD op d e S (bD R) := by
  cases op
  · exact eq_bl h
  · exact eq_bl h
  · exact lt_bl (f := id) h
  · exact lt_bl h
  · exact lt_bl (f := id) h
  · exact lt_bl h
  · exact is_bl h
  · exact is_bl h
  · exact in_bl h
  · exact in_bl h
theorem r_tcmp {op : CmpOp} (hu : X.A.units + 65 < cLine) (hm : behindInMarks op b = false) (ha : PE X a (LE X (wE Φ Γ ca))) (hb : PE X b (LE X (wE Φ Γ cb))) : PT X (.Compare a [op] [b] pos) (LT X (wT Φ Γ (.val (.cmp op ca cb)))) :=
  ptImp (pt_cmpR (o_cmp hu op) ha hb hm) fun σ H Q ⟨env, S, R, re, rp, h, p⟩ => lift_step (Q := fun _ _ => True) re rp h fun d S1 v H1 h1 rd re1 rp1 g1 _ =>
    lift_step (Q := fun _ _ => True) re1 rp1 h1 fun e S2 u H2 h2 rd2 re2 rp2 g2 t2 => ⟨d, e, S2, _, rd.tx t2, rd2, rp2, cmp_bl h2, fun z S3 w H3 h3 rd3 rp3 g3 => by
      obtain ⟨⟨k, rfl⟩, h3⟩ := h3
      cases rd3
      exact ⟨k, rfl, p _ _ _ h3 rp3 ((g1.trans g2).trans g3)⟩⟩
theorem r_tchn {op op2 : CmpOp} (hu : X.A.units + 65 < cLine) (hm : lastMarks [op, op2] [b, c] = false) (ha : PE X a (LE X (wE Φ Γ ca))) (hb : PE X b (LE X (wE Φ Γ cb))) (hc : PE X c (LE X (wE Φ Γ cc))) : PT X (.Compare a [op, op2] [b, c] pos) (LT X (wT Φ Γ (.val (.chn op op2 ca cb cc)))) :=
  ptImp (pt_chain (o_cmp hu op) (o_cmp hu op2) ha hb hc hm) fun σ H Q ⟨env, S, R, re, rp, h, p⟩ => lift_step (Q := fun _ _ => True) re rp h fun d S1 v H1 h1 rd re1 rp1 g1 _ =>
    lift_step (Q := fun _ _ => True) re1 rp1 h1 fun e S2 u H2 h2 rd2 re2 rp2 g2 t2 => ⟨d, e, S2, _, rd.tx t2, rd2, rp2, h2, fun z S3 w H3 h3 rd3 rp3 g3 => by
      have t3 := g3.tx rp2
      cases rd3 <;> first | exact False.elim h3 | skip
      rename_i k
      refine ⟨k, rfl, ?_⟩
      cases k with
      | true => exact lift_step (Q := fun _ _ => True) (re2.tx t3) rp3 h3 fun f S4 w4 H4 h4 rd4 re4 rp4 g4 t4 => ⟨e, f, S4, _, (rd2.tx t3).tx t4, rd4, rp4, cmp_bl h4, fun z S5 w5 H5 h5 rd5 rp5 g5 => by
          obtain ⟨⟨k, rfl⟩, h5⟩ := h5
          cases rd5
          exact ⟨k, rfl, p _ _ _ h5 rp5 ((((g1.trans g2).trans g3).trans g4).trans g5)⟩⟩
      | false => exact ⟨false, rfl, p _ _ _ h3 rp3 ((g1.trans g2).trans g3)⟩⟩
theorem r_tnot {ct : Ct} (ha : PT X a (LT X (wT Φ Γ ct))) : PT X (.UnaryOp .Not a pos) (LT X (wT Φ Γ (.not ct))) :=
  ptImp (pt_not ha) fun σ H Q ⟨env, S, R, re, rp, h, p⟩ => liftT_step re rp h fun k S1 H1 h1 re1 rp1 g1 _ => p _ _ _ h1 rp1 g1
abbrev pwT (X : Cx) (e : Expr) (m : MT) : Prop := PW X e (LT X m)
theorem pwImp {X : Cx} {e : Expr} {t t' : TT} (h : PW X e t) (hi : ∀ σ H Q, t' σ H Q → t σ H Q) : PW X e t' := ⟨fun wh pins s σ H Q I q => h.run wh pins s σ H Q I (hi _ _ _ q)⟩
theorem r_wand1 {ct : Ct} (ha : PT X a (LT X (wT Φ Γ ct))) : PW X (.BoolOp .And [a] pos) (LT X (wT Φ Γ ct)) := pw_and1 ha
theorem r_wor1 {ct : Ct} (ha : PT X a (LT X (wT Φ Γ ct))) : PW X (.BoolOp .Or [a] pos) (LT X (wT Φ Γ ct)) := pw_or1 ha
theorem r_wand {ct cu : Ct} {rest : List Expr} (ha : PT X a (LT X (wT Φ Γ ct))) (hb : PW X (.BoolOp .And (b :: rest) pos) (LT X (wT Φ Γ cu))) : PW X (.BoolOp .And (a :: b :: rest) pos) (LT X (wT Φ Γ (.and ct cu))) :=
  pwImp (pw_and ha hb) fun σ H Q ⟨env, S, R, re, rp, h, p⟩ => liftT_step re rp h fun k S1 H1 h1 re1 rp1 g1 _ => by
    cases k with
    | true => exact liftT_step re1 rp1 h1 fun k S2 H2 h2 re2 rp2 g2 _ => p _ _ _ h2 rp2 (g1.trans g2)
    | false => exact p _ _ _ h1 rp1 g1
theorem r_wor {ct cu : Ct} {rest : List Expr} (ha : PT X a (LT X (wT Φ Γ ct))) (hb : PW X (.BoolOp .Or (b :: rest) pos) (LT X (wT Φ Γ cu))) : PW X (.BoolOp .Or (a :: b :: rest) pos) (LT X (wT Φ Γ (.or ct cu))) :=
  pwImp (pw_or ha hb) fun σ H Q ⟨env, S, R, re, rp, h, p⟩ => liftT_step re rp h fun k S1 H1 h1 re1 rp1 g1 _ => by
    cases k with
    | false => exact liftT_step re1 rp1 h1 fun k S2 H2 h2 re2 rp2 g2 _ => p _ _ _ h2 rp2 (g1.trans g2)
    | true => exact p _ _ _ h1 rp1 g1
end
end Mn

/-! Mn: what loops walk, targets, comprehensions. -/
namespace Mn
open PySem PySem.Spec L2
/-- the iterator J walks the items xs, as long as G stands -/
structure ItOk (P : Program) (w : World) (K : PySem.W.Frag) (H0 : Hp) (J : It) (xs : List D) (G : Sto → Prop) : Prop where
  go : ∀ (i : Nat) (H : Hp) (S : Sto), Tx H0 H → Rp P w K H S → G S → i < xs.length → J.go i H
  yld : ∀ (i : Nat) (H : Hp) (S : Sto) (x : V) (H' : Hp), Tx H0 H → Rp P w K H S → G S → i < xs.length → J.yld i H x H' → ∃ d, xs[i]? = some d ∧ RD K H' d x ∧ Rp P w K H' S ∧ Go H S H' S
  stop : ∀ (i : Nat) (H : Hp) (S : Sto), Tx H0 H → Rp P w K H S → G S → i = xs.length → J.stop i H
def liftI (P : Program) (w : World) (K : PySem.W.Frag) (m : MS) : TI := fun σ H R => ∃ env S T, RE K H env σ ∧ Rp P w K H S ∧ m env S T ∧
  ∀ xs G S' J H', T xs G S' → Rp P w K H' S' → Go H S H' S' → ItOk P w K H' J xs G → R J H'
section
variable {P : Program} {w : World} {K : PySem.W.Frag} {H0 : Hp}
theorem it_tup {a : Addr} {vs : List V} {ds : List D} {G : Sto → Prop} (h : SqT K H0 a vs) (r : RDs K H0 ds vs) : ItOk P w K H0 (Itt K a) ds G where
  go := fun i H S t rp g hi => ⟨vs, vs[i]'(by rw [← r.length]; exact hi), t.sqT h, List.getElem?_eq_getElem _⟩
  yld := fun i H S x H' t rp g hi ⟨e, y⟩ => by
    subst e
    obtain ⟨d, h1, h2⟩ := (r.tx t).getV (y vs (t.sqT h))
    exact ⟨d, h1, h2, rp, Go.refl _ _⟩
  stop := fun i H S t rp g hi => ⟨vs, t.sqT h, by rw [← r.length]; omega⟩
theorem it_rol {a : Addr} {vs : List V} {ds : List D} {G : Sto → Prop} (h : SqR K H0 a vs) (r : RDs K H0 ds vs) : ItOk P w K H0 (Itl K a) ds G where
  go := fun i H S t rp g hi => ⟨vs, vs[i]'(by rw [← r.length]; exact hi), (t.sqR h).seq, List.getElem?_eq_getElem _⟩
  yld := fun i H S x H' t rp g hi ⟨e, y⟩ => by
    subst e
    obtain ⟨d, h1, h2⟩ := (r.tx t).getV (y vs (t.sqR h).seq)
    exact ⟨d, h1, h2, rp, Go.refl _ _⟩
  stop := fun i H S t rp g hi => ⟨vs, (t.sqR h).seq, by rw [← r.length]; omega⟩
theorem it_lst {a : Addr} {ds : List D} : ItOk P w K H0 (Itl K a) ds (fun S => S a = some (.lst ds)) where
  go := fun i H S t rp g hi => by
    obtain ⟨vs, q, r⟩ := rp.lst g
    exact ⟨vs, vs[i]'(by rw [← r.length]; exact hi), .of q, List.getElem?_eq_getElem _⟩
  yld := fun i H S x H' t rp g hi ⟨e, y⟩ => by
    subst e
    obtain ⟨vs, q, r⟩ := rp.lst g
    obtain ⟨d, h1, h2⟩ := r.getV (y vs (.of q))
    exact ⟨d, h1, h2, rp, Go.refl _ _⟩
  stop := fun i H S t rp g hi => by
    obtain ⟨vs, q, r⟩ := rp.lst g
    exact ⟨vs, .of q, by rw [← r.length]; omega⟩
theorem it_str {x : Str} {G : Sto → Prop} : ItOk P w K H0 (Its x) (chars x) G where
  go := fun i H S t rp g hi => by
    have : i < x.cps.size := by simpa [chars] using hi
    exact this
  yld := fun i H S v H' t rp g hi ⟨e, c, h1, h2⟩ => by
    subst e h2
    exact ⟨.str ⟨#[c]⟩, by simp [chars, h1], .str _, rp, Go.refl _ _⟩
  stop := fun i H S t rp g hi => by
    have : x.cps.size ≤ i := by
      have : i = x.cps.size := by simpa [chars] using hi
      omega
    exact this
theorem it_rng {n : Nat} {G : Sto → Prop} : ItOk P w K H0 (Itr 0 n) ((List.range n).map fun (k : Nat) => D.int k) G where
  go := fun i H S t rp g hi => by
    have : i < n := by simpa using hi
    exact this
  yld := fun i H S v H' t rp g hi ⟨e, h2⟩ => by
    have hi' : i < n := by simpa using hi
    subst e h2
    refine ⟨.int (i : Nat), by simp [hi'], ?_, rp, Go.refl _ _⟩
    rw [Int.zero_add]
    exact .int _
  stop := fun i H S t rp g hi => by
    have : n ≤ i := by
      have : i = n := by simpa using hi
      omega
    exact this
theorem it_rng2 {lo : Int} {n : Nat} {G : Sto → Prop} : ItOk P w K H0 (Itr lo n) ((List.range n).map fun (k : Nat) => D.int (lo + k)) G where
  go := fun i H S t rp g hi => by
    have : i < n := by simpa using hi
    exact this
  yld := fun i H S v H' t rp g hi ⟨e, h2⟩ => by
    have hi' : i < n := by simpa using hi
    subst e h2
    exact ⟨.int (lo + (i : Nat)), by simp [hi'], .int _, rp, Go.refl _ _⟩
  stop := fun i H S t rp g hi => by
    have : n ≤ i := by
      have : i = n := by simpa using hi
      omega
    exact this
end
section
variable {X : Cx} {Φ : Str → Option SpD} {Γ : Str → Option D} {pos : Pos} {a b c tg : Expr} {ca cb cc : Cd}
abbrev LI (X : Cx) (m : MS) : TI := liftI X.prog X.w X.K m
theorem r_it (ha : PE X a (LE X (wE Φ Γ ca))) : PI X tg a (LI X (wSr Φ Γ (.it ca))) := by
  refine ⟨fun pins s σ H R I h => ?_⟩
  obtain ⟨env, S, T, re, rp, h, p⟩ := h
  have hl := lift_step (X := X) (Q := fun _ _ => True) (m := wE Φ Γ ca) re rp h fun d S1 v H1 h1 rd re1 rp1 g1 t1 => (⟨d, S1, rd, rp1, g1, h1⟩ : ∃ d S1, RD X.K H1 d v ∧ Rp X.prog X.w X.K H1 S1 ∧ Go H S H1 S1 ∧ itD d S1 T)
  have k1 : ∀ {pins : List (Addr × Obj)} {s1 : Shared} {H1 : Hp} {x : V} {v : Value}, Inv X pins σ H1 s1 → RelV x v → (∃ d S1, RD X.K H1 d x ∧ Rp X.prog X.w X.K H1 S1 ∧ Go H S H1 S1 ∧ itD d S1 T) → wpAny (model X.prog X.w) X.A (pyIter v) (PIE X pins σ tg R) X.xe s1 := by
    intro pins s1 H1 x v I1 r1 q1
    obtain ⟨d, S1, rd, rp1, g1, h1⟩ := q1
    cases rd <;> first | exact False.elim h1 | skip
    · obtain ⟨t, rfl⟩ := r1
      rename_i z
      have q : R (Its z) H1 := p _ _ _ _ _ h1 rp1 g1 it_str
      cases hz : z.cps.all (· < 128)
      · exact wpAny_pyIter_wide hz (pi_one (tk := s1.toks) I1 _ (turn_str _ z t _ (Or.inr rfl)) ⟨_, Heap.get?_push_size _ rfl, rfl, rfl⟩ q)
      · exact wpAny_pyIter_ascii hz (pi_one (tk := s1.toks) I1 _ (turn_str _ z t _ (Or.inl rfl)) ⟨_, Heap.get?_push_size _ rfl, rfl, rfl⟩ q)
    · rename_i l ds vs hq rr
      cases r1
      obtain ⟨its, rv, pt, hz⟩ := I1.tuple hq
      have q : R (Itt X.K l) H1 := p _ _ _ _ _ h1 rp1 g1 (it_tup hq rr)
      exact wpAny_pyIter_tuple (show s1.heap.IsTuple l its.toArray from pt) (pi_one (tk := s1.toks) I1 _ (turn_tuple l _) ⟨_, Heap.get?_push_size _ rfl, rfl, rfl⟩ q)
    · rename_i l ds vs hq rr
      cases r1
      obtain ⟨its, rv, pt, hz⟩ := I1.list hq.seq
      have q : R (Itl X.K l) H1 := p _ _ _ _ _ h1 rp1 g1 (it_rol hq rr)
      exact wpAny_pyIter_list pt.isList (pi_one (tk := s1.toks) I1 _ (turn_list l _) ⟨_, Heap.get?_push_size _ rfl, rfl, rfl⟩ q)
    · rename_i l
      cases r1
      obtain ⟨ds, e, h1⟩ := h1
      obtain ⟨vs, hq, rr⟩ := rp1.lst e
      obtain ⟨its, rv, pt, hz⟩ := I1.list (.of hq)
      have q : R (Itl X.K l) H1 := p _ _ _ _ _ h1 rp1 g1 it_lst
      exact wpAny_pyIter_list pt.isList (pi_one (tk := s1.toks) I1 _ (turn_list l _) ⟨_, Heap.get?_push_size _ rfl, rfl, rfl⟩ q)
  exact thn (ha.run pins s σ H _ I hl) fun v s1 ⟨x, H1, I1, r1, q1⟩ => k1 I1 r1 q1
theorem r_rng {p1 : Pos} (hg : Gl X "range") (hm : X.mg "range" = none) (hn : noStar a = true) (ha : PE X a (LE X (wE Φ Γ ca))) : PI X tg (.Call (.Name "range" p1) [a] [] pos) (LI X (wSr Φ Γ (.rng ca))) := by
  refine ⟨fun pins s σ H R I h => (pi_range1 hg hm (pa_cons ha pa_nil (star_cons hn)) (star_cons hn)).run pins s σ H R I ?_⟩
  obtain ⟨env, S, T, re, rp, h, p⟩ := h
  refine lift_step (Q := fun _ _ => True) re rp h fun d S1 v H1 h1 rd re1 rp1 g1 _ => ?_
  cases rd <;> first | exact False.elim h1 | skip
  exact ⟨_, rfl, h1.1, h1.2.1, p _ _ _ _ _ h1.2.2 rp1 g1 it_rng⟩
theorem r_rng2 {p1 : Pos} (hg : Gl X "range") (hm : X.mg "range" = none) (hn : noStar a = true) (hn2 : noStar b = true) (ha : PE X a (LE X (wE Φ Γ ca))) (hb : PE X b (LE X (wE Φ Γ cb))) : PI X tg (.Call (.Name "range" p1) [a, b] [] pos) (LI X (wSr Φ Γ (.rng2 ca cb))) := by
  refine ⟨fun pins s σ H R I h => (pi_range2 hg hm (pa_cons ha (pa_cons hb pa_nil (star_cons hn2)) (star_cons hn)) ((star_cons hn).trans (congrArg _ (star_cons hn2))) (star_cons hn2)).run pins s σ H R I ?_⟩
  obtain ⟨env, S, T, re, rp, h, p⟩ := h
  refine lift_step (Q := fun _ _ => True) re rp h fun d S1 v H1 h1 rd re1 rp1 g1 _ => lift_step (Q := fun _ _ => True) re1 rp1 h1 fun e S2 u H2 h2 rd2 re2 rp2 g2 _ => ?_
  cases rd <;> first | exact False.elim h2 | (cases rd2 <;> first | exact False.elim h2 | skip)
  obtain ⟨k1, k2, k3, k4, h2⟩ := h2
  exact ⟨_, _, rfl, ⟨k1, k2, k3, k4⟩, p _ _ _ _ _ h2 rp2 (g1.trans g2) it_rng2⟩
/-! targets -/
def SlotsIn (sl vs : List Nat) : Prop := ∀ i ∈ sl, i ∈ vs
theorem wipe_set {σ : L2.St} {i : Nat} {x : Option V} : ∀ {vs : List Nat}, i ∈ vs → wipe (σ.set i x) vs = wipe σ vs
  | v :: vs, h => by
    unfold wipe
    by_cases e : i ∈ vs
    · rw [wipe_set e]
    · have : i = v := (List.mem_cons.mp h).resolve_right e
      subst this
      have go : ∀ vs : List Nat, wipe (σ.set i x) vs = (wipe σ vs).set i x ∨ wipe (σ.set i x) vs = wipe σ vs := by
        intro vs
        induction vs with
        | nil => exact .inl rfl
        | cons u us ih =>
          unfold wipe
          by_cases eu : u = i
          · subst eu
            rcases ih with ih | ih
            · rw [ih, List.set_set]
              exact .inr rfl
            · rw [ih]
              exact .inr rfl
          · rcases ih with ih | ih
            · rw [ih, List.set_comm _ _ (Ne.symm eu)]
              exact .inl rfl
            · rw [ih]
              exact .inr rfl
      rcases go vs with h | h
      · rw [h, List.set_set]
      · rw [h]
def liftG (K : PySem.W.Frag) (t : Tg) : TG := fun v σ H Q => ∃ d env env1, RD K H d v ∧ RE K H env σ ∧ asgD t d env = some env1 ∧ ∀ σ1, RE K H env1 σ1 → (∀ vs, SlotsIn t.slots vs → wipe σ1 vs = wipe σ vs) → Q σ1 H
def liftGs (K : PySem.W.Frag) (ts : List Tg) : TGs := fun us σ H Q => ∃ ds env env1, RDs K H ds us ∧ RE K H env σ ∧ asgsD ts ds env = some env1 ∧ ∀ σ1, RE K H env1 σ1 → (∀ vs, SlotsIn (Tg.slotsAll ts) vs → wipe σ1 vs = wipe σ vs) → Q σ1 H
theorem pgImp {X : Cx} {e : Expr} {t t' : TG} (h : PG X e t) (hi : ∀ v σ H Q, t' v σ H Q → t v σ H Q) : PG X e t' := ⟨fun pins s σ H v u Q I r q => h.run pins s σ H v u Q I r (hi _ _ _ _ q)⟩
theorem pgsImp {X : Cx} {e : List Expr} {t t' : TGs} (h : PGs X e t) (hi : ∀ v σ H Q, t' v σ H Q → t v σ H Q) : PGs X e t' := ⟨fun pins s σ H v u Q I r q => h.run pins s σ H v u Q I r (hi _ _ _ _ q)⟩
theorem g_nm {i : Nat} {x : Str} (hN : X.N.Nodup) (hi : X.N[i]? = some x) (hx : Loc X.env.scope x) (hf : X.fn x = true ∨ X.env.scope.names.lookup x = some .local) : PG X (.Name x pos) (liftG X.K (.nm i)) :=
  pgImp (pg_name hN hi hx hf) fun v σ H Q ⟨d, env, env1, rd, re, e, q⟩ => by
    cases e
    exact q _ (re.set rd) fun vs h => wipe_set (h i List.mem_cons_self)
theorem g_nil : PGs X [] (liftGs X.K []) := pgsImp pgs_nil fun v σ H Q ⟨d, env, env1, rd, re, e, q⟩ => by
  cases d with
  | nil => cases rd; cases e; exact ⟨rfl, q σ re fun _ _ => rfl⟩
  | cons d ds => cases e
theorem asg_cons {e : Expr} {es : List Expr} {env : PySem.Env} (h : noStar e = true) : assignEach (e :: es) env = (false, assign e env) :: assignEach es env := by
  cases e <;> first | rfl | (simp [noStar] at h; done)
theorem g_cons {es : List Expr} {t : Tg} {ts : List Tg} (hn : noStar a = true) (h : PG X a (liftG X.K t)) (hs : PGs X es (liftGs X.K ts)) : PGs X (a :: es) (liftGs X.K (t :: ts)) :=
  pgsImp (pgs_cons h hs (by rw [asg_cons hn]; rfl)) fun v σ H Q ⟨ds, env, env1, rd, re, e, q⟩ => by
    cases rd with
    | nil => cases e
    | @cons d ds v vs r1 rs =>
    unfold asgsD at e
    cases e1 : asgD t d env with
    | none => rw [e1] at e; cases e
    | some env2 =>
    rw [e1] at e
    exact ⟨_, _, rfl, d, env, env2, r1, re, e1, fun σ1 re1 w1 => ⟨ds, env2, env1, rs, re1, e, fun σ2 re2 w2 => q σ2 re2 fun vs h => (w2 vs fun i hi => h i (List.mem_append_right _ hi)).trans (w1 vs fun i hi => h i (List.mem_append_left _ hi))⟩⟩
theorem asg_star {es : List Expr} {env : PySem.Env} (h : es.all noStar = true) : (assignEach es env).length = es.length ∧ (assignEach es env).findIdx? (·.1) = none := by
  induction es with
  | nil => exact ⟨rfl, rfl⟩
  | cons e es ih =>
    rw [List.all_cons, Bool.and_eq_true] at h
    obtain ⟨h1, h2⟩ := ih h.2
    rw [asg_cons h.1]
    refine ⟨by simp [h1], ?_⟩
    rw [List.findIdx?_cons, h2]
    rfl
theorem asgs_len : ∀ {ts : List Tg} {ds : List D} {env env1 : Env}, asgsD ts ds env = some env1 → ds.length = ts.length
  | [], [], _, _, _ => rfl
  | [], _ :: _, _, _, h => by cases h
  | _ :: _, [], _, _, h => by cases h
  | t :: ts, d :: ds, env, env1, h => by
    unfold asgsD at h
    cases e1 : asgD t d env with
    | none => rw [e1] at h; cases h
    | some env2 =>
      rw [e1] at h
      simp [asgs_len h]
theorem g_tp {es : List Expr} {k : Nat} {ts : List Tg} (hc : X.calm = true) (hn : es.all noStar = true) (hl : es.length = ts.length) (h : PGs X es (liftGs X.K ts)) : PG X (.Tuple es k pos) (liftG X.K (.tp ts)) :=
  pgImp (pg_tup hc h (asg_star hn).1 (asg_star hn).2) fun v σ H Q ⟨d, env, env1, rd, re, e, q⟩ => by
    cases rd <;> first | (cases e; done) | skip
    rename_i l ds vs hq rr _
    have e' : asgsD ts ds env = some env1 := e
    exact ⟨l, vs, rfl, hq, by rw [← rr.length, asgs_len e', hl], ds, env, env1, rr, re, e', q⟩
/-! comprehensions -/
theorem RE.wipe {K : PySem.W.Frag} {H : Hp} {env : Env} {σ : L2.St} (r : RE K H env σ) : ∀ vs : List Nat, RE K H (wipeD env vs) (L2.wipe σ vs)
  | [] => r
  | v :: vs => by
    have ih := r.wipe vs
    unfold wipeD L2.wipe
    refine ⟨by simp [ih.len], fun j e hj => ?_⟩
    by_cases hij : v = j
    · subst hij
      by_cases hl : v < (wipeD env vs).length
      · rw [List.getElem?_set_self hl] at hj
        cases hj
      · rw [List.getElem?_eq_none (by simp; omega)] at hj
        cases hj
    · rw [List.getElem?_set_ne hij] at hj ⊢
      exact ih.at_ j e hj
/-- the new list at Dl grows: acc so far -/
structure LS (X : Cx) (H0 : Hp) (S0 : Sto) (Dl : Addr) (H : Hp) (S : Sto) (acc : List D) (vacc : List V) : Prop where
  rp : Rp X.prog X.w X.K H S
  out : S Dl = none
  at_ : H Dl = some (.lst vacc)
  rds : RDs X.K H acc vacc
  go : Go H0 S0 H S
theorem LS.step {H0 H H' : Hp} {S0 S S' : Sto} {Dl : Addr} {acc : List D} {vacc : List V} (l : LS X H0 S0 Dl H S acc vacc) (rp : Rp X.prog X.w X.K H' S') (g : Go H S H' S') : LS X H0 S0 Dl H' S' acc vacc :=
  ⟨rp, (g _ _ l.at_ l.out).2, (g _ _ l.at_ l.out).1, l.rds.tx (g.tx l.rp), l.go.trans g⟩
theorem LS.tx {H0 H : Hp} {S0 S : Sto} {Dl : Addr} {acc : List D} {vacc vs : List V} (l : LS X H0 S0 Dl H S acc vacc) : Tx H (upd H Dl (.lst vs)) := .mut l.at_ trivial
theorem LS.push {H0 H : Hp} {S0 S : Sto} {Dl : Addr} {acc : List D} {vacc : List V} (l : LS X H0 S0 Dl H S acc vacc) (h0 : ∀ o, H0 Dl = some o → S0 Dl = none → False) {d : D} {v : V} (rd : RD X.K H d v) :
    LS X H0 S0 Dl (upd H Dl (.lst (vacc ++ [v]))) S (acc ++ [d]) (vacc ++ [v]) where
  rp := fun a c e => (l.rp a c e).keep l.tx (upd_ne (by rintro rfl; rw [l.out] at e; cases e))
  out := l.out
  at_ := upd_same
  rds := (l.rds.append (.cons rd .nil)).tx l.tx
  go := fun a o e q => by
    have ne : a ≠ Dl := by rintro rfl; exact h0 o e q
    obtain ⟨h1, h2⟩ := l.go a o e q
    exact ⟨by rw [upd_ne ne]; exact h1, h2⟩
theorem run_run2 {g : D → Env → Option Env} {t : MT} {e : ME} {G : Sto → Prop} {env : Env} : ∀ {xs acc : List D} {S : Sto} {Q : List D → Sto → Prop}, lcRun g t e G env xs acc S Q →
    lcRun2 g t (fun env1 acc S1 k => e env1 S1 fun y S2 => acc.length < sizeLine ∧ k (acc ++ [y]) S2) G env xs acc S Q
  | [], _, _, _, h => h
  | x :: xs, acc, S, Q, h => by
    have eq : lcRun2 g t (fun env1 acc S1 k => e env1 S1 fun y S2 => acc.length < sizeLine ∧ k (acc ++ [y]) S2) G env xs = lcRun g t e G env xs := by
      clear h
      induction xs with
      | nil => rfl
      | cons x xs ih =>
        funext acc S Q
        unfold lcRun lcRun2
        rw [ih]
    unfold lcRun2
    rw [eq]
    exact h
/-- the loop of a comprehension's clause; Bd: what stands behind the tests -/
theorem lc_loop {H0 H1 : Hp} {S0 : Sto} {Dl : Addr} {J : It} {xs : List D} {G : Sto → Prop} (it : ItOk X.prog X.w X.K H1 J xs G) {t : Tg} {ct : Ct} {vs : List Nat} (hsl : SlotsIn t.slots vs) {σ : L2.St} {env : Env} (re : RE X.K H1 env σ)
    {m : Env → List D → Sto → (List D → Sto → Prop) → Prop} {Bd : L2.St → Hp → (Hp → Prop) → Prop}
    (hb : ∀ (σ2 : L2.St) (env1 : Env) (H : Hp) (S : Sto) (acc : List D) (vacc : List V) (k : List D → Sto → Prop) (Nx : Hp → Prop), RE X.K H env1 σ2 → LS X H0 S0 Dl H S acc vacc → m env1 acc S k →
      (∀ H' S' acc' vacc', LS X H0 S0 Dl H' S' acc' vacc' → Tx H H' → k acc' S' → Nx H') → Bd σ2 H Nx)
    {End : Hp → Prop} {Q : List D → Sto → Prop} (he : ∀ H S acc vacc, LS X H0 S0 Dl H S acc vacc → Tx H1 H → Q acc S → End H)
    {Hs : Hp} {S : Sto} {acc : List D} {vacc : List V} (l : LS X H0 S0 Dl Hs S acc vacc) (tx : Tx H1 Hs) (h : lcRun2 (asgD t) (wT Φ Γ ct) m G (wipeD env vs) xs acc S Q) :
    ∃ W : Nat → Nat → Hp → Prop, (∃ m, W 0 m Hs) ∧ ∀ i m H, W i m H → (J.stop i H ∧ End H) ∨ (J.go i H ∧ ∃ Nx : Hp → Prop, (∀ H', Nx H' → ∃ m', m' < m ∧ W (i + 1) m' H') ∧
      ∀ x H', J.yld i H x H' → liftG X.K t x (wipe σ vs) H' fun σ2 H2 => wipe σ2 vs = wipe σ vs ∧ LT X (wT Φ Γ ct) σ2 H2 fun b H3 => if b = true then Bd σ2 H3 Nx else Nx H3) := by
  refine ⟨fun i n H => i ≤ xs.length ∧ n = xs.length - i ∧ ∃ S acc vacc, LS X H0 S0 Dl H S acc vacc ∧ Tx H1 H ∧ lcRun2 (asgD t) (wT Φ Γ ct) m G (wipeD env vs) (xs.drop i) acc S Q, ⟨xs.length, Nat.zero_le _, rfl, S, acc, vacc, l, tx, h⟩, ?_⟩
  rintro i n H ⟨hi, rfl, S, acc, vacc, l, tx, h⟩
  by_cases hlt : i < xs.length
  · rw [List.drop_eq_getElem_cons hlt] at h
    obtain ⟨g0, env1, e1, h⟩ := h
    refine .inr ⟨it.go i H S tx l.rp g0 hlt, fun H' => ∃ S' acc' vacc', LS X H0 S0 Dl H' S' acc' vacc' ∧ Tx H1 H' ∧ lcRun2 (asgD t) (wT Φ Γ ct) m G (wipeD env vs) (xs.drop (i + 1)) acc' S' Q, fun H' ⟨S', acc', vacc', l', t', h'⟩ => ⟨xs.length - (i + 1), by omega, hlt, rfl, S', acc', vacc', l', t', h'⟩, fun x H' y => ?_⟩
    obtain ⟨d, hd, rd, rp', g'⟩ := it.yld i H S x H' tx l.rp g0 hlt y
    have hd' : xs[i] = d := by
      rw [List.getElem?_eq_getElem hlt] at hd
      exact Option.some.inj hd
    rw [hd'] at e1
    have t' := g'.tx l.rp
    have l' := l.step rp' g'
    have re' : RE X.K H' (wipeD env vs) (wipe σ vs) := (re.wipe vs).tx (tx.trans t')
    have tx' : Tx H1 H' := tx.trans t'
    refine ⟨d, _, env1, rd, re', e1, fun σ1 re1 w1 => ⟨?_, liftT_step re1 rp' h fun b S2 H2 h2 re2 rp2 g2 t2 => ?_⟩⟩
    · rw [w1 vs hsl]
      have ww : ∀ us : List Nat, (∀ i ∈ us, i ∈ vs) → wipe (wipe σ vs) us = wipe σ vs := by
        intro us
        induction us with
        | nil => intro _; rfl
        | cons u us ih =>
          intro hu
          show (wipe (wipe σ vs) us).set u none = wipe σ vs
          rw [ih fun i hi => hu i (List.mem_cons_of_mem _ hi)]
          have wn : ∀ vs : List Nat, u ∈ vs → (wipe σ vs).set u none = wipe σ vs := by
            intro vs
            induction vs with
            | nil => intro h; cases h
            | cons v vs ih =>
              intro h
              unfold wipe
              by_cases e : u = v
              · subst e
                rw [List.set_set]
              · rw [List.set_comm _ _ (Ne.symm e), ih ((List.mem_cons.mp h).resolve_left e)]
          exact wn vs (hu u List.mem_cons_self)
      exact ww vs fun i hi => hi
    · have l2 := l'.step rp2 g2
      cases b with
      | true => exact hb σ1 env1 H2 S2 acc vacc _ _ re2 l2 h2 fun H3 S3 acc3 vacc3 l3 t3 h3 => ⟨S3, acc3, vacc3, l3, (tx'.trans t2).trans t3, h3⟩
      | false => exact ⟨S2, acc, vacc, l2, tx'.trans t2, h2⟩
  · have e : i = xs.length := by omega
    subst e
    rw [List.drop_length] at h
    obtain ⟨g0, h⟩ := h
    exact .inl ⟨it.stop _ H S tx l.rp g0 rfl, he H S acc vacc l tx h⟩
/-- every context of the comprehension's own block -/
def InBlk (X : Cx) (scope : Scope) (p : Cx → Prop) : Prop := ∀ (s : Shared) (H : Hp) (C : Addr) (cl : List (Str × Addr)) (fp : List Addr), p (X.blk s H scope (compEnvC scope cl C X.env) fp)
theorem ptsImp {X : Cx} {e : List Expr} {t t' : TT} (h : PTs X e t) (hi : ∀ σ H Q, t' σ H Q → t σ H Q) : PTs X e t' := ⟨fun pins s σ H Q I q => h.run pins s σ H Q I (hi _ _ _ q)⟩
theorem r_tsn : PTs X [] (LT X (wT Φ Γ .yes)) := ptsImp pts_nil fun σ H Q ⟨env, S, R, re, rp, h, p⟩ => p _ _ _ h rp (Go.refl _ _)
theorem r_ts1 {ct : Ct} (h : PT X c (LT X (wT Φ Γ ct))) : PTs X [c] (LT X (wT Φ Γ ct)) := pts_one h
variable {elt tg1 iter iter1 : Expr} {ifs ifs1 : List Expr} {scope : Scope} {own : List (Str × Nat)} {t t1 : Tg} {ct ct1 : Ct} {cs cs1 : Cs} {ce : Cd}
theorem lc_reads {σ : L2.St} {H : Hp} {Q : VK} (hsl : SlotsIn t.slots (own.map (·.2))) (h : LE X (wE Φ Γ (.lc (own.map (·.2)) ce t cs ct)) σ H Q) :
    tLc (LI X (wSr Φ Γ cs)) (liftG X.K t) (LT X (wT Φ Γ ct)) (LE X (wE Φ Γ ce)) (own.map (·.2)) σ H Q := by
  obtain ⟨env, S, R, re, rp, h, p⟩ := h
  refine ⟨env, S, _, re, rp, h, fun xs G S1 J H1 h1 rp1 g1 it Dl hD => ?_⟩
  have hS := rp1.free hD
  have t1 : Tx H1 (upd H1 Dl (.lst [])) := .new hD
  have g2 : Go H1 S1 (upd H1 Dl (.lst [])) S1 := .new hD
  have re1 := re.tx (g1.tx rp)
  refine lc_loop (H0 := H) (S0 := S) (Q := fun acc S2 => newL S2 acc R) (End := fun H' => Q (.ref Dl) H') it hsl re1 (m := fun env1 acc S1 k => wE Φ Γ ce env1 S1 fun y S2 => acc.length < sizeLine ∧ k (acc ++ [y]) S2)
    (Bd := fun σ2 H3 Nx => LE X (wE Φ Γ ce) σ2 H3 fun y H4 => ∃ acc, H4 Dl = some (.lst acc) ∧ acc.length < sizeLine ∧ Nx (upd H4 Dl (.lst (acc ++ [y]))))
    (fun σ2 env1 H2 S2 acc vacc k Nx re2 l2 hm hk => ?_) (fun H2 S2 acc vacc l2 t2 hq => ?_) (Hs := upd H1 Dl (.lst [])) (S := S1) (acc := []) (vacc := []) ⟨rp1.new hD hS, hS, upd_same, .nil, g1.trans g2⟩ t1 (run_run2 h1)
  · refine lift_step (Q := fun _ _ => True) re2 l2.rp hm fun d S3 v H3 h3 rd3 re3 rp3 g3 t3 => ?_
    have l3 := l2.step rp3 g3
    exact ⟨vacc, l3.at_, by rw [← l3.rds.length]; exact h3.1, hk _ _ _ _ (l3.push (fun o e q => by have := (g1 _ _ e q).1; rw [hD] at this; cases this) rd3) (t3.trans l3.tx) h3.2⟩
  · refine p (.ref Dl) (up S2 Dl (.lst acc)) (.ref Dl) H2 (hq Dl l2.out) (.ref Dl) (fun a c e => ?_) (fun a o e q => ?_)
    · by_cases ha : a = Dl
      · subst ha
        rw [up_same] at e
        cases e
        exact ⟨vacc, l2.at_, l2.rds⟩
      · rw [up_ne ha] at e
        exact l2.rp a c e
    · have ne : a ≠ Dl := by
        rintro rfl
        have := (g1 _ _ e q).1
        rw [hD] at this; cases this
      obtain ⟨k1, k2⟩ := l2.go a o e q
      exact ⟨k1, by rw [up_ne ne]; exact k2⟩
theorem r_lc (hc : X.calm = true) (hN : X.N.Nodup) (hi : PI X tg iter (LI X (wSr Φ Γ cs))) (ok : BlkOk X.N X.env.scope scope own) (hsl : SlotsIn t.slots (own.map (·.2)))
    (hg : InBlk X scope fun Y => PG Y tg (liftG X.K t)) (ht : InBlk X scope fun Y => PTs Y ifs (LT X (wT Φ Γ ct))) (he : InBlk X scope fun Y => PE Y elt (LE X (wE Φ Γ ce))) (hs : ∀ x, foldedSetIterable iter X.env x = pure x) :
    PE X (.ListComp elt [⟨tg, iter, ifs, 0⟩] scope pos) (LE X (wE Φ Γ (.lc (own.map (·.2)) ce t cs ct))) :=
  peImp (pe_lc hc hN hi ok hg ht he hs) fun σ H Q h => lc_reads hsl h
theorem lc2_reads {vs1 : List Nat} {σ : L2.St} {H : Hp} {Q : VK} (hsl : SlotsIn t.slots (own.map (·.2))) (hsl1 : SlotsIn t1.slots vs1) (h : LE X (wE Φ Γ (.lc2 (own.map (·.2)) vs1 ce t cs ct t1 cs1 ct1)) σ H Q) :
    tLc2 (LI X (wSr Φ Γ cs)) (liftG X.K t) (LT X (wT Φ Γ ct)) (LI X (wSr Φ Γ cs1)) (liftG X.K t1) (LT X (wT Φ Γ ct1)) (LE X (wE Φ Γ ce)) (own.map (·.2)) vs1 σ H Q := by
  obtain ⟨env, S, R, re, rp, h, p⟩ := h
  refine ⟨env, S, _, re, rp, h, fun xs G S1 J H1 h1 rp1 g1 it Dl hD => ?_⟩
  have hS := rp1.free hD
  have tN : Tx H1 (upd H1 Dl (.lst [])) := .new hD
  have g2 : Go H1 S1 (upd H1 Dl (.lst [])) S1 := .new hD
  have re1 := re.tx (g1.tx rp)
  have h0 : ∀ o, H Dl = some o → S Dl = none → False := fun o e q => by have := (g1 _ _ e q).1; rw [hD] at this; cases this
  refine lc_loop (H0 := H) (S0 := S) (Q := fun acc S2 => newL S2 acc R) (End := fun H' => Q (.ref Dl) H') it hsl re1 (m := fun env1 acc S2 Q => wSr Φ Γ cs1 env1 S2 fun ys G1 S3 => lcRun (asgD t1) (wT Φ Γ ct1) (wE Φ Γ ce) G1 (wipeD env1 vs1) ys acc S3 Q)
    (Bd := fun σ2 H3 Nx => LI X (wSr Φ Γ cs1) σ2 H3 fun J1 H4 => ∃ W1 : Nat → Nat → Hp → Prop, (∃ m, W1 0 m H4) ∧ ∀ j k H, W1 j k H →
      (J1.stop j H ∧ Nx H) ∨ (J1.go j H ∧ ∃ Nx1 : Hp → Prop, (∀ H', Nx1 H' → ∃ k', k' < k ∧ W1 (j + 1) k' H') ∧ ∀ x H', J1.yld j H x H' → liftG X.K t1 x (wipe σ2 vs1) H' fun σ3 H5 => wipe σ3 vs1 = wipe σ2 vs1 ∧ LT X (wT Φ Γ ct1) σ3 H5 fun b H6 =>
        if b = true then LE X (wE Φ Γ ce) σ3 H6 fun y H7 => ∃ acc, H7 Dl = some (.lst acc) ∧ acc.length < sizeLine ∧ Nx1 (upd H7 Dl (.lst (acc ++ [y]))) else Nx1 H6))
    (fun σ2 env1 H2 S2 acc vacc k Nx re2 l2 hm hk => ?_) (fun H2 S2 acc vacc l2 t2 hq => ?_) (Hs := upd H1 Dl (.lst [])) (S := S1) (acc := []) (vacc := []) ⟨rp1.new hD hS, hS, upd_same, .nil, g1.trans g2⟩ tN h1
  · refine ⟨env1, S2, _, re2, l2.rp, hm, fun ys G1 S3 J1 H3 h3 rp3 g3 it1 => ?_⟩
    have l3 := l2.step rp3 g3
    have t3 := g3.tx l2.rp
    exact lc_loop (H0 := H) (S0 := S) (Q := k) (End := Nx) it1 hsl1 (re2.tx t3) (m := fun env1 acc S1 k => wE Φ Γ ce env1 S1 fun y S2 => acc.length < sizeLine ∧ k (acc ++ [y]) S2)
      (Bd := fun σ2 H3 Nx => LE X (wE Φ Γ ce) σ2 H3 fun y H4 => ∃ acc, H4 Dl = some (.lst acc) ∧ acc.length < sizeLine ∧ Nx (upd H4 Dl (.lst (acc ++ [y]))))
      (fun σ4 env4 H4 S4 acc4 vacc4 k4 Nx4 re4 l4 hm4 hk4 => lift_step (Q := fun _ _ => True) re4 l4.rp hm4 fun d S5 v H5 h5 rd5 re5 rp5 g5 t5 => by
        have l5 := l4.step rp5 g5
        exact ⟨vacc4, l5.at_, by rw [← l5.rds.length]; exact h5.1, hk4 _ _ _ _ (l5.push h0 rd5) (t5.trans l5.tx) h5.2⟩)
      (fun H4 S4 acc4 vacc4 l4 t4 hq4 => hk H4 S4 acc4 vacc4 l4 (t3.trans t4) hq4) l3 (Tx.refl _) (run_run2 h3)
  · refine p (.ref Dl) (up S2 Dl (.lst acc)) (.ref Dl) H2 (hq Dl l2.out) (.ref Dl) (fun a c e => ?_) (fun a o e q => ?_)
    · by_cases ha : a = Dl
      · subst ha
        rw [up_same] at e
        cases e
        exact ⟨vacc, l2.at_, l2.rds⟩
      · rw [up_ne ha] at e
        exact l2.rp a c e
    · have ne : a ≠ Dl := by
        rintro rfl
        exact h0 o e q
      obtain ⟨k1, k2⟩ := l2.go a o e q
      exact ⟨k1, by rw [up_ne ne]; exact k2⟩
theorem r_lc2 {vs1 : List Nat} (hc : X.calm = true) (hN : X.N.Nodup) (hi : PI X tg iter (LI X (wSr Φ Γ cs))) (ok : BlkOk X.N X.env.scope scope own) (hv : ∀ i ∈ vs1, i ∈ own.map (·.2)) (hsl : SlotsIn t.slots (own.map (·.2))) (hsl1 : SlotsIn t1.slots vs1)
    (hg : InBlk X scope fun Y => PG Y tg (liftG X.K t)) (ht : InBlk X scope fun Y => PTs Y ifs (LT X (wT Φ Γ ct))) (hi1 : InBlk X scope fun Y => PI Y tg1 iter1 (LI X (wSr Φ Γ cs1))) (hg1 : InBlk X scope fun Y => PG Y tg1 (liftG X.K t1)) (ht1 : InBlk X scope fun Y => PTs Y ifs1 (LT X (wT Φ Γ ct1)))
    (he : InBlk X scope fun Y => PE Y elt (LE X (wE Φ Γ ce))) (hs : ∀ x, foldedSetIterable iter X.env x = pure x) (hs1 : ∀ env x, foldedSetIterable iter1 env x = pure x) :
    PE X (.ListComp elt [⟨tg, iter, ifs, 0⟩, ⟨tg1, iter1, ifs1, 0⟩] scope pos) (LE X (wE Φ Γ (.lc2 (own.map (·.2)) vs1 ce t cs ct t1 cs1 ct1))) :=
  peImp (pe_lc2 hc hN hi ok hv hg ht hi1 hg1 ht1 he hs hs1) fun σ H Q h => lc2_reads hsl hsl1 h
end
end Mn

/-! Mn: zip and enumerate over texts, tuples, lists. -/
namespace Mn
open PySem PySem.Spec L2
inductive Src where
  | txt (x : Str) (t : Tok) | tpl (a : Addr) | lst (a : Addr)
def Src.iter : Src → Addr → Nat → Heap → Prop
  | .txt x t, it, i, h => h.IsStrIter it (strIterType x) x t i
  | .tpl a, it, i, h => h.IsTupleIter it a i
  | .lst a, it, i, h => h.IsListIter it a i
def Src.now (K : PySem.W.Frag) (H : Hp) : Src → List V → Prop
  | .txt x _, xs => xs = x.cps.toList.map fun c => V.str ⟨#[c]⟩
  | .tpl a, xs => SqT K H a xs
  | .lst a, xs => SqL K H a xs
def Src.off : Src → Addr → Prop
  | .txt _ _, _ => True
  | .tpl a, b => a ≠ b
  | .lst a, b => a ≠ b
theorem Src.iter_at {s : Src} {it : Addr} {i : Nat} {h h' : Heap} (st : s.iter it i h) (k : ∀ o, h.get? it = some o → h'.get? it = some o) : s.iter it i h' := by
  cases s with
  | txt x t => obtain ⟨o, ho, r⟩ := st; exact ⟨o, k o ho, r⟩
  | tpl a => exact Heap.IsTupleIter.at st k
  | lst a => exact Heap.IsListIter.at st k
theorem Src.iter_obj {s : Src} {it : Addr} {i : Nat} {h : Heap} (st : s.iter it i h) : ∃ o, h.get? it = some o ∧ ∀ v, o.data ≠ .cell v := by
  cases s with
  | txt x t => obtain ⟨o, ho, c, d⟩ := st; exact ⟨o, ho, fun v z => by rw [d] at z; cases z⟩
  | tpl a => obtain ⟨o, ho, c, d⟩ := st; exact ⟨o, ho, fun v z => by rw [d] at z; cases z⟩
  | lst a => obtain ⟨o, ho, c, d⟩ := st; exact ⟨o, ho, fun v z => by rw [d] at z; cases z⟩
theorem vals_getV : ∀ {xs : List V} {us : List Value} {i : Nat} {u : Value}, Vals xs us → us[i]? = some u → ∃ x, xs[i]? = some x ∧ RelV x u
  | _, _, _, _, .nil, e => by simp at e
  | _, _, 0, _, .cons r _, e => by simp at e; subst e; exact ⟨_, rfl, r⟩
  | _, _, i + 1, x, .cons _ t, e => by
    obtain ⟨u, h1, h2⟩ := vals_getV (i := i) t (by simpa using e)
    exact ⟨u, by simpa using h1, h2⟩
section
variable {X : Cx} {pins : List (Addr × Obj)} {σ : L2.St} {H : Hp} {s : Shared}
theorem Src.now_inj (I : Inv X pins σ H s) {src : Src} {xs ys : List V} (h : src.now X.K H xs) (g : src.now X.K H ys) : xs = ys := by
  cases src with
  | txt x t => exact h.trans g.symm
  | tpl a => exact I.tuple_inj h g
  | lst a => exact I.list_inj h g
/-- what draws from the source -/
theorem src_draws (I : Inv X pins σ H s) (hh : X.A.handled = none) {src : Src} {xs : List V} (now : src.now X.K H xs) {it : Addr} {i : Nat} (st : src.iter it i s.heap) (ne : src.off it) :
    ∃ (fp : List Addr) (Pv : Nat → Value → Prop) (St : Nat → Heap → Prop), Draws X.prog X.w X.A.in1 it fp xs.length Pv St ∧ St i s.heap ∧ (∀ j v, Pv j v → ∃ x, xs[j]? = some x ∧ RelV x v) ∧ (∀ j h, St j h → src.iter it j h) ∧ it ∈ fp ∧ ∀ b ∈ fp, b = it ∨ ¬ src.off b := by
  cases src with
  | txt x t =>
    have e : xs = x.cps.toList.map fun c => V.str ⟨#[c]⟩ := now
    have el : xs.length = x.cps.size := by rw [e]; simp
    rw [el]
    refine ⟨_, _, _, Draws.text (A := X.A.in1) hh it x t, st, fun j v ⟨c, u, hc, hv⟩ => ⟨.str ⟨#[c]⟩, ?_, ?_⟩, fun _ _ h => h, by simp, fun b hb => .inl (by simpa using hb)⟩
    · rw [e]; simp [hc]
    · rw [hv]; exact ⟨u, rfl⟩
  | tpl a =>
    obtain ⟨its, rv, p, hz⟩ := I.tuple now
    have el : xs.length = its.toArray.size := by rw [rv.length]; simp
    rw [el]
    refine ⟨_, _, _, Draws.tuple (A := X.A.in1) hh it a ne its.toArray, ⟨st, p⟩, fun j v hv => ?_, fun _ _ h => h.1, by simp, fun b hb => ?_⟩
    · have hv' : its[j]? = some v := by simpa using hv
      exact vals_getV rv hv'
    · have : b = it ∨ b = a := by simpa using hb
      rcases this with e | e
      · exact .inl e
      · exact .inr fun z => z e.symm
  | lst a =>
    obtain ⟨its, rv, p, hz⟩ := I.list now
    have el : xs.length = its.toArray.size := by rw [rv.length]; simp
    rw [el]
    refine ⟨_, _, _, Draws.list (A := X.A.in1) hh it a ne its.toArray, ⟨st, p.isList⟩, fun j v hv => ?_, fun _ _ h => h.1, by simp, fun b hb => ?_⟩
    · have hv' : its[j]? = some v := by simpa using hv
      exact vals_getV rv hv'
    · have : b = it ∨ b = a := by simpa using hb
      rcases this with e | e
      · exact .inl e
      · exact .inr fun z => z e.symm
end
/-- zip of two sources -/
def Jz (K : PySem.W.Frag) (s1 s2 : Src) : It :=
  ⟨fun i H => ∃ (xs ys : List V), s1.now K H xs ∧ s2.now K H ys ∧ i < xs.length ∧ i < ys.length,
    fun i H v H' => ∃ T x y, v = .ref T ∧ H T = none ∧ H' = upd H T (.tup [x, y]) ∧ (∀ xs, s1.now K H xs → xs[i]? = some x) ∧ ∀ ys, s2.now K H ys → ys[i]? = some y,
    fun i H => ∃ xs ys : List V, s1.now K H xs ∧ s2.now K H ys ∧ (xs.length = i ∨ ys.length = i) ∧ i ≤ xs.length ∧ i ≤ ys.length⟩
structure ZApart (z TI TO i1 i2 : Addr) (s1 s2 : Src) : Prop where
  TIz : TI ≠ z
  TOz : TO ≠ z
  TITO : TI ≠ TO
  TIi1 : TI ≠ i1
  TIi2 : TI ≠ i2
  zi1 : z ≠ i1
  zi2 : z ≠ i2
  Oi1 : TO ≠ i1
  Oi2 : TO ≠ i2
  i12 : i1 ≠ i2
  o1 : s1.off z ∧ s1.off TO ∧ s1.off i1 ∧ s1.off i2
  o2 : s2.off z ∧ s2.off TO ∧ s2.off i1 ∧ s2.off i2
theorem zsep {z TI TO i1 i2 : Addr} {s1 s2 : Src} (D : ZApart z TI TO i1 i2 s1 s2) {fp1 fp2 : List Addr} (m1 : i1 ∈ fp1) (m2 : i2 ∈ fp2) (h1 : ∀ b ∈ fp1, b = i1 ∨ ¬ s1.off b) (h2 : ∀ b ∈ fp2, b = i2 ∨ ¬ s2.off b) : ZipSep2 z TI TO i1 i2 fp1 fp2 where
  TIz := D.TIz
  TOz := D.TOz
  TITO := D.TITO
  TIi1 := D.TIi1
  mem1 := m1
  zf1 := fun h => (h1 z h).elim D.zi1 fun q => q D.o1.1
  Tf1 := fun h => (h1 TO h).elim D.Oi1 fun q => q D.o1.2.1
  TIi2 := D.TIi2
  mem2 := m2
  zf2 := fun h => (h2 z h).elim D.zi2 fun q => q D.o2.1
  Tf2 := fun h => (h2 TO h).elim D.Oi2 fun q => q D.o2.2.1
  sep1_2 := fun h => (h2 i1 h).elim D.i12 fun q => q D.o2.2.2.1
  sep2_1 := fun h => (h1 i2 h).elim (Ne.symm D.i12) fun q => q D.o1.2.2.2
theorem turn_zg {P : Program} {w : World} {K : PySem.W.Frag} {elts : List Expr} {kk : Nat} {tpos : Pos} {z TI TO i1 i2 : Addr} {s1 s2 : Src} (D : ZApart z TI TO i1 i2 s1 s2) :
    Turn P w K (.Tuple elts kk tpos) (Jz K s1 s2) [z, TI, TO, i1, i2] z (fun i h => IsZip h z TI TO .none ∧ IsTupOf2 h TI (.ref i1) (.ref i2) ∧ (∃ x y, IsTupOf2 h TO x y) ∧ s1.iter i1 i h ∧ s2.iter i2 i h) where
  mem := by simp
  obj := fun i h st c hc => by
    obtain ⟨hz, hTI, ⟨x, y, hTO⟩, h1, h2⟩ := st
    have e' : c = z ∨ c = TI ∨ c = TO ∨ c = i1 ∨ c = i2 := by simpa using hc
    rcases e' with rfl | rfl | rfl | rfl | rfl
    · exact ⟨_, hz, fun v q => nomatch q⟩
    · exact ⟨_, hTI, fun v q => nomatch q⟩
    · exact ⟨_, hTO, fun v q => nomatch q⟩
    · exact Src.iter_obj h1
    · exact Src.iter_obj h2
  keep := fun i h h' st k => by
    obtain ⟨hz, hTI, ⟨x, y, hTO⟩, h1, h2⟩ := st
    exact ⟨k z (by simp) _ hz, k TI (by simp) _ hTI, ⟨x, y, k TO (by simp) _ hTO⟩, Src.iter_at h1 fun o q => k i1 (by simp) o q, Src.iter_at h2 fun o q => k i2 (by simp) o q⟩
  item := by
    intro X hP hw hK hc i pins s σ H E I hf st hg
    subst hP hw hK
    obtain ⟨hz, hTI, ⟨x0, y0, hTO⟩, h1, h2⟩ := st
    obtain ⟨xs, ys, n1, n2, l1, l2⟩ := hg
    obtain ⟨fp1, P1, St1, D1, t1, q1, r1, m1, f1⟩ := src_draws I (I.ok.hd hc) n1 h1 D.o1.2.2.1
    obtain ⟨fp2, P2, St2, D2, t2, q2, r2, m2, f2⟩ := src_draws I (I.ok.hd hc) n2 h2 D.o2.2.2.2
    have hzl : z < s.heap.objs.size := Heap.lt_size hz
    refine wpAny_pyNext_zipD2_item (zsep D m1 m2 f1 f2) D1 D2 hz hTI hTO t1 t2 l1 l2 fun u1 u2 h' tk p1 p2 z' TO' st1' st2' hT hsz hk => ?_
    obtain ⟨x, hx, rx⟩ := q1 i u1 p1
    obtain ⟨y, hy, ry⟩ := q2 i u2 p2
    refine ⟨_, rfl, wpAny_letOwnedTupleGo_zip (s := { s with heap := h', toks := tk }) z' fun h'' z'' sb => ?_⟩
    have hT2 : IsTupOf2 h'' s.heap.objs.size u1 u2 := (sb.2 _ (Nat.ne_of_gt hzl)).trans hT
    have new : ObjOk X.prog X.w (upd H s.heap.objs.size (.tup [x, y])) h'' s.heap.objs.size (.tup [x, y]) := ⟨show 2 ≤ sizeLine by decide, [u1, u2], .cons rx (.cons ry .nil), ⟨_, hT2, rfl, _, rfl⟩⟩
    have kept : ∀ c o, c ∉ [z, TI, TO, i1, i2] → s.heap.get? c = some o → h''.get? c = some o := fun c o hb q => by
      simp only [List.mem_cons, List.not_mem_nil, or_false, not_or] at hb
      exact (sb.2 c hb.1).trans (hk c o hb.1 hb.2.2.1 hb.2.2.2.1 hb.2.2.2.2 q)
    have I1 : Inv X pins σ (upd H s.heap.objs.size (.tup [x, y])) { s with heap := h'', toks := tk } := I.turnedNew kept hf (Nat.le_refl _) new
    refine ⟨.ref s.heap.objs.size, _, I1, rfl, ⟨_, x, y, rfl, I.hok.fresh (Nat.le_refl _), rfl, fun l hl => by rw [Src.now_inj I hl n1]; exact hx, fun l hl => by rw [Src.now_inj I hl n2]; exact hy⟩, ⟨z'', (sb.2 _ D.TIz).trans (hk _ _ D.TIz D.TITO D.TIi1 D.TIi2 hTI), ⟨u1, u2, (sb.2 _ D.TOz).trans TO'⟩, Src.iter_at (r1 _ _ st1') fun o q => (sb.2 _ (Ne.symm D.zi1)).trans q, Src.iter_at (r2 _ _ st2') fun o q => (sb.2 _ (Ne.symm D.zi2)).trans q⟩, fun c hcm => ?_⟩
    have hlt : c < s.heap.objs.size := by
      have e' : c = z ∨ c = TI ∨ c = TO ∨ c = i1 ∨ c = i2 := by simpa using hcm
      rcases e' with rfl | rfl | rfl | rfl | rfl
      · exact hzl
      · exact Heap.lt_size hTI
      · exact Heap.lt_size hTO
      · obtain ⟨_, e1, _⟩ := Src.iter_obj h1; exact Heap.lt_size e1
      · obtain ⟨_, e2, _⟩ := Src.iter_obj h2; exact Heap.lt_size e2
    rw [upd_ne (Nat.ne_of_lt hlt)]
    exact (hf c hcm).1
  done := by
    intro X hP hw hK hc i pins s σ H E I hf st hg
    subst hP hw hK
    obtain ⟨hz, hTI, ⟨x0, y0, hTO⟩, h1, h2⟩ := st
    obtain ⟨xs, ys, n1, n2, hend, l1, l2⟩ := hg
    obtain ⟨fp1, P1, St1, D1, t1, q1, r1, m1, f1⟩ := src_draws I (I.ok.hd hc) n1 h1 D.o1.2.2.1
    obtain ⟨fp2, P2, St2, D2, t2, q2, r2, m2, f2⟩ := src_draws I (I.ok.hd hc) n2 h2 D.o2.2.2.2
    refine wpAny_pyNext_zipD2_end (zsep D m1 m2 f1 f2) D1 D2 hz hTI hTO t1 t2 l1 l2 (hend.imp Eq.symm Eq.symm) fun h' tk hk => ⟨rfl, I.turnedL (ch := [z, TI, TO, i1, i2]) (fun c o hb q => ?_) hf⟩
    simp only [List.mem_cons, List.not_mem_nil, or_false, not_or] at hb
    exact hk c o hb.1 hb.2.2.1 hb.2.2.2.1 hb.2.2.2.2 q
  self := fun A i s Q E st h => wpAny_pyIter_zip st.1 h
theorem zipD_len : ∀ {xs ys : List D}, (zipD xs ys).length = min xs.length ys.length
  | [], ys => by unfold zipD; simp
  | x :: xs, [] => by unfold zipD; simp
  | x :: xs, y :: ys => by
    unfold zipD
    rw [List.length_cons, zipD_len, List.length_cons, List.length_cons]
    omega
theorem zipD_get : ∀ {xs ys : List D} {i : Nat} {x y : D}, xs[i]? = some x → ys[i]? = some y → (zipD xs ys)[i]? = some (.tup [x, y])
  | [], ys, i, x, y, h, _ => by simp at h
  | x :: xs, [], i, _, _, _, h => by simp at h
  | x :: xs, y :: ys, 0, a, b, h, g => by
    simp at h g
    subst h g
    rfl
  | x :: xs, y :: ys, i + 1, a, b, h, g => by
    unfold zipD
    rw [List.getElem?_cons_succ]
    exact zipD_get (by simpa using h) (by simpa using g)
theorem enumD_len : ∀ {xs : List D} {k : Nat}, (enumD k xs).length = xs.length
  | [], k => rfl
  | x :: xs, k => by
    unfold enumD
    rw [List.length_cons, enumD_len, List.length_cons]
theorem enumD_get : ∀ {xs : List D} {k i : Nat} {x : D}, xs[i]? = some x → (enumD k xs)[i]? = some (.tup [.int (k + i : Nat), x])
  | [], k, i, x, h => by simp at h
  | x :: xs, k, 0, a, h => by
    simp at h
    subst h
    rfl
  | x :: xs, k, i + 1, a, h => by
    unfold enumD
    rw [List.getElem?_cons_succ, enumD_get (by simpa using h)]
    congr 4
    omega
section
variable {X : Cx} {pins : List (Addr × Obj)} {σ : L2.St} {H : Hp} {s : Shared} {S : Sto}
/-- a value that a loop walks, as a source -/
theorem src_of (I : Inv X pins σ H s) (rp : Rp X.prog X.w X.K H S) {d : D} {x : V} {u : Value} (rd : RD X.K H d x) (r : RelV x u) {k : List D → (Sto → Prop) → Sto → Prop} (h : itD d S k) :
    ∃ (src : Src) (xs : List D) (G : Sto → Prop) (o : Obj) (Hs : Heap → Prop), k xs G S ∧ Begins u o Hs ∧ Hs s.heap ∧ (∀ (it : Addr) (h : Heap), h.get? it = some o → src.iter it 0 h) ∧
      (∀ H' S', Tx H H' → Rp X.prog X.w X.K H' S' → G S' → ∃ vs, src.now X.K H' vs ∧ RDs X.K H' xs vs) ∧ ∀ b, s.heap.objs.size ≤ b → src.off b := by
  cases rd <;> first | exact False.elim h | skip
  · obtain ⟨t, rfl⟩ := r
    rename_i z
    refine ⟨.txt z t, chars z, _, _, _, h, begins_text z t, trivial, fun it h e => ⟨_, e, rfl, rfl⟩, fun H' S' _ _ _ => ⟨_, rfl, ?_⟩, fun _ _ => trivial⟩
    unfold chars
    generalize z.cps.toList = l
    induction l with
    | nil => exact .nil
    | cons c l ih => exact .cons (.str _) ih
  · rename_i a ds vs hq rr
    cases r
    obtain ⟨its, rv, pt, hz⟩ := I.tuple hq
    refine ⟨.tpl a, ds, _, _, _, h, begins_tuple a its.toArray, pt, fun it h e => ⟨_, e, rfl, rfl⟩, fun H' S' t _ _ => ⟨vs, t.sqT hq, rr.tx t⟩, fun b hb z => ?_⟩
    obtain ⟨o, ho, _⟩ := id pt
    exact absurd (Heap.lt_size ho) (by rw [z]; exact Nat.not_lt.mpr hb)
  · rename_i a ds vs hq rr
    cases r
    obtain ⟨its, rv, pt, hz⟩ := I.list hq.seq
    refine ⟨.lst a, ds, _, _, _, h, begins_list a its.toArray, pt.isList, fun it h e => ⟨_, e, rfl, rfl⟩, fun H' S' t _ _ => ⟨vs, (t.sqR hq).seq, rr.tx t⟩, fun b hb z => ?_⟩
    exact absurd pt.lt (by rw [z]; exact Nat.not_lt.mpr hb)
  · rename_i a
    cases r
    obtain ⟨ds, e, h⟩ := h
    obtain ⟨vs, hq, rr⟩ := rp.lst e
    obtain ⟨its, rv, pt, hz⟩ := I.list (.of hq)
    refine ⟨.lst a, ds, _, _, _, h, begins_list a its.toArray, pt.isList, fun it h e => ⟨_, e, rfl, rfl⟩, fun H' S' t rp' g => ?_, fun b hb z => ?_⟩
    · obtain ⟨vs', hq', rr'⟩ := rp'.lst g
      exact ⟨vs', .of hq', rr'⟩
    · exact absurd pt.lt (by rw [z]; exact Nat.not_lt.mpr hb)
theorem it_zip {P : Program} {w : World} {K : PySem.W.Frag} {H0 : Hp} {s1 s2 : Src} {xs ys : List D} {G1 G2 : Sto → Prop} (a1 : ∀ H' S', Tx H0 H' → Rp P w K H' S' → G1 S' → ∃ vs, s1.now K H' vs ∧ RDs K H' xs vs) (a2 : ∀ H' S', Tx H0 H' → Rp P w K H' S' → G2 S' → ∃ vs, s2.now K H' vs ∧ RDs K H' ys vs) :
    ItOk P w K H0 (Jz K s1 s2) (zipD xs ys) (fun S => G1 S ∧ G2 S) where
  go := fun i H S t rp g hi => by
    obtain ⟨vs, n1, r1⟩ := a1 H S t rp g.1
    obtain ⟨us, n2, r2⟩ := a2 H S t rp g.2
    rw [zipD_len] at hi
    exact ⟨vs, us, n1, n2, by rw [← r1.length]; omega, by rw [← r2.length]; omega⟩
  yld := fun i H S v H' t rp g hi ⟨T, x, y, e1, hT, e2, y1, y2⟩ => by
    subst e1 e2
    obtain ⟨vs, n1, r1⟩ := a1 H S t rp g.1
    obtain ⟨us, n2, r2⟩ := a2 H S t rp g.2
    obtain ⟨d, hd, rd⟩ := r1.getV (y1 vs n1)
    obtain ⟨e, he, re⟩ := r2.getV (y2 us n2)
    have tn : Tx H (upd H T (.tup [x, y])) := .new hT
    exact ⟨_, zipD_get hd he, .tup (SqT.of upd_same) (.cons (rd.tx tn) (.cons (re.tx tn) .nil)), rp.new hT (rp.free hT), .new hT⟩
  stop := fun i H S t rp g hi => by
    obtain ⟨vs, n1, r1⟩ := a1 H S t rp g.1
    obtain ⟨us, n2, r2⟩ := a2 H S t rp g.2
    rw [zipD_len] at hi
    have := r1.length
    have := r2.length
    exact ⟨vs, us, n1, n2, by omega, by omega, by omega⟩
variable {Φ : Str → Option SpD} {Γ : Str → Option D} {pos : Pos} {a b : Expr} {ca cb : Cd}
theorem r_zip {p1 tpos : Pos} {elts : List Expr} {kk : Nat} (hg : Gl X "zip") (hm : X.mg "zip" = none) (hn : noStar a = true) (hn2 : noStar b = true) (ha : PE X a (LE X (wE Φ Γ ca))) (hb : PE X b (LE X (wE Φ Γ cb))) :
    PI X (.Tuple elts kk tpos) (.Call (.Name "zip" p1) [a, b] [] pos) (LI X (wSr Φ Γ (.zip ca cb))) := by
  refine ⟨fun pins s σ H R I h => ?_⟩
  obtain ⟨env, S, T, re, rp, h, p⟩ := h
  have hA := (pa_cons ha (pa_cons hb pa_nil (star_cons hn2)) (star_cons hn)).run pos pins s σ H (fun vs H2 => ∃ d e S2 v u, vs = [v, u] ∧ RD X.K H2 d v ∧ RD X.K H2 e u ∧ Rp X.prog X.w X.K H2 S2 ∧ Go H S H2 S2 ∧ itD d S2 fun xs G S3 => itD e S3 fun ys G' S4 => T (zipD xs ys) (fun S => G S ∧ G' S) S4) I
    (lift_step (Q := fun _ _ => True) re rp h fun d S1 v H1 h1 rd re1 rp1 g1 _ => lift_step (Q := fun _ _ => True) re1 rp1 h1 fun e S2 u H2 h2 rd2 re2 rp2 g2 t2 => ⟨d, e, S2, v, u, rfl, rd.tx t2, rd2, rp2, g1.trans g2, h2⟩)
  refine PyProof.Rows.Call_ (ld_blt I hg hm PyProof.Rows.boot_zip (PyProof.Rows.callWith_type1 (thn hA fun us s1 ⟨vs, H1, I1, r1, q1⟩ => ?_) (star_cons hn) (by rw [star_cons hn2]; rfl)))
  obtain ⟨d, e, S2, v, u, rfl, rd, re', rp2, g, hT⟩ := q1
  obtain ⟨v1, u1, rfl, rv1, ru1⟩ := Vals.two r1
  obtain ⟨s1', xs, G1, o1, H1s, hT, B1, b1, i1, n1, off1⟩ := src_of I1 rp2 rd rv1 hT
  obtain ⟨s2', ys, G2, o2, H2s, hT, B2, b2, i2, n2, off2⟩ := src_of I1 rp2 re' ru1 hT
  refine zip_begins2 B1 B2 b1 b2 fun h' hz hTI hTO g1 g2 hsz hk => wpAny_pyIter_zip hz ?_
  have I2 : Inv X pins σ H1 { s1 with heap := h' } := I1.kept (t' := s1.toks) hk
  have D : ZApart (s1.heap.objs.size + 4) (s1.heap.objs.size + 2) (s1.heap.objs.size + 3) s1.heap.objs.size (s1.heap.objs.size + 1) s1' s2' :=
    ⟨show (_ + 2 : Nat) ≠ _ + 4 by omega, show (_ + 3 : Nat) ≠ _ + 4 by omega, show (_ + 2 : Nat) ≠ _ + 3 by omega, show (_ + 2 : Nat) ≠ _ by omega, show (_ + 2 : Nat) ≠ _ + 1 by omega, show (_ + 4 : Nat) ≠ _ by omega, show (_ + 4 : Nat) ≠ _ + 1 by omega,
      show (_ + 3 : Nat) ≠ _ by omega, show (_ + 3 : Nat) ≠ _ + 1 by omega, show (_ : Nat) ≠ _ + 1 by omega, ⟨off1 _ (Nat.le_add_right _ _), off1 _ (Nat.le_add_right _ _), off1 _ (Nat.le_refl _), off1 _ (Nat.le_add_right _ _)⟩, ⟨off2 _ (Nat.le_add_right _ _), off2 _ (Nat.le_add_right _ _), off2 _ (Nat.le_refl _), off2 _ (Nat.le_add_right _ _)⟩⟩
  refine ⟨s1.heap.objs.size + 4, [s1.heap.objs.size + 4, s1.heap.objs.size + 2, s1.heap.objs.size + 3, s1.heap.objs.size, s1.heap.objs.size + 1], _, _, H1, rfl, I2, turn_zg D, ⟨hz, hTI, ⟨_, _, hTO⟩, i1 _ _ g1, i2 _ _ g2⟩, fun c hcm => ?_, p _ _ _ _ _ hT rp2 g (it_zip n1 n2)⟩
  have e' : c = s1.heap.objs.size + 4 ∨ c = s1.heap.objs.size + 2 ∨ c = s1.heap.objs.size + 3 ∨ c = s1.heap.objs.size ∨ c = s1.heap.objs.size + 1 := by simpa using hcm
  have hle : s1.heap.objs.size ≤ c := by
    rcases e' with z | z | z | z | z <;> rw [z] <;> first | exact Nat.le_add_right _ _ | exact Nat.le_refl _
  exact I1.fpOk hle (I1.hok.fresh hle)
end
/-! enumerate -/
def Je (K : PySem.W.Frag) (s1 : Src) : It :=
  ⟨fun i H => ∃ (xs : List V), s1.now K H xs ∧ i < xs.length,
    fun i H v H' => ∃ T x, v = .ref T ∧ H T = none ∧ H' = upd H T (.tup [.int (i : Nat), x]) ∧ ∀ xs, s1.now K H xs → xs[i]? = some x,
    fun i H => ∃ xs : List V, s1.now K H xs ∧ xs.length = i⟩
theorem meets_en1 {v : Value} {o : Obj} {H : Heap → Prop} (B : Begins v o H) :
    Meets (Builtin.«enumerate.__new__» ⟨[.type "enumerate", v], []⟩) (fun _ R s => H s.heap ∧
      R (.ok (.ret (.ref (s.heap.push o).objs.size))) { s with heap := (s.heap.push o).push { cls := .type "enumerate", data := .fields #[.none, .bool false, .ref s.heap.objs.size, rawInt 0, .none, .none] } }) :=
  .of_wp fun prog w A R s h => by
    obtain ⟨hp, g, d, tk, os⟩ := s
    obtain ⟨h1, h⟩ := h
    have hsub := sub_enumerate
    have qB : ∀ {A' : Around} {E : Value → Shared → Prop} {Q : Value → Shared → Prop}, Q (.ref hp.objs.size) ⟨hp.push o, g, d, tk, os⟩ → wpAny (model prog w) A' (pyIter v) Q E ⟨hp, g, d, tk, os⟩ := fun q => B.iter prog w _ _ ⟨hp, g, d, tk, os⟩ _ h1 q
    wp_walk using qB
    refine wpAny_stack_any fun st => wpAny_pure ?_
    split
    · rename_i c _ _ _ _ _
      cases (c == Value.type "enumerate")
      · wp_walk using qB
        exact ⟨_, rfl, h⟩
      · wp_walk using qB
        exact ⟨_, rfl, h⟩
    · wp_walk using qB
      exact ⟨_, rfl, h⟩
theorem enum_begins1 {prog : Program} {w : World} {A : Around} {E : Value → Shared → Prop} {s : Shared} {v : Value} {o : Obj} {H : Heap → Prop} {Q : Value → Shared → Prop} (B : Begins v o H) (h1 : H s.heap)
    (h : ∀ h', IsEnum h' (s.heap.objs.size + 1) s.heap.objs.size 0 .none → h'.get? s.heap.objs.size = some o → (∀ b o, s.heap.get? b = some o → h'.get? b = some o) → Q (.ref (s.heap.objs.size + 1)) { s with heap := h' }) :
    wpAny (model prog w) A (call (.type "enumerate") [v]) Q E s := by
  refine callType_new F.called_enumerate (by decide) (F.typeCall_enumerate_1 _) (F.newCall_enumerate_1 _) (fun obj => F.args_object_init_2 obj _) F.entry_enumerate_new (meets_en1 B) ⟨h1, ?_⟩
  have hz : (s.heap.push o).objs.size = s.heap.objs.size + 1 := Heap.size_push ..
  have he := Heap.get?_push_size (s.heap.push o) (o := { cls := .type "enumerate", data := .fields #[.none, .bool false, .ref s.heap.objs.size, rawInt 0, .none, .none] }) rfl
  rw [hz] at he
  show _ ∧ _
  rw [hz]
  exact ⟨⟨_, he, rfl⟩, h _ he (Heap.get?_push_of_some _ (Heap.get?_push_size _ B.free)) fun b o x => Heap.get?_push_of_some _ (Heap.get?_push_of_some _ x)⟩
theorem turn_eg {P : Program} {w : World} {K : PySem.W.Frag} {elts : List Expr} {kk : Nat} {tpos : Pos} {e it : Addr} {s1 : Src} (hne : e ≠ it) (o1 : s1.off e) (o2 : s1.off it) :
    Turn P w K (.Tuple elts kk tpos) (Je K s1) [e, it] e (fun i h => (∃ old, IsEnum h e it ((i : Nat) : Int) old) ∧ s1.iter it i h) where
  mem := by simp
  obj := fun i h st b hb => by
    obtain ⟨⟨old, he⟩, h1⟩ := st
    have e' : b = e ∨ b = it := by simpa using hb
    rcases e' with rfl | rfl
    · exact ⟨_, he, fun v q => nomatch q⟩
    · exact Src.iter_obj h1
  keep := fun i h h' st k => let ⟨⟨old, he⟩, h1⟩ := st; ⟨⟨old, k e (by simp) _ he⟩, Src.iter_at h1 fun o q => k it (by simp) o q⟩
  item := by
    intro X hP hw hK hc i pins s σ H E I hf st hg
    subst hP hw hK
    obtain ⟨⟨old, he⟩, h1⟩ := st
    obtain ⟨xs, n1, l1⟩ := hg
    obtain ⟨fp1, P1, St1, D1, t1, q1, r1, m1, f1⟩ := src_draws I (I.ok.hd hc) n1 h1 o2
    have hel : e < s.heap.objs.size := Heap.lt_size he
    refine wpAny_pyNext_enum_itemD D1 he t1 l1 hne (fun h => (f1 e h).elim hne fun q => q o1) fun u h' tk p1 ho st1' hT hsz hk => ?_
    obtain ⟨x, hx, rx⟩ := q1 i u p1
    refine ⟨_, rfl, wpAny_letOwnedTupleGo_enum (s := { s with heap := h', toks := tk + 1 }) ho fun h'' he' sb => ?_⟩
    have hT2 : h''.get? s.heap.objs.size = some { cls := .type "tuple", data := .seq #[.int i tk, u] } := (sb.2 _ (Nat.ne_of_gt hel)).trans hT
    have new : ObjOk X.prog X.w (upd H s.heap.objs.size (.tup [.int (i : Nat), x])) h'' s.heap.objs.size (.tup [.int (i : Nat), x]) := ⟨show 2 ≤ sizeLine by decide, [.int i tk, u], .cons ⟨_, rfl⟩ (.cons rx .nil), ⟨_, hT2, rfl, _, rfl⟩⟩
    have kept : ∀ c o, c ∉ [e, it] → s.heap.get? c = some o → h''.get? c = some o := fun c o hb q => by
      simp only [List.mem_cons, List.not_mem_nil, or_false, not_or] at hb
      exact (sb.2 c hb.1).trans (hk c o hb.1 hb.2 q)
    have I1 : Inv X pins σ (upd H s.heap.objs.size (.tup [.int (i : Nat), x])) { s with heap := h'', toks := tk + 1 } := I.turnedNew kept hf (Nat.le_refl _) new
    refine ⟨.ref s.heap.objs.size, _, I1, rfl, ⟨_, x, rfl, I.hok.fresh (Nat.le_refl _), rfl, fun l hl => by rw [Src.now_inj I hl n1]; exact hx⟩, ⟨⟨u, ?_⟩, Src.iter_at (r1 _ _ st1') fun o q => (sb.2 it (Ne.symm hne)).trans q⟩, fun b hb => ?_⟩
    · have e1 : ((i + 1 : Nat) : Int) = (i : Int) + 1 := by omega
      rw [e1]
      exact he'
    · have hb' : b < s.heap.objs.size := by
        have e' : b = e ∨ b = it := by simpa using hb
        rcases e' with rfl | rfl
        · exact hel
        · obtain ⟨_, e1, _⟩ := Src.iter_obj h1; exact Heap.lt_size e1
      rw [upd_ne (Nat.ne_of_lt hb')]
      exact (hf b hb).1
  done := by
    intro X hP hw hK hc i pins s σ H E I hf st hg
    subst hP hw hK
    obtain ⟨⟨old, he⟩, h1⟩ := st
    obtain ⟨xs, n1, l1⟩ := hg
    obtain ⟨fp1, P1, St1, D1, t1, q1, r1, m1, f1⟩ := src_draws I (I.ok.hd hc) n1 h1 o2
    subst l1
    refine wpAny_pyNext_enum_endD D1 he t1 fun h' eb => ⟨rfl, I.turnedL (t' := s.toks) (ch := [e, it]) (fun c o hb q => eb c o (fun z => hb (by simp [z])) q) hf⟩
  self := fun A i s Q E st h => let ⟨⟨_, he⟩, _⟩ := st; wpAny_pyIter_enum he h
theorem it_enum {P : Program} {w : World} {K : PySem.W.Frag} {H0 : Hp} {s1 : Src} {xs : List D} {G1 : Sto → Prop} (a1 : ∀ H' S', Tx H0 H' → Rp P w K H' S' → G1 S' → ∃ vs, s1.now K H' vs ∧ RDs K H' xs vs) : ItOk P w K H0 (Je K s1) (enumD 0 xs) G1 where
  go := fun i H S t rp g hi => by
    obtain ⟨vs, n1, r1⟩ := a1 H S t rp g
    rw [enumD_len] at hi
    exact ⟨vs, n1, by rw [← r1.length]; omega⟩
  yld := fun i H S v H' t rp g hi ⟨T, x, e1, hT, e2, y1⟩ => by
    subst e1 e2
    obtain ⟨vs, n1, r1⟩ := a1 H S t rp g
    obtain ⟨d, hd, rd⟩ := r1.getV (y1 vs n1)
    have tn : Tx H (upd H T (.tup [.int (i : Nat), x])) := .new hT
    refine ⟨_, enumD_get hd, .tup (SqT.of upd_same) ?_, rp.new hT (rp.free hT), .new hT⟩
    rw [Nat.zero_add]
    exact .cons (.int _) (.cons (rd.tx tn) .nil)
  stop := fun i H S t rp g hi => by
    obtain ⟨vs, n1, r1⟩ := a1 H S t rp g
    rw [enumD_len] at hi
    exact ⟨vs, n1, by rw [← r1.length]; omega⟩
section
variable {X : Cx} {Φ : Str → Option SpD} {Γ : Str → Option D} {pos : Pos} {a b : Expr} {ca cb : Cd}
theorem r_enm {p1 tpos : Pos} {elts : List Expr} {kk : Nat} (hg : Gl X "enumerate") (hm : X.mg "enumerate" = none) (hn : noStar a = true) (ha : PE X a (LE X (wE Φ Γ ca))) :
    PI X (.Tuple elts kk tpos) (.Call (.Name "enumerate" p1) [a] [] pos) (LI X (wSr Φ Γ (.enm ca))) := by
  refine ⟨fun pins s σ H R I h => ?_⟩
  obtain ⟨env, S, T, re, rp, h, p⟩ := h
  have hA := (pa_cons ha pa_nil (star_cons hn)).run pos pins s σ H (fun vs H2 => ∃ d S2 v, vs = [v] ∧ RD X.K H2 d v ∧ Rp X.prog X.w X.K H2 S2 ∧ Go H S H2 S2 ∧ itD d S2 fun xs G S3 => T (enumD 0 xs) G S3) I
    (lift_step (Q := fun _ _ => True) re rp h fun d S1 v H1 h1 rd re1 rp1 g1 _ => ⟨d, S1, v, rfl, rd, rp1, g1, h1⟩)
  refine PyProof.Rows.Call_ (ld_blt I hg hm PyProof.Rows.boot_enumerate (PyProof.Rows.callWith_type1 (thn hA fun us s1 ⟨vs, H1, I1, r1, q1⟩ => ?_) (star_cons hn) rfl))
  obtain ⟨d, S2, v, rfl, rd, rp2, g, hT⟩ := q1
  obtain ⟨v1, rfl, rv1⟩ := Vals.one r1
  obtain ⟨s1', xs, G1, o1, H1s, hT, B1, b1, i1, n1, off1⟩ := src_of I1 rp2 rd rv1 hT
  refine enum_begins1 B1 b1 fun h' he g1 hk => wpAny_pyIter_enum he ?_
  have I2 : Inv X pins σ H1 { s1 with heap := h' } := I1.kept (t' := s1.toks) hk
  refine ⟨s1.heap.objs.size + 1, [s1.heap.objs.size + 1, s1.heap.objs.size], _, _, H1, rfl, I2, turn_eg (show (_ + 1 : Nat) ≠ _ by omega) (off1 _ (Nat.le_add_right _ _)) (off1 _ (Nat.le_refl _)), ⟨⟨_, he⟩, i1 _ _ g1⟩, fun c hcm => ?_, p _ _ _ _ _ hT rp2 g (it_enum n1)⟩
  have e' : c = s1.heap.objs.size + 1 ∨ c = s1.heap.objs.size := by simpa using hcm
  have hle : s1.heap.objs.size ≤ c := by
    rcases e' with z | z <;> rw [z] <;> first | exact Nat.le_add_right _ _ | exact Nat.le_refl _
  exact I1.fpOk hle (I1.hok.fresh hle)
end
end Mn

/-! Mn: dict displays of one pair, dict comprehensions, a dict's keys walked, reversed(range). -/
namespace Mn
open PySem PySem.Spec L2
open PyProof.Rows (Call_)
/-- d[k] = v on a dict's object, the store aside -/
theorem d_putN {X : Cx} {pins : List (Addr × Obj)} {σ : L2.St} {H : Hp} {s : Shared} {E : Value → Shared → Prop} {D b : Addr} {kd : Mn.D} {xs : List (NestedKey × Addr × V)} {kvs : List (Mn.D × Mn.D)} {ep : Nat} {z : V} {u : Value} {Q : Unit → Shared → Prop} (hu : X.A.units + 65 < cLine) (I : Inv X pins σ H s)
    (hD : H D = some (.ext (DPhi X.prog X.w D xs ep))) (kr : Paired (KR X.K H) kvs xs) (nd : (xs.map (·.1)).Nodup) (dp : ∀ x ∈ xs, x.1.depth ≤ 8) (hz : kvs.length < sizeLine) (rk : RD X.K H kd (.ref b)) (pk : kd.pure = true) (dk : kd.key.depth ≤ 8)
    (rv : RelV z u) (h : ∀ s' ep', Inv X pins σ (upd H D (.ext (DPhi X.prog X.w D (storedV xs kd.key b z) ep'))) s' → Q () s') : wpAny (model X.prog X.w) X.A (dictSet D (.ref b) u) Q E s := by
  obtain ⟨ob, es, us, g1, g2, g3, er, dh, _⟩ := dict_of I hD kr nd dp
  have hk := key_of I rk pk dk
  have hr : (nestedKind X.prog X.w).room X.A := by show X.A.units + 8 < cLine; omega
  have lx : xs.length = kvs.length := (Paired.length kr).symm
  have lu : us.length = kvs.length := (Paired.length er).symm.trans lx
  refine wpAny_dictSet_heap hr hk dh (fun h' hm hsb => ?_) (by omega)
  obtain ⟨o', es', ep', e', ex', dt', el', _, _⟩ := id hm
  have es2 := er_stored (k := kd.key) (a := b) rv er
  have phi : DPhi X.prog X.w D (storedV xs kd.key b z) ep' h' := ⟨o', es', _, e', ex', dt', es2, el'⟩
  have ok : ObjOk X.prog X.w (upd H D (.ext (DPhi X.prog X.w D (storedV xs kd.key b z) ep'))) h' D (.ext (DPhi X.prog X.w D (storedV xs kd.key b z) ep')) :=
    ⟨phi, ⟨o', e'⟩, fun h1 h2 ⟨oo, ee, uu, a1, a2⟩ k2 => ⟨oo, ee, uu, k2 _ a1, a2⟩⟩
  have I' := I.write (x := D) (e := D) (t' := s.toks + (nestedKind X.prog X.w).draws kd.key) (by rw [hD]; trivial) (.inl rfl) (fun c o2 hc q2 => (hsb.2 c hc).trans q2) ⟨o', e'⟩ ok
  exact h _ ep' I'
theorem phi_new (P : Program) (w : World) (h : Heap) : DPhi P w h.objs.size [] 0 (h.push { cls := .type "dict", data := .dict #[] }) := ⟨_, #[], [], Heap.get?_push_size _ rfl, ⟨rfl, rfl, rfl⟩, rfl, .nil, rfl⟩
theorem inv_new {X : Cx} {pins : List (Addr × Obj)} {σ : L2.St} {H : Hp} {s : Shared} (I : Inv X pins σ H s) {t' : Nat} : Inv X pins σ (upd H s.heap.objs.size (.ext (DPhi X.prog X.w s.heap.objs.size [] 0))) { s with heap := s.heap.push { cls := .type "dict", data := .dict #[] }, toks := t' } :=
  I.laid (a := s.heap.objs.size) (o := .ext (DPhi X.prog X.w s.heap.objs.size [] 0)) (t' := t') (fun _ _ q => Heap.get?_push_of_some _ q) (Nat.le_refl _) ⟨phi_new X.prog X.w s.heap, ⟨_, Heap.get?_push_size _ rfl⟩, fun h1 h2 ⟨oo, ee, uu, a1, a2⟩ k2 => ⟨oo, ee, uu, k2 _ a1, a2⟩⟩
/-- a hidden dict is shown to the store -/
theorem dct_shown {P : Program} {w : World} {K : PySem.W.Frag} {H : Hp} {S : Sto} {D : Addr} {kvs : List (Mn.D × Mn.D)} {xs : List (NestedKey × Addr × V)} {ep : Nat} (h0 : (D == sysModules) = false) (rp : Rp P w K H S) (hD : H D = some (.ext (DPhi P w D xs ep))) (kr : Paired (KR K H) kvs xs) (nd : (xs.map (·.1)).Nodup) (dp : ∀ x ∈ xs, x.1.depth ≤ 8) (hz : kvs.length ≤ sizeLine) :
    Rp P w K H (up S D (.dct kvs ep)) := fun c cc ec => by
  by_cases hc : c = D
  · subst hc
    rw [up_same] at ec
    cases ec
    exact ⟨h0, hz, xs, hD, kr, nd, dp⟩
  · rw [up_ne hc] at ec
    exact rp c cc ec
section
variable {X : Cx} {Φ : Str → Option SpD} {Γ : Str → Option D} {pos : Pos} {a b : Expr} {ca cb : Cd}
theorem r_dd (hu : X.A.units + 65 < cLine) (ha : PE X a (LE X (wE Φ Γ ca))) (hb : PE X b (LE X (wE Φ Γ cb))) : PE X (.Dict [some a] [b] pos) (LE X (wE Φ Γ (.dd ca cb))) := by
  refine ⟨fun pins s σ H Q I h => ?_⟩
  obtain ⟨env, S, R, re, rp, h, p⟩ := h
  generalize hD : s.heap.objs.size = D
  have hn : H D = none := I.hok.fresh (Nat.le_of_eq hD)
  have hS := rp.free hn
  have hDs : (D == sysModules) = false := beq_eq_false_iff_ne.mpr (by rw [← hD]; exact Ne.symm (Nat.ne_of_lt I.big))
  have I1 := inv_new (t' := s.toks) I
  rw [hD] at I1
  have tn : Tx H (upd H D (.ext (DPhi X.prog X.w D [] 0))) := .new hn
  have rp1 : Rp X.prog X.w X.K (upd H D (.ext (DPhi X.prog X.w D [] 0))) S := rp.new hn hS
  have g0 : Go H S (upd H D (.ext (DPhi X.prog X.w D [] 0))) S := .new hn
  have hr : (nestedKind X.prog X.w).room X.A := by show X.A.units + 8 < cLine; omega
  have hshape := zip_pairTrees [some a] [b] X.env pos rfl rfl
  rw [arm_eval_Dict, hshape, dictDisplay_pairs (pairTrees [some a] [b] X.env pos) (by intro e; have := pairTrees_length [some a] [b] X.env pos rfl rfl; rw [e] at this; cases this) (by have := pairTrees_length [some a] [b] X.env pos rfl rfl; rw [this]; show 1 < 17; decide)]
  refine wpAny_bind (wpAny_standAt (wpAny_bind (wpAny_subDictH (knd := nestedKind X.prog X.w) (Q := fun d s' => wpAny (model X.prog X.w) X.A (pure (Value.ref d)) _ X.xe s') hr (by have := pairTrees_length [some a] [b] X.env pos rfl rfl; rw [this]; show 1 ≤ 15; decide) ?_)))
  refine wpAny_mono ((pps_cons ha hb pps_nil).run pins _ σ _ (fun ps H2 => ∃ x y kd vd S2, ps = [(x, y)] ∧ RD X.K H2 kd x ∧ RD X.K H2 vd y ∧ Rp X.prog X.w X.K H2 S2 ∧ Go (upd H D (.ext (DPhi X.prog X.w D [] 0))) S H2 S2 ∧
    isTup kd = true ∧ kd.pure = true ∧ kd.key.depth ≤ 8 ∧ ∀ p, S2 p = none → ∀ ep, R (.ref p) (up S2 p (.dct [(kd, vd)] ep))) I1 ?_) (fun vs s2 q => ?_) fun _ _ e => e
  · exact lift_step (Q := fun _ _ => True) (re.tx tn) rp1 h fun kd S1 x H1 h1 rd re1 rp1' g1 _ => lift_step (Q := fun _ _ => True) re1 rp1' h1 fun vd S2 y H2 h2 rd2 re2 rp2 g2 t2 =>
      ⟨x, y, kd, vd, S2, rfl, rd.tx t2, rd2, rp2, g1.trans g2, h2.1, h2.2.1, h2.2.2.1, h2.2.2.2⟩
  · obtain ⟨ps, H2, I2, rel, x, y, kd, vd, S2, rfl, rk, rv, rp2, g2, it, pk, dk, hR⟩ := q
    have hD2 : H2 D = some (.ext (DPhi X.prog X.w D [] 0)) ∧ S2 D = none := g2 D _ upd_same hS
    cases rk <;> first | (cases it; done) | skip
    rename_i b ds vs' q r
    cases rel with
    | @cons _ pr _ _ h12 t =>
    obtain ⟨u1, u2⟩ := pr
    cases t
    obtain ⟨h1, h2⟩ := h12
    have e1 : u1 = Value.ref b := h1
    subst e1
    have rk : RD X.K H2 (.tup ds) (.ref b) := .tup q r
    have hk := key_of I2 rk pk dk
    obtain ⟨ob, es, us, q1, q2, q3, er, dh, _⟩ := dict_of (kvs := []) I2 hD2.1 .nil List.nodup_nil (fun _ hx => by cases hx)
    cases er
    show ∃ ps, CarriesH _ s2.heap _ ps ∧ s2.heap.DictOfH _ s.heap.objs.size [] ∧ _
    rw [hD]
    refine ⟨[((Mn.D.tup ds).key, b, u2)], ⟨rfl, rfl, hk, trivial⟩, dh, fun h' tk hm hsb => wpAny_pure ?_⟩
    obtain ⟨o', es', ep', e', ex', dt', el', _, _⟩ := id hm
    have el2 : es'.toList = [((Mn.D.tup ds).key, b, u2)].map (entryOfKey (nestedKind X.prog X.w)) := el'
    have phi : DPhi X.prog X.w D [((Mn.D.tup ds).key, b, y)] ep' h' := ⟨o', es', _, e', ex', dt', .cons ⟨rfl, rfl, h2⟩ .nil, el2⟩
    have ok : ObjOk X.prog X.w (upd H2 D (.ext (DPhi X.prog X.w D [((Mn.D.tup ds).key, b, y)] ep'))) h' D (.ext (DPhi X.prog X.w D [((Mn.D.tup ds).key, b, y)] ep')) :=
      ⟨phi, ⟨o', e'⟩, fun h1 h2 ⟨oo, ee, uu, a1, a2⟩ k2 => ⟨oo, ee, uu, k2 _ a1, a2⟩⟩
    have I' := I2.write (x := D) (e := D) (t' := tk) (by rw [hD2.1]; trivial) (.inl rfl) (fun c o2 hc q2 => (hsb.2 c hc).trans q2) ⟨o', e'⟩ ok
    have t3 : Tx H2 (upd H2 D (.ext (DPhi X.prog X.w D [((Mn.D.tup ds).key, b, y)] ep'))) := .mut hD2.1 trivial
    have rp3 : Rp X.prog X.w X.K (upd H2 D (.ext (DPhi X.prog X.w D [((Mn.D.tup ds).key, b, y)] ep'))) S2 := fun c cc ec => (rp2 c cc ec).keep t3 (upd_ne (by rintro rfl; rw [hD2.2] at ec; cases ec))
    refine ⟨.ref D, _, I', rfl, p _ _ _ _ (hR D hD2.2 ep') (.ref D) (dct_shown (xs := [((Mn.D.tup ds).key, b, y)]) hDs rp3 upd_same (KR.tx t3 (.cons ⟨rfl, pk, rk, rv⟩ .nil)) (by simp) (fun x hx => by rw [List.mem_singleton.mp hx]; exact dk) (by show 1 ≤ sizeLine; decide)) (fun c o ec eS => ?_)⟩
    have ne : c ≠ D := by rintro rfl; rw [hn] at ec; cases ec
    obtain ⟨k1, k2⟩ := (g0.trans g2) c o ec eS
    exact ⟨by rw [upd_ne ne]; exact k1, by rw [up_ne ne]; exact k2⟩
/-! the keys of a dict -/
def ItkN (P : Program) (w : World) (a : Addr) (n ep : Nat) : It :=
  ⟨fun i H => ∃ xs, H a = some (.ext (DPhi P w a xs ep)) ∧ xs.length = n ∧ i < n, fun i H x H' => H' = H ∧ ∀ xs, H a = some (.ext (DPhi P w a xs ep)) → xs.length = n → ∃ y, xs[i]? = some y ∧ x = .ref y.2.1, fun i H => ∃ xs, H a = some (.ext (DPhi P w a xs ep)) ∧ xs.length = n ∧ n ≤ i⟩
theorem turn_keysN {P : Program} {w : World} {K : PySem.W.Frag} {tg : Expr} {a : Addr} {n ep : Nat} (it : Addr) : Turn P w K tg (ItkN P w a n ep) [it] it (fun i h => h.IsKeyIter it a i n ep) where
  mem := by simp
  obj := fun i h st b hb => by
    have e : b = it := by simpa using hb
    subst e
    obtain ⟨oi, e, c, dd⟩ := st
    exact ⟨oi, e, fun v z => by rw [dd] at z; cases z⟩
  keep := fun i h h' st k => st.at fun oi e => k it (by simp) oi e
  item := by
    intro X hP hw hK hc i pins s σ H E I hf st hg
    subst hP hw hK
    obtain ⟨xs, hd, hl, hi⟩ := hg
    obtain ⟨f0, f1, f2, f3, f4, f5⟩ := hf it (by simp)
    obtain ⟨⟨o, es, us, hgd, hx, hdt, er, el⟩, _, _⟩ := I.hok a _ hd
    have lu : us.length = xs.length := (Paired.length er).symm
    have hsz : es.size = n := by rw [← Array.length_toList, el, List.length_map, lu, hl]
    obtain ⟨u, hu, r1, r2, r3⟩ := paired_get er (List.getElem?_eq_getElem (by omega : i < xs.length))
    have hen : es[i]? = some (entryOfKey (nestedKind X.prog X.w) u) := by rw [← Array.getElem?_toList, el, List.getElem?_map, hu]; rfl
    refine next_key_item st hgd hdt hsz hen fun h' st' sb => ?_
    have I1 : Inv X pins σ H { s with heap := h' } := I.turned (t' := s.toks) (fun b ob hb e => (sb.2 b hb).trans e) f0 f1 f3 f4 f5
    obtain ⟨oi, e, c, dd⟩ := id st'
    refine ⟨_, rfl, go_of (s := { s with heap := h' }) e c dd (by decide) ⟨.ref u.2.1, H, I1, (show RelV (.ref u.2.1) (Value.ref u.2.1) from rfl), ⟨rfl, fun xs' hd' hl' => ?_⟩, st', fun b hb => (hf b hb).1⟩⟩
    obtain ⟨⟨o', es', us', hgd', _, hdt', er', el'⟩, _, _⟩ := I.hok a _ hd'
    rw [hgd] at hgd'
    cases hgd'
    rw [hdt] at hdt'
    cases hdt'
    obtain ⟨u', hu', q1, q2, q3⟩ := paired_get er' (List.getElem?_eq_getElem (by omega : i < xs'.length))
    refine ⟨_, List.getElem?_eq_getElem (by omega), ?_⟩
    have e1 : some (entryOfKey (nestedKind X.prog X.w) u) = some (entryOfKey (nestedKind X.prog X.w) u') := by
      rw [← hen, ← Array.getElem?_toList, el', List.getElem?_map, hu']; rfl
    have e2 : Value.ref u.2.1 = Value.ref u'.2.1 := congrArg DictEntry.key (Option.some.inj e1)
    rw [q2]
    exact congrArg V.ref (Value.ref.inj e2)
  done := by
    intro X hP hw hK hc i pins s σ H E I hf st hg
    subst hP hw hK
    obtain ⟨xs, hd, hl, hi⟩ := hg
    obtain ⟨f0, f1, f2, f3, f4, f5⟩ := hf it (by simp)
    obtain ⟨⟨o, es, us, hgd, hx, hdt, er, el⟩, _, _⟩ := I.hok a _ hd
    have lu : us.length = xs.length := (Paired.length er).symm
    have hsz : es.size = n := by rw [← Array.length_toList, el, List.length_map, lu, hl]
    exact next_key_end (I.ok.hd hc) st hgd hdt hsz hi fun h' eb => ⟨rfl, I.turned (t' := s.toks) (fun b ob hb e => eb b ob hb e) f0 f1 f3 f4 f5⟩
  self := fun A i s Q E st h => by
    refine wpAny_pyIter_slot st.typeIs F.slot_dict_keyiterator_iter (wpAny_call_entry F.slot_dict_keyiterator_iter st.typeIs F.entry_dict_keyiterator_iter ?_ (F.args_dict_keyiterator_iter_1 _))
    show wpAny _ _ (ret (.ref it)) _ _ s
    exact wpAny_pure ⟨_, rfl, "dict_keyiterator", _, st.typeIs, F.slot_dict_keyiterator_next.lookup, h⟩
theorem kr_key {K : PySem.W.Frag} {H : Hp} : ∀ {kvs : List (D × D)} {xs : List (NestedKey × Addr × V)} {i : Nat} {x : NestedKey × Addr × V}, Paired (KR K H) kvs xs → xs[i]? = some x → ∃ d, (kvs.map (·.1))[i]? = some d ∧ RD K H d (.ref x.2.1)
  | _, _, i, _, .nil, e => by simp at e
  | _, _, 0, _, .cons h _, e => by simp at e; subst e; exact ⟨_, rfl, h.2.2.1⟩
  | _, _, i + 1, _, .cons _ t, e => by
    obtain ⟨d, h1, h2⟩ := kr_key (i := i) t (by simpa using e)
    exact ⟨d, by simpa using h1, h2⟩
theorem it_keys {P : Program} {w : World} {K : PySem.W.Frag} {H0 : Hp} {a : Addr} {kvs : List (D × D)} {ep : Nat} : ItOk P w K H0 (ItkN P w a kvs.length ep) (kvs.map (·.1)) (fun S => S a = some (.dct kvs ep)) where
  go := fun i H S t rp g hi => by
    obtain ⟨_, _, xs, e2, kr, _, _⟩ := rp a _ g
    exact ⟨xs, e2, (Paired.length kr).symm, by simpa using hi⟩
  yld := fun i H S x H' t rp g hi ⟨e, h⟩ => by
    subst e
    obtain ⟨_, _, xs, e2, kr, _, _⟩ := rp a _ g
    obtain ⟨y, h1, h2⟩ := h xs e2 (Paired.length kr).symm
    subst h2
    obtain ⟨d, hd, rd⟩ := kr_key kr h1
    exact ⟨d, hd, rd, rp, Go.refl _ _⟩
  stop := fun i H S t rp g hi => by
    obtain ⟨_, _, xs, e2, kr, _, _⟩ := rp a _ g
    exact ⟨xs, e2, (Paired.length kr).symm, by rw [List.length_map] at hi; omega⟩
theorem r_keys {tg : Expr} (ha : PE X a (LE X (wE Φ Γ ca))) : PI X tg a (LI X (wSr Φ Γ (.keys ca))) := by
  refine ⟨fun pins s σ H R I h => ?_⟩
  obtain ⟨env, S, T, re, rp, h, p⟩ := h
  refine thn (ha.run pins s σ H _ I (lift_step (X := X) (Q := fun _ _ => True) (m := wE Φ Γ ca) re rp h fun d S1 v H1 h1 rd re1 rp1 g1 t1 => (⟨d, S1, rd, rp1, g1, h1⟩ : ∃ d S1, RD X.K H1 d v ∧ Rp X.prog X.w X.K H1 S1 ∧ Go H S H1 S1 ∧ keysD d S1 T))) fun v s1 ⟨x, H1, I1, r1, q1⟩ => ?_
  obtain ⟨d, S1, rd, rp1, g1, h1⟩ := q1
  cases rd <;> first | exact False.elim h1 | skip
  rename_i l
  cases r1
  obtain ⟨kvs, ep, e, h1⟩ := h1
  obtain ⟨h0, hz, xs, e2, kr, nd, dp⟩ := rp1 l _ e
  obtain ⟨⟨o, es, us, hgd, hx, hdt, er, el⟩, _, _⟩ := I1.hok l _ e2
  have lu : us.length = kvs.length := (Paired.length er).symm.trans (Paired.length kr).symm
  have hsz : es.size = kvs.length := by rw [← Array.length_toList, el, List.length_map, lu]
  have q : R (ItkN X.prog X.w l kvs.length ep) H1 := p _ _ _ _ _ h1 rp1 g1 it_keys
  refine iter_keys h0 hgd hx hdt (pi_one (tk := s1.toks) I1 _ (turn_keysN _) ⟨_, Heap.get?_push_size _ rfl, rfl, ?_⟩ q)
  rw [hsz] <;> rfl
/-! reversed(range(n)) -/
theorem it_rvr {P : Program} {w : World} {K : PySem.W.Frag} {H0 : Hp} {n : Nat} {lo : Int} {G : Sto → Prop} : ItOk P w K H0 (Itc lo (-1) n) ((List.range n).map fun (k : Nat) => Mn.D.int (lo - k)) G where
  go := fun i H S t rp g hi => by
    have : i < n := by simpa using hi
    exact this
  yld := fun i H S v H' t rp g hi ⟨e, h2⟩ => by
    have hi' : i < n := by simpa using hi
    subst e h2
    refine ⟨.int (lo - (i : Nat)), by simp [hi'], ?_, rp, Go.refl _ _⟩
    have : lo + ((i : Nat) : Int) * (-1) = lo - (i : Nat) := by omega
    rw [this]
    exact .int _
  stop := fun i H S t rp g hi => by
    have : n ≤ i := by
      have : i = n := by simpa using hi
      omega
    exact this
theorem r_rvr {tg : Expr} {p1 p2 pos2 : Pos} (hg : Gl X "reversed") (hm : X.mg "reversed" = none) (hg2 : Gl X "range") (hm2 : X.mg "range" = none) (hn : noStar a = true) (ha : PE X a (LE X (wE Φ Γ ca))) : PI X tg (.Call (.Name "reversed" p1) [.Call (.Name "range" p2) [a] [] pos2] [] pos) (LI X (wSr Φ Γ (.rvr ca))) := by
  refine ⟨fun pins s σ H R I h => (pi_revR hg hm (prg_1 hg2 hm2 ha (star_cons hn))).run pins s σ H R I ?_⟩
  obtain ⟨env, S, T, re, rp, h, p⟩ := h
  refine lift_step (Q := fun _ _ => True) re rp h fun d S1 v H1 h1 rd re1 rp1 g1 _ => ?_
  cases rd <;> first | exact False.elim h1 | skip
  rename_i n
  obtain ⟨k1, k2, h1⟩ := h1
  have e1 : (0 : Int) + (((n - 0).toNat : Nat) : Int) - 1 = n - 1 := by omega
  have e2 : (n - 0).toNat = n.toNat := by rw [Int.sub_zero]
  refine ⟨n, rfl, by decide, by decide, by omega, k2, ?_⟩
  rw [e1, e2]
  exact p _ _ _ _ _ h1 rp1 g1 it_rvr
end
end Mn

/-! Mn: dict comprehensions: the new dict's object is hidden from the store while it grows. -/
namespace Mn
open PySem PySem.Spec L2
open PyProof.Rows (Call_)
/-- the new dict at Dl grows: acc so far -/
structure DS (X : Cx) (H0 : Hp) (S0 : Sto) (Dl : Addr) (H : Hp) (S : Sto) (acc : List (D × D)) (xs : List (NestedKey × Addr × V)) (ep : Nat) : Prop where
  rp : Rp X.prog X.w X.K H S
  out : S Dl = none
  at_ : H Dl = some (.ext (DPhi X.prog X.w Dl xs ep))
  kr : Paired (KR X.K H) acc xs
  nd : (xs.map (·.1)).Nodup
  dp : ∀ x ∈ xs, x.1.depth ≤ 8
  sz : acc.length ≤ sizeLine
  go : Go H0 S0 H S
section
variable {X : Cx}
theorem DS.step {H0 H H' : Hp} {S0 S S' : Sto} {Dl : Addr} {acc : List (D × D)} {xs : List (NestedKey × Addr × V)} {ep : Nat} (l : DS X H0 S0 Dl H S acc xs ep) (rp : Rp X.prog X.w X.K H' S') (g : Go H S H' S') : DS X H0 S0 Dl H' S' acc xs ep :=
  ⟨rp, (g _ _ l.at_ l.out).2, (g _ _ l.at_ l.out).1, KR.tx (g.tx l.rp) l.kr, l.nd, l.dp, l.sz, l.go.trans g⟩
theorem DS.tx {H0 H : Hp} {S0 S : Sto} {Dl : Addr} {acc : List (D × D)} {xs : List (NestedKey × Addr × V)} {ep : Nat} {o : HO} (l : DS X H0 S0 Dl H S acc xs ep) : Tx H (upd H Dl o) := .mut l.at_ trivial
theorem putK_len {k v : D} {acc : List (D × D)} : (putK k v acc).length ≤ acc.length + 1 := by
  unfold putK
  split
  · simp
  · simp
theorem DS.push {H0 H : Hp} {S0 S : Sto} {Dl : Addr} {acc : List (D × D)} {xs : List (NestedKey × Addr × V)} {ep ep' : Nat} (l : DS X H0 S0 Dl H S acc xs ep) (h0 : ∀ o, H0 Dl = some o → S0 Dl = none → False) {kd vd : D} {b : Addr} {z : V} (rk : RD X.K H kd (.ref b)) (pk : kd.pure = true) (dk : kd.key.depth ≤ 8) (rv : RD X.K H vd z) (hz : acc.length < sizeLine) :
    DS X H0 S0 Dl (upd H Dl (.ext (DPhi X.prog X.w Dl (storedV xs kd.key b z) ep'))) S (putK kd vd acc) (storedV xs kd.key b z) ep' where
  rp := fun a c e => (l.rp a c e).keep l.tx (upd_ne (by rintro rfl; rw [l.out] at e; cases e))
  out := l.out
  at_ := upd_same
  kr := KR.tx l.tx (kr_stored rk pk rv l.kr)
  nd := stored_keys l.nd
  dp := stored_depth l.dp dk
  sz := by have := putK_len (k := kd) (v := vd) (acc := acc); omega
  go := fun a o e q => by
    have ne : a ≠ Dl := by rintro rfl; exact h0 o e q
    obtain ⟨h1, h2⟩ := l.go a o e q
    exact ⟨by rw [upd_ne ne]; exact h1, h2⟩
variable {Φ : Str → Option SpD} {Γ : Str → Option D} {pos : Pos} {kx vx tg iter : Expr} {ifs : List Expr} {scope : Scope} {own : List (Str × Nat)} {t : Tg} {ct : Ct} {cs : Cs} {ck cv : Cd}
theorem wipe_wipe {σ : L2.St} {vs : List Nat} : wipe (wipe σ vs) vs = wipe σ vs := by
  have ww : ∀ us : List Nat, (∀ i ∈ us, i ∈ vs) → wipe (wipe σ vs) us = wipe σ vs := by
    intro us
    induction us with
    | nil => intro _; rfl
    | cons u us ih =>
      intro hu
      show (wipe (wipe σ vs) us).set u none = wipe σ vs
      rw [ih fun i hi => hu i (List.mem_cons_of_mem _ hi)]
      have wn : ∀ vs : List Nat, u ∈ vs → (wipe σ vs).set u none = wipe σ vs := by
        intro vs
        induction vs with
        | nil => intro h; cases h
        | cons v vs ih =>
          intro h
          unfold wipe
          by_cases e : u = v
          · subst e
            rw [List.set_set]
          · rw [List.set_comm _ _ (Ne.symm e), ih ((List.mem_cons.mp h).resolve_left e)]
      exact wn vs (hu u List.mem_cons_self)
  exact ww vs fun i hi => hi
/-- the block's own context, as the loop sees it -/
abbrev bX (X : Cx) (s : Shared) (H : Hp) (scope : Scope) (fp : List Addr) : Cx := X.blk s H scope (compEnvC scope (cellsFrom (s.heap.objs.size + 1) scope.names (cloFrom X.env.cells scope.names [])) s.heap.objs.size X.env) fp
/-- an iterator's cells may be used in the block -/
theorem blk_cells {Y : Cx} {fp : List Addr} {σ : L2.St} {H : Hp} {s : Shared} (I : Inv Y [] σ H s) (e1 : Y.ex = fp) (e2 : Y.pn = []) (hn : ∀ b ∈ fp, H b = none) : ∀ b ∈ fp, FpOk Y [] H b := by
  intro b hb
  rw [← e1] at hb
  refine ⟨hn b (e1 ▸ hb), (I.ok.exf b hb).1, I.ok.exfs b hb, Or.inl hb, (I.ok.exf b hb).2, ?_⟩
  intro p hp
  rw [e2] at hp
  cases hp
/-- what stands ahead of turn i -/
structure Dt (X : Cx) (Φ : Str → Option SpD) (Γ : Str → Option D) (t : Tg) (ct : Ct) (ck cv : Cd) (R : MK) (G : Sto → Prop) (xs : List D) (env : Env) (H0 H1 : Hp) (S0 : Sto) (Dl : Addr) (i : Nat) (H : Hp) (S : Sto) (acc : List (D × D)) (us : List (NestedKey × Addr × V)) (ep : Nat) : Prop where
  le : i ≤ xs.length
  ds : DS X H0 S0 Dl H S acc us ep
  tx : Tx H1 H
  run : dcRun (asgD t) (wT Φ Γ ct) (wE Φ Γ ck) (wE Φ Γ cv) G env (xs.drop i) acc S fun acc S2 => ∀ p, S2 p = none → ∀ ep, R (.ref p) (up S2 p (.dct acc ep))
theorem dcx {pins : List (Addr × Obj)} {s : Shared} {σ : L2.St} {H : Hp} {Q : VK} {pos' : Pos} {use : Option (Value → Sem Unit)} {Qf : Value → Shared → Prop} (hu : X.A.units + 65 < cLine) (hc : X.calm = true) (hN : X.N.Nodup) (I : Inv X pins σ H s) (hi : PI X tg iter (LI X (wSr Φ Γ cs))) (ok : BlkOk X.N X.env.scope scope own) (hsl : SlotsIn t.slots (own.map (·.2)))
    (hg : InBlk X scope fun Y => PG Y tg (liftG X.K t)) (ht : InBlk X scope fun Y => PTs Y ifs (LT X (wT Φ Γ ct))) (hk : InBlk X scope fun Y => PE Y kx (LE X (wE Φ Γ ck))) (he : InBlk X scope fun Y => PE Y vx (LE X (wE Φ Γ cv))) (hs : ∀ x, foldedSetIterable iter X.env x = pure x)
    (h : LE X (wE Φ Γ (.dc (own.map (·.2)) ck cv t cs ct)) σ H Q)
    (fin : ∀ D C s' m H', Inv X pins σ H' s' → Q (.ref D) H' → s'.heap.Ns C m → FpOk X pins H' C → compPost (model X.prog X.w) X.A X.xe use Qf (.ref D) C (.ok .next) s') :
    wpAny (model X.prog X.w) X.A (comprehension (.DictComp kx vx [⟨tg, iter, ifs, 0⟩] scope pos) scope X.env pos' newDict false (eval iter X.env) use) Qf X.xe s := by
  obtain ⟨env, S, R, re, rp, h, p⟩ := h
  have cells : closureFor scope X.env = pure (cloFrom X.env.cells scope.names []) := closure_ok fun y hy e => (ok.free y hy e).elim (fun z => I.ok.has _ (Or.inl z)) fun z => I.ok.has _ (Or.inr z)
  -- the source
  have src := hi.run pins s σ H (fun J H1 => ∃ xs G S1, Rp X.prog X.w X.K H1 S1 ∧ Go H S H1 S1 ∧ ItOk X.prog X.w X.K H1 J xs G ∧ dcRun (asgD t) (wT Φ Γ ct) (wE Φ Γ ck) (wE Φ Γ cv) G (wipeD env (own.map (·.2))) xs [] S1 fun acc S2 => ∀ p, S2 p = none → ∀ ep, R (.ref p) (up S2 p (.dct acc ep))) I
    ⟨env, S, _, re, rp, h, fun xs G S1 J H1 h1 rp1 g1 it => ⟨xs, G, S1, rp1, g1, it, h1⟩⟩
  refine wpAny_comprehension_free (use := use) rfl hs cells ok.kind (fun y hy e => by rw [ok.uniq y hy, e]) (thn src fun _ s1 q => thn q fun itv s2 got => ?_)
  obtain ⟨it, fp, tn, J, H2, rfl, I2, T, tn0, cellOk, xs, G, S1, rp1, g1, itok, run0⟩ := got
  -- the new dict, and the block's own names
  refine wpAny_newObj_type (newEnv_comp ?_)
  generalize hD : s2.heap.objs.size = Dl
  have freshD : H2 Dl = none := I2.hok.fresh (Nat.le_of_eq hD)
  have noSys : (Dl == sysModules) = false := beq_eq_false_iff_ne.mpr (by rw [← hD]; exact Ne.symm (Nat.ne_of_lt I2.big))
  have I3 := inv_new (t' := s2.toks) I2
  rw [hD] at I3
  have ltD : ∀ b ∈ fp, b < Dl := fun b hb => by
    obtain ⟨_, e, _⟩ := T.obj 0 _ tn0 b hb
    rw [← hD]; exact Heap.lt_size e
  generalize hH3 : upd H2 Dl (.ext (DPhi X.prog X.w Dl [] 0)) = H3 at I3
  generalize hs3 : ({ s2 with heap := s2.heap.push { cls := .type "dict", data := .dict #[] }, toks := s2.toks } : Shared) = s3 at I3
  have at3 : ∀ b o, s2.heap.get? b = some o → s3.heap.get? b = some o := fun b o e => by rw [← hs3]; exact Heap.get?_push_of_some _ e
  have sz3 : s3.heap.objs.size = Dl + 1 := by rw [← hs3, ← hD]; exact Heap.size_push ..
  have no3 : ∀ b ∈ fp, H3 b = none := fun b hb => by rw [← hH3, upd_ne (Nat.ne_of_lt (ltD b hb))]; exact (cellOk b hb).1
  have cell3 : ∀ b ∈ fp, FpOk X pins H3 b ∧ b < s3.heap.objs.size := fun b hb => ⟨⟨no3 b hb, (cellOk b hb).2⟩, by rw [sz3]; exact Nat.lt_succ_of_lt (ltD b hb)⟩
  have I4 := block_start I3 ok hN cell3
  have PG' := hg s3 H3 s3.heap.objs.size (cellsFrom (s3.heap.objs.size + 1) scope.names (cloFrom X.env.cells scope.names [])) fp
  have PT' := ht s3 H3 s3.heap.objs.size (cellsFrom (s3.heap.objs.size + 1) scope.names (cloFrom X.env.cells scope.names [])) fp
  have PK' := hk s3 H3 s3.heap.objs.size (cellsFrom (s3.heap.objs.size + 1) scope.names (cloFrom X.env.cells scope.names [])) fp
  have PV' := he s3 H3 s3.heap.objs.size (cellsFrom (s3.heap.objs.size + 1) scope.names (cloFrom X.env.cells scope.names [])) fp
  have goal4 : codeAny (model X.prog X.w) X.A (.compStart (.DictComp kx vx [⟨tg, iter, ifs, 0⟩] scope pos) 0 (.ref it) (.ref Dl) (compEnvC scope (cellsFrom (s3.heap.objs.size + 1) scope.names (cloFrom X.env.cells scope.names [])) s3.heap.objs.size X.env)) (compPost (model X.prog X.w) X.A X.xe use Qf (.ref Dl) s3.heap.objs.size) { s3 with heap := pushCells (s3.heap.push { cls := .type "dict", data := .dict #[] }) scope.names } := by
    generalize hs4 : ({ s3 with heap := pushCells (s3.heap.push { cls := .type "dict", data := .dict #[] }) scope.names } : Shared) = s4 at I4
    have tn4 : tn 0 s4.heap := T.keep 0 _ _ tn0 fun b _ o e => by rw [← hs4]; exact pushCells_keeps _ _ _ _ (Heap.get?_push_of_some _ (at3 b o e))
    generalize hce : compEnvC scope (cellsFrom (s3.heap.objs.size + 1) scope.names (cloFrom X.env.cells scope.names [])) s3.heap.objs.size X.env = ce at I4 PG' PT' PK' PV'
    have ownL : ce.locals = s3.heap.objs.size := by rw [← hce]; rfl
    have re2 : RE X.K H2 env σ := re.tx (g1.tx rp)
    have old : ∀ o, H Dl = some o → S Dl = none → False := fun o e q => by have := (g1 _ _ e q).1; rw [freshD] at this; cases this
    have rp3 : Rp X.prog X.w X.K H3 S1 := by rw [← hH3]; exact rp1.new freshD (rp1.free freshD)
    have start : Dt X Φ Γ t ct ck cv R G xs (wipeD env (own.map (·.2))) H H2 S Dl 0 H3 S1 [] [] 0 :=
      ⟨Nat.zero_le _, ⟨rp3, rp1.free freshD, by rw [← hH3]; exact upd_same, .nil, List.nodup_nil, (fun _ hx => nomatch hx), Nat.zero_le _, by rw [← hH3]; exact g1.trans (.new freshD)⟩, by rw [← hH3]; exact .new freshD, run0⟩
    -- the loop
    have turns := compLoop_anyD (prog := X.prog) (w := X.w) (A := X.A) (R := compPost (model X.prog X.w) X.A X.xe use Qf (.ref Dl) s3.heap.objs.size) (s := s4) (kx := kx) (vx := vx) (target := tg) (iter := iter) (ifs := ifs) (scope := scope) (pos := pos) (it := .ref it) (D := Dl) (env := ce)
      (fun n s' => ∃ i H' S' acc us ep, n = xs.length - i ∧ Inv (X.blk s3 H3 scope ce fp) [] (wipe σ (own.map (·.2))) H' s' ∧ tn i s'.heap ∧ (∀ b ∈ fp, H' b = none) ∧ Dt X Φ Γ t ct ck cv R G xs (wipeD env (own.map (·.2))) H H2 S Dl i H' S' acc us ep) ?_ xs.length ⟨0, H3, S1, [], [], 0, rfl, I4, tn4, no3, start⟩
    · exact codeAny_compStart_dict turns (T.self X.A 0 _ _ _ tn4 turns)
    · rintro n s5 ⟨i, H5, S5, acc, us, ep, rfl, I5, tn5, no5, d⟩
      have use5 := blk_cells I5 rfl rfl no5
      by_cases hlt : i < xs.length
      · -- one more turn
        have r5 := d.run
        rw [List.drop_eq_getElem_cons hlt] at r5
        obtain ⟨guard, env1, asg, r5⟩ := r5
        refine thnF (T.item (X.blk s3 H3 scope ce fp) rfl rfl rfl hc i [] s5 _ H5 (fun _ _ => False) I5 use5 tn5 (itok.go i H5 S5 d.tx d.ds.rp guard hlt)) ?_
        rintro _ s6 ⟨u, rfl, got⟩
        refine thnF got ?_
        rintro _ s7 ⟨x, H7, I7, rel, yl, tn7, no7⟩
        obtain ⟨dx, at_, rd, rp7, g7⟩ := itok.yld i H5 S5 x H7 d.tx d.ds.rp guard hlt yl
        rw [List.getElem?_eq_getElem hlt] at at_
        cases at_
        have I7p := I7.pinned (blk_cells I7 rfl rfl no7) (T.obj _ _ tn7)
        have tx7 : Tx H2 H7 := d.tx.trans (g7.tx d.ds.rp)
        have ds7 := d.ds.step rp7 g7
        -- how a turn ends
        have next : ∀ {σ' : L2.St} {s' : Shared} {H' : Hp} {S' : Sto} {acc' : List (Mn.D × Mn.D)} {us' : List (NestedKey × Addr × V)} {ep' : Nat}, wipe σ' (own.map (·.2)) = wipe σ (own.map (·.2)) → Inv (X.blk s3 H3 scope ce fp) ([] ++ pinsAt fp s7.heap) σ' H' s' → DS X H S Dl H' S' acc' us' ep' → Tx H2 H' →
            dcRun (asgD t) (wT Φ Γ ct) (wE Φ Γ ck) (wE Φ Γ cv) G (wipeD env (own.map (·.2))) (xs.drop (i + 1)) acc' S' (fun acc S2 => ∀ p, S2 p = none → ∀ ep, R (.ref p) (up S2 p (.dct acc ep))) →
            ∃ m, m < xs.length - i ∧ ∃ i H' S' acc us ep, m = xs.length - i ∧ Inv (X.blk s3 H3 scope ce fp) [] (wipe σ (own.map (·.2))) H' s' ∧ tn i s'.heap ∧ (∀ b ∈ fp, H' b = none) ∧ Dt X Φ Γ t ct ck cv R G xs (wipeD env (own.map (·.2))) H H2 S Dl i H' S' acc us ep := by
          intro σ' s' H' S' acc' us' ep' hw I' ds' tx' run'
          have still : ∀ b ∈ fp, ∀ o, s7.heap.get? b = some o → s'.heap.get? b = some o ∧ H' b = none := fun b hb o e =>
            ⟨(I'.pin (b, o) (List.mem_append_right _ (List.mem_append_right _ (mem_pinsAt hb e)))).1, (I'.pin (b, o) (List.mem_append_right _ (List.mem_append_right _ (mem_pinsAt hb e)))).2.1⟩
          refine ⟨xs.length - (i + 1), by omega, i + 1, H', S', acc', us', ep', rfl, (I'.unpinned (pins := [])).weak (by rw [← hw, wipe_length]) (fun j v e => ?_), T.keep _ _ _ tn7 fun b hb o e => (still b hb o e).1, fun b hb => ?_, ⟨hlt, ds', tx', run'⟩⟩
          · rw [← hw] at e
            exact (wipe_some e).1
          · obtain ⟨o, e, _⟩ := T.obj _ _ tn7 b hb
            exact (still b hb o e).2
        refine thnF (PG'.run _ s7 _ H7 x u (fun σ2 H2' => wipe σ2 (own.map (·.2)) = wipe σ (own.map (·.2)) ∧ LT X (wT Φ Γ ct) σ2 H2' fun b H8 => ∃ S8, Rp X.prog X.w X.K H8 S8 ∧ Go H7 S5 H8 S8 ∧ RE X.K H8 env1 σ2 ∧ Tx H7 H8 ∧ (if b = true then wE Φ Γ ck env1 S8 fun y S2 => wE Φ Γ cv env1 S2 fun z S3 => isTup y = true ∧ y.pure = true ∧ y.key.depth ≤ 8 ∧ acc.length < sizeLine ∧ dcRun (asgD t) (wT Φ Γ ct) (wE Φ Γ ck) (wE Φ Γ cv) G (wipeD env (own.map (·.2))) (xs.drop (i + 1)) (putK y z acc) S3 (fun acc S2 => ∀ p, S2 p = none → ∀ ep, R (.ref p) (up S2 p (.dct acc ep)))
            else dcRun (asgD t) (wT Φ Γ ct) (wE Φ Γ ck) (wE Φ Γ cv) G (wipeD env (own.map (·.2))) (xs.drop (i + 1)) acc S8 (fun acc S2 => ∀ p, S2 p = none → ∀ ep, R (.ref p) (up S2 p (.dct acc ep))))) I7p rel
          ⟨_, _, env1, rd, (re2.wipe _).tx tx7, asg, fun σ2 re3 w2 => ⟨by rw [w2 _ hsl, wipe_wipe], liftT_step re3 rp7 r5 fun b S8 H8 h8 re8 rp8 g8 t8 => ⟨S8, rp8, g8, re8, t8, h8⟩⟩⟩) ?_
        rintro _ s8 ⟨σ8, H8, I8, hw8, q8⟩
        refine thnF (PT'.run _ s8 σ8 H8 _ I8 q8) ?_
        rintro b s9 ⟨H9, I9, S9, rp9, g9, re9, t9, q9⟩
        have ds9 := ds7.step rp9 g9
        have tx9 := tx7.trans t9
        cases b with
        | false =>
          rw [if_neg Bool.false_ne_true] at q9
          exact next hw8 I9 ds9 tx9 q9
        | true =>
          rw [if_pos rfl] at q9
          refine thnF (PK'.run _ s9 σ8 H9 (fun y H10 => ∃ yd S10, RD X.K H10 yd y ∧ RE X.K H10 env1 σ8 ∧ Rp X.prog X.w X.K H10 S10 ∧ Go H9 S9 H10 S10 ∧ Tx H9 H10 ∧ wE Φ Γ cv env1 S10 fun z S3 => isTup yd = true ∧ yd.pure = true ∧ yd.key.depth ≤ 8 ∧ acc.length < sizeLine ∧ dcRun (asgD t) (wT Φ Γ ct) (wE Φ Γ ck) (wE Φ Γ cv) G (wipeD env (own.map (·.2))) (xs.drop (i + 1)) (putK yd z acc) S3 (fun acc S2 => ∀ p, S2 p = none → ∀ ep, R (.ref p) (up S2 p (.dct acc ep)))) I9
            (lift_step (Q := fun _ _ => True) re9 ds9.rp q9 fun yd S10 y H10 h10 rd10 re10 rp10 g10 t10 => ⟨yd, S10, rd10, re10, rp10, g10, t10, h10⟩)) ?_
          rintro zk s10 ⟨y, H10, I10, rel10, yd, S10, rd10, re10, rp10, g10, t10, q10⟩
          have ds10 := ds9.step rp10 g10
          refine thnF (PV'.run _ s10 σ8 H10 (fun z H11 => ∃ zd S11, RD X.K H11 zd z ∧ Rp X.prog X.w X.K H11 S11 ∧ Go H10 S10 H11 S11 ∧ Tx H10 H11 ∧ isTup yd = true ∧ yd.pure = true ∧ yd.key.depth ≤ 8 ∧ acc.length < sizeLine ∧ dcRun (asgD t) (wT Φ Γ ct) (wE Φ Γ ck) (wE Φ Γ cv) G (wipeD env (own.map (·.2))) (xs.drop (i + 1)) (putK yd zd acc) S11 (fun acc S2 => ∀ p, S2 p = none → ∀ ep, R (.ref p) (up S2 p (.dct acc ep)))) I10
            (lift_step (Q := fun _ _ => True) re10 ds10.rp q10 fun zd S11 z H11 h11 rd11 re11 rp11 g11 t11 => ⟨zd, S11, rd11, rp11, g11, t11, h11⟩)) ?_
          rintro zv s11 ⟨z, H11, I11, rel11, zd, S11, rd11, rp11, g11, t11, tup, pk, dk, room, run'⟩
          have ds11 := ds10.step rp11 g11
          cases rd10 <;> first | (cases tup; done) | skip
          rename_i a parts its q r
          have ez : zk = Value.ref a := rel10
          rw [ez]
          have rk : RD X.K H11 (.tup parts) (.ref a) := (RD.tup q r).tx t11
          exact d_putN (X := X.blk s3 H3 scope ce fp) hu I11 ds11.at_ ds11.kr ds11.nd ds11.dp room rk pk dk rel11 fun s12 ep' I12 => next hw8 I12 (ds11.push old rk pk dk rd11 room) (((tx9.trans t10).trans t11).trans ds11.tx) run'
      · -- no more
        have e : i = xs.length := Nat.le_antisymm d.le (Nat.le_of_not_lt hlt)
        subst e
        have r5 := d.run
        rw [List.drop_length] at r5
        obtain ⟨guard, r5⟩ := r5
        refine thnF (T.done (X.blk s3 H3 scope ce fp) rfl rfl rfl hc _ [] s5 _ H5 (fun _ _ => False) I5 use5 tn5 (itok.stop _ H5 S5 d.tx d.ds.rp guard rfl)) ?_
        rintro _ s6 ⟨rfl, I6⟩
        have back : Inv X pins σ H5 s6 := I3.call' (ch := fp) I6.os I6.base I6.hok I6.bare fun b hb => ⟨(cell3 b hb).1.2.2.2.1, (cell3 b hb).1.2.1, (cell3 b hb).1.2.2.2.2.1, (cell3 b hb).1.2.2.2.2.2⟩
        have free6 : H5 ce.locals = none := I6.free
        obtain ⟨m, ns, _⟩ := I6.loc
        replace ns : s6.heap.Ns ce.locals m := ns
        rw [ownL] at free6 ns
        refine fin Dl s3.heap.objs.size s6 m H5 back (p (.ref Dl) (up S5 Dl (.dct acc ep)) (.ref Dl) H5 (r5 Dl d.ds.out ep) (.ref Dl) (dct_shown noSys d.ds.rp d.ds.at_ d.ds.kr d.ds.nd d.ds.dp d.ds.sz) ?_) ns (I3.fpOk (Nat.le_refl _) free6)
        intro a o ea es
        have ne : a ≠ Dl := by rintro rfl; exact old o ea es
        exact ⟨(d.ds.go a o ea es).1, by rw [up_ne ne]; exact (d.ds.go a o ea es).2⟩
  exact goal4
theorem r_dc (hu : X.A.units + 65 < cLine) (hc : X.calm = true) (hN : X.N.Nodup) (hi : PI X tg iter (LI X (wSr Φ Γ cs))) (ok : BlkOk X.N X.env.scope scope own) (hsl : SlotsIn t.slots (own.map (·.2)))
    (hg : InBlk X scope fun Y => PG Y tg (liftG X.K t)) (ht : InBlk X scope fun Y => PTs Y ifs (LT X (wT Φ Γ ct))) (hk : InBlk X scope fun Y => PE Y kx (LE X (wE Φ Γ ck))) (he : InBlk X scope fun Y => PE Y vx (LE X (wE Φ Γ cv))) (hs : ∀ x, foldedSetIterable iter X.env x = pure x) :
    PE X (.DictComp kx vx [⟨tg, iter, ifs, 0⟩] scope pos) (LE X (wE Φ Γ (.dc (own.map (·.2)) ck cv t cs ct))) := by
  refine ⟨fun pins s σ H Q I h => ?_⟩
  rw [arm_eval_DictComp]
  refine dcx hu hc hN I hi ok hsl hg ht hk he hs h ?_
  intro D C s' m H' I' q ns f
  refine ⟨m, ns, fun h'' sb => ⟨.ref D, H', I'.turned (t' := s'.toks) (fun b o hb e => (sb.2 b hb).trans e) f.1 f.2.1 f.2.2.2.1 f.2.2.2.2.1 f.2.2.2.2.2, rfl, q⟩⟩
/-- name = {..}, the name a local of the def -/
theorem ps_dc {i : Nat} {y : Str} {py spos : Pos} (hu : X.A.units + 65 < cLine) (hc : X.calm = true) (hN : X.N.Nodup) (hy : X.N[i]? = some y) (hyl : X.env.scope.names.lookup y = some .local)
    (hsw : swapsWith (.DictComp kx vx [⟨tg, iter, ifs, 0⟩] scope pos) (some (.Name y py)) spos.line X.env = pure true) (hi : PI X tg iter (LI X (wSr Φ Γ cs))) (ok : BlkOk X.N X.env.scope scope own) (hsl : SlotsIn t.slots (own.map (·.2)))
    (hg : InBlk X scope fun Y => PG Y tg (liftG X.K t)) (ht : InBlk X scope fun Y => PTs Y ifs (LT X (wT Φ Γ ct))) (hk : InBlk X scope fun Y => PE Y kx (LE X (wE Φ Γ ck))) (he : InBlk X scope fun Y => PE Y vx (LE X (wE Φ Γ cv))) (hs : ∀ x, foldedSetIterable iter X.env x = pure x) :
    PS X (.Assign [.Name y py] (.DictComp kx vx [⟨tg, iter, ifs, 0⟩] scope pos) spos) (tAsg (LE X (wE Φ Γ (.dc (own.map (·.2)) ck cv t cs ct))) (gName i)) := by
  refine ⟨fun pins s σ H D I h => ?_⟩
  rw [exec_Assign_Name_used _ _ _ _ hsw]
  refine wpAny_bind (wpAny_standAt (wpAny_bind (wpAny_bind (m := comprehension (.DictComp kx vx [⟨tg, iter, ifs, 0⟩] scope pos) scope X.env (firstIterPos [⟨tg, iter, ifs, 0⟩] pos) newDict false (eval iter X.env) (some (assign (.Name y py) X.env))) (thn (dcx (Q := fun x H1 => gName i x σ H1 D.nx) (Qf := fun _ s' => SP X pins D .next s') hu hc hN I hi ok hsl hg ht hk he hs h ?_) fun _ s' q => wpAny_pure (wpAny_pure q)))))
  intro L C s' m H' I' q ns f
  refine wpAny_assign_Name (store_ok2 (v := V.ref L) I' hN hy (Or.inl hyl) rfl ?_ (Or.inr hyl))
  rintro s2 I2 ⟨a, sb, ha⟩
  have apart : C ≠ a := ha.elim (fun z => by rw [z]; exact f.2.1) fun z e => f.2.2.2.2.1 y a z e.symm
  exact ⟨m, ns.sameBut sb apart, fun h3 sb3 => ⟨_, H', I2.turned (t' := s2.toks) (fun b o hb e => (sb3.2 b hb).trans e) f.1 f.2.1 f.2.2.2.1 f.2.2.2.2.1 f.2.2.2.2.2, q⟩⟩
theorem sw_trueD {gs : List Comprehension} {py : Pos} {y : Str} {l : Nat} {env : PySem.Env} (hk : env.scope.kind = .function) (hy : env.scope.names.lookup y = some .local) (hl : (py.line == pos.line) = true)
    (ha : (scope.names.any fun (n, k) => n == y && (k == .local || k == .cell)) = false) : swapsWith (.DictComp kx vx gs scope pos) (some (.Name y py)) l env = pure true := by
  have ky : env.kindOf y = some .local := hy
  have kb : env.blockKind = .function := by unfold PySem.Env.blockKind; rw [hk]; rfl
  unfold swapsWith
  simp only [kb, ky, ha, Expr.pos, hl]
  rfl
end
end Mn

/-! Mn: zip(a, zip(b, c)): what an iterator hands on, told so that a zip of such iterators is one of them again. -/
namespace Mn
open PySem PySem.Spec L2
/-- an inner zip: its tuple may be out or not -/
abbrev ZBo (f0 : Value) (b : Bool) (TI TO : Addr) : Obj := { cls := .type "zip", dict := none, data := .fields #[f0, .bool b, .bool false, .ref TI, .ref TO], slots := #[] }
def ZB (h : Heap) (z TI TO : Addr) : Prop := ∃ f0 b, (f0 = .none ∨ ∃ T : Addr, f0 = rawInt T) ∧ h.get? z = some (ZBo f0 b TI TO)
section
variable {prog : Program} {w : World} {A : Around} {E : Value → Shared → Prop} {s : Shared} {z TI TO i1 i2 : Addr} {fp1 fp2 : List Addr} {n1 n2 i : Nat} {P1 P2 : Nat → Value → Prop} {St1 St2 : Nat → Heap → Prop} {a1 a2 : Value}
theorem kdx_gone {T : Addr} {Q : Option Obj → Shared → Prop} (hT : s.heap.get? T = none) (h : Q none s) : wpAny (model prog w) A (loadIfAlive T) Q E s :=
  fun Γ p hΓ => by
    unfold loadIfAlive
    rw [Sem.wp_loadIfAlive, hT]
    exact (wpAny_pure (M := model prog w) (A := A) (E := E) h) Γ p hΓ
theorem zb_free {f0 : Value} {b : Bool} {Q : Bool → Shared → Prop} (hf : f0 = .none ∨ ∃ T : Addr, f0 = rawInt T) (hz : s.heap.get? z = some (ZBo f0 b TI TO)) (h1 : Q true s) (h2 : ∀ h', ZB h' z TI TO → Heap.SameBut z s.heap h' → Q false { s with heap := h' }) :
    wpAny (model prog w) A (Builtin.SmallTypes.ownedTupleIsFree (.ref z)) Q E s := by
  rcases hf with rfl | ⟨T, rfl⟩
  · unfold Builtin.SmallTypes.ownedTupleIsFree
    exact wpAny_bind (wpAny_field hz rfl (x := .none) rfl (wpAny_pure h1))
  · cases hT : s.heap.get? T with
    | some oT =>
      exact wpAny_tupleHeld_zip hz hT fun h' hz' hs => h2 h' ⟨_, _, .inr ⟨T, rfl⟩, hz'⟩ hs
    | none =>
      unfold Builtin.SmallTypes.ownedTupleIsFree
      refine wpAny_bind (wpAny_field hz rfl (x := rawInt T) rfl ?_)
      show wpAny _ _ (loadIfAlive ((T : Int).toNat) >>= _) _ _ _
      rw [Int.toNat_natCast]
      refine wpAny_bind (kdx_gone hT ?_)
      simp only [Option.isNone_none, if_true]
      exact wpAny_pure h1
end
/-- an iterator: the cells that its state reads, those that a turn changes; P i k m h x: x is item i, what is new of it lies from k on and below m, as it stands in h -/
structure Dw (prog : Program) (w : World) (A : Around) (it : Addr) (rd mu : List Addr) (n : Nat) (P : Nat → Nat → Nat → Heap → Value → Prop) (St : Nat → Heap → Prop) : Prop where
  live : ∀ i h, St i h → ∀ b ∈ mu, b < h.objs.size
  keep : ∀ i h h', St i h → (∀ b ∈ rd, ∀ o, h.get? b = some o → h'.get? b = some o) → St i h'
  held : ∀ i k m h h' x, P i k m h x → (∀ b o, k ≤ b → h.get? b = some o → h'.get? b = some o) → P i k m h' x
  mono : ∀ i j k m l h x, P i k m h x → j ≤ k → m ≤ l → P i j l h x
  item : ∀ (i : Nat) (s : Shared) (Q : Value → Shared → Prop) (E : Value → Shared → Prop), i < n → St i s.heap →
    (∀ x h' tk, P i s.heap.objs.size h'.objs.size h' x → St (i + 1) h' → s.heap.objs.size ≤ h'.objs.size → (∀ b o, b ∉ mu → s.heap.get? b = some o → h'.get? b = some o) → Q x { s with heap := h', toks := tk }) → wpAny (model prog w) A (Builtin.SmallTypes.nextOf (.ref it)) Q E s
  done : ∀ (s : Shared) (Q : Value → Shared → Prop) (E : Value → Shared → Prop), St n s.heap →
    (∀ h' tk e, (∀ b o, b ∉ mu → s.heap.get? b = some o → h'.get? b = some o) → (∃ o, h'.get? e = some o ∧ o.cls = .type "StopIteration") → E (.ref e) { s with heap := h', toks := tk }) → wpAny (model prog w) A (Builtin.SmallTypes.nextOf (.ref it)) Q E s
section
variable {prog : Program} {w : World} {A : Around}
theorem Dw.of {it : Addr} {fp : List Addr} {n : Nat} {P : Nat → Value → Prop} {St : Nat → Heap → Prop} (D : Draws prog w A it fp n P St) : Dw prog w A it fp [it] n (fun i _ _ _ x => P i x) St where
  live := fun i h st b hb => by
    obtain ⟨o, e⟩ := D.live i h st
    rw [List.mem_singleton.mp hb]; exact Heap.lt_size e
  keep := D.frame
  held := fun _ _ _ _ _ _ p _ => p
  mono := fun _ _ _ _ _ _ _ p _ _ => p
  item := fun i s Q E hi st q => D.item i s Q E hi st fun x h' tk p st' sb => q x h' tk p st' (Nat.le_of_eq sb.1.symm) fun b o hb e => sb.extBut b o (fun z => hb (by simp [z])) e
  done := fun s Q E st q => D.done s Q E st fun h' e sb he => q h' s.toks e (fun b o hb x => sb b o (fun z => hb (by simp [z])) x) he
/-- the cells of a zip lie apart from those of its parts, and these from each other -/
structure Apt (z TI TO : Addr) (r1 m1 r2 m2 : List Addr) : Prop where
  zI : z ≠ TI
  zO : z ≠ TO
  IO : TI ≠ TO
  z1 : z ∉ r1 ++ m1
  z2 : z ∉ r2 ++ m2
  O1 : TO ∉ r1 ++ m1
  O2 : TO ∉ r2 ++ m2
  I1 : TI ∉ m1
  I2 : TI ∉ m2
  m12 : ∀ b ∈ m1, b ∉ r2 ∧ b ∉ m2
  m21 : ∀ b ∈ m2, b ∉ r1 ∧ b ∉ m1
/-- how a zip stands ahead of its turn i -/
def Zs (z TI TO i1 i2 : Addr) (S1 S2 : Nat → Heap → Prop) (i : Nat) (h : Heap) : Prop := ZB h z TI TO ∧ IsTupOf2 h TI (.ref i1) (.ref i2) ∧ (∃ a b, IsTupOf2 h TO a b) ∧ S1 i h ∧ S2 i h
/-- what a zip hands on: a new pair -/
def Zp (P1 P2 : Nat → Nat → Nat → Heap → Value → Prop) (i k m : Nat) (h : Heap) (x : Value) : Prop := ∃ T x1 x2 k1 k2, x = .ref T ∧ k ≤ T ∧ T < m ∧ IsTupOf2 h T x1 x2 ∧ k ≤ k1 ∧ k ≤ k2 ∧ P1 i k1 T h x1 ∧ P2 i k2 T h x2
variable {z TI TO i1 i2 : Addr} {r1 m1 r2 m2 : List Addr} {n1 n2 : Nat} {P1 P2 : Nat → Nat → Nat → Heap → Value → Prop} {S1 S2 : Nat → Heap → Prop}
/-- the body of a zip's step: the tuple that it hands on, or its end -/
theorem zip_turn (D1 : Dw prog w A i1 r1 m1 n1 P1 S1) (D2 : Dw prog w A i2 r2 m2 n2 P2 S2) (ap : Apt z TI TO r1 m1 r2 m2) {i : Nat} {s : Shared} {E : Value → Shared → Prop} {F : PySem.Fin → Shared → Prop} (st : Zs z TI TO i1 i2 S1 S2 i s.heap) (le1 : i ≤ n1) (le2 : i ≤ n2)
    (go : i < n1 → i < n2 → ∀ x h' tk, Zp P1 P2 i s.heap.objs.size h'.objs.size h' x → Zs z TI TO i1 i2 S1 S2 (i + 1) h' → s.heap.objs.size ≤ h'.objs.size → (∀ b o, b ∉ z :: TO :: (m1 ++ m2) → s.heap.get? b = some o → h'.get? b = some o) → F (.done (.ret x)) { s with heap := h', toks := tk })
    (stop : i = n1 ∨ i = n2 → ∀ h' tk e, (∀ b o, b ∉ z :: TO :: (m1 ++ m2) → s.heap.get? b = some o → h'.get? b = some o) → (∃ o, h'.get? e = some o ∧ o.cls = .type "StopIteration") → E (.ref e) { s with heap := h', toks := tk }) :
    wpAny (model prog w) A (Builtin.«zip.__next__» ⟨[.ref z], []⟩) F E s := by
  obtain ⟨⟨f0, fb, ff, zat⟩, iat, ⟨u1, u2, oat⟩, s1, s2⟩ := st
  have zm1 : z ∉ m1 := fun q => ap.z1 (List.mem_append_right _ q)
  have zr1 : z ∉ r1 := fun q => ap.z1 (List.mem_append_left _ q)
  have zm2 : z ∉ m2 := fun q => ap.z2 (List.mem_append_right _ q)
  have zr2 : z ∉ r2 := fun q => ap.z2 (List.mem_append_left _ q)
  have om1 : TO ∉ m1 := fun q => ap.O1 (List.mem_append_right _ q)
  have or1 : TO ∉ r1 := fun q => ap.O1 (List.mem_append_left _ q)
  have om2 : TO ∉ m2 := fun q => ap.O2 (List.mem_append_right _ q)
  have or2 : TO ∉ r2 := fun q => ap.O2 (List.mem_append_left _ q)
  -- a write to one cell that no part reads
  have k1 : ∀ {j : Nat} {x : Addr} {h h' : Heap}, x ∉ r1 → S1 j h → Heap.SameBut x h h' → S1 j h' := fun {j x h h'} nx q sb => D1.keep j h h' q fun b hb o e => sb.extBut b o (fun y => nx (y ▸ hb)) e
  have k2 : ∀ {j : Nat} {x : Addr} {h h' : Heap}, x ∉ r2 → S2 j h → Heap.SameBut x h h' → S2 j h' := fun {j x h h'} nx q sb => D2.keep j h h' q fun b hb o e => sb.extBut b o (fun y => nx (y ▸ hb)) e
  have t1 : ∀ {j : Nat} {h h' : Heap}, S1 j h → (∀ b o, b ∉ m2 → h.get? b = some o → h'.get? b = some o) → S1 j h' := fun {j h h'} q kp => D1.keep j h h' q fun b hb o e => kp b o (fun y => (ap.m21 b y).1 hb) e
  have t2 : ∀ {j : Nat} {h h' : Heap}, S2 j h → (∀ b o, b ∉ m1 → h.get? b = some o → h'.get? b = some o) → S2 j h' := fun {j h h'} q kp => D2.keep j h h' q fun b hb o e => kp b o (fun y => (ap.m12 b y).1 hb) e
  have out : ∀ {b : Addr}, b ∉ z :: TO :: (m1 ++ m2) → b ≠ z ∧ b ≠ TO ∧ b ∉ m1 ∧ b ∉ m2 := fun {b} q => by
    simp only [List.mem_cons, List.mem_append, not_or] at q
    exact ⟨q.1, q.2.1, q.2.2.1, q.2.2.2⟩
  have zlt : z < s.heap.objs.size := Heap.lt_size zat
  have olt : TO < s.heap.objs.size := Heap.lt_size oat
  have lv2 := D2.live i s.heap s2
  obtain ⟨hp, gs, dr, tk0, os⟩ := s
  show wpAny _ _ (field (.ref z) 2 >>= _) _ _ _
  refine wpAny_bind (wpAny_field zat rfl (x := .bool false) rfl (wpAny_bind (wpAny_field zat rfl (x := .ref TI) rfl (wpAny_bind (wpAny_seqItems iat rfl (wpAny_bind (zb_free ff zat ?_ fun g0 zb0 sb0 => ?_)))))))
  · -- the zip's own tuple is at hand
    simp only [if_true]
    refine wpAny_bind (wpAny_rule (wpAny_bind (wpAny_field zat rfl (x := .ref TO) rfl (wpAny_bind (wpAny_setField_rec zat (by simp) fun g0 z0 sb0 => ?_)))))
    replace z0 : g0.get? z = some (ZBo .ellipsis fb TI TO) := z0
    replace sb0 : Heap.SameBut z hp g0 := sb0
    refine wpAny_bind ?_
    simp only [List.zipIdx_cons, List.zipIdx_nil, List.forIn_cons, List.forIn_nil]
    refine wpAny_bind (wpAny_bind (wpAny_onRaise (wpAny_bind (m := Builtin.SmallTypes.nextOf (.ref i1)) ?_)))
    have put : ∀ {q : Heap} {e : Addr} {tk : Nat}, q.get? z = some (ZBo .ellipsis fb TI TO) → (∀ b o, b ∉ z :: TO :: (m1 ++ m2) → hp.get? b = some o → q.get? b = some o) → (∃ o, q.get? e = some o ∧ o.cls = .type "StopIteration") → (i = n1 ∨ i = n2) →
        wpAny (model prog w) A (setField (.ref z) 0 .none) (fun _ s' => E (.ref e) s') E ⟨q, gs, dr, tk, os⟩ := by
      intro q e tk zq kq he hd
      obtain ⟨oe, ge, ce⟩ := he
      refine wpAny_setField_rec (s := ⟨q, gs, dr, tk, os⟩) zq (by simp) fun q' _ sb' => ?_
      replace sb' : Heap.SameBut z q q' := sb'
      refine stop hd q' tk e (fun b o hb x => sb'.extBut b o (out hb).1 (kq b o hb x)) ⟨oe, sb'.extBut _ _ ?_ ge, ce⟩
      rintro rfl
      rw [zq] at ge
      cases ge
      simp at ce
    rcases Nat.lt_or_ge i n1 with lt1 | ge1
    · refine D1.item i _ _ _ lt1 (k1 zr1 s1 sb0) ?_
      intro x1 p1 tk1 hx1 s1' up1 kp1
      replace kp1 : ∀ b o, b ∉ m1 → g0.get? b = some o → p1.get? b = some o := kp1
      replace hx1 : P1 i g0.objs.size p1.objs.size p1 x1 := hx1
      replace up1 : g0.objs.size ≤ p1.objs.size := up1
      have O1 : IsTupOf2 p1 TO u1 u2 := kp1 _ _ om1 (sb0.extBut _ _ ap.zO.symm oat)
      refine wpAny_pure (wpAny_bind (wpAny_seqItems (s := ⟨p1, gs, dr, tk1, os⟩) O1 rfl (wpAny_bind (updateSeq_IsTupOf2 (s := ⟨p1, gs, dr, tk1, os⟩) O1 fun g1 O1' sb1 => ?_))))
      refine wpAny_bind (wpAny_letGo (wpAny_pure (wpAny_bind (wpAny_bind (wpAny_onRaise (wpAny_bind (m := Builtin.SmallTypes.nextOf (.ref i2)) ?_))))))
      replace O1' : IsTupOf2 g1 TO x1 u2 := O1'
      replace sb1 : Heap.SameBut TO p1 g1 := sb1
      have s2' : S2 i g1 := k2 or2 (t2 (k2 zr2 s2 sb0) kp1) sb1
      have z1 : g1.get? z = some (ZBo .ellipsis fb TI TO) := sb1.extBut _ _ ap.zO (kp1 _ _ zm1 z0)
      have kq1 : ∀ b o, b ∉ z :: TO :: (m1 ++ m2) → hp.get? b = some o → g1.get? b = some o := fun b o hb e => sb1.extBut _ _ (out hb).2.1 (kp1 _ _ (out hb).2.2.1 (sb0.extBut _ _ (out hb).1 e))
      rcases Nat.lt_or_ge i n2 with lt2 | ge2
      · refine D2.item i ⟨g1, gs, dr, tk1, os⟩ _ _ lt2 s2' ?_
        intro x2 p2 tk2 hx2 s2'' up2 kp2
        replace kp2 : ∀ b o, b ∉ m2 → g1.get? b = some o → p2.get? b = some o := kp2
        replace hx2 : P2 i g1.objs.size p2.objs.size p2 x2 := hx2
        replace up2 : g1.objs.size ≤ p2.objs.size := up2
        have O2 : IsTupOf2 p2 TO x1 u2 := kp2 _ _ om2 O1'
        refine wpAny_pure (wpAny_bind (wpAny_seqItems (s := ⟨p2, gs, dr, tk2, os⟩) O2 rfl (wpAny_bind (updateSeq_IsTupOf2 (s := ⟨p2, gs, dr, tk2, os⟩) O2 fun g2 O2' sb2 => ?_))))
        replace O2' : IsTupOf2 g2 TO x1 x2 := O2'
        replace sb2 : Heap.SameBut TO p2 g2 := sb2
        refine wpAny_bind (wpAny_letGo (wpAny_pure (wpAny_pure ?_)))
        refine wpAny_bind (wpAny_seqItems (s := ⟨g2, gs, dr, tk2, os⟩) O2' rfl ?_)
        refine wpAny_bind (wpAny_newTuple ?_)
        have z2 : g2.get? z = some (ZBo .ellipsis fb TI TO) := sb2.extBut _ _ ap.zO (kp2 _ _ zm2 z1)
        have sz0 : g0.objs.size = hp.objs.size := sb0.1
        have sz1 : g1.objs.size = p1.objs.size := sb1.1
        have sz2 : g2.objs.size = p2.objs.size := sb2.1
        have up : hp.objs.size ≤ g2.objs.size := by omega
        show wpAny _ _ (Builtin.SmallTypes.ownedTupleHandOut (.ref z) (.ref g2.objs.size) >>= _) _ _ ⟨g2.push { cls := .type "tuple", data := .seq #[x1, x2] }, gs, dr, tk2, os⟩
        refine wpAny_bind ?_
        unfold Builtin.SmallTypes.ownedTupleHandOut
        have z3 : (g2.push { cls := .type "tuple", data := .seq #[x1, x2] }).get? z = some (ZBo .ellipsis fb TI TO) := Heap.get?_push_of_some _ z2
        have T3 : IsTupOf2 (g2.push { cls := .type "tuple", data := .seq #[x1, x2] }) g2.objs.size x1 x2 := Heap.get?_push_size _ rfl
        have sz3 : (g2.push { cls := .type "tuple", data := .seq #[x1, x2] }).objs.size = g2.objs.size + 1 := Heap.size_push ..
        refine wpAny_bind (wpAny_setField_rec z3 (by simp) fun g4 z4 sb4 => wpAny_setField_rec z4 (by simp) fun g5 z5 sb5 => ?_)
        replace sb4 : Heap.SameBut z (g2.push { cls := .type "tuple", data := .seq #[x1, x2] }) g4 := sb4
        replace sb5 : Heap.SameBut z g4 g5 := sb5
        replace z5 : g5.get? z = some (ZBo (rawInt g2.objs.size) false TI TO) := z5
        have late : ∀ b o, b ≠ z → g2.get? b = some o → g5.get? b = some o := fun b o nb e => sb5.extBut _ _ nb (sb4.extBut _ _ nb (Heap.get?_push_of_some _ e))
        have T5 : IsTupOf2 g5 g2.objs.size x1 x2 := sb5.extBut _ _ (Nat.ne_of_gt (Nat.lt_of_lt_of_le zlt up)) (sb4.extBut _ _ (Nat.ne_of_gt (Nat.lt_of_lt_of_le zlt up)) T3)
        have sz5 : g5.objs.size = g2.objs.size + 1 := by rw [sb5.1, sb4.1, sz3]
        have fresh1 : ∀ b o, g0.objs.size ≤ b → p1.get? b = some o → g5.get? b = some o := fun b o hb e => by
          have n1 : b ≠ TO := fun y => by rw [y, sz0] at hb; exact absurd olt (Nat.not_lt.mpr hb)
          have n2 : b ≠ z := fun y => by rw [y, sz0] at hb; exact absurd zlt (Nat.not_lt.mpr hb)
          have n3 : b ∉ m2 := fun y => by rw [sz0] at hb; exact absurd (lv2 b y) (Nat.not_lt.mpr hb)
          exact late _ _ n2 (sb2.extBut _ _ n1 (kp2 _ _ n3 (sb1.extBut _ _ n1 e)))
        have fresh2 : ∀ b o, g1.objs.size ≤ b → p2.get? b = some o → g5.get? b = some o := fun b o hb e => by
          have hb' : hp.objs.size ≤ b := Nat.le_trans (by omega) hb
          have n1 : b ≠ TO := fun y => by rw [y] at hb'; exact absurd olt (Nat.not_lt.mpr hb')
          have n2 : b ≠ z := fun y => by rw [y] at hb'; exact absurd zlt (Nat.not_lt.mpr hb')
          exact late _ _ n2 (sb2.extBut _ _ n1 e)
        have e1 : S1 (i + 1) g5 := D1.keep _ _ _ (k1 or1 (t1 (k1 or1 s1' sb1) kp2) sb2) fun b hb o e => late b o (fun y => zr1 (y ▸ hb)) e
        have e2 : S2 (i + 1) g5 := D2.keep _ _ _ (k2 or2 s2'' sb2) fun b hb o e => late b o (fun y => zr2 (y ▸ hb)) e
        have eI : IsTupOf2 g5 TI (.ref i1) (.ref i2) := late _ _ ap.zI.symm (sb2.extBut _ _ ap.IO (kp2 _ _ ap.I2 (sb1.extBut _ _ ap.IO (kp1 _ _ ap.I1 (sb0.extBut _ _ ap.zI.symm iat)))))
        refine wpAny_pure (go lt1 lt2 (.ref g2.objs.size) g5 tk2 ⟨_, x1, x2, g0.objs.size, g1.objs.size, rfl, up, by rw [sz5]; exact Nat.lt_succ_self _, T5, Nat.le_of_eq sz0.symm, by show hp.objs.size ≤ g1.objs.size; omega, D1.mono _ _ _ _ _ _ _ (D1.held _ _ _ _ _ _ hx1 fresh1) (Nat.le_refl _) (by omega), D2.mono _ _ _ _ _ _ _ (D2.held _ _ _ _ _ _ hx2 fresh2) (Nat.le_refl _) (by omega)⟩
          ⟨⟨_, _, .inr ⟨_, rfl⟩, z5⟩, eI, ⟨_, _, late _ _ ap.zO.symm O2'⟩, e1, e2⟩ (by show hp.objs.size ≤ g5.objs.size; omega) ?_)
        intro b o hb e
        exact late b o (out hb).1 (sb2.extBut _ _ (out hb).2.1 (kp2 _ _ (out hb).2.2.2 (kq1 b o hb e)))
      · have en : i = n2 := Nat.le_antisymm le2 ge2
        refine D2.done ⟨g1, gs, dr, tk1, os⟩ _ _ (en ▸ s2') ?_
        intro q tk e kq he
        replace kq : ∀ b o, b ∉ m2 → g1.get? b = some o → q.get? b = some o := kq
        exact put (kq _ _ zm2 z1) (fun b o hb x => kq _ _ (out hb).2.2.2 (kq1 b o hb x)) he (.inr en)
    · have en : i = n1 := Nat.le_antisymm le1 ge1
      refine D1.done ⟨g0, gs, dr, tk0, os⟩ _ _ (en ▸ k1 zr1 s1 sb0) ?_
      intro q tk e kq he
      replace kq : ∀ b o, b ∉ m1 → g0.get? b = some o → q.get? b = some o := kq
      exact put (kq _ _ zm1 z0) (fun b o hb x => kq _ _ (out hb).2.2.1 (sb0.extBut _ _ (out hb).1 x)) he (.inl en)
  · -- the tuple is still out: a new one, straight
    replace sb0 : Heap.SameBut z hp g0 := sb0
    simp only [Bool.false_eq_true, if_false]
    refine wpAny_bind ?_
    rw [← Array.forIn_toList]
    simp only [List.forIn_cons, List.forIn_nil]
    refine wpAny_bind (wpAny_bind (wpAny_holding (wpAny_bind (m := Builtin.SmallTypes.nextOf (.ref i1)) ?_)))
    rcases Nat.lt_or_ge i n1 with lt1 | ge1
    · refine D1.item i ⟨g0, gs, dr, tk0, os⟩ _ _ lt1 (k1 zr1 s1 sb0) ?_
      intro x1 p1 tk1 hx1 s1' up1 kp1
      replace kp1 : ∀ b o, b ∉ m1 → g0.get? b = some o → p1.get? b = some o := kp1
      replace hx1 : P1 i g0.objs.size p1.objs.size p1 x1 := hx1
      replace up1 : g0.objs.size ≤ p1.objs.size := up1
      refine wpAny_pure (wpAny_pure (wpAny_bind (wpAny_bind (wpAny_holding (wpAny_bind (m := Builtin.SmallTypes.nextOf (.ref i2)) ?_)))))
      have s2' : S2 i p1 := t2 (k2 zr2 s2 sb0) kp1
      have kq1 : ∀ b o, b ∉ z :: TO :: (m1 ++ m2) → hp.get? b = some o → p1.get? b = some o := fun b o hb e => kp1 _ _ (out hb).2.2.1 (sb0.extBut _ _ (out hb).1 e)
      rcases Nat.lt_or_ge i n2 with lt2 | ge2
      · refine D2.item i ⟨p1, gs, dr, tk1, os⟩ _ _ lt2 s2' ?_
        intro x2 p2 tk2 hx2 s2'' up2 kp2
        replace kp2 : ∀ b o, b ∉ m2 → p1.get? b = some o → p2.get? b = some o := kp2
        replace hx2 : P2 i p1.objs.size p2.objs.size p2 x2 := hx2
        replace up2 : p1.objs.size ≤ p2.objs.size := up2
        have sz0 : g0.objs.size = hp.objs.size := sb0.1
        refine wpAny_pure (wpAny_pure (wpAny_pure ?_))
        show wpAny _ _ (newTuple [x1, x2] >>= _) _ _ ⟨p2, gs, dr, tk2, os⟩
        refine wpAny_bind (wpAny_newTuple ?_)
        have late : ∀ b o, p2.get? b = some o → (p2.push { cls := .type "tuple", data := .seq #[x1, x2] }).get? b = some o := fun b o e => Heap.get?_push_of_some _ e
        have T5 : IsTupOf2 (p2.push { cls := .type "tuple", data := .seq #[x1, x2] }) p2.objs.size x1 x2 := Heap.get?_push_size _ rfl
        have sz5 : (p2.push { cls := .type "tuple", data := .seq #[x1, x2] }).objs.size = p2.objs.size + 1 := Heap.size_push ..
        obtain ⟨f1, b1, ff1, zz0⟩ := zb0
        have fresh1 : ∀ b o, g0.objs.size ≤ b → p1.get? b = some o → (p2.push { cls := .type "tuple", data := .seq #[x1, x2] }).get? b = some o := fun b o hb e => by
          have n3 : b ∉ m2 := fun y => by rw [sz0] at hb; exact absurd (lv2 b y) (Nat.not_lt.mpr hb)
          exact late _ _ (kp2 _ _ n3 e)
        have z5 := late _ _ (kp2 _ _ zm2 (kp1 _ _ zm1 zz0))
        refine wpAny_pure (go lt1 lt2 (.ref p2.objs.size) _ tk2 ⟨_, x1, x2, g0.objs.size, p1.objs.size, rfl, by show hp.objs.size ≤ p2.objs.size; omega, by rw [sz5]; exact Nat.lt_succ_self _, T5, Nat.le_of_eq sz0.symm, by show hp.objs.size ≤ p1.objs.size; omega, D1.mono _ _ _ _ _ _ _ (D1.held _ _ _ _ _ _ hx1 fresh1) (Nat.le_refl _) (by omega), D2.mono _ _ _ _ _ _ _ (D2.held _ _ _ _ _ _ hx2 fun b o _ e => late _ _ e) (Nat.le_refl _) (Nat.le_refl _)⟩
          ⟨⟨_, _, ff1, z5⟩, late _ _ (kp2 _ _ ap.I2 (kp1 _ _ ap.I1 (sb0.extBut _ _ ap.zI.symm iat))), ⟨_, _, late _ _ (kp2 _ _ om2 (kp1 _ _ om1 (sb0.extBut _ _ ap.zO.symm oat)))⟩, D1.keep _ _ _ (t1 s1' kp2) fun b _ o e => late _ _ e, D2.keep _ _ _ s2'' fun b _ o e => late _ _ e⟩
          (by show hp.objs.size ≤ _; rw [sz5]; omega) ?_)
        intro b o hb e
        exact late _ _ (kp2 _ _ (out hb).2.2.2 (kq1 b o hb e))
      · have en : i = n2 := Nat.le_antisymm le2 ge2
        refine D2.done ⟨p1, gs, dr, tk1, os⟩ _ _ (en ▸ s2') ?_
        intro q tk e kq he
        exact stop (.inr en) q tk e (fun b o hb x => kq _ _ (out hb).2.2.2 (kq1 b o hb x)) he
    · have en : i = n1 := Nat.le_antisymm le1 ge1
      refine D1.done ⟨g0, gs, dr, tk0, os⟩ _ _ (en ▸ k1 zr1 s1 sb0) ?_
      intro q tk e kq he
      exact stop (.inl en) q tk e (fun b o hb x => kq _ _ (out hb).2.2.1 (sb0.extBut _ _ (out hb).1 x)) he
theorem ZB.keep {h h' : Heap} (q : ZB h z TI TO) (k : ∀ o, h.get? z = some o → h'.get? z = some o) : ZB h' z TI TO := let ⟨f, b, hf, e⟩ := q; ⟨f, b, hf, k _ e⟩
theorem Zs.typ {i : Nat} {s : Shared} (st : Zs z TI TO i1 i2 S1 S2 i s.heap) : s.TypeIs (.ref z) "zip" := by
  obtain ⟨⟨f0, b, _, h⟩, _⟩ := st
  exact ⟨_, h, rfl⟩
/-- a zip of two is an iterator again -/
theorem dw_zip (D1 : Dw prog w A.in1 i1 r1 m1 n1 P1 S1) (D2 : Dw prog w A.in1 i2 r2 m2 n2 P2 S2) (ap : Apt z TI TO r1 m1 r2 m2) :
    Dw prog w A z (z :: TI :: TO :: (r1 ++ r2)) (z :: TO :: (m1 ++ m2)) (min n1 n2) (Zp P1 P2) (Zs z TI TO i1 i2 S1 S2) where
  live := fun i h ⟨⟨_, _, _, hz⟩, _, ⟨_, _, ho⟩, h1, h2⟩ b hb => by
    rcases List.mem_cons.mp hb with rfl | hb
    · exact Heap.lt_size hz
    rcases List.mem_cons.mp hb with rfl | hb
    · exact Heap.lt_size ho
    exact (List.mem_append.mp hb).elim (D1.live i h h1 b) (D2.live i h h2 b)
  keep := fun i h h' ⟨hz, hi, ⟨u, v, ho⟩, h1, h2⟩ k => ⟨hz.keep fun o e => k z (by simp) o e, k TI (by simp) _ hi, ⟨u, v, k TO (by simp) _ ho⟩, D1.keep i h h' h1 fun b hb o e => k b (by simp [hb]) o e, D2.keep i h h' h2 fun b hb o e => k b (by simp [hb]) o e⟩
  held := fun i k m h h' x ⟨T, x1, x2, a, b, ex, kT, Tm, hT, ka, kb, p1, p2⟩ kp => ⟨T, x1, x2, a, b, ex, kT, Tm, kp _ _ kT hT, ka, kb, D1.held _ _ _ _ _ _ p1 fun c o hc e => kp c o (Nat.le_trans ka hc) e, D2.held _ _ _ _ _ _ p2 fun c o hc e => kp c o (Nat.le_trans kb hc) e⟩
  mono := fun i j k m l h x ⟨T, x1, x2, a, b, ex, kT, Tm, hT, ka, kb, r⟩ hj hm => ⟨T, x1, x2, a, b, ex, Nat.le_trans hj kT, Nat.lt_of_lt_of_le Tm hm, hT, Nat.le_trans hj ka, Nat.le_trans hj kb, r⟩
  item := fun i s Q E hi st q => by
    unfold Builtin.SmallTypes.nextOf
    refine wpAny_bind (wpAny_callSpecial?_slot (name := Str.ofString "__next__") st.typ F.slot_zip_next (wpAny_call_entry F.slot_zip_next st.typ F.entry_zip_next ?_ (F.args_zip_next_1 _)))
    exact zip_turn D1 D2 ap st (by omega) (by omega) (fun _ _ x h' tk hx st' up kp => ⟨x, rfl, wpAny_pure (q x h' tk hx st' up kp)⟩) fun hd => absurd hi (by omega)
  done := fun s Q E st q => by
    unfold Builtin.SmallTypes.nextOf
    refine wpAny_bind (wpAny_callSpecial?_slot (name := Str.ofString "__next__") st.typ F.slot_zip_next (wpAny_call_entry F.slot_zip_next st.typ F.entry_zip_next ?_ (F.args_zip_next_1 _)))
    exact zip_turn D1 D2 ap st (Nat.min_le_left _ _) (Nat.min_le_right _ _) (fun l1 l2 => absurd l1 (by omega)) fun _ h' tk e kp he => q h' tk e kp he
theorem zip_drawn (D1 : Dw prog w A.in1 i1 r1 m1 n1 P1 S1) (D2 : Dw prog w A.in1 i2 r2 m2 n2 P2 S2) (ap : Apt z TI TO r1 m1 r2 m2) {i : Nat} {s : Shared} {E : Value → Shared → Prop} {Q : Option Value → Shared → Prop} (st : Zs z TI TO i1 i2 S1 S2 i s.heap) (lt1 : i < n1) (lt2 : i < n2)
    (go : ∀ x h' tk, Zp P1 P2 i s.heap.objs.size h'.objs.size h' x → Zs z TI TO i1 i2 S1 S2 (i + 1) h' → s.heap.objs.size ≤ h'.objs.size → (∀ b o, b ∉ z :: TO :: (m1 ++ m2) → s.heap.get? b = some o → h'.get? b = some o) → Q (some x) { s with heap := h', toks := tk }) : wpAny (model prog w) A (pyNext (.ref z)) Q E s := by
  unfold pyNext
  refine wpAny_bind (wpAny_attempt (wpAny_callSpecial?_slot (name := Str.ofString "__next__") st.typ F.slot_zip_next (wpAny_call_entry F.slot_zip_next st.typ F.entry_zip_next ?_ (F.args_zip_next_1 _))))
  exact zip_turn D1 D2 ap st (Nat.le_of_lt lt1) (Nat.le_of_lt lt2) (fun _ _ x h' tk hx st' up kp => ⟨x, rfl, wpAny_pure (go x h' tk hx st' up kp)⟩) fun hd => absurd lt1 (by omega)
theorem zip_over (D1 : Dw prog w A.in1 i1 r1 m1 n1 P1 S1) (D2 : Dw prog w A.in1 i2 r2 m2 n2 P2 S2) (ap : Apt z TI TO r1 m1 r2 m2) {i : Nat} {s : Shared} {E : Value → Shared → Prop} {Q : Option Value → Shared → Prop} (st : Zs z TI TO i1 i2 S1 S2 i s.heap) (le1 : i ≤ n1) (le2 : i ≤ n2) (hd : i = n1 ∨ i = n2)
    (stop : ∀ h' tk, (∀ b o, b ∉ z :: TO :: (m1 ++ m2) → s.heap.get? b = some o → h'.get? b = some o) → Q none { s with heap := h', toks := tk }) : wpAny (model prog w) A (pyNext (.ref z)) Q E s := by
  unfold pyNext
  refine wpAny_bind (wpAny_attempt (wpAny_callSpecial?_slot (name := Str.ofString "__next__") st.typ F.slot_zip_next (wpAny_call_entry F.slot_zip_next st.typ F.entry_zip_next ?_ (F.args_zip_next_1 _))))
  refine zip_turn D1 D2 ap st le1 le2 (fun l1 l2 => absurd l1 (by omega)) fun _ h' tk e kp he => ?_
  obtain ⟨o, ge, ce⟩ := he
  exact wpAny_bind (wpAny_isInstance (T := "StopIteration") (b := true) ⟨o, ge, ce⟩ isSubtype_stop (wpAny_pure (stop _ _ kp)))
/-- the target takes the tuple apart: the zip may use it again, or not -/
theorem zb_let {elts : List Expr} {kk : Nat} {tpos : Pos} {T : Addr} {s : Shared} {E : Value → Shared → Prop} {Q : Unit → Shared → Prop} (hz : ZB s.heap z TI TO) (q : ∀ h', ZB h' z TI TO → Heap.SameBut z s.heap h' → Q () { s with heap := h' }) : wpAny (model prog w) A (letOwnedTupleGo (.Tuple elts kk tpos) (.ref z) (.ref T)) Q E s := by
  obtain ⟨f0, b, ff, e⟩ := hz
  unfold letOwnedTupleGo
  refine wpAny_bind (wpAny_load e ?_)
  dsimp only
  split
  · refine wpAny_bind (wpAny_rule ?_)
    refine wpAny_setField_rec e (by simp) fun h' z' sb => q h' ⟨.none, b, .inl rfl, z'⟩ sb
  · exact wpAny_pure (q s.heap ⟨f0, b, ff, e⟩ (Heap.SameBut.refl _ _))
end
section
variable {X : Cx} {pins : List (Addr × Obj)} {σ : L2.St} {H : Hp} {s : Shared}
theorem src_drawsA {A : Around} (I : Inv X pins σ H s) (hh : A.handled = none) {src : Src} {xs : List V} (now : src.now X.K H xs) {it : Addr} {i : Nat} (st : src.iter it i s.heap) (ne : src.off it) :
    ∃ (fp : List Addr) (Pv : Nat → Value → Prop) (St : Nat → Heap → Prop), Draws X.prog X.w A it fp xs.length Pv St ∧ St i s.heap ∧ (∀ j v, Pv j v → ∃ x, xs[j]? = some x ∧ RelV x v) ∧ (∀ j h, St j h → src.iter it j h) ∧ it ∈ fp ∧ ∀ b ∈ fp, b = it ∨ ¬ src.off b := by
  cases src with
  | txt x t =>
    have e : xs = x.cps.toList.map fun c => V.str ⟨#[c]⟩ := now
    have el : xs.length = x.cps.size := by rw [e]; simp
    rw [el]
    refine ⟨_, _, _, Draws.text (A := A) hh it x t, st, fun j v ⟨c, u, hc, hv⟩ => ⟨.str ⟨#[c]⟩, ?_, ?_⟩, fun _ _ h => h, by simp, fun b hb => .inl (by simpa using hb)⟩
    · rw [e]; simp [hc]
    · rw [hv]; exact ⟨u, rfl⟩
  | tpl a =>
    obtain ⟨its, rv, p, hz⟩ := I.tuple now
    have el : xs.length = its.toArray.size := by rw [rv.length]; simp
    rw [el]
    refine ⟨_, _, _, Draws.tuple (A := A) hh it a ne its.toArray, ⟨st, p⟩, fun j v hv => ?_, fun _ _ h => h.1, by simp, fun b hb => ?_⟩
    · have hv' : its[j]? = some v := by simpa using hv
      exact vals_getV rv hv'
    · have : b = it ∨ b = a := by simpa using hb
      rcases this with e | e
      · exact .inl e
      · exact .inr fun z => z e.symm
  | lst a =>
    obtain ⟨its, rv, p, hz⟩ := I.list now
    have el : xs.length = its.toArray.size := by rw [rv.length]; simp
    rw [el]
    refine ⟨_, _, _, Draws.list (A := A) hh it a ne its.toArray, ⟨st, p.isList⟩, fun j v hv => ?_, fun _ _ h => h.1, by simp, fun b hb => ?_⟩
    · have hv' : its[j]? = some v := by simpa using hv
      exact vals_getV rv hv'
    · have : b = it ∨ b = a := by simpa using hb
      rcases this with e | e
      · exact .inl e
      · exact .inr fun z => z e.symm
end
/-- zip of a source with the zip of two -/
def Jzz (K : PySem.W.Frag) (s0 s1 s2 : Src) : It :=
  ⟨fun i H => ∃ (xs ys zs : List V), s0.now K H xs ∧ s1.now K H ys ∧ s2.now K H zs ∧ i < xs.length ∧ i < ys.length ∧ i < zs.length,
    fun i H v H' => ∃ T U x y z, v = .ref T ∧ H U = none ∧ (upd H U (.tup [y, z])) T = none ∧ H' = upd (upd H U (.tup [y, z])) T (.tup [x, .ref U]) ∧ (∀ xs, s0.now K H xs → xs[i]? = some x) ∧ (∀ ys, s1.now K H ys → ys[i]? = some y) ∧ ∀ zs, s2.now K H zs → zs[i]? = some z,
    fun i H => ∃ xs ys zs : List V, s0.now K H xs ∧ s1.now K H ys ∧ s2.now K H zs ∧ (xs.length = i ∨ ys.length = i ∨ zs.length = i) ∧ i ≤ xs.length ∧ i ≤ ys.length ∧ i ≤ zs.length⟩
structure ZZApart (z TI TO i0 y UI UO j1 j2 : Addr) (s0 s1 s2 : Src) : Prop where
  nd : [z, TI, TO, i0, y, UI, UO, j1, j2].Nodup
  o0 : ∀ b ∈ [z, TI, TO, i0, y, UI, UO, j1, j2], s0.off b
  o1 : ∀ b ∈ [z, TI, TO, i0, y, UI, UO, j1, j2], s1.off b
  o2 : ∀ b ∈ [z, TI, TO, i0, y, UI, UO, j1, j2], s2.off b
theorem ZZApart.in_ {z TI TO i0 y UI UO j1 j2 : Addr} {s0 s1 s2 : Src} (D : ZZApart z TI TO i0 y UI UO j1 j2 s0 s1 s2) {f1 f2 : List Addr} (h1 : ∀ b ∈ f1, b = j1 ∨ ¬ s1.off b) (h2 : ∀ b ∈ f2, b = j2 ∨ ¬ s2.off b) : Apt y UI UO f1 [j1] f2 [j2] := by
  have nd := D.nd
  simp only [List.nodup_cons, List.mem_cons, List.not_mem_nil, or_false, not_or, not_false_eq_true, List.nodup_nil, and_true] at nd
  obtain ⟨-, -, -, -, ⟨u1, u2, u3, u4⟩, ⟨v1, v2, v3⟩, ⟨w1, w2⟩, x1⟩ := nd
  have a1 : ∀ {b}, b ∈ [z, TI, TO, i0, y, UI, UO, j1, j2] → b ≠ j1 → b ∉ f1 := fun hb n q => (h1 _ q).elim n fun r => r (D.o1 _ hb)
  have a2 : ∀ {b}, b ∈ [z, TI, TO, i0, y, UI, UO, j1, j2] → b ≠ j2 → b ∉ f2 := fun hb n q => (h2 _ q).elim n fun r => r (D.o2 _ hb)
  refine ⟨u1, u2, v1, fun q => ?_, fun q => ?_, fun q => ?_, fun q => ?_, fun q => v2 (List.mem_singleton.mp q), fun q => v3 (List.mem_singleton.mp q), fun b hb => ?_, fun b hb => ?_⟩
  · exact (List.mem_append.mp q).elim (a1 (by simp) u3) fun r => u3 (List.mem_singleton.mp r)
  · exact (List.mem_append.mp q).elim (a2 (by simp) u4) fun r => u4 (List.mem_singleton.mp r)
  · exact (List.mem_append.mp q).elim (a1 (by simp) w1) fun r => w1 (List.mem_singleton.mp r)
  · exact (List.mem_append.mp q).elim (a2 (by simp) w2) fun r => w2 (List.mem_singleton.mp r)
  · rw [List.mem_singleton.mp hb]
    exact ⟨a2 (by simp) x1, fun r => x1 (List.mem_singleton.mp r)⟩
  · rw [List.mem_singleton.mp hb]
    exact ⟨a1 (by simp) (Ne.symm x1), fun r => x1 (List.mem_singleton.mp r).symm⟩
theorem ZZApart.out {z TI TO i0 y UI UO j1 j2 : Addr} {s0 s1 s2 : Src} (D : ZZApart z TI TO i0 y UI UO j1 j2 s0 s1 s2) {f0 f1 f2 : List Addr} (h0 : ∀ b ∈ f0, b = i0 ∨ ¬ s0.off b) (h1 : ∀ b ∈ f1, b = j1 ∨ ¬ s1.off b) (h2 : ∀ b ∈ f2, b = j2 ∨ ¬ s2.off b) :
    Apt z TI TO f0 [i0] (y :: UI :: UO :: (f1 ++ f2)) (y :: UO :: ([j1] ++ [j2])) := by
  have nd := D.nd
  simp only [List.nodup_cons, List.mem_cons, List.not_mem_nil, or_false, not_or, not_false_eq_true, List.nodup_nil, and_true] at nd
  obtain ⟨⟨p1, p2, p3, p4, p5, p6, p7, p8⟩, ⟨q1, q2, q3, q4, q5, q6, q7⟩, ⟨r1, r2, r3, r4, r5, r6⟩, ⟨t1, t2, t3, t4, t5⟩, -, -, -, -⟩ := nd
  have a0 : ∀ {b}, b ∈ [z, TI, TO, i0, y, UI, UO, j1, j2] → b ≠ i0 → b ∉ f0 := fun hb n q => (h0 _ q).elim n fun r => r (D.o0 _ hb)
  have a1 : ∀ {b}, b ∈ [z, TI, TO, i0, y, UI, UO, j1, j2] → b ≠ j1 → b ∉ f1 := fun hb n q => (h1 _ q).elim n fun r => r (D.o1 _ hb)
  have a2 : ∀ {b}, b ∈ [z, TI, TO, i0, y, UI, UO, j1, j2] → b ≠ j2 → b ∉ f2 := fun hb n q => (h2 _ q).elim n fun r => r (D.o2 _ hb)
  refine ⟨p1, p2, q1, fun q => ?_, fun q => ?_, fun q => ?_, fun q => ?_, fun q => q2 (List.mem_singleton.mp q), fun q => ?_, fun b hb => ?_, fun b hb => ?_⟩
  · exact (List.mem_append.mp q).elim (a0 (by simp) p3) fun r => p3 (List.mem_singleton.mp r)
  · simp only [List.mem_append, List.mem_cons, List.not_mem_nil, or_false] at q
    rcases q with (q | q | q | q | q) | q | q | q | q
    · exact p4 q
    · exact p5 q
    · exact p6 q
    · exact a1 (by simp) p7 q
    · exact a2 (by simp) p8 q
    · exact p4 q
    · exact p6 q
    · exact p7 q
    · exact p8 q
  · exact (List.mem_append.mp q).elim (a0 (by simp) r1) fun r => r1 (List.mem_singleton.mp r)
  · simp only [List.mem_append, List.mem_cons, List.not_mem_nil, or_false] at q
    rcases q with (q | q | q | q | q) | q | q | q | q
    · exact r2 q
    · exact r3 q
    · exact r4 q
    · exact a1 (by simp) r5 q
    · exact a2 (by simp) r6 q
    · exact r2 q
    · exact r4 q
    · exact r5 q
    · exact r6 q
  · simp only [List.mem_append, List.mem_cons, List.not_mem_nil, or_false] at q
    rcases q with q | q | q | q
    · exact q3 q
    · exact q5 q
    · exact q6 q
    · exact q7 q
  · rw [List.mem_singleton.mp hb]
    refine ⟨fun q => ?_, fun q => ?_⟩
    · simp only [List.mem_append, List.mem_cons] at q
      rcases q with q | q | q | q | q
      · exact t1 q
      · exact t2 q
      · exact t3 q
      · exact a1 (by simp) t4 q
      · exact a2 (by simp) t5 q
    · simp only [List.mem_append, List.mem_cons, List.not_mem_nil, or_false] at q
      rcases q with q | q | q | q
      · exact t1 q
      · exact t3 q
      · exact t4 q
      · exact t5 q
  · simp only [List.mem_append, List.mem_cons, List.not_mem_nil, or_false] at hb
    rcases hb with rfl | rfl | rfl | rfl
    · exact ⟨a0 (by simp) (Ne.symm t1), fun r => t1 (List.mem_singleton.mp r).symm⟩
    · exact ⟨a0 (by simp) (Ne.symm t3), fun r => t3 (List.mem_singleton.mp r).symm⟩
    · exact ⟨a0 (by simp) (Ne.symm t4), fun r => t4 (List.mem_singleton.mp r).symm⟩
    · exact ⟨a0 (by simp) (Ne.symm t5), fun r => t5 (List.mem_singleton.mp r).symm⟩
/-- how zip(a, zip(b, c)) stands ahead of turn i -/
def Zz (z TI TO i0 y UI UO j1 j2 : Addr) (s0 s1 s2 : Src) (i : Nat) (h : Heap) : Prop := Zs z TI TO i0 y (s0.iter i0) (Zs y UI UO j1 j2 (s1.iter j1) (s2.iter j2)) i h
theorem turn_zz {P : Program} {w : World} {K : PySem.W.Frag} {elts : List Expr} {kk : Nat} {tpos : Pos} {z TI TO i0 y UI UO j1 j2 : Addr} {s0 s1 s2 : Src} (D : ZZApart z TI TO i0 y UI UO j1 j2 s0 s1 s2) :
    Turn P w K (.Tuple elts kk tpos) (Jzz K s0 s1 s2) [z, TI, TO, i0, y, UI, UO, j1, j2] z (Zz z TI TO i0 y UI UO j1 j2 s0 s1 s2) where
  mem := by simp
  obj := fun i h st c hc => by
    obtain ⟨⟨_, _, _, hz⟩, hTI, ⟨_, _, hTO⟩, h0, ⟨_, _, _, hy⟩, hUI, ⟨_, _, hUO⟩, h1, h2⟩ := st
    simp only [List.mem_cons, List.not_mem_nil, or_false] at hc
    rcases hc with rfl | rfl | rfl | rfl | rfl | rfl | rfl | rfl | rfl
    · exact ⟨_, hz, nofun⟩
    · exact ⟨_, hTI, nofun⟩
    · exact ⟨_, hTO, nofun⟩
    · exact Src.iter_obj h0
    · exact ⟨_, hy, nofun⟩
    · exact ⟨_, hUI, nofun⟩
    · exact ⟨_, hUO, nofun⟩
    · exact Src.iter_obj h1
    · exact Src.iter_obj h2
  keep := fun i h h' ⟨hz, hTI, ⟨x, x', hTO⟩, h0, hy, hUI, ⟨u, u', hUO⟩, h1, h2⟩ k =>
    ⟨hz.keep fun o e => k z (by simp) o e, k TI (by simp) _ hTI, ⟨x, x', k TO (by simp) _ hTO⟩, Src.iter_at h0 fun o e => k i0 (by simp) o e, hy.keep fun o e => k y (by simp) o e, k UI (by simp) _ hUI, ⟨u, u', k UO (by simp) _ hUO⟩, Src.iter_at h1 fun o e => k j1 (by simp) o e, Src.iter_at h2 fun o e => k j2 (by simp) o e⟩
  item := by
    rintro X rfl rfl rfl hc i pins s σ H E I hf ⟨hz, hTI, hTO, h0, hy, hUI, hUO, h1, h2⟩ ⟨xs, ys, zs, n0, n1, n2, l0, l1, l2⟩
    have hA := I.ok.hd hc
    obtain ⟨fp0, P0, St0, D0, t0, q0, r0, m0, f0⟩ := src_drawsA (A := X.A.in1) I (by simp [hA]) n0 h0 (D.o0 i0 (by simp))
    obtain ⟨fp1, P1, St1, D1, t1, q1, r1, m1, f1⟩ := src_drawsA (A := X.A.in1.in1) I (by simp [hA]) n1 h1 (D.o1 j1 (by simp))
    obtain ⟨fp2, P2, St2, D2, t2, q2, r2, m2, f2⟩ := src_drawsA (A := X.A.in1.in1) I (by simp [hA]) n2 h2 (D.o2 j2 (by simp))
    refine zip_drawn (Dw.of D0) (dw_zip (Dw.of D1) (Dw.of D2) (D.in_ f1 f2)) (D.out f0 f1 f2) ⟨hz, hTI, hTO, t0, hy, hUI, hUO, t1, t2⟩ l0 (by omega) ?_
    intro v h' tk hp st' up kp
    obtain ⟨T, v0, v1, ka, kb, ev, kT, Tm, hT, ka1, kb1, p0, U, w1, w2, kc, kd, eU, kU, UT, hU, -, -, p1, p2⟩ := hp
    subst ev eU
    have sU : s.heap.objs.size ≤ U := Nat.le_trans kb1 kU
    obtain ⟨x, hx, rx⟩ := q0 i v0 p0
    obtain ⟨y', hy1, ry⟩ := q1 i w1 p1
    obtain ⟨w', hw1, rw'⟩ := q2 i w2 p2
    have lt : ∀ c ∈ [z, TI, TO, i0, y, UI, UO, j1, j2], c < s.heap.objs.size := fun c hc => by
      obtain ⟨_, _, _, hz⟩ := hz
      obtain ⟨_, _, hTO⟩ := hTO
      obtain ⟨_, _, _, hy⟩ := hy
      obtain ⟨_, _, hUO⟩ := hUO
      simp only [List.mem_cons, List.not_mem_nil, or_false] at hc
      rcases hc with rfl | rfl | rfl | rfl | rfl | rfl | rfl | rfl | rfl
      · exact Heap.lt_size hz
      · exact Heap.lt_size hTI
      · exact Heap.lt_size hTO
      · obtain ⟨_, e, _⟩ := Src.iter_obj h0; exact Heap.lt_size e
      · exact Heap.lt_size hy
      · exact Heap.lt_size hUI
      · exact Heap.lt_size hUO
      · obtain ⟨_, e, _⟩ := Src.iter_obj h1; exact Heap.lt_size e
      · obtain ⟨_, e, _⟩ := Src.iter_obj h2; exact Heap.lt_size e
    have old : ∀ b o, b ∉ [z, TI, TO, i0, y, UI, UO, j1, j2] → s.heap.get? b = some o → h'.get? b = some o := fun b o hb e => kp b o (fun m => hb (by
      simp only [List.mem_cons, List.mem_append, List.not_mem_nil, or_false] at m ⊢
      rcases m with m | m | m | m | m | m | m <;> simp [m])) e
    have noU : H U = none := I.hok.fresh sU
    have noT : (upd H U (.tup [y', w'])) T = none := by rw [upd_ne (Nat.ne_of_gt UT)]; exact I.hok.fresh (Nat.le_trans sU (Nat.le_of_lt UT))
    have noTH : H T = none := I.hok.fresh (Nat.le_trans sU (Nat.le_of_lt UT))
    refine ⟨_, rfl, zb_let st'.1 fun h'' zb sb => ?_⟩
    have big : ∀ {b : Addr}, s.heap.objs.size ≤ b → b ≠ z := fun hb e => absurd (lt z (by simp)) (Nat.not_lt.mpr (e ▸ hb))
    have hU2 : IsTupOf2 h'' U w1 w2 := sb.extBut _ _ (big sU) hU
    have hT2 : IsTupOf2 h'' T v0 (.ref U) := sb.extBut _ _ (big (Nat.le_trans sU (Nat.le_of_lt UT))) hT
    have old2 : ∀ b o, b ∉ [z, TI, TO, i0, y, UI, UO, j1, j2] → s.heap.get? b = some o → h''.get? b = some o := fun b o hb e => sb.extBut _ _ (fun q => hb (by simp [q])) (old b o hb e)
    -- the inner pair, then the outer one, are new
    have okU : ObjOk X.prog X.w (upd H U (.tup [y', w'])) h'' U (.tup [y', w']) := ⟨show 2 ≤ sizeLine by decide, [w1, w2], .cons ry (.cons rw' .nil), ⟨_, hU2, rfl, _, rfl⟩⟩
    have IU : Inv X pins σ (upd H U (.tup [y', w'])) { s with heap := h'', toks := tk } := I.turnedNew old2 hf sU okU
    have okT : ObjOk X.prog X.w (upd (upd H U (.tup [y', w'])) T (.tup [x, .ref U])) h'' T (.tup [x, .ref U]) := ⟨show 2 ≤ sizeLine by decide, [v0, .ref U], .cons rx (.cons rfl .nil), ⟨_, hT2, rfl, _, rfl⟩⟩
    have not_new : ∀ {b o}, s.heap.get? b = some o → b ≠ U ∧ b ≠ T := fun e => ⟨Nat.ne_of_lt (Nat.lt_of_lt_of_le (Heap.lt_size e) sU), Nat.ne_of_lt (Nat.lt_of_lt_of_le (Heap.lt_size e) (Nat.le_trans sU (Nat.le_of_lt UT)))⟩
    have both : ∀ {b u}, H b = some u → (upd (upd H U (.tup [y', w'])) T (.tup [x, .ref U])) b = some u := fun e => by rw [upd_ne (ne_of_none e noTH), upd_ne (ne_of_none e noU)]; exact e
    have IT : Inv X pins σ (upd (upd H U (.tup [y', w'])) T (.tup [x, .ref U])) { s with heap := h'', toks := tk } := by
      refine I.call' (ch := [z, TI, TO, i0, y, UI, UO, j1, j2]) rfl ⟨fun b o e _ _ hb => old2 b o hb e, fun b o e _ _ hb => ⟨o.slots, old2 b o hb e⟩, fun b o e n _ => ?_, fun b o e hb => ⟨o, old2 b o hb e⟩, fun b xs e => both e, fun b o u e => both e, fun b ps e => ⟨#[], by rw [both e]; simp⟩⟩ (fun b u e => ?_) I.bare (fun b hb => ⟨(hf b hb).2.2.2.1, (hf b hb).2.1, (hf b hb).2.2.2.2.1, (hf b hb).2.2.2.2.2⟩)
      · rw [upd_ne (not_new e).2, upd_ne (not_new e).1]; exact n
      · by_cases hb : b = T
        · subst hb; rw [upd_same] at e; cases e; exact okT
        · rw [upd_ne hb] at e
          refine (IU.hok b u e).stay (fun c v _ q => q) (fun c q => ?_) fun c xs q => ?_
          · rw [upd_ne (ne_of_none q noT)]; exact q
          · rw [upd_ne (ne_of_none q noT)]; exact q
    obtain ⟨-, iT, ⟨u0, u1, oT⟩, s0', yb, iU, ⟨u2, u3, oU⟩, s1', s2'⟩ := st'
    have nd := D.nd
    simp only [List.nodup_cons, List.mem_cons, List.not_mem_nil, or_false, not_or, not_false_eq_true, List.nodup_nil, and_true] at nd
    obtain ⟨⟨g1, g2, g3, g4, g5, g6, g7, g8⟩, -⟩ := nd
    refine ⟨.ref T, _, IT, rfl, ⟨T, U, x, y', w', rfl, noU, noT, rfl, fun l hl => by rw [Src.now_inj I hl n0]; exact hx, fun l hl => by rw [Src.now_inj I hl n1]; exact hy1, fun l hl => by rw [Src.now_inj I hl n2]; exact hw1⟩,
      ⟨zb, sb.extBut _ _ (Ne.symm g1) iT, ⟨u0, u1, sb.extBut _ _ (Ne.symm g2) oT⟩, Src.iter_at (r0 _ _ s0') fun o e => sb.extBut _ _ (Ne.symm g3) e, yb.keep fun o e => sb.extBut _ _ (Ne.symm g4) e, sb.extBut _ _ (Ne.symm g5) iU, ⟨u2, u3, sb.extBut _ _ (Ne.symm g6) oU⟩, Src.iter_at (r1 _ _ s1') fun o e => sb.extBut _ _ (Ne.symm g7) e, Src.iter_at (r2 _ _ s2') fun o e => sb.extBut _ _ (Ne.symm g8) e⟩, fun c hc => ?_⟩
    have l := lt c hc
    rw [upd_ne (Nat.ne_of_lt (Nat.lt_of_lt_of_le l (Nat.le_trans sU (Nat.le_of_lt UT)))), upd_ne (Nat.ne_of_lt (Nat.lt_of_lt_of_le l sU))]
    exact (hf c hc).1
  done := by
    rintro X rfl rfl rfl hc i pins s σ H E I hf ⟨hz, hTI, hTO, h0, hy, hUI, hUO, h1, h2⟩ ⟨xs, ys, zs, n0, n1, n2, hend, l0, l1, l2⟩
    have hA := I.ok.hd hc
    obtain ⟨fp0, P0, St0, D0, t0, q0, r0, m0, f0⟩ := src_drawsA (A := X.A.in1) I (by simp [hA]) n0 h0 (D.o0 i0 (by simp))
    obtain ⟨fp1, P1, St1, D1, t1, q1, r1, m1, f1⟩ := src_drawsA (A := X.A.in1.in1) I (by simp [hA]) n1 h1 (D.o1 j1 (by simp))
    obtain ⟨fp2, P2, St2, D2, t2, q2, r2, m2, f2⟩ := src_drawsA (A := X.A.in1.in1) I (by simp [hA]) n2 h2 (D.o2 j2 (by simp))
    refine zip_over (Dw.of D0) (dw_zip (Dw.of D1) (Dw.of D2) (D.in_ f1 f2)) (D.out f0 f1 f2) ⟨hz, hTI, hTO, t0, hy, hUI, hUO, t1, t2⟩ l0 (by omega) (by omega) fun h' tk kp => ⟨rfl, I.turnedL (ch := [z, TI, TO, i0, y, UI, UO, j1, j2]) (fun c o hb e => kp c o (fun m => hb ?_) e) hf⟩
    simp only [List.mem_cons, List.mem_append, List.not_mem_nil, or_false] at m ⊢
    rcases m with m | m | m | m | m | m | m <;> simp [m]
  self := fun A i s Q E st h => by
    obtain ⟨f0, b, _, e⟩ := st.1
    have ty : s.TypeIs (.ref z) "zip" := ⟨_, e, rfl⟩
    refine wpAny_pyIter_slot ty F.slot_zip_iter (wpAny_call_entry F.slot_zip_iter ty F.entry_zip_iter ?_ (F.args_zip_iter_1 _))
    exact wpAny_pure ⟨_, rfl, "zip", _, ty, F.slot_zip_next.lookup, h⟩
theorem it_zz {P : Program} {w : World} {K : PySem.W.Frag} {H0 : Hp} {s0 s1 s2 : Src} {xs ys zs : List Mn.D} {G0 G1 G2 : Sto → Prop} (a0 : ∀ H' S', Tx H0 H' → Rp P w K H' S' → G0 S' → ∃ vs, s0.now K H' vs ∧ RDs K H' xs vs) (a1 : ∀ H' S', Tx H0 H' → Rp P w K H' S' → G1 S' → ∃ vs, s1.now K H' vs ∧ RDs K H' ys vs) (a2 : ∀ H' S', Tx H0 H' → Rp P w K H' S' → G2 S' → ∃ vs, s2.now K H' vs ∧ RDs K H' zs vs) :
    ItOk P w K H0 (Jzz K s0 s1 s2) (zipD xs (zipD ys zs)) (fun S => G0 S ∧ G1 S ∧ G2 S) where
  go := fun i H S t rp g hi => by
    obtain ⟨vs, n0, r0⟩ := a0 H S t rp g.1
    obtain ⟨us, n1, r1⟩ := a1 H S t rp g.2.1
    obtain ⟨ws, n2, r2⟩ := a2 H S t rp g.2.2
    rw [zipD_len, zipD_len] at hi
    exact ⟨vs, us, ws, n0, n1, n2, by rw [← r0.length]; omega, by rw [← r1.length]; omega, by rw [← r2.length]; omega⟩
  yld := fun i H S v H' t rp g hi ⟨T, U, x, y, z, e1, hU, hT, e2, y0, y1, y2⟩ => by
    subst e1 e2
    obtain ⟨vs, n0, r0⟩ := a0 H S t rp g.1
    obtain ⟨us, n1, r1⟩ := a1 H S t rp g.2.1
    obtain ⟨ws, n2, r2⟩ := a2 H S t rp g.2.2
    obtain ⟨d, hd, rd⟩ := r0.getV (y0 vs n0)
    obtain ⟨e, he, re⟩ := r1.getV (y1 us n1)
    obtain ⟨f, hf, rf⟩ := r2.getV (y2 ws n2)
    have tU : Tx H (upd H U (.tup [y, z])) := .new hU
    have tT : Tx (upd H U (.tup [y, z])) (upd (upd H U (.tup [y, z])) T (.tup [x, .ref U])) := .new hT
    have rpU := rp.new (o := .tup [y, z]) hU (rp.free hU)
    have rin : RD K (upd H U (.tup [y, z])) (.tup [e, f]) (.ref U) := .tup (SqT.of upd_same) (.cons (re.tx tU) (.cons (rf.tx tU) .nil))
    exact ⟨_, zipD_get hd (zipD_get he hf), .tup (SqT.of upd_same) (.cons (rd.tx (tU.trans tT)) (.cons (rin.tx tT) .nil)), rpU.new hT (rpU.free hT), (Go.new hU).trans (.new hT)⟩
  stop := fun i H S t rp g hi => by
    obtain ⟨vs, n0, r0⟩ := a0 H S t rp g.1
    obtain ⟨us, n1, r1⟩ := a1 H S t rp g.2.1
    obtain ⟨ws, n2, r2⟩ := a2 H S t rp g.2.2
    rw [zipD_len, zipD_len] at hi
    have := r0.length
    have := r1.length
    have := r2.length
    exact ⟨vs, us, ws, n0, n1, n2, by omega, by omega, by omega, by omega⟩
/-! the outer zip is made -/
abbrev twoObj (a b : Value) : Obj := { cls := .type "tuple", data := .seq #[a, b] }
/-- its four cells: the iterator, the parts, its own tuple, the zip -/
abbrev zc1 (h : Heap) (o : Obj) : Heap := h.push o
abbrev zc2 (h : Heap) (o : Obj) (y : Addr) : Heap := (zc1 h o).push (twoObj (.ref h.objs.size) (.ref y))
abbrev zc3 (h : Heap) (o : Obj) (y : Addr) : Heap := (zc2 h o y).push (twoObj .none .none)
abbrev zc4 (h : Heap) (o : Obj) (y : Addr) : Heap := (zc3 h o y).push { cls := .type "zip", data := .fields #[.none, .bool false, .bool false, .ref (zc1 h o).objs.size, .ref (zc2 h o y).objs.size] }
theorem zip_new {v : Value} {o : Obj} {Ho : Heap → Prop} {y UI UO : Addr} {f0 : Value} (B : Begins v o Ho) :
    Meets (Builtin.«zip.__new__» ⟨[.type "zip", v, .ref y], []⟩) (fun _ R s => (Ho s.heap ∧ IsZip s.heap y UI UO f0) ∧ R (.ok (.ret (.ref (zc3 s.heap o y).objs.size))) { s with heap := zc4 s.heap o y }) :=
  .of_wp fun prog w A R s hh => by
    obtain ⟨hp, gs, dr, tk, os⟩ := s
    obtain ⟨⟨ho, hy⟩, hr⟩ := hh
    have isZip := sub_zip
    have first : ∀ {A' : Around} {E Q : Value → Shared → Prop}, Q (.ref hp.objs.size) ⟨zc1 hp o, gs, dr, tk, os⟩ → wpAny (model prog w) A' (pyIter v) Q E ⟨hp, gs, dr, tk, os⟩ := fun q => B.iter prog w _ _ ⟨hp, gs, dr, tk, os⟩ _ ho q
    have second : ∀ {A' : Around} {E Q : Value → Shared → Prop}, Q (.ref y) ⟨zc1 hp o, gs, dr, tk, os⟩ → wpAny (model prog w) A' (pyIter (.ref y)) Q E ⟨zc1 hp o, gs, dr, tk, os⟩ := fun q => wpAny_pyIter_zip (s := ⟨zc1 hp o, gs, dr, tk, os⟩) (Heap.get?_push_of_some _ hy) q
    wp_walk using first, second
    exact ⟨_, rfl, hr⟩
theorem zip_of_zip {prog : Program} {w : World} {A : Around} {E : Value → Shared → Prop} {s : Shared} {v : Value} {o : Obj} {Ho : Heap → Prop} {y UI UO : Addr} {f0 : Value} {Q : Value → Shared → Prop} (B : Begins v o Ho) (ho : Ho s.heap) (hy : IsZip s.heap y UI UO f0)
    (q : ∀ h', IsZip h' (s.heap.objs.size + 3) (s.heap.objs.size + 1) (s.heap.objs.size + 2) .none → IsTupOf2 h' (s.heap.objs.size + 1) (.ref s.heap.objs.size) (.ref y) → IsTupOf2 h' (s.heap.objs.size + 2) .none .none → h'.get? s.heap.objs.size = some o →
      (∀ c u, s.heap.get? c = some u → h'.get? c = some u) → Q (.ref (s.heap.objs.size + 3)) { s with heap := h' }) : wpAny (model prog w) A (call (.type "zip") [v, .ref y]) Q E s := by
  refine callType_new F.called_zip (by decide) (F.typeCall_zip_2 _ _) (F.newCall_zip_2 _ _) (fun obj => F.args_object_init_3 obj _ _) F.entry_zip_new (zip_new B) ⟨⟨ho, hy⟩, ?_⟩
  have n1 : (zc1 s.heap o).objs.size = s.heap.objs.size + 1 := Heap.size_push ..
  have n2 : (zc2 s.heap o y).objs.size = s.heap.objs.size + 2 := by rw [Heap.size_push, n1]
  have n3 : (zc3 s.heap o y).objs.size = s.heap.objs.size + 3 := by rw [Heap.size_push, n2]
  have stay : ∀ {h : Heap} {p u : Obj} {c : Addr}, h.get? c = some u → (h.push p).get? c = some u := fun e => Heap.get?_push_of_some _ e
  have c0 : (zc4 s.heap o y).get? s.heap.objs.size = some o := stay (stay (stay (Heap.get?_push_size _ B.free)))
  have c1 : (zc4 s.heap o y).get? (zc1 s.heap o).objs.size = some (twoObj (.ref s.heap.objs.size) (.ref y)) := stay (stay (Heap.get?_push_size _ rfl))
  have c2 : (zc4 s.heap o y).get? (zc2 s.heap o y).objs.size = some (twoObj .none .none) := stay (Heap.get?_push_size _ rfl)
  have c3 : (zc4 s.heap o y).get? (zc3 s.heap o y).objs.size = some { cls := .type "zip", data := .fields #[.none, .bool false, .bool false, .ref (zc1 s.heap o).objs.size, .ref (zc2 s.heap o y).objs.size] } := Heap.get?_push_size _ rfl
  rw [n1] at c1
  rw [n2] at c2
  rw [n3, n1, n2] at c3
  show _ ∧ _
  rw [n3]
  exact ⟨⟨_, c3, rfl⟩, q _ c3 c1 c2 c0 fun c u e => stay (stay (stay (stay e)))⟩
section
open PyProof.Rows (Call_ args_cons args_nil)
variable {X : Cx} {Φ : Str → Option SpD} {Γ : Str → Option Mn.D} {pos : Pos} {a b c : Expr} {ca cb cc : Cd}
theorem r_zz {p1 p2 pos2 tpos : Pos} {elts : List Expr} {kk : Nat} (hg : Gl X "zip") (hm : X.mg "zip" = none) (hn : noStar a = true) (hn2 : noStar b = true) (hn3 : noStar c = true) (ha : PE X a (LE X (wE Φ Γ ca))) (hb : PE X b (LE X (wE Φ Γ cb))) (hc : PE X c (LE X (wE Φ Γ cc))) :
    PI X (.Tuple elts kk tpos) (.Call (.Name "zip" p1) [a, .Call (.Name "zip" p2) [b, c] [] pos2] [] pos) (LI X (wSr Φ Γ (.zz ca cb cc))) := by
  refine ⟨fun pins s σ H R I h => ?_⟩
  obtain ⟨env, S, T, re, rp, h, p⟩ := h
  refine Call_ (ld_blt I hg hm PyProof.Rows.boot_zip (PyProof.Rows.callWith_type1 (args_cons (thn (ha.run pins s σ H _ I
    (lift_step (X := X) (Q := fun _ _ => True) re rp h fun d S1 v H1 h1 rd re1 rp1 g1 _ => (⟨d, S1, rd, re1, rp1, g1, h1⟩ : ∃ d S1, RD X.K H1 d v ∧ RE X.K H1 env σ ∧ Rp X.prog X.w X.K H1 S1 ∧ Go H S H1 S1 ∧ wE Φ Γ cb env S1 fun e S2 => wE Φ Γ cc env S2 fun f S3 => itD d S3 fun xs G S4 => itD e S4 fun ys G' S5 => itD f S5 fun zs G2 S6 => T (zipD xs (zipD ys zs)) (fun S => G S ∧ G' S ∧ G2 S) S6)))
    fun v0 s1 ⟨v, H1, I1, rv0, q1⟩ => args_cons (Call_ (ld_blt I1 hg hm PyProof.Rows.boot_zip (PyProof.Rows.callWith_type1 ?_ (star_cons hn2) (by rw [star_cons hn3]; rfl)))) (star_cons rfl)) (star_cons hn)) (star_cons hn) (by rw [star_cons (e := .Call (.Name "zip" p2) [b, c] [] pos2) rfl]; rfl)))
  obtain ⟨d, S1, rd, re1, rp1, g1, h1⟩ := q1
  have hA := (pa_cons hb (pa_cons hc pa_nil (star_cons hn3)) (star_cons hn2)).run pos2 pins s1 σ H1 (fun vs H3 => ∃ e f S3 v u, vs = [v, u] ∧ RD X.K H3 e v ∧ RD X.K H3 f u ∧ Rp X.prog X.w X.K H3 S3 ∧ Go H1 S1 H3 S3 ∧ itD d S3 fun xs G S4 => itD e S4 fun ys G' S5 => itD f S5 fun zs G2 S6 => T (zipD xs (zipD ys zs)) (fun S => G S ∧ G' S ∧ G2 S) S6) I1
    (lift_step (Q := fun _ _ => True) re1 rp1 h1 fun e S2 v H2 h2 rd2 re2 rp2 g2 _ => lift_step (Q := fun _ _ => True) re2 rp2 h2 fun f S3 u H3 h3 rd3 re3 rp3 g3 t3 => ⟨e, f, S3, v, u, rfl, rd2.tx t3, rd3, rp3, g2.trans g3, h3⟩)
  refine thn hA fun us s3 ⟨vs, H3, I3, r3, q3⟩ => ?_
  obtain ⟨e, f, S3, v', u', rfl, re', rf', rp3, g3, hT⟩ := q3
  obtain ⟨v1, u1, rfl, rv1, ru1⟩ := Vals.two r3
  obtain ⟨s0', xs, G0, o0, H0s, hT, B0, b0, i0, n0, off0⟩ := src_of I3 rp3 (rd.tx (g3.tx rp1)) rv0 hT
  obtain ⟨s1', ys, G1, o1, H1s, hT, B1, b1, i1, n1, off1⟩ := src_of I3 rp3 re' rv1 hT
  obtain ⟨s2', zs, G2, o2, H2s, hT, B2, b2, i2, n2, off2⟩ := src_of I3 rp3 rf' ru1 hT
  refine zip_begins2 B1 B2 b1 b2 fun h' hy hUI hUO gj1 gj2 hsz hk => args_nil ?_
  refine zip_of_zip (s := { s3 with heap := h' }) B0 (B0.keeps _ _ b0 hk) hy fun h'' hz hTI hTO gi0 hk2 => wpAny_pyIter_zip hz ?_
  replace hz : IsZip h'' (h'.objs.size + 3) (h'.objs.size + 1) (h'.objs.size + 2) .none := hz
  replace hTI : IsTupOf2 h'' (h'.objs.size + 1) (.ref h'.objs.size) (.ref (s3.heap.objs.size + 4)) := hTI
  replace hTO : IsTupOf2 h'' (h'.objs.size + 2) .none .none := hTO
  replace gi0 : h''.get? h'.objs.size = some o0 := gi0
  replace hk2 : ∀ c o, h'.get? c = some o → h''.get? c = some o := hk2
  rw [hsz] at hz hTI hTO gi0
  show ∃ I' fp tn J H', Value.ref (h'.objs.size + 3) = _ ∧ _
  rw [hsz]
  have I4 : Inv X pins σ H3 { s3 with heap := h'' } := I3.kept (t' := s3.toks) fun b o q => hk2 b o (hk b o q)
  generalize hn' : s3.heap.objs.size = n at *
  have hle : ∀ c ∈ [n + 5 + 3, n + 5 + 1, n + 5 + 2, n + 5, n + 4, n + 2, n + 3, n, n + 1], n ≤ c := by
    intro c hc
    have e' : c = n + 5 + 3 ∨ c = n + 5 + 1 ∨ c = n + 5 + 2 ∨ c = n + 5 ∨ c = n + 4 ∨ c = n + 2 ∨ c = n + 3 ∨ c = n ∨ c = n + 1 := by simpa using hc
    rcases e' with z | z | z | z | z | z | z | z | z <;> rw [z] <;> first | exact Nat.le_add_right _ _ | exact Nat.le_refl _ | exact Nat.le_trans (Nat.le_add_right _ _) (Nat.le_add_right _ _)
  have D : ZZApart (n + 5 + 3) (n + 5 + 1) (n + 5 + 2) (n + 5) (n + 4) (n + 2) (n + 3) n (n + 1) s0' s1' s2' := by
    refine ⟨?_, fun b hb => off0 b (hle b hb), fun b hb => off1 b (hle b hb), fun b hb => off2 b (hle b hb)⟩
    show List.Nodup (α := Nat) [n + 5 + 3, n + 5 + 1, n + 5 + 2, n + 5, n + 4, n + 2, n + 3, n, n + 1]
    have : ∀ m : Nat, List.Nodup [m + 5 + 3, m + 5 + 1, m + 5 + 2, m + 5, m + 4, m + 2, m + 3, m, m + 1] := fun m => by
      simp only [List.nodup_cons, List.mem_cons, List.not_mem_nil, or_false, not_false_eq_true, List.nodup_nil, and_true]
      omega
    exact this n
  refine ⟨n + 5 + 3, [n + 5 + 3, n + 5 + 1, n + 5 + 2, n + 5, n + 4, n + 2, n + 3, n, n + 1], _, _, H3, rfl, I4, turn_zz D, ⟨⟨_, _, .inl rfl, hz⟩, hTI, ⟨_, _, hTO⟩, i0 _ _ gi0, ⟨_, _, .inl rfl, hk2 _ _ hy⟩, hk2 _ _ hUI, ⟨_, _, hk2 _ _ hUO⟩, i1 _ _ (hk2 _ _ gj1), i2 _ _ (hk2 _ _ gj2)⟩, fun c hcm => ?_, p _ _ _ _ _ hT rp3 (g1.trans g3) (it_zz n0 n1 n2)⟩
  have hl := hle c hcm
  rw [← hn'] at hl
  exact I3.fpOk hl (I3.hok.fresh hl)
end
end Mn

/-! Mn: statements. -/
namespace Mn
open PySem PySem.Spec L2
/-- the ends of data and those of the frame -/
structure EndsOk (P : Program) (w : World) (K : PySem.W.Frag) (H : Hp) (S : Sto) (E : EndsD) (De : Ends) : Prop where
  nx : ∀ env' S' σ' H', E.nx env' S' → RE K H' env' σ' → Rp P w K H' S' → Go H S H' S' → De.nx σ' H'
  rt : ∀ d S' v H', E.rt d S' → RD K H' d v → Rp P w K H' S' → Go H S H' S' → De.rt v H'
  bk : ∀ env' S' σ' H', E.bk env' S' → RE K H' env' σ' → Rp P w K H' S' → Go H S H' S' → De.bk σ' H'
  ct : ∀ env' S' σ' H', E.ct env' S' → RE K H' env' σ' → Rp P w K H' S' → Go H S H' S' → De.ct σ' H'
def liftSt (P : Program) (w : World) (K : PySem.W.Frag) (m : MSt) : TS := fun De σ H => ∃ env S E, RE K H env σ ∧ Rp P w K H S ∧ m E env S ∧ EndsOk P w K H S E De
theorem EndsOk.go {P : Program} {w : World} {K : PySem.W.Frag} {H H' : Hp} {S S' : Sto} {E : EndsD} {De : Ends} (e : EndsOk P w K H S E De) (g : Go H S H' S') : EndsOk P w K H' S' E De :=
  ⟨fun _ _ _ _ h r rp g' => e.nx _ _ _ _ h r rp (g.trans g'), fun _ _ _ _ h r rp g' => e.rt _ _ _ _ h r rp (g.trans g'), fun _ _ _ _ h r rp g' => e.bk _ _ _ _ h r rp (g.trans g'), fun _ _ _ _ h r rp g' => e.ct _ _ _ _ h r rp (g.trans g')⟩
section
variable {X : Cx} {Φ : Str → Option SpD} {Γ : Str → Option D} {pos : Pos} {a b c tg e : Expr} {ca cb cc ce : Cd} {st : Stmt} {p q : List Stmt} {cp cq : List Sd} {sd : Sd}
abbrev LS' (X : Cx) (m : MSt) : TS := liftSt X.prog X.w X.K m
theorem s_nil : PSs X [] (LS' X (wSs Φ Γ [])) := pssImp pss_nil fun De σ H ⟨env, S, E, re, rp, h, k⟩ => k.nx _ _ _ _ h re rp (Go.refl _ _)
theorem s_cons (h1 : PS X st (LS' X (wS Φ Γ sd))) (h2 : PSs X p (LS' X (wSs Φ Γ cp))) : PSs X (st :: p) (LS' X (wSs Φ Γ (sd :: cp))) :=
  pssImp (pss_cons h1 h2) fun De σ H ⟨env, S, E, re, rp, h, k⟩ => ⟨env, S, _, re, rp, h, fun env' S' σ' H' h' re' rp' g' => ⟨env', S', E, re', rp', h', k.go g'⟩, k.rt, k.bk, k.ct⟩
theorem s_pas : PS X (.Pass pos) (LS' X (wS Φ Γ .pas)) := psImp ps_pass fun De σ H ⟨env, S, E, re, rp, h, k⟩ => k.nx _ _ _ _ h re rp (Go.refl _ _)
theorem s_brk : PS X (.Break pos) (LS' X (wS Φ Γ .brk)) := psImp ps_break fun De σ H ⟨env, S, E, re, rp, h, k⟩ => k.bk _ _ _ _ h re rp (Go.refl _ _)
theorem s_cnt : PS X (.Continue pos) (LS' X (wS Φ Γ .cnt)) := psImp ps_continue fun De σ H ⟨env, S, E, re, rp, h, k⟩ => k.ct _ _ _ _ h re rp (Go.refl _ _)
theorem s_doc {x : Str} {j : Nat} {pos' : Pos} : PS X (.Expr (.Constant (.str x) j pos) pos') (LS' X (wS Φ Γ .pas)) := psImp ps_doc fun De σ H ⟨env, S, E, re, rp, h, k⟩ => k.nx _ _ _ _ h re rp (Go.refl _ _)
theorem s_exp (hs : swapsWith e none pos.line X.env = pure false) (he : PE X e (LE X (wE Φ Γ ce))) : PS X (.Expr e pos) (LS' X (wS Φ Γ (.exp ce))) :=
  psImp (ps_expr he hs) fun De σ H ⟨env, S, E, re, rp, h, k⟩ => lift_step (Q := fun _ _ => True) re rp h fun d S1 v H1 h1 rd re1 rp1 g1 _ => k.nx _ _ _ _ h1 re1 rp1 g1
theorem s_ret (he : PE X e (LE X (wE Φ Γ ce))) : PS X (.Return (some e) pos) (LS' X (wS Φ Γ (.ret ce))) :=
  psImp (ps_ret he) fun De σ H ⟨env, S, E, re, rp, h, k⟩ => lift_step (Q := fun _ _ => True) re rp h fun d S1 v H1 h1 rd re1 rp1 g1 _ => k.rt _ _ _ _ h1 rd rp1 g1
theorem s_retN : PS X (.Return none pos) (LS' X (wS Φ Γ .retN)) := psImp ps_retN fun De σ H ⟨env, S, E, re, rp, h, k⟩ => k.rt _ _ _ _ h .non rp (Go.refl _ _)
theorem s_ite {ct : Ct} (hc : PT X c (LT X (wT Φ Γ ct))) (ha : PSs X p (LS' X (wSs Φ Γ cp))) (hb : PSs X q (LS' X (wSs Φ Γ cq))) : PS X (.If c p q pos) (LS' X (wS Φ Γ (.ite ct cp cq))) :=
  psImp (ps_if hc ha hb) fun De σ H ⟨env, S, E, re, rp, h, k⟩ => liftT_step re rp h fun b S1 H1 h1 re1 rp1 g1 _ => by
    cases b with
    | true => exact ⟨env, S1, E, re1, rp1, h1, k.go g1⟩
    | false => exact ⟨env, S1, E, re1, rp1, h1, k.go g1⟩
/-! assignments -/
theorem asg_reads {t : Tg} {De : Ends} {σ : L2.St} {H : Hp} (h : LS' X (wS Φ Γ (.asg t ce)) De σ H) : tAsg (LE X (wE Φ Γ ce)) (liftG X.K t) De σ H := by
  obtain ⟨env, S, E, re, rp, h, k⟩ := h
  refine lift_step (Q := fun _ _ => True) re rp h fun d S1 v H1 h1 rd re1 rp1 g1 _ => ?_
  obtain ⟨env1, e1, h1⟩ := h1
  exact ⟨d, env, env1, rd, re1, e1, fun σ1 r1 _ => k.nx _ _ _ _ h1 r1 rp1 g1⟩
theorem s_asg {t : Tg} (hn : noStar tg = true) (hs : swapsWith e (some tg) pos.line X.env = pure false) (hw : swappedStores [tg] e X.env = pure none) (he : PE X e (LE X (wE Φ Γ ce))) (hg : PG X tg (liftG X.K t)) : PS X (.Assign [tg] e pos) (LS' X (wS Φ Γ (.asg t ce))) :=
  psImp (ps_asg he hg hs hw (by rw [asg_cons hn]; rfl)) fun De σ H h => asg_reads h
theorem gName_of {i : Nat} {v : V} {σ : L2.St} {H : Hp} {Q : L2.St → Hp → Prop} (h : liftG X.K (.nm i) v σ H Q) : gName i v σ H Q := by
  obtain ⟨d, env, env1, rd, re, e, q⟩ := h
  cases e
  exact q _ (re.set rd) fun vs h => wipe_set (h i List.mem_cons_self)
/-- name = [..] on the name's own line -/
theorem s_setLc {y : Str} {py : Pos} {i : Nat} {elt tg iter : Expr} {ifs : List Expr} {scope : Scope} {own : List (Str × Nat)} {pos spos : Pos} {t : Tg} {ct : Ct} {cs : Cs} (hc : X.calm = true) (hN : X.N.Nodup) (hy : X.N[i]? = some y) (hyl : X.env.scope.names.lookup y = some .local)
    (hsw : swapsWith (.ListComp elt [⟨tg, iter, ifs, 0⟩] scope pos) (some (.Name y py)) spos.line X.env = pure true) (hi : PI X tg iter (LI X (wSr Φ Γ cs))) (ok : BlkOk X.N X.env.scope scope own) (hsl : SlotsIn t.slots (own.map (·.2)))
    (hg : InBlk X scope fun Y => PG Y tg (liftG X.K t)) (ht : InBlk X scope fun Y => PTs Y ifs (LT X (wT Φ Γ ct))) (he : InBlk X scope fun Y => PE Y elt (LE X (wE Φ Γ ce))) (hs : ∀ x, foldedSetIterable iter X.env x = pure x) :
    PS X (.Assign [.Name y py] (.ListComp elt [⟨tg, iter, ifs, 0⟩] scope pos) spos) (LS' X (wS Φ Γ (.asg (.nm i) (.lc (own.map (·.2)) ce t cs ct)))) :=
  psImp (ps_setLc hc hN hy hyl hsw hi ok hg ht he hs) fun De σ H h => by
    have h' := asg_reads h
    obtain ⟨env, S, R, re, rp, h1, p1⟩ := h'
    exact lc_reads (Q := fun x H1 => gName i x σ H1 De.nx) hsl ⟨env, S, R, re, rp, h1, fun d S' v H' a1 a2 a3 a4 => gName_of (p1 d S' v H' a1 a2 a3 a4)⟩
theorem s_setLc2 {y : Str} {py : Pos} {i : Nat} {elt tg tg1 iter iter1 : Expr} {ifs ifs1 : List Expr} {scope : Scope} {own : List (Str × Nat)} {vs1 : List Nat} {pos spos : Pos} {t t1 : Tg} {ct ct1 : Ct} {cs cs1 : Cs} (hc : X.calm = true) (hN : X.N.Nodup) (hy : X.N[i]? = some y) (hyl : X.env.scope.names.lookup y = some .local)
    (hsw : swapsWith (.ListComp elt [⟨tg, iter, ifs, 0⟩, ⟨tg1, iter1, ifs1, 0⟩] scope pos) (some (.Name y py)) spos.line X.env = pure true) (hi : PI X tg iter (LI X (wSr Φ Γ cs))) (ok : BlkOk X.N X.env.scope scope own) (hv : ∀ i ∈ vs1, i ∈ own.map (·.2)) (hsl : SlotsIn t.slots (own.map (·.2))) (hsl1 : SlotsIn t1.slots vs1)
    (hg : InBlk X scope fun Y => PG Y tg (liftG X.K t)) (ht : InBlk X scope fun Y => PTs Y ifs (LT X (wT Φ Γ ct))) (hi1 : InBlk X scope fun Y => PI Y tg1 iter1 (LI X (wSr Φ Γ cs1))) (hg1 : InBlk X scope fun Y => PG Y tg1 (liftG X.K t1)) (ht1 : InBlk X scope fun Y => PTs Y ifs1 (LT X (wT Φ Γ ct1)))
    (he : InBlk X scope fun Y => PE Y elt (LE X (wE Φ Γ ce))) (hs : ∀ x, foldedSetIterable iter X.env x = pure x) (hs1 : ∀ env x, foldedSetIterable iter1 env x = pure x) :
    PS X (.Assign [.Name y py] (.ListComp elt [⟨tg, iter, ifs, 0⟩, ⟨tg1, iter1, ifs1, 0⟩] scope pos) spos) (LS' X (wS Φ Γ (.asg (.nm i) (.lc2 (own.map (·.2)) vs1 ce t cs ct t1 cs1 ct1)))) :=
  psImp (ps_setLc2 hc hN hy hyl hsw hi ok hv hg ht hi1 hg1 ht1 he hs hs1) fun De σ H h => by
    have h' := asg_reads h
    obtain ⟨env, S, R, re, rp, h1, p1⟩ := h'
    exact lc2_reads (Q := fun x H1 => gName i x σ H1 De.nx) hsl hsl1 ⟨env, S, R, re, rp, h1, fun d S' v H' a1 a2 a3 a4 => gName_of (p1 d S' v H' a1 a2 a3 a4)⟩
theorem s_setDc {y : Str} {py : Pos} {i : Nat} {kx vx tg iter : Expr} {ifs : List Expr} {scope : Scope} {own : List (Str × Nat)} {pos spos : Pos} {t : Tg} {ct : Ct} {cs : Cs} {ck cv : Cd} (hu : X.A.units + 65 < cLine) (hc : X.calm = true) (hN : X.N.Nodup) (hy : X.N[i]? = some y) (hyl : X.env.scope.names.lookup y = some .local)
    (hsw : swapsWith (.DictComp kx vx [⟨tg, iter, ifs, 0⟩] scope pos) (some (.Name y py)) spos.line X.env = pure true) (hi : PI X tg iter (LI X (wSr Φ Γ cs))) (ok : BlkOk X.N X.env.scope scope own) (hsl : SlotsIn t.slots (own.map (·.2)))
    (hg : InBlk X scope fun Y => PG Y tg (liftG X.K t)) (ht : InBlk X scope fun Y => PTs Y ifs (LT X (wT Φ Γ ct))) (hk : InBlk X scope fun Y => PE Y kx (LE X (wE Φ Γ ck))) (he : InBlk X scope fun Y => PE Y vx (LE X (wE Φ Γ cv))) (hs : ∀ x, foldedSetIterable iter X.env x = pure x) :
    PS X (.Assign [.Name y py] (.DictComp kx vx [⟨tg, iter, ifs, 0⟩] scope pos) spos) (LS' X (wS Φ Γ (.asg (.nm i) (.dc (own.map (·.2)) ck cv t cs ct)))) :=
  psImp (ps_dc hu hc hN hy hyl hsw hi ok hsl hg ht hk he hs) fun De σ H h => by
    obtain ⟨env, S, R, re, rp, h1, p1⟩ := asg_reads h
    exact ⟨env, S, R, re, rp, h1, fun d S' v H' a1 a2 a3 a4 => gName_of (p1 d S' v H' a1 a2 a3 a4)⟩
/-- a, b = x, y, the stores swapped -/
theorem rds_two {ds : List D} {K : PySem.W.Frag} {H : Hp} {i j : Nat} {vs : List V} {env env1 : Env} (r : RDs K H ds vs) (h : asgsD [.nm i, .nm j] ds env = some env1) : ∃ d1 d2 v1 v2, ds = [d1, d2] ∧ vs = [v1, v2] ∧ RD K H d1 v1 ∧ RD K H d2 v2 ∧ env1 = (env.set i (some d1)).set j (some d2) := by
  have hl := asgs_len h
  match ds, vs, r, hl, h with
  | [d1, d2], _, .cons r1 (.cons r2 .nil), _, h =>
    cases h
    exact ⟨d1, d2, _, _, rfl, rfl, r1, r2, rfl⟩
theorem s_par {i j : Nat} {x y : Str} {px py pt : Pos} {kt k2 : Nat} {pt2 : Pos} {cs : List Cd} (hc : X.calm = true) (hN : X.N.Nodup) (hi : X.N[i]? = some x) (hj : X.N[j]? = some y) (hij : i ≠ j)
    (hx : X.env.scope.names.lookup x = some .local) (hy : X.env.scope.names.lookup y = some .local) (hw : swappedStores [.Tuple [.Name x px, .Name y py] kt pt] (.Tuple [a, b] k2 pt2) X.env = pure (some [x, y])) (ha : PA X [a, b] (LA X (wEs Φ Γ cs))) :
    PS X (.Assign [.Tuple [.Name x px, .Name y py] kt pt] (.Tuple [a, b] k2 pt2) pos) (LS' X (wS Φ Γ (.asg (.tp [.nm i, .nm j]) (.tup cs)))) :=
  psImp (ps_par hc hN hi hj hij hx hy ha hw) fun De σ H ⟨env, S, E, re, rp, h, k⟩ => liftA_step re rp h fun ds S1 vs H1 h1 rd re1 rp1 g1 _ => by
    obtain ⟨_, env1, e1, h1⟩ := h1
    obtain ⟨d1, d2, v1, v2, rfl, rfl, r1, r2, rfl⟩ := rds_two rd e1
    exact ⟨v1, v2, rfl, k.nx _ _ _ _ h1 ((re1.set r1).set r2) rp1 g1⟩
theorem rds_three {ds : List D} {K : PySem.W.Frag} {H : Hp} {i j l : Nat} {vs : List V} {env env1 : Env} (r : RDs K H ds vs) (h : asgsD [.nm i, .nm j, .nm l] ds env = some env1) : ∃ d1 d2 d3 v1 v2 v3, ds = [d1, d2, d3] ∧ vs = [v1, v2, v3] ∧ RD K H d1 v1 ∧ RD K H d2 v2 ∧ RD K H d3 v3 ∧ env1 = ((env.set i (some d1)).set j (some d2)).set l (some d3) := by
  have hl := asgs_len h
  match ds, vs, r, hl, h with
  | [d1, d2, d3], _, .cons r1 (.cons r2 (.cons r3 .nil)), _, h =>
    cases h
    exact ⟨d1, d2, d3, _, _, _, rfl, rfl, r1, r2, r3, rfl⟩
theorem s_par3 {i j l : Nat} {x y z : Str} {px py pz pt : Pos} {kt k2 : Nat} {pt2 : Pos} {cs : List Cd} (hc : X.calm = true) (hN : X.N.Nodup) (hi : X.N[i]? = some x) (hj : X.N[j]? = some y) (hk : X.N[l]? = some z) (hij : i ≠ j) (hil : i ≠ l) (hjl : j ≠ l)
    (hx : X.env.scope.names.lookup x = some .local) (hy : X.env.scope.names.lookup y = some .local) (hz : X.env.scope.names.lookup z = some .local) (hw : swappedStores [.Tuple [.Name x px, .Name y py, .Name z pz] kt pt] (.Tuple [a, b, c] k2 pt2) X.env = pure (some [x, y, z])) (ha : PA X [a, b, c] (LA X (wEs Φ Γ cs))) :
    PS X (.Assign [.Tuple [.Name x px, .Name y py, .Name z pz] kt pt] (.Tuple [a, b, c] k2 pt2) pos) (LS' X (wS Φ Γ (.asg (.tp [.nm i, .nm j, .nm l]) (.tup cs)))) :=
  psImp (ps_par3 hc hN hi hj hk hij hil hjl hx hy hz ha hw) fun De σ H ⟨env, S, E, re, rp, h, k⟩ => liftA_step re rp h fun ds S1 vs H1 h1 rd re1 rp1 g1 _ => by
    obtain ⟨_, env1, e1, h1⟩ := h1
    obtain ⟨d1, d2, d3, v1, v2, v3, rfl, rfl, r1, r2, r3, rfl⟩ := rds_three rd e1
    exact ⟨v1, v2, v3, rfl, k.nx _ _ _ _ h1 (((re1.set r1).set r2).set r3) rp1 g1⟩
/-- o[i] = e -/
def noSlice : Expr → Bool
  | .Slice _ _ _ _ => false
  | _ => true
theorem ix_plain (h : noSlice b = true) : PlainIx b := by
  intro o i
  cases b <;> first | rfl | (simp [noSlice] at h; done)
theorem s_put {p1 : Pos} (hu : X.A.units + 65 < cLine) (hsl : noSlice b = true) (hsw : swapsWith e (some (.Subscript a b p1)) pos.line X.env = pure false) (hw : swappedStores [.Subscript a b p1] e X.env = pure none)
    (hass : ∀ v, assign (.Subscript a b p1) X.env v = (do
      let ov ← holding [v] (eval a X.env)
      let iv ← holding [v, ov] (eval b X.env)
      standAt p1
      holding [v, ov, iv] (setItem ov iv v)
      release [v, ov, iv] []))
    (he : PE X e (LE X (wE Φ Γ ce))) (ha : PE X a (LE X (wE Φ Γ ca))) (hb : PE X b (LE X (wE Φ Γ cb))) : PS X (.Assign [.Subscript a b p1] e pos) (LS' X (wS Φ Γ (.put ca cb ce))) :=
  psImp (ps_asg he (pg_sub ha hb (set_any hu) hass) hsw hw) fun De σ H ⟨env, S, E, re, rp, h, k⟩ => lift_step (Q := fun _ _ => True) re rp h fun d S1 v H1 h1 rd re1 rp1 g1 _ =>
    lift_step (Q := fun _ _ => True) re1 rp1 h1 fun o S2 u H2 h2 rd2 re2 rp2 g2 t2 => lift_step (Q := fun _ _ => True) re2 rp2 h2 fun i S3 w H3 h3 rd3 re3 rp3 g3 t3 =>
      ⟨o, i, d, S3, _, rd2.tx t3, rd3, (rd.tx t2).tx t3, rp3, h3, fun S4 H4 h4 rp4 g4 => k.nx _ _ _ _ h4 (re3.tx (g4.tx rp3)) rp4 (((g1.trans g2).trans g3).trans g4)⟩
/-- name += e, name -= e, ints -/
theorem s_aug {op : Operator} {i : Nat} {x : Str} {p1 : Pos} (hN : X.N.Nodup) (hi : X.N[i]? = some x) (hx : Loc X.env.scope x) (hf : X.fn x = true ∨ X.env.scope.names.lookup x = some .local) (hop : op = .Add ∨ op = .Sub) (he : PE X e (LE X (wE Φ Γ ce))) : PS X (.AugAssign (.Name x p1) op e pos) (LS' X (wS Φ Γ (.aug i op ce))) := by
  have rd : ∀ {De : Ends} {σ : L2.St} {H : Hp} {f : Int → Int → Int}, (∀ m n : Int, (op = .Add → f m n = m + n) ∧ (op = .Sub → f m n = m - n)) → LS' X (wS Φ Γ (.aug i op ce)) De σ H → tAug i (LE X (wE Φ Γ ce)) (ipI f) De σ H := fun {De σ H f} hf h => by
    obtain ⟨env, S, E, re, rp, h, k⟩ := h
    have h' : (match env.getD i none with
      | some x => wE Φ Γ ce env S fun y S1 => (match x, y with
        | .int m, .int n => (op = .Add ∧ E.nx (env.set i (some (.int (m + n)))) S1) ∨ (op = .Sub ∧ E.nx (env.set i (some (.int (m - n)))) S1)
        | _, _ => False)
      | none => False) := h
    cases eq : env[i]? with
    | none => rw [List.getD_eq_getElem?_getD, eq] at h'; exact h'.elim
    | some o =>
    cases o with
    | none => rw [List.getD_eq_getElem?_getD, eq] at h'; exact h'.elim
    | some d =>
    rw [List.getD_eq_getElem?_getD, eq] at h'
    obtain ⟨v, q1, q2⟩ := re.at_ i d eq
    refine ⟨v, q1, lift_step (Q := fun _ _ => True) re rp h' fun y S1 u H1 h1 rd1 re1 rp1 g1 t1 => ?_⟩
    cases q2 <;> first | exact False.elim h1 | (cases rd1 <;> first | exact False.elim h1 | skip)
    rename_i m n
    refine ⟨m, n, rfl, rfl, ?_⟩
    rcases h1 with ⟨e1, h1⟩ | ⟨e1, h1⟩
    · rw [(hf m n).1 e1]
      exact k.nx _ _ _ _ h1 (re1.set (.int _)) rp1 g1
    · rw [(hf m n).2 e1]
      exact k.nx _ _ _ _ h1 (re1.set (.int _)) rp1 g1
  rcases hop with rfl | rfl
  · exact psImp (ps_aug hN hi hx he ip_add hf) fun De σ H h => rd (fun m n => ⟨fun _ => rfl, fun z => nomatch z⟩) h
  · exact psImp (ps_aug hN hi hx he ip_sub hf) fun De σ H h => rd (fun m n => ⟨(fun z => nomatch z), fun _ => rfl⟩) h
/-! loops -/
theorem s_whl {ct : Ct} (hp : PassesOwn (model X.prog X.w) X.A X.env X.xe) (hc : PT X c (LT X (wT Φ Γ ct))) (hb : PSs X p (LS' X (wSs Φ Γ cp))) : PS X (.While c p [] pos) (LS' X (wS Φ Γ (.whl ct cp))) :=
  psImp (ps_while hp hc hb) fun De σ H ⟨env, S, E, re, rp, h, k⟩ => by
    obtain ⟨W, ⟨m0, w0⟩, hW⟩ := h
    refine ⟨fun m σ' H' => ∃ env' S', W m env' S' ∧ RE X.K H' env' σ' ∧ Rp X.prog X.w X.K H' S' ∧ Go H S H' S', ⟨m0, env, S, w0, re, rp, Go.refl _ _⟩, ?_⟩
    rintro m σ' H' ⟨env', S', w', re', rp', g'⟩
    refine liftT_step re' rp' (hW m env' S' w') fun b S1 H1 h1 re1 rp1 g1 _ => ?_
    cases b with
    | true =>
      have gg := g'.trans g1
      exact ⟨fun σ2 H2 => ∃ m', m' < m ∧ ∃ env2 S2, W m' env2 S2 ∧ RE X.K H2 env2 σ2 ∧ Rp X.prog X.w X.K H2 S2 ∧ Go H S H2 S2, fun _ _ z => z, env', S1, _, re1, rp1, h1,
        fun env2 S2 σ2 H2 ⟨m', hm, w2⟩ r2 p2 g2 => ⟨m', hm, env2, S2, w2, r2, p2, gg.trans g2⟩, (k.go gg).rt, (k.go gg).nx, fun env2 S2 σ2 H2 ⟨m', hm, w2⟩ r2 p2 g2 => ⟨m', hm, env2, S2, w2, r2, p2, gg.trans g2⟩⟩
    | false => exact k.nx _ _ _ _ h1 re1 rp1 (g'.trans g1)
theorem s_fr {t : Tg} {cs : Cs} (hp : PassesOwn (model X.prog X.w) X.A X.env X.xe) (hc : X.calm = true) (hi : PI X tg e (LI X (wSr Φ Γ cs))) (hg : PG X tg (liftG X.K t)) (hb : PSs X p (LS' X (wSs Φ Γ cp))) (hs : ∀ x, foldedSetIterable e X.env x = pure x) :
    PS X (.For tg e p [] pos) (LS' X (wS Φ Γ (.fr t cs cp))) :=
  psImp (ps_for hp hc hi hg hb hs) fun De σ H ⟨env, S, E, re, rp, h, k⟩ => by
    refine ⟨env, S, _, re, rp, h, fun xs G S1 J H1 h1 rp1 g1 it => ?_⟩
    refine ⟨fun i n σ' H' => i ≤ xs.length ∧ n = xs.length - i ∧ ∃ env' S', RE X.K H' env' σ' ∧ Rp X.prog X.w X.K H' S' ∧ Go H S H' S' ∧ Tx H1 H' ∧ frRun (asgD t) (wSs Φ Γ cp) G E (xs.drop i) env' S', ⟨xs.length, Nat.zero_le _, rfl, env, S1, re.tx (g1.tx rp), rp1, g1, Tx.refl _, h1⟩, ?_⟩
    rintro i n σ' H' ⟨hi, rfl, env', S', re', rp', g', tx, h'⟩
    by_cases hlt : i < xs.length
    · rw [List.drop_eq_getElem_cons hlt] at h'
      obtain ⟨g0, env1, e1, h'⟩ := h'
      refine .inr ⟨it.go i H' S' tx rp' g0 hlt, fun σ2 H2 => i + 1 ≤ xs.length ∧ ∃ env' S', RE X.K H2 env' σ2 ∧ Rp X.prog X.w X.K H2 S' ∧ Go H S H2 S' ∧ Tx H1 H2 ∧ frRun (asgD t) (wSs Φ Γ cp) G E (xs.drop (i + 1)) env' S', fun σ2 H2 ⟨z1, z2⟩ => ⟨xs.length - (i + 1), by omega, z1, rfl, z2⟩, fun x H2 y => ?_⟩
      obtain ⟨d, hd, rd, rp2, g2⟩ := it.yld i H' S' x H2 tx rp' g0 hlt y
      have hd' : xs[i] = d := by
        rw [List.getElem?_eq_getElem hlt] at hd
        exact Option.some.inj hd
      rw [hd'] at e1
      have t2 := g2.tx rp'
      have gg := g'.trans g2
      have tt := tx.trans t2
      refine ⟨d, env', env1, rd, re'.tx t2, e1, fun σ1 r1 _ => ⟨env1, S', _, r1, rp2, h', ?_⟩⟩
      exact ⟨fun env2 S2 σ2 H3 h3 r3 p3 g3 => ⟨hlt, env2, S2, r3, p3, gg.trans g3, tt.trans (g3.tx rp2), h3⟩, (k.go gg).rt, (k.go gg).nx, fun env2 S2 σ2 H3 h3 r3 p3 g3 => ⟨hlt, env2, S2, r3, p3, gg.trans g3, tt.trans (g3.tx rp2), h3⟩⟩
    · have e' : i = xs.length := by omega
      subst e'
      rw [List.drop_length] at h'
      exact .inl ⟨it.stop _ H' S' tx rp' h'.1 rfl, k.nx _ _ _ _ h'.2 re' rp' g'⟩
end
end Mn

/-! Mn: from the text to its code; every code comes with its soundness. -/
namespace Mn
open PySem PySem.Spec L2
/-- the names of the module's defs and constants -/
structure Tab where
  fs : List Str
  gs : List Str
/-- a frame: its names, its scope as the block sees it, and as the text has it -/
structure Fr where
  N : List Str
  sc : Scope
  fb : Scope
def bltNames : List Str := ["len", "int", "str", "bool", "all", "any", "sum", "max", "min", "list", "tuple", "sorted", "set", "isinstance", "range", "enumerate", "zip", "reversed"]
structure Okx (T : Tab) (F : Fr) (Φ : Str → Option SpD) (Γ : Str → Option D) (X : Cx) : Prop where
  N : X.N = F.N
  sc : X.env.scope = F.sc
  fn : ∀ x, F.fb.names.lookup x = some .cell → X.fn x = true
  calm : X.calm = true
  nd : X.N.Nodup
  room : X.A.units + 65 < cLine
  blt : ∀ x ∈ bltNames, X.mg x = none
  glb : ∀ x ∈ T.gs, ∀ d, Γ x = some d → ∃ v u, X.mg x = some u ∧ RelV v u ∧ ∀ H, RD X.K H d v
  fns : ∀ x ∈ T.fs, ∃ sp, Φ x = some sp ∧ CallOk X x sp
structure Oks (T : Tab) (F : Fr) (Φ : Str → Option SpD) (Γ : Str → Option D) (X : Cx) : Prop extends Okx T F Φ Γ X where
  pass : PassesOwn (model X.prog X.w) X.A X.env X.xe
  kind : X.env.scope.kind = .function
def slot (N : List Str) (x : Str) : Option Nat := N.findIdx? fun y => y == x
theorem slot_at {N : List Str} {x : Str} {i : Nat} (h : slot N x = some i) : N[i]? = some x := by
  unfold slot at h
  rw [List.findIdx?_eq_some_iff_getElem] at h
  obtain ⟨h1, h2, _⟩ := h
  rw [List.getElem?_eq_getElem h1]
  exact congrArg some (eq_of_beq h2)
def isVis (sc : Scope) (x : Str) : Bool := match sc.names.lookup x with
  | some .local => true
  | some .cell => true
  | some .free => true
  | _ => false
def isGl (sc : Scope) (x : Str) : Bool := decide (sc.names.lookup x = some .globalImplicit)
def isLoc (sc : Scope) (x : Str) : Bool := decide (sc.names.lookup x = some .local)
theorem vis_of {sc : Scope} {x : Str} (h : isVis sc x = true) : Vis sc x := by
  unfold isVis at h
  split at h
  · exact .inl (by assumption)
  · exact .inr (.inl (by assumption))
  · exact .inr (.inr (by assumption))
  · cases h
def okNm (x : Str) : Bool := !(x == ("__debug__" : Str)) && !(x == ("__classdict__" : Str))
theorem okNm_of {x : Str} (h : okNm x = true) : (x == ("__debug__" : Str)) = false ∧ (x == ("__classdict__" : Str)) = false := by
  unfold okNm at h
  simpa using h
section
variable {T : Tab} {F : Fr} {Φ : Str → Option SpD} {Γ : Str → Option D} {X : Cx}
theorem Okx.gl {x : Str} (o : Okx T F Φ Γ X) (h : isGl F.sc x = true) : Gl X x := by
  show X.env.scope.names.lookup x = _
  rw [o.sc]
  exact of_decide_eq_true h
theorem Okx.at_ {x : Str} {i : Nat} (o : Okx T F Φ Γ X) (h : slot F.N x = some i) : X.N[i]? = some x := by
  rw [o.N]
  exact slot_at h
theorem Okx.vis {x : Str} (o : Okx T F Φ Γ X) (h : isVis F.sc x = true) : Vis X.env.scope x := by
  rw [o.sc]
  exact vis_of h
/-- a block of a comprehension -/
theorem Okx.blk {scope : Scope} (o : Okx T F Φ Γ X) (s : Shared) (H : Hp) (C : Addr) (cl : List (Str × Addr)) (fp : List Addr) : Okx T ⟨F.N, relS scope F.sc, scope⟩ Φ Γ (X.blk s H scope (compEnvC scope cl C X.env) fp) where
  N := o.N
  sc := by rw [← o.sc]; rfl
  fn := fun x h => by
    show (scope.names.lookup x == some NameKind.cell) = true
    rw [show scope.names.lookup x = some .cell from h]
    rfl
  calm := o.calm
  nd := o.nd
  room := o.room
  blt := o.blt
  glb := o.glb
  fns := fun x hx => let ⟨sp, h1, h2⟩ := o.fns x hx; ⟨sp, h1, ⟨h2.ex⟩⟩
end
abbrev SE (T : Tab) (F : Fr) (e : Expr) := { c : Cd // ∀ Φ Γ X, Okx T F Φ Γ X → PE X e (LE X (wE Φ Γ c)) }
abbrev SEs (T : Tab) (F : Fr) (es : List Expr) := { cs : List Cd // ∀ Φ Γ X, Okx T F Φ Γ X → PA X es (LA X (wEs Φ Γ cs)) }
abbrev SP (T : Tab) (F : Fr) (e : Option Expr) := { c : Cp // ∀ Φ Γ X, Okx T F Φ Γ X → PO X e (LO X (wP Φ Γ c)) }
abbrev SI (T : Tab) (F : Fr) (tg e : Expr) := { c : Cs // ∀ Φ Γ X, Okx T F Φ Γ X → PI X tg e (LI X (wSr Φ Γ c)) }
abbrev SC (T : Tab) (F : Fr) (e : Expr) := { c : Ct // ∀ Φ Γ X, Okx T F Φ Γ X → PT X e (LT X (wT Φ Γ c)) }
abbrev SW (T : Tab) (F : Fr) (e : Expr) := { c : Ct // ∀ Φ Γ X, Okx T F Φ Γ X → PW X e (LT X (wT Φ Γ c)) }
abbrev SCs (T : Tab) (F : Fr) (es : List Expr) := { c : Ct // ∀ Φ Γ X, Okx T F Φ Γ X → PTs X es (LT X (wT Φ Γ c)) }
abbrev SG (T : Tab) (F : Fr) (e : Expr) := { t : Tg // ∀ Φ Γ X, Okx T F Φ Γ X → PG X e (liftG X.K t) }
abbrev SGs (T : Tab) (F : Fr) (es : List Expr) := { ts : List Tg // (es.length = ts.length) ∧ ∀ Φ Γ X, Okx T F Φ Γ X → PGs X es (liftGs X.K ts) }
abbrev SS (T : Tab) (F : Fr) (st : Stmt) := { s : Sd // ∀ Φ Γ X, Oks T F Φ Γ X → PS X st (LS' X (wS Φ Γ s)) }
abbrev SSs (T : Tab) (F : Fr) (st : List Stmt) := { s : List Sd // ∀ Φ Γ X, Oks T F Φ Γ X → PSs X st (LS' X (wSs Φ Γ s)) }
/-! ### small looks -/
def isStar : Cd → Bool
  | .star _ => true
  | _ => false
theorem not_star {c : Cd} (h : isStar c = false) : ∀ a, c ≠ .star a := fun a e => by subst e; cases h
def plainT : Expr → Bool
  | .UnaryOp .Not _ _ => false
  | .BoolOp _ _ _ => false
  | .IfExp _ _ _ _ => false
  | .Compare _ _ _ _ => false
  | _ => true
theorem plain_is {e : Expr} {env : PySem.Env} (h : plainT e = true) : ∀ whole, isTrue e env whole = (do let v ← whole; standAt e.pos; holding [v] (truthy v)) := by
  intro whole
  cases e <;> first
    | rfl
    | (simp [plainT] at h; done)
    | (rename_i op x p; cases op <;> first | rfl | (simp [plainT] at h; done))
def noSet : Expr → Bool
  | .Set _ _ _ => false
  | _ => true
theorem fold_no {e : Expr} {env : PySem.Env} (h : noSet e = true) : ∀ x, foldedSetIterable e env x = pure x := by
  intro x
  cases e <;> first | rfl | (simp [noSet] at h; done)
def noComp : Expr → Bool
  | .ListComp _ _ _ _ => false
  | .SetComp _ _ _ _ => false
  | .DictComp _ _ _ _ _ => false
  | _ => true
theorem sw_no {e : Expr} {t : Option Expr} {l : Nat} {env : PySem.Env} (h : noComp e = true) : swapsWith e t l env = pure false := by
  cases e <;> first | rfl | (simp [noComp] at h; done)
def noTup : Expr → Bool
  | .Tuple _ _ _ => false
  | _ => true
theorem swst_noV {ts : List Expr} {e : Expr} {env : PySem.Env} (h : noTup e = true) : swappedStores ts e env = pure none := by
  unfold swappedStores
  split
  · rename_i heq
    split at heq
    · simp [noTup] at h
    · simp [noTup] at h
    · cases heq
  · rfl
def tgPlain : Expr → Bool
  | .Name _ _ => true
  | .Subscript _ _ _ => true
  | _ => false
theorem swst_noT {t e : Expr} {env : PySem.Env} (h : tgPlain t = true) : swappedStores [t] e env = pure none := by
  cases t <;> first | rfl | (simp [tgPlain] at h; done)
theorem lookup_in {α β : Type} [BEq α] [LawfulBEq α] {x : α} {y : β} : ∀ {l : List (α × β)}, l.lookup x = some y → (x, y) ∈ l
  | [], h => by cases h
  | (a, b) :: r, h => by
    rw [List.lookup_cons] at h
    cases e : (x == a) with
    | true =>
      rw [e] at h
      have := eq_of_beq e
      subst this
      cases h
      exact List.mem_cons_self
    | false =>
      rw [e] at h
      exact List.mem_cons_of_mem _ (lookup_in h)
def bltTab : List (Str × Bf) := [("len", .len), ("int", .int), ("str", .str), ("bool", .bool), ("all", .all), ("any", .any), ("sum", .sum), ("max", .max), ("min", .min2), ("list", .list), ("tuple", .tuple), ("sorted", .srt)]
def bltOf (x : Str) (n : Nat) : Option Bf := match bltTab.lookup x with
  | some .max => if n = 1 then some .max else some .max2
  | f => f
theorem bltTab_ok : ∀ p ∈ bltTab, p.1 = bfName p.2 := by decide +kernel
theorem bltOf_name {x : Str} {n : Nat} {f : Bf} (h : bltOf x n = some f) : x = bfName f := by
  unfold bltOf at h
  split at h
  · rename_i e
    have := bltTab_ok _ (lookup_in e)
    split at h
    · cases h; exact this
    · cases h; exact this
  · exact bltTab_ok _ (lookup_in h)
def bltIn (f : Bf) : bfName f ∈ bltNames := by cases f <;> decide +kernel
def tyTab : List (Str × Ty) := [("int", .int), ("bool", .bool), ("str", .str), ("tuple", .tup), ("list", .lst)]
def tyOf (x : Str) : Option Ty := tyTab.lookup x
theorem tyTab_ok : ∀ p ∈ tyTab, p.1 = tyStr p.2 := by decide +kernel
theorem tyOf_name {x : Str} {t : Ty} (h : tyOf x = some t) : x = tyStr t := tyTab_ok _ (lookup_in h)
theorem tyIn (t : Ty) : tyStr t ∈ bltNames := by cases t <;> decide +kernel
def mfTab : List (Str × Mf) := [("append", .append), ("pop", .pop), ("index", .index), ("insert", .insert), ("get", .get), ("join", .join), ("split", .split), ("partition", .partition), ("startswith", .startswith), ("endswith", .endswith)]
def mfOf (x : Str) : Option Mf := mfTab.lookup x
theorem mfTab_ok : ∀ p ∈ mfTab, p.1 = mfNm p.2 := by decide +kernel
theorem mfOf_name {x : Str} {t : Mf} (h : mfOf x = some t) : x = mfNm t := mfTab_ok _ (lookup_in h)
/-- the names that a comprehension's scope owns, with their slots -/
def ownOf (N : List Str) : List (Str × NameKind) → List (Str × Nat)
  | [] => []
  | (x, k) :: r => match k, slot N x with
    | .local, some i => (x, i) :: ownOf N r
    | .cell, some i => (x, i) :: ownOf N r
    | _, _ => ownOf N r
/-- a, b = x, y: whether the stores are swapped -/
def swS (sc : Scope) (ts vs : List Expr) : Option (Option (List Str)) :=
  if (!(ts.length == 2 || ts.length == 3) || vs.length != ts.length) = true then some none else
  if vs.any (fun | .Starred .. => true | _ => false) = true then some none else
  if (((ts.filterMap fun | .Name id pos => if sc.names.lookup id == some .local && pos.line == (ts.head?.map (·.pos.line)).getD 0 then some id else none | _ => none).length != ts.length) || ((ts.filterMap fun | .Name id pos => if sc.names.lookup id == some .local && pos.line == (ts.head?.map (·.pos.line)).getD 0 then some id else none | _ => none).eraseDups.length != (ts.filterMap fun | .Name id pos => if sc.names.lookup id == some .local && pos.line == (ts.head?.map (·.pos.line)).getD 0 then some id else none | _ => none).length)) = true then some none else
  if vs.all (foldedForSure 8) = true then some none else
  if vs.all (constantsAlone 8) = true then none else
  some (some (ts.filterMap fun | .Name id pos => if sc.names.lookup id == some .local && pos.line == (ts.head?.map (·.pos.line)).getD 0 then some id else none | _ => none))
theorem swS_is {ts vs : List Expr} {k k2 : Nat} {p p2 : Pos} {env : PySem.Env} {r : Option (List Str)} (hk : env.scope.kind = .function) (h : swS env.scope ts vs = some r) : swappedStores [.Tuple ts k p] (.Tuple vs k2 p2) env = pure r := by
  have hb : env.blockKind = .function := by unfold PySem.Env.blockKind; rw [hk]; rfl
  unfold swappedStores
  unfold swS at h
  simp only [hb, PySem.Env.kindOf]
  rw [show (ScopeKind.function != ScopeKind.function) = false from rfl, Bool.or_false]
  split at h
  · rename_i c
    exact (if_pos c).trans (by cases h; rfl)
  rename_i c
  refine (if_neg c).trans ?_
  split at h
  · rename_i c
    exact (if_pos c).trans (by cases h; rfl)
  rename_i c
  refine (if_neg c).trans ?_
  split at h
  · rename_i c
    exact (if_pos c).trans (by cases h; rfl)
  rename_i c
  refine (if_neg c).trans ?_
  split at h
  · rename_i c
    exact (if_pos c).trans (by cases h; rfl)
  rename_i c
  refine (if_neg c).trans ?_
  split at h
  · cases h
  rename_i c
  refine (if_neg c).trans ?_
  cases h
  rfl
end Mn

/-! Mn: the compiler. -/
namespace Mn
open PySem PySem.Spec L2
section
variable {T : Tab} {F : Fr}
def compName (T : Tab) (F : Fr) (x : Str) (p : Pos) : Option (SE T F (.Name x p)) :=
  if h1 : okNm x = true then
    if h2 : isVis F.sc x = true then
      match hs : slot F.N x with
      | some i => some ⟨.var i, fun Φ Γ X o => r_var (o.at_ hs) (o.vis h2) (okNm_of h1).1 (okNm_of h1).2⟩
      | none => none
    else if h3 : isGl F.sc x = true then
      if h4 : x ∈ T.gs then some ⟨.glb x, fun Φ Γ X o => r_glb (o.gl h3) (o.glb x h4) (okNm_of h1).1⟩ else none
    else none
  else none
def compConst (T : Tab) (F : Fr) : (c : Const) → (k : Nat) → (p : Pos) → Option (SE T F (.Constant c k p))
  | .int i, k, p => some ⟨.cst (.int i), fun Φ Γ X o => r_int⟩
  | .bool b, k, p => some ⟨.cst (.bl b), fun Φ Γ X o => r_bl⟩
  | .none, k, p => some ⟨.cst .non, fun Φ Γ X o => r_non⟩
  | .str x, k, p => some ⟨.cst (.str x), fun Φ Γ X o => r_str⟩
  | _, _, _ => none
def compTgName (T : Tab) (F : Fr) (x : Str) (p : Pos) : Option (SG T F (.Name x p)) :=
  match hs : slot F.N x with
  | some i =>
    if h1 : F.sc.names.lookup x = some .local then some ⟨.nm i, fun Φ Γ X o => g_nm o.nd (o.at_ hs) (.inl (by rw [o.sc]; exact h1)) (.inr (by rw [o.sc]; exact h1))⟩
    else if h2 : F.sc.names.lookup x = some .cell ∧ F.fb.names.lookup x = some .cell then some ⟨.nm i, fun Φ Γ X o => g_nm o.nd (o.at_ hs) (.inr (by rw [o.sc]; exact h2.1)) (.inl (o.fn x h2.2))⟩
    else none
  | none => none
def compG (T : Tab) (F : Fr) : Nat → (e : Expr) → Option (SG T F e)
  | 0, _ => none
  | n + 1, .Name x p => compTgName T F x p
  | n + 1, .Tuple es k p =>
    let rec go : (es : List Expr) → Option (SGs T F es)
      | [] => some ⟨[], rfl, fun Φ Γ X o => g_nil⟩
      | e :: es => if hn : noStar e = true then
          match compG T F n e, go es with
          | some ⟨t, ht⟩, some ⟨ts, hl, hts⟩ => some ⟨t :: ts, by simp [hl], fun Φ Γ X o => g_cons hn (ht Φ Γ X o) (hts Φ Γ X o)⟩
          | _, _ => none
        else none
    if hn : es.all noStar = true then
      match go es with
      | some ⟨ts, hl, hts⟩ => some ⟨.tp ts, fun Φ Γ X o => g_tp o.calm hn hl (hts Φ Γ X o)⟩
      | none => none
    else none
  | _, _ => none
end
/-- a comprehension as a value, and as what a name gets on its own line -/
abbrev SDC (T : Tab) (F : Fr) (kx vx : Expr) (gens : List Comprehension) (scope : Scope) (p : Pos) := { c : Cd // (∀ Φ Γ X, Okx T F Φ Γ X → PE X (.DictComp kx vx gens scope p) (LE X (wE Φ Γ c))) ∧
  ∀ Φ Γ X, Okx T F Φ Γ X → ∀ (i : Nat) (y : Str) (py spos : Pos), X.N[i]? = some y → X.env.scope.names.lookup y = some .local → swapsWith (.DictComp kx vx gens scope p) (some (.Name y py)) spos.line X.env = pure true →
    PS X (.Assign [.Name y py] (.DictComp kx vx gens scope p) spos) (LS' X (wS Φ Γ (.asg (.nm i) c))) }
/-- the dicts that loops walk by their names -/
def dictNm (e tg : Expr) : Bool := match e with
  | .Name x _ => x == ("rows" : Str) || x == ("_law_machine_here" : Str) || x == ("calls" : Str) || (x == ("known" : Str) && (match tg with | .Tuple _ _ _ => true | _ => false)) ||
      (x == ("_law_some" : Str) && (match tg with | .Name y _ => y == ("_law_state" : Str) || y == ("_law_pair" : Str) | .Tuple [.Name y _, _] _ _ => y == ("_law_here" : Str) | _ => false)) || x == ("_law_known" : Str) || x == ("_law_machine_one" : Str)
  | _ => false
abbrev SLC (T : Tab) (F : Fr) (elt : Expr) (gens : List Comprehension) (scope : Scope) (p : Pos) := { c : Cd // (∀ Φ Γ X, Okx T F Φ Γ X → PE X (.ListComp elt gens scope p) (LE X (wE Φ Γ c))) ∧
  ∀ Φ Γ X, Okx T F Φ Γ X → ∀ (i : Nat) (y : Str) (py spos : Pos), X.N[i]? = some y → X.env.scope.names.lookup y = some .local → swapsWith (.ListComp elt gens scope p) (some (.Name y py)) spos.line X.env = pure true →
    PS X (.Assign [.Name y py] (.ListComp elt gens scope p) spos) (LS' X (wS Φ Γ (.asg (.nm i) c))) }
theorem inMap {l : List Nat} {m : List Nat} (h : l.all (fun i => decide (i ∈ m)) = true) : SlotsIn l m := fun i hi => of_decide_eq_true (List.all_eq_true.mp h i hi)
mutual
def compE (T : Tab) : Nat → (F : Fr) → (e : Expr) → Option (SE T F e)
  | 0, _, _ => none
  | n + 1, F, .Name x p => compName T F x p
  | n + 1, F, .Constant c k p => compConst T F c k p
  | n + 1, F, .BinOp a op b p => match compE T n F a, compE T n F b with
    | some ⟨ca, ha⟩, some ⟨cb, hb⟩ => some ⟨.bin op ca cb, fun Φ Γ X o => r_bin (ha Φ Γ X o) (hb Φ Γ X o)⟩
    | _, _ => none
  | n + 1, F, .UnaryOp .USub a p => match compE T n F a with
    | some ⟨ca, ha⟩ => some ⟨.neg ca, fun Φ Γ X o => r_neg (ha Φ Γ X o)⟩
    | none => none
  | n + 1, F, .UnaryOp .Not a p => match compE T n F a with
    | some ⟨ca, ha⟩ => some ⟨.not ca, fun Φ Γ X o => r_not (ha Φ Γ X o)⟩
    | none => none
  | n + 1, F, .BoolOp op es p => compB T n F op es p
  | n + 1, F, .Compare a [op] [b] p =>
    if hm : behindInMarks op b = false then
      match compE T n F a, compE T n F b with
      | some ⟨ca, ha⟩, some ⟨cb, hb⟩ => some ⟨.cmp op ca cb, fun Φ Γ X o => r_cmp o.room hm (ha Φ Γ X o) (hb Φ Γ X o)⟩
      | _, _ => none
    else none
  | n + 1, F, .Compare a [op, op2] [b, c] p =>
    if hm : lastMarks [op, op2] [b, c] = false then
      match compE T n F a, compE T n F b, compE T n F c with
      | some ⟨ca, ha⟩, some ⟨cb, hb⟩, some ⟨cc, hc⟩ => some ⟨.chn op op2 ca cb cc, fun Φ Γ X o => r_chn o.room hm (ha Φ Γ X o) (hb Φ Γ X o) (hc Φ Γ X o)⟩
      | _, _, _ => none
    else none
  | n + 1, F, .IfExp c a b p => match compT T n F c, compE T n F a, compE T n F b with
    | some ⟨cc, hc⟩, some ⟨ca, ha⟩, some ⟨cb, hb⟩ => some ⟨.ife cc ca cb, fun Φ Γ X o => r_ife (hc Φ Γ X o) (ha Φ Γ X o) (hb Φ Γ X o)⟩
    | _, _, _ => none
  | n + 1, F, .Tuple es k p => match compEs T n F es with
    | some ⟨cs, hs⟩ => some ⟨.tup cs, fun Φ Γ X o => r_tup (hs Φ Γ X o)⟩
    | none => none
  | n + 1, F, .List es p => match compEs T n F es with
    | some ⟨cs, hs⟩ => some ⟨.lst cs, fun Φ Γ X o => r_lst (hs Φ Γ X o)⟩
    | none => none
  | n + 1, F, .JoinedStr (v1 :: v2 :: rest) p => match compFs T n F (v1 :: v2 :: rest) with
    | some ⟨cs, hs⟩ => some ⟨.fst cs, fun Φ Γ X o => let ⟨_, h⟩ := hs Φ Γ X o; r_fst h⟩
    | none => none
  | n + 1, F, .Dict [] [] p => some ⟨.emp, fun Φ Γ X o => r_emp⟩
  | n + 1, F, .Dict [some a] [b] p => match compE T n F a, compE T n F b with
    | some ⟨ca, ha⟩, some ⟨cb, hb⟩ => some ⟨.dd ca cb, fun Φ Γ X o => r_dd o.room (ha Φ Γ X o) (hb Φ Γ X o)⟩
    | _, _ => none
  | n + 1, F, .Subscript a b p =>
    if hb : noSlice b = true then
      match compE T n F a, compE T n F b with
      | some ⟨ca, ha⟩, some ⟨cb, hb'⟩ => some ⟨.idx ca cb, fun Φ Γ X o => r_idx o.room (ix_plain hb) (ha Φ Γ X o) (hb' Φ Γ X o)⟩
      | _, _ => none
    else compSl T n F a b p
  | n + 1, F, .Call f es kws p => compCall T n F f es kws p
  | n + 1, F, .ListComp elt gens scope p => match compLC T n F elt gens scope p with
    | some ⟨c, hc, _⟩ => some ⟨c, hc⟩
    | none => none
  | n + 1, F, .DictComp kx vx gens scope p => match compDC T n F kx vx gens scope p with
    | some ⟨c, hc, _⟩ => some ⟨c, hc⟩
    | none => none
  | _ + 1, _, _ => none
def compFs (T : Tab) : Nat → (F : Fr) → (es : List Expr) → Option { cs : List Cd // ∀ Φ Γ X, Okx T F Φ Γ X → ∃ ts, PF X Φ Γ es cs ts }
  | 0, _, _ => none
  | n + 1, F, [] => some ⟨[], fun Φ Γ X o => ⟨_, .nil⟩⟩
  | n + 1, F, .Constant (.str x) k p :: es => match compFs T n F es with
    | some ⟨cs, hs⟩ => some ⟨.cst (.str x) :: cs, fun Φ Γ X o => let ⟨_, h⟩ := hs Φ Γ X o; ⟨_, .cst h⟩⟩
    | none => none
  | n + 1, F, .FormattedValue e c none p :: es =>
    if hc : c = -1 then
      match compE T n F e, compFs T n F es with
      | some ⟨ce, he⟩, some ⟨cs, hs⟩ => some ⟨ce :: cs, fun Φ Γ X o => by subst hc; exact let ⟨_, h⟩ := hs Φ Γ X o; ⟨_, .fmt (he Φ Γ X o) h⟩⟩
      | _, _ => none
    else none
  | _ + 1, _, _ => none
def compEs (T : Tab) : Nat → (F : Fr) → (es : List Expr) → Option (SEs T F es)
  | 0, _, _ => none
  | n + 1, F, [] => some ⟨[], fun Φ Γ X o => r_nil⟩
  | n + 1, F, .Starred a p1 :: r => match compE T n F a, compEs T n F r with
    | some ⟨ca, ha⟩, some ⟨cs, hs⟩ => some ⟨.star ca :: cs, fun Φ Γ X o => r_star (ha Φ Γ X o) (hs Φ Γ X o)⟩
    | _, _ => none
  | n + 1, F, e :: r =>
    if hn : noStar e = true then
      match compE T n F e, compEs T n F r with
      | some ⟨ca, ha⟩, some ⟨cs, hs⟩ => if h : isStar ca = false then some ⟨ca :: cs, fun Φ Γ X o => r_cons hn (not_star h) (ha Φ Γ X o) (hs Φ Γ X o)⟩ else none
      | _, _ => none
    else none
def compB (T : Tab) : Nat → (F : Fr) → (op : BoolOp) → (es : List Expr) → (p : Pos) → Option (SE T F (.BoolOp op es p))
  | 0, _, _, _, _ => none
  | n + 1, F, op, [a], p => match compE T n F a with
    | some ⟨ca, ha⟩ => some ⟨ca, fun Φ Γ X o => r_one (ha Φ Γ X o)⟩
    | none => none
  | n + 1, F, .And, a :: b :: r, p => match compE T n F a, compB T n F .And (b :: r) p with
    | some ⟨ca, ha⟩, some ⟨cb, hb⟩ => some ⟨.and ca cb, fun Φ Γ X o => r_and (ha Φ Γ X o) (hb Φ Γ X o)⟩
    | _, _ => none
  | n + 1, F, .Or, a :: b :: r, p => match compE T n F a, compB T n F .Or (b :: r) p with
    | some ⟨ca, ha⟩, some ⟨cb, hb⟩ => some ⟨.or ca cb, fun Φ Γ X o => r_or (ha Φ Γ X o) (hb Φ Γ X o)⟩
    | _, _ => none
  | _ + 1, _, _, [], _ => none
def compP (T : Tab) : Nat → (F : Fr) → (e : Option Expr) → Option (SP T F e)
  | 0, _, _ => none
  | n + 1, F, none => some ⟨.no, fun Φ Γ X o => r_cpn⟩
  | n + 1, F, some e => match compE T n F e with
    | some ⟨c, h⟩ => some ⟨.at c, fun Φ Γ X o => r_cpa (h Φ Γ X o)⟩
    | none => none
def compSl (T : Tab) : Nat → (F : Fr) → (a b : Expr) → (p : Pos) → Option (SE T F (.Subscript a b p))
  | 0, _, _, _, _ => none
  | n + 1, F, a, .Slice lo hi none p2, p => match compE T n F a, compP T n F lo, compP T n F hi with
    | some ⟨ca, ha⟩, some ⟨cl, hl⟩, some ⟨ch, hh⟩ => some ⟨.sli ca cl ch, fun Φ Γ X o => r_sli (ha Φ Γ X o) (hl Φ Γ X o) (hh Φ Γ X o)⟩
    | _, _, _ => none
  | n + 1, F, a, .Slice none none (some (.UnaryOp .USub (.Constant (.int i) k p1) p2)) p3, p =>
    if hi : i = 1 then
      match compE T n F a with
      | some ⟨ca, ha⟩ => some ⟨.rev ca, fun Φ Γ X o => by subst hi; exact r_rev (ha Φ Γ X o)⟩
      | none => none
    else none
  | _ + 1, _, _, _, _ => none
def compCall (T : Tab) : Nat → (F : Fr) → (f : Expr) → (es : List Expr) → (kws : List Keyword) → (p : Pos) → Option (SE T F (.Call f es kws p))
  | 0, _, _, _, _, _ => none
  | n + 1, F, .Name x p1, a :: r, [], p =>
    if hg : isGl F.sc x = true then
      match compSN T n F x p1 a r p hg with
      | some c => some c
      | none =>
      if h2 : x = "isinstance" then compIsi T n F x p1 a r p h2 hg
      else if hn : (a :: r).all noStar = true ∧ okNm x = true then
        match compEs T n F (a :: r) with
        | some ⟨cs, hs⟩ =>
          if hf : x ∈ T.fs then some ⟨.call x cs, fun Φ Γ X o => r_call (o.gl hg) (o.fns x hf) (okNm_of hn.2).1 hn.1 (hs Φ Γ X o)⟩
          else match hb : bltOf x (r.length + 1) with
            | some f => some ⟨.blt f cs, fun Φ Γ X o => r_blt o.calm (o.gl hg) (o.blt x (by rw [bltOf_name hb]; exact bltIn f)) (bltOf_name hb) hn.1 (hs Φ Γ X o)⟩
            | none => none
        | none => none
      else none
    else none
  | n + 1, F, .Attribute a m apos, es, [], p =>
    if hb : noSuper a = true ∧ (apos.endLine == p.line) = true then
      match hm : mfOf m, compE T n F a with
      | some f, some ⟨ca, ha⟩ => compMth T n F a m apos es p f ca hb.1 hb.2 hm ha
      | _, _ => none
    else none
  | _ + 1, _, _, _, _, _ => none
def compMth (T : Tab) : Nat → (F : Fr) → (a : Expr) → (m : Str) → (apos : Pos) → (es : List Expr) → (p : Pos) → (f : Mf) → (ca : Cd) → (noSuper a = true) → ((apos.endLine == p.line) = true) → (mfOf m = some f) → (∀ Φ Γ X, Okx T F Φ Γ X → PE X a (LE X (wE Φ Γ ca))) → Option (SE T F (.Call (.Attribute a m apos) es [] p))
  | 0, _, _, _, _, _, _, _, _, _, _, _, _ => none
  | n + 1, F, a, m, apos, [], p, f, ca, hb, hl, hm, ha => some ⟨.mth f ca [], fun Φ Γ X o => r_mth0 o.room (mfOf_name hm) hb hl (ha Φ Γ X o)⟩
  | n + 1, F, a, m, apos, b :: r, p, f, ca, hb, hl, hm, ha =>
    if hn : (b :: r).all noStar = true ∧ (b :: r).length < 29 then
      match compEs T n F (b :: r) with
      | some ⟨cs, hs⟩ => some ⟨.mth f ca cs, fun Φ Γ X o => r_mth o.room (mfOf_name hm) hb hl hn.1 hn.2 (ha Φ Γ X o) (hs Φ Γ X o)⟩
      | none => none
    else none
def compSS (T : Tab) : Nat → (F : Fr) → (x : Str) → (p1 : Pos) → (a : Expr) → (r : List Expr) → (p : Pos) → x = "sorted" → isGl F.sc x = true → Option (SE T F (.Call (.Name x p1) (a :: r) [] p))
  | 0, _, _, _, _, _, _, _, _ => none
  | n + 1, F, x, p1, .Call (.Name y p2) [z] [] pos2, [], p, hx, hg =>
    if hy : y = "set" ∧ isGl F.sc y = true ∧ noStar z = true then
      match compE T n F z with
      | some ⟨c, h⟩ => some ⟨.ss c, fun Φ Γ X o => by
          have hg1 := o.gl hg
          have hg2 := o.gl hy.2.1
          have hm1 := o.blt "sorted" (by decide +kernel)
          have hm2 := o.blt "set" (by decide +kernel)
          obtain ⟨hy1, _, hy3⟩ := hy
          subst hx hy1
          exact r_ss o.calm hg1 hm1 hg2 hm2 hy3 (h Φ Γ X o)⟩
      | none => none
    else none
  | _ + 1, _, _, _, _, _, _, _, _ => none
/-- sorted(set(..)), len(set(..)) -/
def compSN (T : Tab) : Nat → (F : Fr) → (x : Str) → (p1 : Pos) → (a : Expr) → (r : List Expr) → (p : Pos) → isGl F.sc x = true → Option (SE T F (.Call (.Name x p1) (a :: r) [] p))
  | 0, _, _, _, _, _, _, _ => none
  | n + 1, F, x, p1, a, r, p, hg => if h1 : x = "sorted" then compSS T n F x p1 a r p h1 hg else if h2 : x = "len" then compLS T n F x p1 a r p h2 hg else none
def compLS (T : Tab) : Nat → (F : Fr) → (x : Str) → (p1 : Pos) → (a : Expr) → (r : List Expr) → (p : Pos) → x = "len" → isGl F.sc x = true → Option (SE T F (.Call (.Name x p1) (a :: r) [] p))
  | 0, _, _, _, _, _, _, _, _ => none
  | n + 1, F, x, p1, .Call (.Name y p2) [z] [] pos2, [], p, hx, hg =>
    if hy : y = "set" ∧ isGl F.sc y = true ∧ noStar z = true then
      match compE T n F z with
      | some ⟨c, h⟩ => some ⟨.ls c, fun Φ Γ X o => by
          have hg1 := o.gl hg
          have hg2 := o.gl hy.2.1
          have hm1 := o.blt "len" (by decide +kernel)
          have hm2 := o.blt "set" (by decide +kernel)
          obtain ⟨hy1, _, hy3⟩ := hy
          subst hx hy1
          exact r_ls o.calm hg1 hm1 hg2 hm2 hy3 (h Φ Γ X o)⟩
      | none => none
    else none
  | _ + 1, _, _, _, _, _, _, _, _ => none
def compIsi (T : Tab) : Nat → (F : Fr) → (x : Str) → (p1 : Pos) → (a : Expr) → (r : List Expr) → (p : Pos) → x = "isinstance" → isGl F.sc x = true → Option (SE T F (.Call (.Name x p1) (a :: r) [] p))
  | 0, _, _, _, _, _, _, _, _ => none
  | n + 1, F, x, p1, a, [.Name t p2], p, hx, hg =>
    if hy : isGl F.sc t = true ∧ noStar a = true then
      match ht : tyOf t, compE T n F a with
      | some ty, some ⟨c, h⟩ => some ⟨.isi c [ty], fun Φ Γ X o => by
          have hg1 := o.gl hg
          have hg2 := o.gl hy.1
          have hm1 := o.blt "isinstance" (by decide +kernel)
          have hm2 := o.blt (tyStr ty) (tyIn ty)
          have e := tyOf_name ht
          subst hx e
          exact r_isi1 hg1 hm1 hg2 hm2 hy.2 (h Φ Γ X o)⟩
      | _, _ => none
    else none
  | n + 1, F, x, p1, a, [.Tuple [.Name t p2, .Name u p3] kk p4], p, hx, hg =>
    if hy : isGl F.sc t = true ∧ isGl F.sc u = true ∧ noStar a = true then
      match ht : tyOf t, hu : tyOf u, compE T n F a with
      | some ty, some uy, some ⟨c, h⟩ => some ⟨.isi c [ty, uy], fun Φ Γ X o => by
          have hg1 := o.gl hg
          have hg2 := o.gl hy.1
          have hg3 := o.gl hy.2.1
          have hm1 := o.blt "isinstance" (by decide +kernel)
          have hm2 := o.blt (tyStr ty) (tyIn ty)
          have hm3 := o.blt (tyStr uy) (tyIn uy)
          have e := tyOf_name ht
          have e2 := tyOf_name hu
          subst hx e e2
          exact r_isi2 hg1 hm1 hg2 hm2 hg3 hm3 hy.2.2 (h Φ Γ X o)⟩
      | _, _, _ => none
    else none
  | _ + 1, _, _, _, _, _, _, _, _ => none
def compT (T : Tab) : Nat → (F : Fr) → (e : Expr) → Option (SC T F e)
  | 0, _, _ => none
  | n + 1, F, .UnaryOp .Not a p => match compT T n F a with
    | some ⟨c, h⟩ => some ⟨.not c, fun Φ Γ X o => r_tnot (h Φ Γ X o)⟩
    | none => none
  | n + 1, F, .BoolOp op es p => match compW T n F op es p with
    | some ⟨c, h⟩ => some ⟨c, fun Φ Γ X o => (h Φ Γ X o).pt⟩
    | none => none
  | n + 1, F, .Compare a [op] [b] p =>
    if hm : behindInMarks op b = false then
      match compE T n F a, compE T n F b with
      | some ⟨ca, ha⟩, some ⟨cb, hb⟩ => some ⟨.val (.cmp op ca cb), fun Φ Γ X o => r_tcmp o.room hm (ha Φ Γ X o) (hb Φ Γ X o)⟩
      | _, _ => none
    else none
  | n + 1, F, .Compare a [op, op2] [b, c] p =>
    if hm : lastMarks [op, op2] [b, c] = false then
      match compE T n F a, compE T n F b, compE T n F c with
      | some ⟨ca, ha⟩, some ⟨cb, hb⟩, some ⟨cc, hc⟩ => some ⟨.val (.chn op op2 ca cb cc), fun Φ Γ X o => r_tchn o.room hm (ha Φ Γ X o) (hb Φ Γ X o) (hc Φ Γ X o)⟩
      | _, _, _ => none
    else none
  | n + 1, F, e =>
    if hp : plainT e = true then
      match compE T n F e with
      | some ⟨c, h⟩ => some ⟨.val c, fun Φ Γ X o => r_tval (plain_is hp) (h Φ Γ X o)⟩
      | none => none
    else none
def compW (T : Tab) : Nat → (F : Fr) → (op : BoolOp) → (es : List Expr) → (p : Pos) → Option (SW T F (.BoolOp op es p))
  | 0, _, _, _, _ => none
  | n + 1, F, .And, [a], p => match compT T n F a with
    | some ⟨ca, ha⟩ => some ⟨ca, fun Φ Γ X o => r_wand1 (ha Φ Γ X o)⟩
    | none => none
  | n + 1, F, .Or, [a], p => match compT T n F a with
    | some ⟨ca, ha⟩ => some ⟨ca, fun Φ Γ X o => r_wor1 (ha Φ Γ X o)⟩
    | none => none
  | n + 1, F, .And, a :: b :: r, p => match compT T n F a, compW T n F .And (b :: r) p with
    | some ⟨ca, ha⟩, some ⟨cb, hb⟩ => some ⟨.and ca cb, fun Φ Γ X o => r_wand (ha Φ Γ X o) (hb Φ Γ X o)⟩
    | _, _ => none
  | n + 1, F, .Or, a :: b :: r, p => match compT T n F a, compW T n F .Or (b :: r) p with
    | some ⟨ca, ha⟩, some ⟨cb, hb⟩ => some ⟨.or ca cb, fun Φ Γ X o => r_wor (ha Φ Γ X o) (hb Φ Γ X o)⟩
    | _, _ => none
  | _ + 1, _, _, [], _ => none
def compTs (T : Tab) : Nat → (F : Fr) → (es : List Expr) → Option (SCs T F es)
  | 0, _, _ => none
  | n + 1, F, [] => some ⟨.yes, fun Φ Γ X o => r_tsn⟩
  | n + 1, F, [c] => match compT T n F c with
    | some ⟨ct, h⟩ => some ⟨ct, fun Φ Γ X o => r_ts1 (h Φ Γ X o)⟩
    | none => none
  | _ + 1, _, _ => none
def compI (T : Tab) : Nat → (F : Fr) → (tg e : Expr) → Option (SI T F tg e)
  | 0, _, _, _ => none
  | n + 1, F, tg, e => match compRng T n F tg e with
    | some r => some r
    | none => match compEZ T n F tg e with
      | some r => some r
      | none => match compE T n F e with
        | some ⟨c, h⟩ => if dictNm e tg = true then some ⟨.keys c, fun Φ Γ X o => r_keys (h Φ Γ X o)⟩ else some ⟨.it c, fun Φ Γ X o => r_it (h Φ Γ X o)⟩
        | none => none
def compEZ (T : Tab) : Nat → (F : Fr) → (tg e : Expr) → Option (SI T F tg e)
  | 0, _, _, _ => none
  | n + 1, F, .Tuple elts kk tpos, .Call (.Name x p1) [a] [] p =>
    if hx : x = "enumerate" ∧ isGl F.sc x = true ∧ noStar a = true then
      match compE T n F a with
      | some ⟨c, h⟩ => some ⟨.enm c, fun Φ Γ X o => by
          have hg1 := o.gl hx.2.1
          have hm1 := o.blt "enumerate" (by decide +kernel)
          obtain ⟨hx1, _, hx3⟩ := hx
          subst hx1
          exact r_enm hg1 hm1 hx3 (h Φ Γ X o)⟩
      | none => none
    else none
  | n + 1, F, .Tuple elts kk tpos, .Call (.Name x p1) [a, .Call (.Name y p2) [b, c] [] p3] [] p =>
    if hx : x = "zip" ∧ y = "zip" ∧ isGl F.sc x = true ∧ noStar a = true ∧ noStar b = true ∧ noStar c = true then
      match compE T n F a, compE T n F b, compE T n F c with
      | some ⟨ca, h⟩, some ⟨cb, h2⟩, some ⟨cc, h3⟩ => some ⟨.zz ca cb cc, fun Φ Γ X o => by
          have hg1 := o.gl hx.2.2.1
          have hm1 := o.blt "zip" (by decide +kernel)
          obtain ⟨hx1, hx2, _, hx3, hx4, hx5⟩ := hx
          subst hx1 hx2
          exact r_zz hg1 hm1 hx3 hx4 hx5 (h Φ Γ X o) (h2 Φ Γ X o) (h3 Φ Γ X o)⟩
      | _, _, _ => none
    else none
  | n + 1, F, .Tuple elts kk tpos, .Call (.Name x p1) [a, b] [] p =>
    if hx : x = "zip" ∧ isGl F.sc x = true ∧ noStar a = true ∧ noStar b = true then
      match compE T n F a, compE T n F b with
      | some ⟨c, h⟩, some ⟨d, h2⟩ => some ⟨.zip c d, fun Φ Γ X o => by
          have hg1 := o.gl hx.2.1
          have hm1 := o.blt "zip" (by decide +kernel)
          obtain ⟨hx1, _, hx3, hx4⟩ := hx
          subst hx1
          exact r_zip hg1 hm1 hx3 hx4 (h Φ Γ X o) (h2 Φ Γ X o)⟩
      | _, _ => none
    else none
  | _ + 1, _, _, _ => none
def compRng (T : Tab) : Nat → (F : Fr) → (tg e : Expr) → Option (SI T F tg e)
  | 0, _, _, _ => none
  | n + 1, F, tg, .Call (.Name x p1) [.Call (.Name y p2) [a] [] p3] [] p =>
    if hx : x = "reversed" ∧ y = "range" ∧ isGl F.sc x = true ∧ isGl F.sc y = true ∧ noStar a = true then
      match compE T n F a with
      | some ⟨c, h⟩ => some ⟨.rvr c, fun Φ Γ X o => by
          have hg1 := o.gl hx.2.2.1
          have hg2 := o.gl hx.2.2.2.1
          have hm1 := o.blt "reversed" (by decide +kernel)
          have hm2 := o.blt "range" (by decide +kernel)
          obtain ⟨hx1, hx2, _, _, hx3⟩ := hx
          subst hx1 hx2
          exact r_rvr hg1 hm1 hg2 hm2 hx3 (h Φ Γ X o)⟩
      | none => none
    else if hx : x = "range" ∧ isGl F.sc x = true ∧ noStar (.Call (.Name y p2) [a] [] p3) = true then
      match compE T n F (.Call (.Name y p2) [a] [] p3) with
      | some ⟨c, h⟩ => some ⟨.rng c, fun Φ Γ X o => by
          have hg1 := o.gl hx.2.1
          have hm1 := o.blt "range" (by decide +kernel)
          obtain ⟨hx1, _, hx3⟩ := hx
          subst hx1
          exact r_rng hg1 hm1 hx3 (h Φ Γ X o)⟩
      | none => none
    else none
  | n + 1, F, tg, .Call (.Name x p1) [a] [] p =>
    if hx : x = "range" ∧ isGl F.sc x = true ∧ noStar a = true then
      match compE T n F a with
      | some ⟨c, h⟩ => some ⟨.rng c, fun Φ Γ X o => by
          have hg1 := o.gl hx.2.1
          have hm1 := o.blt "range" (by decide +kernel)
          obtain ⟨hx1, _, hx3⟩ := hx
          subst hx1
          exact r_rng hg1 hm1 hx3 (h Φ Γ X o)⟩
      | none => none
    else none
  | n + 1, F, tg, .Call (.Name x p1) [a, b] [] p =>
    if hx : x = "range" ∧ isGl F.sc x = true ∧ noStar a = true ∧ noStar b = true then
      match compE T n F a, compE T n F b with
      | some ⟨c, h⟩, some ⟨d, h2⟩ => some ⟨.rng2 c d, fun Φ Γ X o => by
          have hg1 := o.gl hx.2.1
          have hm1 := o.blt "range" (by decide +kernel)
          obtain ⟨hx1, _, hx3, hx4⟩ := hx
          subst hx1
          exact r_rng2 hg1 hm1 hx3 hx4 (h Φ Γ X o) (h2 Φ Γ X o)⟩
      | _, _ => none
    else none
  | _ + 1, _, _, _ => none
def compLC (T : Tab) : Nat → (F : Fr) → (elt : Expr) → (gens : List Comprehension) → (scope : Scope) → (p : Pos) → Option (SLC T F elt gens scope p)
  | 0, _, _, _, _, _ => none
  | n + 1, F, elt, [⟨tg, iter, ifs, a0⟩], scope, p =>
    if hb : blkC F.N F.sc scope (ownOf F.N scope.names) = true ∧ a0 = 0 ∧ noSet iter = true then
      match compI T n F tg iter, compG T ⟨F.N, relS scope F.sc, scope⟩ n tg, compTs T n ⟨F.N, relS scope F.sc, scope⟩ ifs, compE T n ⟨F.N, relS scope F.sc, scope⟩ elt with
      | some ⟨cs, hi⟩, some ⟨t, hg⟩, some ⟨ct, ht⟩, some ⟨ce, he⟩ =>
        if hsl : t.slots.all (fun i => decide (i ∈ (ownOf F.N scope.names).map (·.2))) = true then
          some ⟨.lc ((ownOf F.N scope.names).map (·.2)) ce t cs ct, fun Φ Γ X o => by
              obtain ⟨hb1, hb2, hb3⟩ := hb
              subst hb2
              exact r_lc o.calm o.nd (hi Φ Γ X o) (by rw [o.N, o.sc]; exact blkOk_by hb1) (inMap hsl) (fun s H C cl fp => hg Φ Γ _ (o.blk s H C cl fp)) (fun s H C cl fp => ht Φ Γ _ (o.blk s H C cl fp)) (fun s H C cl fp => he Φ Γ _ (o.blk s H C cl fp)) (fold_no hb3),
            fun Φ Γ X o i y py spos hy hyl hsw => by
              obtain ⟨hb1, hb2, hb3⟩ := hb
              subst hb2
              exact s_setLc o.calm o.nd hy hyl hsw (hi Φ Γ X o) (by rw [o.N, o.sc]; exact blkOk_by hb1) (inMap hsl) (fun s H C cl fp => hg Φ Γ _ (o.blk s H C cl fp)) (fun s H C cl fp => ht Φ Γ _ (o.blk s H C cl fp)) (fun s H C cl fp => he Φ Γ _ (o.blk s H C cl fp)) (fold_no hb3)⟩
        else none
      | _, _, _, _ => none
    else none
  | n + 1, F, elt, [⟨tg, iter, ifs, a0⟩, ⟨tg1, iter1, ifs1, a1⟩], scope, p =>
    if hb : blkC F.N F.sc scope (ownOf F.N scope.names) = true ∧ a0 = 0 ∧ a1 = 0 ∧ noSet iter = true ∧ noSet iter1 = true then
      match compI T n F tg iter, compG T ⟨F.N, relS scope F.sc, scope⟩ n tg, compTs T n ⟨F.N, relS scope F.sc, scope⟩ ifs, compI T n ⟨F.N, relS scope F.sc, scope⟩ tg1 iter1, compG T ⟨F.N, relS scope F.sc, scope⟩ n tg1, compTs T n ⟨F.N, relS scope F.sc, scope⟩ ifs1, compE T n ⟨F.N, relS scope F.sc, scope⟩ elt with
      | some ⟨cs, hi⟩, some ⟨t, hg⟩, some ⟨ct, ht⟩, some ⟨cs1, hi1⟩, some ⟨t1, hg1⟩, some ⟨ct1, ht1⟩, some ⟨ce, he⟩ =>
        if hsl : t.slots.all (fun i => decide (i ∈ (ownOf F.N scope.names).map (·.2))) = true ∧ t1.slots.all (fun i => decide (i ∈ (ownOf F.N scope.names).map (·.2))) = true then
          some ⟨.lc2 ((ownOf F.N scope.names).map (·.2)) t1.slots ce t cs ct t1 cs1 ct1, fun Φ Γ X o => by
              obtain ⟨hb1, hb2, hb3, hb4, hb5⟩ := hb
              subst hb2 hb3
              exact r_lc2 o.calm o.nd (hi Φ Γ X o) (by rw [o.N, o.sc]; exact blkOk_by hb1) (inMap hsl.2) (inMap hsl.1) (fun i h => h) (fun s H C cl fp => hg Φ Γ _ (o.blk s H C cl fp)) (fun s H C cl fp => ht Φ Γ _ (o.blk s H C cl fp)) (fun s H C cl fp => hi1 Φ Γ _ (o.blk s H C cl fp)) (fun s H C cl fp => hg1 Φ Γ _ (o.blk s H C cl fp)) (fun s H C cl fp => ht1 Φ Γ _ (o.blk s H C cl fp)) (fun s H C cl fp => he Φ Γ _ (o.blk s H C cl fp)) (fold_no hb4) (fun env => fold_no hb5),
            fun Φ Γ X o i y py spos hy hyl hsw => by
              obtain ⟨hb1, hb2, hb3, hb4, hb5⟩ := hb
              subst hb2 hb3
              exact s_setLc2 o.calm o.nd hy hyl hsw (hi Φ Γ X o) (by rw [o.N, o.sc]; exact blkOk_by hb1) (inMap hsl.2) (inMap hsl.1) (fun i h => h) (fun s H C cl fp => hg Φ Γ _ (o.blk s H C cl fp)) (fun s H C cl fp => ht Φ Γ _ (o.blk s H C cl fp)) (fun s H C cl fp => hi1 Φ Γ _ (o.blk s H C cl fp)) (fun s H C cl fp => hg1 Φ Γ _ (o.blk s H C cl fp)) (fun s H C cl fp => ht1 Φ Γ _ (o.blk s H C cl fp)) (fun s H C cl fp => he Φ Γ _ (o.blk s H C cl fp)) (fold_no hb4) (fun env => fold_no hb5)⟩
        else none
      | _, _, _, _, _, _, _ => none
    else none
  | _ + 1, _, _, _, _, _ => none
def compDC (T : Tab) : Nat → (F : Fr) → (kx vx : Expr) → (gens : List Comprehension) → (scope : Scope) → (p : Pos) → Option (SDC T F kx vx gens scope p)
  | 0, _, _, _, _, _, _ => none
  | n + 1, F, kx, vx, [⟨tg, iter, ifs, a0⟩], scope, p =>
    if hb : blkC F.N F.sc scope (ownOf F.N scope.names) = true ∧ a0 = 0 ∧ noSet iter = true then
      match compI T n F tg iter, compG T ⟨F.N, relS scope F.sc, scope⟩ n tg, compTs T n ⟨F.N, relS scope F.sc, scope⟩ ifs, compE T n ⟨F.N, relS scope F.sc, scope⟩ kx, compE T n ⟨F.N, relS scope F.sc, scope⟩ vx with
      | some ⟨cs, hi⟩, some ⟨t, hg⟩, some ⟨ct, ht⟩, some ⟨ck, hk⟩, some ⟨ce, he⟩ =>
        if hsl : t.slots.all (fun i => decide (i ∈ (ownOf F.N scope.names).map (·.2))) = true then
          some ⟨.dc ((ownOf F.N scope.names).map (·.2)) ck ce t cs ct, fun Φ Γ X o => by
              obtain ⟨hb1, hb2, hb3⟩ := hb
              subst hb2
              exact r_dc o.room o.calm o.nd (hi Φ Γ X o) (by rw [o.N, o.sc]; exact blkOk_by hb1) (inMap hsl) (fun s H C cl fp => hg Φ Γ _ (o.blk s H C cl fp)) (fun s H C cl fp => ht Φ Γ _ (o.blk s H C cl fp)) (fun s H C cl fp => hk Φ Γ _ (o.blk s H C cl fp)) (fun s H C cl fp => he Φ Γ _ (o.blk s H C cl fp)) (fold_no hb3),
            fun Φ Γ X o i y py spos hy hyl hsw => by
              obtain ⟨hb1, hb2, hb3⟩ := hb
              subst hb2
              exact s_setDc o.room o.calm o.nd hy hyl hsw (hi Φ Γ X o) (by rw [o.N, o.sc]; exact blkOk_by hb1) (inMap hsl) (fun s H C cl fp => hg Φ Γ _ (o.blk s H C cl fp)) (fun s H C cl fp => ht Φ Γ _ (o.blk s H C cl fp)) (fun s H C cl fp => hk Φ Γ _ (o.blk s H C cl fp)) (fun s H C cl fp => he Φ Γ _ (o.blk s H C cl fp)) (fold_no hb3)⟩
        else none
      | _, _, _, _, _ => none
    else none
  | _ + 1, _, _, _, _, _, _ => none
end
end Mn

/-! Mn: the compiler of statements, and of a def. -/
namespace Mn
open PySem PySem.Spec L2
theorem asg_sub {a b : Expr} {p1 : Pos} {env : PySem.Env} (h : noSlice b = true) : ∀ v, assign (.Subscript a b p1) env v = (do
      let ov ← holding [v] (eval a env)
      let iv ← holding [v, ov] (eval b env)
      standAt p1
      holding [v, ov, iv] (setItem ov iv v)
      release [v, ov, iv] []) := by
  intro v
  cases b <;> first | rfl | (simp [noSlice] at h; done)
theorem sw_false {elt : Expr} {gs : List Comprehension} {scope : Scope} {pos py : Pos} {y : Str} {l : Nat} {env : PySem.Env} (hk : env.scope.kind = .function) (h : (env.scope.names.lookup y == some .local && py.line == pos.line && !(scope.names.any fun (n, k) => n == y && (k == .local || k == .cell))) = false) :
    swapsWith (.ListComp elt gs scope pos) (some (.Name y py)) l env = pure false := by
  have hb : env.blockKind = .function := by unfold PySem.Env.blockKind; rw [hk]; rfl
  unfold swapsWith
  simp only [hb, PySem.Env.kindOf, Expr.pos]
  rw [show (ScopeKind.function == ScopeKind.function) = true from rfl, Bool.true_and]
  exact congrArg pure h
theorem sw_falseD {kx vx : Expr} {gs : List Comprehension} {scope : Scope} {pos py : Pos} {y : Str} {l : Nat} {env : PySem.Env} (hk : env.scope.kind = .function) (h : (env.scope.names.lookup y == some .local && py.line == pos.line && !(scope.names.any fun (n, k) => n == y && (k == .local || k == .cell))) = false) :
    swapsWith (.DictComp kx vx gs scope pos) (some (.Name y py)) l env = pure false := by
  have hb : env.blockKind = .function := by unfold PySem.Env.blockKind; rw [hk]; rfl
  unfold swapsWith
  simp only [hb, PySem.Env.kindOf, Expr.pos]
  rw [show (ScopeKind.function == ScopeKind.function) = true from rfl, Bool.true_and]
  exact congrArg pure h
theorem sw_other {elt : Expr} {gs : List Comprehension} {scope : Scope} {pos : Pos} {t : Expr} {l : Nat} {env : PySem.Env} (h : (match t with | .Name _ _ => false | _ => true) = true) : swapsWith (.ListComp elt gs scope pos) (some t) l env = pure false := by
  cases t <;> first | rfl | cases h
def compA (T : Tab) (n : Nat) (F : Fr) : (tg e : Expr) → (p : Pos) → Option (SS T F (.Assign [tg] e p))
  | .Subscript a b p1, e, p =>
    if h : noSlice b = true ∧ noComp e = true then
      match compE T n F e, compE T n F a, compE T n F b with
      | some ⟨ce, he⟩, some ⟨ca, ha⟩, some ⟨cb, hb⟩ => some ⟨.put ca cb ce, fun Φ Γ X o => s_put o.room h.1 (sw_no h.2) (swst_noT rfl) (asg_sub h.1) (he Φ Γ X o.toOkx) (ha Φ Γ X o.toOkx) (hb Φ Γ X o.toOkx)⟩
      | _, _, _ => none
    else none
  | .Name y py, .ListComp elt gens scope p2, p =>
    match compLC T n F elt gens scope p2, hs : slot F.N y, compTgName T F y py with
    | some ⟨c, hc, hset⟩, some i, some ⟨t, hg⟩ =>
      if h1 : F.sc.names.lookup y = some .local ∧ (py.line == p2.line) = true ∧ (scope.names.any fun (n, k) => n == y && (k == .local || k == .cell)) = false then
        some ⟨.asg (.nm i) c, fun Φ Γ X o => hset Φ Γ X o.toOkx i y py p (o.at_ hs) (by rw [o.sc]; exact h1.1) (sw_true o.kind (by rw [o.sc]; exact h1.1) h1.2.1 h1.2.2)⟩
      else if h2 : (F.sc.names.lookup y == some .local && py.line == p2.line && !(scope.names.any fun (n, k) => n == y && (k == .local || k == .cell))) = false then
        some ⟨.asg t c, fun Φ Γ X o => s_asg rfl (sw_false o.kind (by rw [o.sc]; exact h2)) (swst_noT rfl) (hc Φ Γ X o.toOkx) (hg Φ Γ X o.toOkx)⟩
      else none
    | _, _, _ => none
  | .Name y py, .DictComp kx vx gens scope p2, p =>
    match compDC T n F kx vx gens scope p2, hs : slot F.N y, compTgName T F y py with
    | some ⟨c, hc, hset⟩, some i, some ⟨t, hg⟩ =>
      if h1 : F.sc.names.lookup y = some .local ∧ (py.line == p2.line) = true ∧ (scope.names.any fun (n, k) => n == y && (k == .local || k == .cell)) = false then
        some ⟨.asg (.nm i) c, fun Φ Γ X o => hset Φ Γ X o.toOkx i y py p (o.at_ hs) (by rw [o.sc]; exact h1.1) (sw_trueD o.kind (by rw [o.sc]; exact h1.1) h1.2.1 h1.2.2)⟩
      else if h2 : (F.sc.names.lookup y == some .local && py.line == p2.line && !(scope.names.any fun (n, k) => n == y && (k == .local || k == .cell))) = false then
        some ⟨.asg t c, fun Φ Γ X o => s_asg rfl (sw_falseD o.kind (by rw [o.sc]; exact h2)) (swst_noT rfl) (hc Φ Γ X o.toOkx) (hg Φ Γ X o.toOkx)⟩
      else none
    | _, _, _ => none
  | .Name y py, e, p =>
    if h : noComp e = true then
      match compE T n F e, compTgName T F y py with
      | some ⟨ce, he⟩, some ⟨t, hg⟩ => some ⟨.asg t ce, fun Φ Γ X o => s_asg rfl (sw_no h) (swst_noT rfl) (he Φ Γ X o.toOkx) (hg Φ Γ X o.toOkx)⟩
      | _, _ => none
    else none
  | .Tuple ts k p1, .Tuple vs k2 p2, p =>
    match hsw : swS F.sc ts vs with
    | none => none
    | some none => match compE T n F (.Tuple vs k2 p2), compG T F n (.Tuple ts k p1) with
      | some ⟨ce, he⟩, some ⟨t, hg⟩ => some ⟨.asg t ce, fun Φ Γ X o => s_asg rfl (sw_no rfl) (swS_is o.kind (by rw [o.sc]; exact hsw)) (he Φ Γ X o.toOkx) (hg Φ Γ X o.toOkx)⟩
      | _, _ => none
    | some (some xs) => match ts, vs, xs, hsw with
      | [.Name x px, .Name y py], [a, b], [x', y'], hsw =>
        match hx : slot F.N x, hy : slot F.N y, compEs T n F [a, b] with
        | some i, some j, some ⟨cs, hs⟩ =>
          if h : i ≠ j ∧ x' = x ∧ y' = y ∧ F.sc.names.lookup x = some .local ∧ F.sc.names.lookup y = some .local then
            some ⟨.asg (.tp [.nm i, .nm j]) (.tup cs), fun Φ Γ X o => by
              obtain ⟨h1, h2, h3, h4, h5⟩ := h
              subst h2 h3
              exact s_par o.calm o.nd (o.at_ hx) (o.at_ hy) h1 (by rw [o.sc]; exact h4) (by rw [o.sc]; exact h5) (swS_is o.kind (by rw [o.sc]; exact hsw)) (hs Φ Γ X o.toOkx)⟩
          else none
        | _, _, _ => none
      | [.Name x px, .Name y py, .Name z pz], [a, b, c], [x', y', z'], hsw =>
        match hx : slot F.N x, hy : slot F.N y, hz : slot F.N z, compEs T n F [a, b, c] with
        | some i, some j, some l, some ⟨cs, hs⟩ =>
          if h : i ≠ j ∧ i ≠ l ∧ j ≠ l ∧ x' = x ∧ y' = y ∧ z' = z ∧ F.sc.names.lookup x = some .local ∧ F.sc.names.lookup y = some .local ∧ F.sc.names.lookup z = some .local then
            some ⟨.asg (.tp [.nm i, .nm j, .nm l]) (.tup cs), fun Φ Γ X o => by
              obtain ⟨h1, h1', h1'', h2, h3, h3', h4, h5, h6⟩ := h
              subst h2 h3 h3'
              exact s_par3 o.calm o.nd (o.at_ hx) (o.at_ hy) (o.at_ hz) h1 h1' h1'' (by rw [o.sc]; exact h4) (by rw [o.sc]; exact h5) (by rw [o.sc]; exact h6) (swS_is o.kind (by rw [o.sc]; exact hsw)) (hs Φ Γ X o.toOkx)⟩
          else none
        | _, _, _, _ => none
      | _, _, _, _ => none
  | .Tuple ts k p1, e, p =>
    if h : noComp e = true ∧ noTup e = true then
      match compE T n F e, compG T F n (.Tuple ts k p1) with
      | some ⟨ce, he⟩, some ⟨t, hg⟩ => some ⟨.asg t ce, fun Φ Γ X o => s_asg rfl (sw_no h.1) (swst_noV h.2) (he Φ Γ X o.toOkx) (hg Φ Γ X o.toOkx)⟩
      | _, _ => none
    else none
  | _, _, _ => none
mutual
def compS (T : Tab) : Nat → (F : Fr) → (st : Stmt) → Option (SS T F st)
  | 0, _, _ => none
  | n + 1, F, .Expr (.Constant (.str x) j p1) p => some ⟨.pas, fun Φ Γ X o => s_doc⟩
  | n + 1, F, .Expr e p =>
    if h : noComp e = true then
      match compE T n F e with
      | some ⟨ce, he⟩ => some ⟨.exp ce, fun Φ Γ X o => s_exp (sw_no h) (he Φ Γ X o.toOkx)⟩
      | none => none
    else none
  | n + 1, F, .Return none p => some ⟨.retN, fun Φ Γ X o => s_retN⟩
  | n + 1, F, .Return (some e) p => match compE T n F e with
    | some ⟨ce, he⟩ => some ⟨.ret ce, fun Φ Γ X o => s_ret (he Φ Γ X o.toOkx)⟩
    | none => none
  | n + 1, F, .Assign [tg] e p => compA T n F tg e p
  | n + 1, F, .AugAssign (.Name x p1) op e p =>
    match hs : slot F.N x, compE T n F e with
    | some i, some ⟨ce, he⟩ =>
      if h : F.sc.names.lookup x = some .local ∧ (op = .Add ∨ op = .Sub) then
        some ⟨.aug i op ce, fun Φ Γ X o => s_aug o.nd (o.at_ hs) (.inl (by rw [o.sc]; exact h.1)) (.inr (by rw [o.sc]; exact h.1)) h.2 (he Φ Γ X o.toOkx)⟩
      else none
    | _, _ => none
  | n + 1, F, .If c a b p => match compT T n F c, compSs T n F a, compSs T n F b with
    | some ⟨cc, hc⟩, some ⟨ca, ha⟩, some ⟨cb, hb⟩ => some ⟨.ite cc ca cb, fun Φ Γ X o => s_ite (hc Φ Γ X o.toOkx) (ha Φ Γ X o) (hb Φ Γ X o)⟩
    | _, _, _ => none
  | n + 1, F, .While c b [] p => match compT T n F c, compSs T n F b with
    | some ⟨cc, hc⟩, some ⟨cb, hb⟩ => some ⟨.whl cc cb, fun Φ Γ X o => s_whl o.pass (hc Φ Γ X o.toOkx) (hb Φ Γ X o)⟩
    | _, _ => none
  | n + 1, F, .For tg e b [] p =>
    if h : noSet e = true then
      match compI T n F tg e, compG T F n tg, compSs T n F b with
      | some ⟨cs, hi⟩, some ⟨t, hg⟩, some ⟨cb, hb⟩ => some ⟨.fr t cs cb, fun Φ Γ X o => s_fr o.pass o.calm (hi Φ Γ X o.toOkx) (hg Φ Γ X o.toOkx) (hb Φ Γ X o) (fold_no h)⟩
      | _, _, _ => none
    else none
  | n + 1, F, .Break p => some ⟨.brk, fun Φ Γ X o => s_brk⟩
  | n + 1, F, .Continue p => some ⟨.cnt, fun Φ Γ X o => s_cnt⟩
  | n + 1, F, .Pass p => some ⟨.pas, fun Φ Γ X o => s_pas⟩
  | _ + 1, _, _ => none
def compSs (T : Tab) : Nat → (F : Fr) → (ss : List Stmt) → Option (SSs T F ss)
  | 0, _, _ => none
  | n + 1, F, [] => some ⟨[], fun Φ Γ X o => s_nil⟩
  | n + 1, F, st :: r => match compS T n F st, compSs T n F r with
    | some ⟨c, h⟩, some ⟨cs, hs⟩ => some ⟨c :: cs, fun Φ Γ X o => s_cons (h Φ Γ X o) (hs Φ Γ X o)⟩
    | _, _ => none
end
/-- the code of a def's body -/
def codeOf (T : Tab) (N : List Str) (st : Stmt) : Option (List Sd) := (compSs T 200 ⟨N, defScope st, defScope st⟩ (defBody st)).map (·.val)
end Mn

/-! Mn: whether two codes are the same (printed by geneq.py). -/
namespace Mn
open PySem PySem.Spec L2
theorem no_eq {p : Prop} (h : false = true) : p := by cases h
mutual
def smD : D → D → Bool
  | .non, .non => true
  | .bl x0, .bl y0 => decide (x0 = y0)
  | .int x0, .int y0 => decide (x0 = y0)
  | .str x0, .str y0 => decide (x0 = y0)
  | .tup x0, .tup y0 => smDs x0 y0
  | .rol x0, .rol y0 => smDs x0 y0
  | .ref x0, .ref y0 => decide (x0 = y0)
  | _, _ => false
  termination_by structural x => x
def smDs : List D → List D → Bool
  | [], [] => true
  | x :: xs, y :: ys => smD x y && smDs xs ys
  | _, _ => false
  termination_by structural x => x
end
mutual
theorem smD_ok : ∀ (a b : D), smD a b = true → a = b
  | .non, b, h => by
    cases b <;> first
      | exact no_eq h
      | skip
    rfl
  | .bl x0, b, h => by
    cases b <;> first
      | exact no_eq h
      | skip
    rename_i y0
    have h' : (decide (x0 = y0)) = true := h
    have h0 := h'
    rw [of_decide_eq_true h0]
  | .int x0, b, h => by
    cases b <;> first
      | exact no_eq h
      | skip
    rename_i y0
    have h' : (decide (x0 = y0)) = true := h
    have h0 := h'
    rw [of_decide_eq_true h0]
  | .str x0, b, h => by
    cases b <;> first
      | exact no_eq h
      | skip
    rename_i y0
    have h' : (decide (x0 = y0)) = true := h
    have h0 := h'
    rw [of_decide_eq_true h0]
  | .tup x0, b, h => by
    cases b <;> first
      | exact no_eq h
      | skip
    rename_i y0
    have h' : (smDs x0 y0) = true := h
    have h0 := h'
    rw [smDs_ok _ _ h0]
  | .rol x0, b, h => by
    cases b <;> first
      | exact no_eq h
      | skip
    rename_i y0
    have h' : (smDs x0 y0) = true := h
    have h0 := h'
    rw [smDs_ok _ _ h0]
  | .ref x0, b, h => by
    cases b <;> first
      | exact no_eq h
      | skip
    rename_i y0
    have h' : (decide (x0 = y0)) = true := h
    have h0 := h'
    rw [of_decide_eq_true h0]
theorem smDs_ok : ∀ (a b : List D), smDs a b = true → a = b
  | [], [], _ => rfl
  | x :: xs, y :: ys, h => by
    have h' : (smD x y && smDs xs ys) = true := h
    rw [Bool.and_eq_true] at h'
    rw [smD_ok _ _ h'.1, smDs_ok _ _ h'.2]
  | [], _ :: _, h => no_eq h
  | _ :: _, [], h => no_eq h
end
mutual
def smTg : Tg → Tg → Bool
  | .nm x0, .nm y0 => decide (x0 = y0)
  | .tp x0, .tp y0 => smTgs x0 y0
  | _, _ => false
  termination_by structural x => x
def smTgs : List Tg → List Tg → Bool
  | [], [] => true
  | x :: xs, y :: ys => smTg x y && smTgs xs ys
  | _, _ => false
  termination_by structural x => x
end
mutual
theorem smTg_ok : ∀ (a b : Tg), smTg a b = true → a = b
  | .nm x0, b, h => by
    cases b <;> first
      | exact no_eq h
      | skip
    rename_i y0
    have h' : (decide (x0 = y0)) = true := h
    have h0 := h'
    rw [of_decide_eq_true h0]
  | .tp x0, b, h => by
    cases b <;> first
      | exact no_eq h
      | skip
    rename_i y0
    have h' : (smTgs x0 y0) = true := h
    have h0 := h'
    rw [smTgs_ok _ _ h0]
theorem smTgs_ok : ∀ (a b : List Tg), smTgs a b = true → a = b
  | [], [], _ => rfl
  | x :: xs, y :: ys, h => by
    have h' : (smTg x y && smTgs xs ys) = true := h
    rw [Bool.and_eq_true] at h'
    rw [smTg_ok _ _ h'.1, smTgs_ok _ _ h'.2]
  | [], _ :: _, h => no_eq h
  | _ :: _, [], h => no_eq h
end
mutual
def smCd : Cd → Cd → Bool
  | .var x0, .var y0 => decide (x0 = y0)
  | .cst x0, .cst y0 => smD x0 y0
  | .glb x0, .glb y0 => decide (x0 = y0)
  | .bin x0 x1 x2, .bin y0 y1 y2 => decide (x0 = y0) && smCd x1 y1 && smCd x2 y2
  | .neg x0, .neg y0 => smCd x0 y0
  | .cmp x0 x1 x2, .cmp y0 y1 y2 => decide (x0 = y0) && smCd x1 y1 && smCd x2 y2
  | .chn x0 x1 x2 x3 x4, .chn y0 y1 y2 y3 y4 => decide (x0 = y0) && decide (x1 = y1) && smCd x2 y2 && smCd x3 y3 && smCd x4 y4
  | .and x0 x1, .and y0 y1 => smCd x0 y0 && smCd x1 y1
  | .or x0 x1, .or y0 y1 => smCd x0 y0 && smCd x1 y1
  | .not x0, .not y0 => smCd x0 y0
  | .ife x0 x1 x2, .ife y0 y1 y2 => smCt x0 y0 && smCd x1 y1 && smCd x2 y2
  | .tup x0, .tup y0 => smCds x0 y0
  | .lst x0, .lst y0 => smCds x0 y0
  | .star x0, .star y0 => smCd x0 y0
  | .emp, .emp => true
  | .ss x0, .ss y0 => smCd x0 y0
  | .ls x0, .ls y0 => smCd x0 y0
  | .fst x0, .fst y0 => smCds x0 y0
  | .idx x0 x1, .idx y0 y1 => smCd x0 y0 && smCd x1 y1
  | .sli x0 x1 x2, .sli y0 y1 y2 => smCd x0 y0 && smCp x1 y1 && smCp x2 y2
  | .rev x0, .rev y0 => smCd x0 y0
  | .call x0 x1, .call y0 y1 => decide (x0 = y0) && smCds x1 y1
  | .blt x0 x1, .blt y0 y1 => decide (x0 = y0) && smCds x1 y1
  | .isi x0 x1, .isi y0 y1 => smCd x0 y0 && decide (x1 = y1)
  | .mth x0 x1 x2, .mth y0 y1 y2 => decide (x0 = y0) && smCd x1 y1 && smCds x2 y2
  | .lc x0 x1 x2 x3 x4, .lc y0 y1 y2 y3 y4 => decide (x0 = y0) && smCd x1 y1 && smTg x2 y2 && smCs x3 y3 && smCt x4 y4
  | .lc2 x0 x1 x2 x3 x4 x5 x6 x7 x8, .lc2 y0 y1 y2 y3 y4 y5 y6 y7 y8 => decide (x0 = y0) && decide (x1 = y1) && smCd x2 y2 && smTg x3 y3 && smCs x4 y4 && smCt x5 y5 && smTg x6 y6 && smCs x7 y7 && smCt x8 y8
  | .dd x0 x1, .dd y0 y1 => smCd x0 y0 && smCd x1 y1
  | .dc x0 x1 x2 x3 x4 x5, .dc y0 y1 y2 y3 y4 y5 => decide (x0 = y0) && smCd x1 y1 && smCd x2 y2 && smTg x3 y3 && smCs x4 y4 && smCt x5 y5
  | _, _ => false
  termination_by structural x => x
def smCt : Ct → Ct → Bool
  | .yes, .yes => true
  | .and x0 x1, .and y0 y1 => smCt x0 y0 && smCt x1 y1
  | .or x0 x1, .or y0 y1 => smCt x0 y0 && smCt x1 y1
  | .not x0, .not y0 => smCt x0 y0
  | .val x0, .val y0 => smCd x0 y0
  | _, _ => false
  termination_by structural x => x
def smCp : Cp → Cp → Bool
  | .no, .no => true
  | .at x0, .at y0 => smCd x0 y0
  | _, _ => false
  termination_by structural x => x
def smCs : Cs → Cs → Bool
  | .it x0, .it y0 => smCd x0 y0
  | .rng x0, .rng y0 => smCd x0 y0
  | .rng2 x0 x1, .rng2 y0 y1 => smCd x0 y0 && smCd x1 y1
  | .enm x0, .enm y0 => smCd x0 y0
  | .zip x0 x1, .zip y0 y1 => smCd x0 y0 && smCd x1 y1
  | .keys x0, .keys y0 => smCd x0 y0
  | .zz x0 x1 x2, .zz y0 y1 y2 => smCd x0 y0 && smCd x1 y1 && smCd x2 y2
  | .rvr x0, .rvr y0 => smCd x0 y0
  | _, _ => false
  termination_by structural x => x
def smCds : List Cd → List Cd → Bool
  | [], [] => true
  | x :: xs, y :: ys => smCd x y && smCds xs ys
  | _, _ => false
  termination_by structural x => x
end
mutual
theorem smCd_ok : ∀ (a b : Cd), smCd a b = true → a = b
  | .var x0, b, h => by
    cases b <;> first
      | exact no_eq h
      | skip
    rename_i y0
    have h' : (decide (x0 = y0)) = true := h
    have h0 := h'
    rw [of_decide_eq_true h0]
  | .cst x0, b, h => by
    cases b <;> first
      | exact no_eq h
      | skip
    rename_i y0
    have h' : (smD x0 y0) = true := h
    have h0 := h'
    rw [smD_ok _ _ h0]
  | .glb x0, b, h => by
    cases b <;> first
      | exact no_eq h
      | skip
    rename_i y0
    have h' : (decide (x0 = y0)) = true := h
    have h0 := h'
    rw [of_decide_eq_true h0]
  | .bin x0 x1 x2, b, h => by
    cases b <;> first
      | exact no_eq h
      | skip
    rename_i y0 y1 y2
    have h' : (decide (x0 = y0) && smCd x1 y1 && smCd x2 y2) = true := h
    rw [Bool.and_eq_true, Bool.and_eq_true] at h'
    obtain ⟨⟨h0, h1⟩, h2⟩ := h'
    rw [of_decide_eq_true h0, smCd_ok _ _ h1, smCd_ok _ _ h2]
  | .neg x0, b, h => by
    cases b <;> first
      | exact no_eq h
      | skip
    rename_i y0
    have h' : (smCd x0 y0) = true := h
    have h0 := h'
    rw [smCd_ok _ _ h0]
  | .cmp x0 x1 x2, b, h => by
    cases b <;> first
      | exact no_eq h
      | skip
    rename_i y0 y1 y2
    have h' : (decide (x0 = y0) && smCd x1 y1 && smCd x2 y2) = true := h
    rw [Bool.and_eq_true, Bool.and_eq_true] at h'
    obtain ⟨⟨h0, h1⟩, h2⟩ := h'
    rw [of_decide_eq_true h0, smCd_ok _ _ h1, smCd_ok _ _ h2]
  | .chn x0 x1 x2 x3 x4, b, h => by
    cases b <;> first
      | exact no_eq h
      | skip
    rename_i y0 y1 y2 y3 y4
    have h' : (decide (x0 = y0) && decide (x1 = y1) && smCd x2 y2 && smCd x3 y3 && smCd x4 y4) = true := h
    rw [Bool.and_eq_true, Bool.and_eq_true, Bool.and_eq_true, Bool.and_eq_true] at h'
    obtain ⟨⟨⟨⟨h0, h1⟩, h2⟩, h3⟩, h4⟩ := h'
    rw [of_decide_eq_true h0, of_decide_eq_true h1, smCd_ok _ _ h2, smCd_ok _ _ h3, smCd_ok _ _ h4]
  | .and x0 x1, b, h => by
    cases b <;> first
      | exact no_eq h
      | skip
    rename_i y0 y1
    have h' : (smCd x0 y0 && smCd x1 y1) = true := h
    rw [Bool.and_eq_true] at h'
    obtain ⟨h0, h1⟩ := h'
    rw [smCd_ok _ _ h0, smCd_ok _ _ h1]
  | .or x0 x1, b, h => by
    cases b <;> first
      | exact no_eq h
      | skip
    rename_i y0 y1
    have h' : (smCd x0 y0 && smCd x1 y1) = true := h
    rw [Bool.and_eq_true] at h'
    obtain ⟨h0, h1⟩ := h'
    rw [smCd_ok _ _ h0, smCd_ok _ _ h1]
  | .not x0, b, h => by
    cases b <;> first
      | exact no_eq h
      | skip
    rename_i y0
    have h' : (smCd x0 y0) = true := h
    have h0 := h'
    rw [smCd_ok _ _ h0]
  | .ife x0 x1 x2, b, h => by
    cases b <;> first
      | exact no_eq h
      | skip
    rename_i y0 y1 y2
    have h' : (smCt x0 y0 && smCd x1 y1 && smCd x2 y2) = true := h
    rw [Bool.and_eq_true, Bool.and_eq_true] at h'
    obtain ⟨⟨h0, h1⟩, h2⟩ := h'
    rw [smCt_ok _ _ h0, smCd_ok _ _ h1, smCd_ok _ _ h2]
  | .tup x0, b, h => by
    cases b <;> first
      | exact no_eq h
      | skip
    rename_i y0
    have h' : (smCds x0 y0) = true := h
    have h0 := h'
    rw [smCds_ok _ _ h0]
  | .lst x0, b, h => by
    cases b <;> first
      | exact no_eq h
      | skip
    rename_i y0
    have h' : (smCds x0 y0) = true := h
    have h0 := h'
    rw [smCds_ok _ _ h0]
  | .star x0, b, h => by
    cases b <;> first
      | exact no_eq h
      | skip
    rename_i y0
    have h' : (smCd x0 y0) = true := h
    have h0 := h'
    rw [smCd_ok _ _ h0]
  | .emp, b, h => by
    cases b <;> first
      | exact no_eq h
      | skip
    rfl
  | .ss x0, b, h => by
    cases b <;> first
      | exact no_eq h
      | skip
    rename_i y0
    have h' : (smCd x0 y0) = true := h
    have h0 := h'
    rw [smCd_ok _ _ h0]
  | .ls x0, b, h => by
    cases b <;> first
      | exact no_eq h
      | skip
    rename_i y0
    have h' : (smCd x0 y0) = true := h
    have h0 := h'
    rw [smCd_ok _ _ h0]
  | .fst x0, b, h => by
    cases b <;> first
      | exact no_eq h
      | skip
    rename_i y0
    have h' : (smCds x0 y0) = true := h
    have h0 := h'
    rw [smCds_ok _ _ h0]
  | .idx x0 x1, b, h => by
    cases b <;> first
      | exact no_eq h
      | skip
    rename_i y0 y1
    have h' : (smCd x0 y0 && smCd x1 y1) = true := h
    rw [Bool.and_eq_true] at h'
    obtain ⟨h0, h1⟩ := h'
    rw [smCd_ok _ _ h0, smCd_ok _ _ h1]
  | .sli x0 x1 x2, b, h => by
    cases b <;> first
      | exact no_eq h
      | skip
    rename_i y0 y1 y2
    have h' : (smCd x0 y0 && smCp x1 y1 && smCp x2 y2) = true := h
    rw [Bool.and_eq_true, Bool.and_eq_true] at h'
    obtain ⟨⟨h0, h1⟩, h2⟩ := h'
    rw [smCd_ok _ _ h0, smCp_ok _ _ h1, smCp_ok _ _ h2]
  | .rev x0, b, h => by
    cases b <;> first
      | exact no_eq h
      | skip
    rename_i y0
    have h' : (smCd x0 y0) = true := h
    have h0 := h'
    rw [smCd_ok _ _ h0]
  | .call x0 x1, b, h => by
    cases b <;> first
      | exact no_eq h
      | skip
    rename_i y0 y1
    have h' : (decide (x0 = y0) && smCds x1 y1) = true := h
    rw [Bool.and_eq_true] at h'
    obtain ⟨h0, h1⟩ := h'
    rw [of_decide_eq_true h0, smCds_ok _ _ h1]
  | .blt x0 x1, b, h => by
    cases b <;> first
      | exact no_eq h
      | skip
    rename_i y0 y1
    have h' : (decide (x0 = y0) && smCds x1 y1) = true := h
    rw [Bool.and_eq_true] at h'
    obtain ⟨h0, h1⟩ := h'
    rw [of_decide_eq_true h0, smCds_ok _ _ h1]
  | .isi x0 x1, b, h => by
    cases b <;> first
      | exact no_eq h
      | skip
    rename_i y0 y1
    have h' : (smCd x0 y0 && decide (x1 = y1)) = true := h
    rw [Bool.and_eq_true] at h'
    obtain ⟨h0, h1⟩ := h'
    rw [smCd_ok _ _ h0, of_decide_eq_true h1]
  | .mth x0 x1 x2, b, h => by
    cases b <;> first
      | exact no_eq h
      | skip
    rename_i y0 y1 y2
    have h' : (decide (x0 = y0) && smCd x1 y1 && smCds x2 y2) = true := h
    rw [Bool.and_eq_true, Bool.and_eq_true] at h'
    obtain ⟨⟨h0, h1⟩, h2⟩ := h'
    rw [of_decide_eq_true h0, smCd_ok _ _ h1, smCds_ok _ _ h2]
  | .lc x0 x1 x2 x3 x4, b, h => by
    cases b <;> first
      | exact no_eq h
      | skip
    rename_i y0 y1 y2 y3 y4
    have h' : (decide (x0 = y0) && smCd x1 y1 && smTg x2 y2 && smCs x3 y3 && smCt x4 y4) = true := h
    rw [Bool.and_eq_true, Bool.and_eq_true, Bool.and_eq_true, Bool.and_eq_true] at h'
    obtain ⟨⟨⟨⟨h0, h1⟩, h2⟩, h3⟩, h4⟩ := h'
    rw [of_decide_eq_true h0, smCd_ok _ _ h1, smTg_ok _ _ h2, smCs_ok _ _ h3, smCt_ok _ _ h4]
  | .lc2 x0 x1 x2 x3 x4 x5 x6 x7 x8, b, h => by
    cases b <;> first
      | exact no_eq h
      | skip
    rename_i y0 y1 y2 y3 y4 y5 y6 y7 y8
    have h' : (decide (x0 = y0) && decide (x1 = y1) && smCd x2 y2 && smTg x3 y3 && smCs x4 y4 && smCt x5 y5 && smTg x6 y6 && smCs x7 y7 && smCt x8 y8) = true := h
    rw [Bool.and_eq_true, Bool.and_eq_true, Bool.and_eq_true, Bool.and_eq_true, Bool.and_eq_true, Bool.and_eq_true, Bool.and_eq_true, Bool.and_eq_true] at h'
    obtain ⟨⟨⟨⟨⟨⟨⟨⟨h0, h1⟩, h2⟩, h3⟩, h4⟩, h5⟩, h6⟩, h7⟩, h8⟩ := h'
    rw [of_decide_eq_true h0, of_decide_eq_true h1, smCd_ok _ _ h2, smTg_ok _ _ h3, smCs_ok _ _ h4, smCt_ok _ _ h5, smTg_ok _ _ h6, smCs_ok _ _ h7, smCt_ok _ _ h8]
  | .dd x0 x1, b, h => by
    cases b <;> first
      | exact no_eq h
      | skip
    rename_i y0 y1
    have h' : (smCd x0 y0 && smCd x1 y1) = true := h
    rw [Bool.and_eq_true] at h'
    obtain ⟨h0, h1⟩ := h'
    rw [smCd_ok _ _ h0, smCd_ok _ _ h1]
  | .dc x0 x1 x2 x3 x4 x5, b, h => by
    cases b <;> first
      | exact no_eq h
      | skip
    rename_i y0 y1 y2 y3 y4 y5
    have h' : (decide (x0 = y0) && smCd x1 y1 && smCd x2 y2 && smTg x3 y3 && smCs x4 y4 && smCt x5 y5) = true := h
    rw [Bool.and_eq_true, Bool.and_eq_true, Bool.and_eq_true, Bool.and_eq_true, Bool.and_eq_true] at h'
    obtain ⟨⟨⟨⟨⟨h0, h1⟩, h2⟩, h3⟩, h4⟩, h5⟩ := h'
    rw [of_decide_eq_true h0, smCd_ok _ _ h1, smCd_ok _ _ h2, smTg_ok _ _ h3, smCs_ok _ _ h4, smCt_ok _ _ h5]
theorem smCt_ok : ∀ (a b : Ct), smCt a b = true → a = b
  | .yes, b, h => by
    cases b <;> first
      | exact no_eq h
      | skip
    rfl
  | .and x0 x1, b, h => by
    cases b <;> first
      | exact no_eq h
      | skip
    rename_i y0 y1
    have h' : (smCt x0 y0 && smCt x1 y1) = true := h
    rw [Bool.and_eq_true] at h'
    obtain ⟨h0, h1⟩ := h'
    rw [smCt_ok _ _ h0, smCt_ok _ _ h1]
  | .or x0 x1, b, h => by
    cases b <;> first
      | exact no_eq h
      | skip
    rename_i y0 y1
    have h' : (smCt x0 y0 && smCt x1 y1) = true := h
    rw [Bool.and_eq_true] at h'
    obtain ⟨h0, h1⟩ := h'
    rw [smCt_ok _ _ h0, smCt_ok _ _ h1]
  | .not x0, b, h => by
    cases b <;> first
      | exact no_eq h
      | skip
    rename_i y0
    have h' : (smCt x0 y0) = true := h
    have h0 := h'
    rw [smCt_ok _ _ h0]
  | .val x0, b, h => by
    cases b <;> first
      | exact no_eq h
      | skip
    rename_i y0
    have h' : (smCd x0 y0) = true := h
    have h0 := h'
    rw [smCd_ok _ _ h0]
theorem smCp_ok : ∀ (a b : Cp), smCp a b = true → a = b
  | .no, b, h => by
    cases b <;> first
      | exact no_eq h
      | skip
    rfl
  | .at x0, b, h => by
    cases b <;> first
      | exact no_eq h
      | skip
    rename_i y0
    have h' : (smCd x0 y0) = true := h
    have h0 := h'
    rw [smCd_ok _ _ h0]
theorem smCs_ok : ∀ (a b : Cs), smCs a b = true → a = b
  | .it x0, b, h => by
    cases b <;> first
      | exact no_eq h
      | skip
    rename_i y0
    have h' : (smCd x0 y0) = true := h
    have h0 := h'
    rw [smCd_ok _ _ h0]
  | .rng x0, b, h => by
    cases b <;> first
      | exact no_eq h
      | skip
    rename_i y0
    have h' : (smCd x0 y0) = true := h
    have h0 := h'
    rw [smCd_ok _ _ h0]
  | .rng2 x0 x1, b, h => by
    cases b <;> first
      | exact no_eq h
      | skip
    rename_i y0 y1
    have h' : (smCd x0 y0 && smCd x1 y1) = true := h
    rw [Bool.and_eq_true] at h'
    obtain ⟨h0, h1⟩ := h'
    rw [smCd_ok _ _ h0, smCd_ok _ _ h1]
  | .enm x0, b, h => by
    cases b <;> first
      | exact no_eq h
      | skip
    rename_i y0
    have h' : (smCd x0 y0) = true := h
    have h0 := h'
    rw [smCd_ok _ _ h0]
  | .zip x0 x1, b, h => by
    cases b <;> first
      | exact no_eq h
      | skip
    rename_i y0 y1
    have h' : (smCd x0 y0 && smCd x1 y1) = true := h
    rw [Bool.and_eq_true] at h'
    obtain ⟨h0, h1⟩ := h'
    rw [smCd_ok _ _ h0, smCd_ok _ _ h1]
  | .keys x0, b, h => by
    cases b <;> first
      | exact no_eq h
      | skip
    rename_i y0
    have h' : (smCd x0 y0) = true := h
    have h0 := h'
    rw [smCd_ok _ _ h0]
  | .zz x0 x1 x2, b, h => by
    cases b <;> first
      | exact no_eq h
      | skip
    rename_i y0 y1 y2
    have h' : (smCd x0 y0 && smCd x1 y1 && smCd x2 y2) = true := h
    rw [Bool.and_eq_true, Bool.and_eq_true] at h'
    obtain ⟨⟨h0, h1⟩, h2⟩ := h'
    rw [smCd_ok _ _ h0, smCd_ok _ _ h1, smCd_ok _ _ h2]
  | .rvr x0, b, h => by
    cases b <;> first
      | exact no_eq h
      | skip
    rename_i y0
    have h' : (smCd x0 y0) = true := h
    have h0 := h'
    rw [smCd_ok _ _ h0]
theorem smCds_ok : ∀ (a b : List Cd), smCds a b = true → a = b
  | [], [], _ => rfl
  | x :: xs, y :: ys, h => by
    have h' : (smCd x y && smCds xs ys) = true := h
    rw [Bool.and_eq_true] at h'
    rw [smCd_ok _ _ h'.1, smCds_ok _ _ h'.2]
  | [], _ :: _, h => no_eq h
  | _ :: _, [], h => no_eq h
end
mutual
def smSd : Sd → Sd → Bool
  | .exp x0, .exp y0 => smCd x0 y0
  | .ret x0, .ret y0 => smCd x0 y0
  | .retN, .retN => true
  | .asg x0 x1, .asg y0 y1 => smTg x0 y0 && smCd x1 y1
  | .put x0 x1 x2, .put y0 y1 y2 => smCd x0 y0 && smCd x1 y1 && smCd x2 y2
  | .aug x0 x1 x2, .aug y0 y1 y2 => decide (x0 = y0) && decide (x1 = y1) && smCd x2 y2
  | .ite x0 x1 x2, .ite y0 y1 y2 => smCt x0 y0 && smSds x1 y1 && smSds x2 y2
  | .whl x0 x1, .whl y0 y1 => smCt x0 y0 && smSds x1 y1
  | .fr x0 x1 x2, .fr y0 y1 y2 => smTg x0 y0 && smCs x1 y1 && smSds x2 y2
  | .brk, .brk => true
  | .cnt, .cnt => true
  | .pas, .pas => true
  | _, _ => false
  termination_by structural x => x
def smSds : List Sd → List Sd → Bool
  | [], [] => true
  | x :: xs, y :: ys => smSd x y && smSds xs ys
  | _, _ => false
  termination_by structural x => x
end
mutual
theorem smSd_ok : ∀ (a b : Sd), smSd a b = true → a = b
  | .exp x0, b, h => by
    cases b <;> first
      | exact no_eq h
      | skip
    rename_i y0
    have h' : (smCd x0 y0) = true := h
    have h0 := h'
    rw [smCd_ok _ _ h0]
  | .ret x0, b, h => by
    cases b <;> first
      | exact no_eq h
      | skip
    rename_i y0
    have h' : (smCd x0 y0) = true := h
    have h0 := h'
    rw [smCd_ok _ _ h0]
  | .retN, b, h => by
    cases b <;> first
      | exact no_eq h
      | skip
    rfl
  | .asg x0 x1, b, h => by
    cases b <;> first
      | exact no_eq h
      | skip
    rename_i y0 y1
    have h' : (smTg x0 y0 && smCd x1 y1) = true := h
    rw [Bool.and_eq_true] at h'
    obtain ⟨h0, h1⟩ := h'
    rw [smTg_ok _ _ h0, smCd_ok _ _ h1]
  | .put x0 x1 x2, b, h => by
    cases b <;> first
      | exact no_eq h
      | skip
    rename_i y0 y1 y2
    have h' : (smCd x0 y0 && smCd x1 y1 && smCd x2 y2) = true := h
    rw [Bool.and_eq_true, Bool.and_eq_true] at h'
    obtain ⟨⟨h0, h1⟩, h2⟩ := h'
    rw [smCd_ok _ _ h0, smCd_ok _ _ h1, smCd_ok _ _ h2]
  | .aug x0 x1 x2, b, h => by
    cases b <;> first
      | exact no_eq h
      | skip
    rename_i y0 y1 y2
    have h' : (decide (x0 = y0) && decide (x1 = y1) && smCd x2 y2) = true := h
    rw [Bool.and_eq_true, Bool.and_eq_true] at h'
    obtain ⟨⟨h0, h1⟩, h2⟩ := h'
    rw [of_decide_eq_true h0, of_decide_eq_true h1, smCd_ok _ _ h2]
  | .ite x0 x1 x2, b, h => by
    cases b <;> first
      | exact no_eq h
      | skip
    rename_i y0 y1 y2
    have h' : (smCt x0 y0 && smSds x1 y1 && smSds x2 y2) = true := h
    rw [Bool.and_eq_true, Bool.and_eq_true] at h'
    obtain ⟨⟨h0, h1⟩, h2⟩ := h'
    rw [smCt_ok _ _ h0, smSds_ok _ _ h1, smSds_ok _ _ h2]
  | .whl x0 x1, b, h => by
    cases b <;> first
      | exact no_eq h
      | skip
    rename_i y0 y1
    have h' : (smCt x0 y0 && smSds x1 y1) = true := h
    rw [Bool.and_eq_true] at h'
    obtain ⟨h0, h1⟩ := h'
    rw [smCt_ok _ _ h0, smSds_ok _ _ h1]
  | .fr x0 x1 x2, b, h => by
    cases b <;> first
      | exact no_eq h
      | skip
    rename_i y0 y1 y2
    have h' : (smTg x0 y0 && smCs x1 y1 && smSds x2 y2) = true := h
    rw [Bool.and_eq_true, Bool.and_eq_true] at h'
    obtain ⟨⟨h0, h1⟩, h2⟩ := h'
    rw [smTg_ok _ _ h0, smCs_ok _ _ h1, smSds_ok _ _ h2]
  | .brk, b, h => by
    cases b <;> first
      | exact no_eq h
      | skip
    rfl
  | .cnt, b, h => by
    cases b <;> first
      | exact no_eq h
      | skip
    rfl
  | .pas, b, h => by
    cases b <;> first
      | exact no_eq h
      | skip
    rfl
theorem smSds_ok : ∀ (a b : List Sd), smSds a b = true → a = b
  | [], [], _ => rfl
  | x :: xs, y :: ys, h => by
    have h' : (smSd x y && smSds xs ys) = true := h
    rw [Bool.and_eq_true] at h'
    rw [smSd_ok _ _ h'.1, smSds_ok _ _ h'.2]
  | [], _ :: _, h => no_eq h
  | _ :: _, [], h => no_eq h
end
/-- the code of a def, by a look of the kernel -/
def codeIs (T : Tab) (N : List Str) (st : Stmt) (c : List Sd) : Bool := match codeOf T N st with
  | some d => smSds d c
  | none => false
theorem code_is {T : Tab} {N : List Str} {st : Stmt} {c : List Sd} (h : codeIs T N st c = true) : ∀ Φ Γ X, Oks T ⟨N, defScope st, defScope st⟩ Φ Γ X → PSs X (defBody st) (LS' X (wSs Φ Γ c)) := by
  unfold codeIs codeOf at h
  cases e : compSs T 200 ⟨N, defScope st, defScope st⟩ (defBody st) with
  | none => rw [e] at h; cases h
  | some r =>
    rw [e] at h
    have := smSds_ok _ _ h
    subst this
    exact r.property
end Mn

/-! Mn: a program's defs, the law's end. -/
namespace Mn
open PySem PySem.Spec L2
/-- what the names mean, so many calls deep -/
def phi (tab : List (Str × Df)) (Γ : Str → Option D) : Nat → Str → Option SpD
  | 0, x => (tab.lookup x).map fun _ _ _ _ => False
  | n + 1, x => (tab.lookup x).map fun df => wDf (phi tab Γ n) Γ df
/-- a def of the module as it stands behind the top, and its code -/
structure DefOk (T : Tab) (K : PySem.W.Frag) (mg : Str → Option Value) (x : Str) (df : Df) : Prop where
  ex : ∃ (st : Stmt) (f : Addr) (fd : FuncData) (ps : List Str), codeIs T df.N st df.body = true ∧ FnScope df.N ps (defScope st) ∧ ps.length = df.ps ∧ Fun K x x st f fd ∧ mg x = some (.ref f) ∧ ∀ us : List Value, us.length = ps.length → bindArgs fd ⟨us, []⟩ = pure (ps.zip us)
structure Callable (P : Program) (w : World) (K : PySem.W.Frag) (mg : Str → Option Value) (base : Heap) (k : Nat) (x : Str) (sp : SpD) : Prop where
  ex : ∃ (f : Addr) (fd : FuncData) (ps : List Str), FnOk P w K mg base CX0 k f fd ps (spOf P w K sp) ∧ mg x = some (.ref f) ∧ PySem.W.keepIn K (.ref f) = true ∧ Binds K fd ps []
/-- the whole module -/
structure ModOk (T : Tab) (tab : List (Str × Df)) (Γ : Str → Option D) (K : PySem.W.Frag) (mg : Str → Option Value) : Prop where
  defs : ∀ x ∈ T.fs, ∃ df, tab.lookup x = some df ∧ DefOk T K mg x df
  blt : ∀ x ∈ bltNames, mg x = none
  glb : ∀ x ∈ T.gs, ∀ d, Γ x = some d → ∃ v u, mg x = some u ∧ RelV v u ∧ ∀ H, RD K H d v
theorem re_start {K : PySem.W.Frag} {H : Hp} {N : List Str} {ds : List D} {vs : List V} (r : RDs K H ds vs) : RE K H (ds.map some ++ List.replicate (N.length - vs.length) none) (L2.start N vs) := by
  unfold L2.start
  refine ⟨by simp [r.length], fun i d h => ?_⟩
  by_cases hi : i < ds.length
  · rw [List.getElem?_append_left (by simpa using hi), List.getElem?_map] at h
    cases e : ds[i]? with
    | none => rw [e] at h; cases h
    | some d' =>
      rw [e] at h
      cases h
      obtain ⟨v, h1, h2⟩ := r.get e
      exact ⟨v, by rw [List.getElem?_append_left (by simpa [← r.length] using hi), List.getElem?_map, h1]; rfl, h2⟩
  · rw [List.getElem?_append_right (by simpa using hi)] at h
    rw [List.getElem?_replicate] at h
    split at h <;> cases h
section
variable {P : Program} {w : World} {K : PySem.W.Frag} {mg : Str → Option Value} {base : Heap} {T : Tab} {tab : List (Str × Df)} {Γ : Str → Option D}
theorem def_fn {n : Nat} (M : ModOk T tab Γ K mg) {x : Str} {df : Df} (ih : ∀ y ∈ T.fs, ∃ sp, phi tab Γ n y = some sp ∧ Callable P w K mg base n y sp) {st : Stmt} {f : Addr} {fd : FuncData} {ps : List Str} (hc : codeIs T df.N st df.body = true) (hs : FnScope df.N ps (defScope st)) (hl : ps.length = df.ps) (F : Fun K x x st f fd) :
    FnOk P w K mg base CX0 (n + 1) f fd ps (spOf P w K (wDf (phi tab Γ n) Γ df)) := by
  refine F.ok hs (fun vs H Q E h => ?_) (fun cdv A outer s H vs Q E hr h => ?_)
  · obtain ⟨ds, S, R, rd, rp, ⟨h1, _⟩, _⟩ := h
    rw [← rd.length, h1, hl]
  · obtain ⟨ds, S, R, rd, rp, ⟨h1, h2⟩, p⟩ := h
    refine ⟨_, code_is hc (phi tab Γ n) Γ _ ⟨⟨rfl, rfl, fun _ _ => rfl, rfl, hs.nd, ?_, M.blt, M.glb, fun y hy => ?_⟩, PassesOwn.never, hs.kind⟩, ?_⟩
    · have := hr.un
      show (A.deeper _).units + 65 < cLine
      omega
    · obtain ⟨sp, e, c⟩ := ih y hy
      obtain ⟨f', fd', ps', a1, a2, a3, a4⟩ := c.ex
      exact ⟨sp, e, ⟨f', fd', ps', n, a1, hr, a2, a3, a4⟩⟩
    · refine ⟨_, S, _, ?_, rp, h2, ⟨fun env' S' σ' H' h r p' g => p _ _ _ _ h .non p' g, fun d S' v H' h r p' g => p _ _ _ _ h r p' g, fun _ _ _ _ h => h.elim, fun _ _ _ _ h => h.elim⟩⟩
      have := re_start (N := df.N) rd
      rw [← rd.length, h1] at this
      exact this
theorem def_ok {n : Nat} (M : ModOk T tab Γ K mg) {x : Str} {df : Df} (ih : ∀ y ∈ T.fs, ∃ sp, phi tab Γ n y = some sp ∧ Callable P w K mg base n y sp) (h : DefOk T K mg x df) : Callable P w K mg base (n + 1) x (wDf (phi tab Γ n) Γ df) := by
  obtain ⟨st, f, fd, ps, hc, hs, hl, F, hm, hb⟩ := h.ex
  exact ⟨f, fd, ps, def_fn M ih hc hs hl F, hm, F.kp, .all hb⟩
theorem all_ok (M : ModOk T tab Γ K mg) : ∀ n, ∀ x ∈ T.fs, ∃ sp, phi tab Γ n x = some sp ∧ Callable P w K mg base n x sp
  | 0, x, hx => by
    obtain ⟨df, e, h⟩ := M.defs x hx
    obtain ⟨st, f, fd, ps, hc, hs, hl, F, hm, hb⟩ := h.ex
    exact ⟨_, by show Option.map _ _ = _; rw [e]; rfl, ⟨f, fd, ps, ⟨fun vs H Q E ⟨ds, S, R, _, _, h, _⟩ => False.elim h, fun A outer s H args us vs Q E hr e0 hb r ⟨ds, S, R, _, _, h, _⟩ => False.elim h⟩, hm, F.kp, .all hb⟩⟩
  | n + 1, x, hx => by
    obtain ⟨df, e, h⟩ := M.defs x hx
    exact ⟨_, by show Option.map _ _ = _; rw [e]; rfl, def_ok M (all_ok M n) h⟩
end
/-- what is asked of law -/
def spLaw (K : PySem.W.Frag) : Sp := fun vs H Q _ => ∃ (a : Addr) (ns : List Int), vs = [.ref a] ∧ SqR K H a (ns.map V.int) ∧ ns.length ≤ 63 ∧ ∀ H', Q (.bl true) H'
theorem sqr_only {K : PySem.W.Frag} {H : Hp} {a : Addr} {xs : List V} (o : Only H) (h : SqL K H a xs) : SqR K H a xs := by
  rcases h with (h | ⟨ob, h⟩) | h
  · rcases o a with e | ⟨_, _, e⟩
    · rw [e] at h; cases h
    · rw [e] at h; cases h
  · exact .inl ⟨ob, h⟩
  · exact .inr (.inr h)
theorem law_ok {P : Program} {w : World} {K : PySem.W.Frag} {mg : Str → Option Value} {T : Tab} {tab : List (Str × Df)} {Γ : Str → Option D} {n : Nat} {fa : Addr} {x : Str} (M : ModOk T tab Γ K mg) (hl : ("law" : Str) ∈ T.fs) (hfa : mg "law" = some (.ref fa))
    {df : Df} (hdf : tab.lookup ("law" : Str) = some df) (hx : df.N.take df.ps = [x])
    (good : ∀ (ns : List Int), ns.length ≤ 63 → wDf (phi tab Γ n) Γ df [.rol (ns.map D.int)] (fun _ => none) fun d _ => d = .bl true) :
    ∃ fd : FuncData, (∀ (s : Shared) (u : Value), BindsTo s fd ⟨[u], []⟩ [(x, u)]) ∧ ∀ base : Heap, FnOk P w K mg base CX0 (n + 1) fa fd [x] (spLaw K) := by
  obtain ⟨df', e, h⟩ := M.defs _ hl
  rw [hdf] at e
  cases e
  obtain ⟨st, f, fd, ps, hc, hs, hlen, F, hm, hb⟩ := id h.ex
  rw [hfa] at hm
  cases hm
  have hps : ps = [x] := by
    have := hs.pre
    rw [hlen, hx] at this
    exact this.symm
  subst hps
  refine ⟨fd, fun s u => .of_eq (hb [u] rfl), fun base => ?_⟩
  refine FnOk.imp (def_fn (P := P) (w := w) (base := base) M (all_ok M n) hc hs hlen F) fun vs H Q E h => ?_
  obtain ⟨a, ns, rfl, hq, h63, q⟩ := h
  have rp : Rp P w K H (fun _ => none) := fun _ _ e => nomatch e
  have rd : RDs K H [.rol (ns.map D.int)] [.ref a] := .cons (.rol hq rds_ints) .nil
  have po : Post P w K H (fun _ => none) (fun d _ => d = .bl true) Q := fun d S' v H' e r _ _ => by
    subst e
    cases r
    exact q H'
  exact ⟨_, _, _, rd, rp, good ns h63, po⟩
/-- a def of the module, from the facts that k_is tells -/
theorem def_mk {K : PySem.W.Frag} {mg : Str → Option Value} {h : Heap} {T : Tab} {x : Str} {df : Df} (X : K.In h) (G : h.Ns mainGlobals mg) (st : Stmt) (ps : List Str) {f : Addr} {oc : Value} {od an : Option Addr} {osl : Array (Option Value)} {kV doc pm cdv ct : Value}
    (hc : codeIs T df.N st df.body = true) (hs : FnScope df.N ps (defScope st)) (hl : ps.length = df.ps)
    (hb : ∀ (kV doc pm : Value) (an : Option Addr) (cdv ct : Value) (us : List Value), us.length = ps.length → bindArgs (PySem.W.fnOf x x (defArgs st) (defBody st) (defScope st) .none kV doc pm an cdv ct) ⟨us, []⟩ = pure (ps.zip us))
    (a1 : PySem.W.nsIn K mainGlobals x = some (some (.ref f))) (l1 : K.lookup f = some ⟨oc, od, .func (PySem.W.fnOf x x (defArgs st) (defBody st) (defScope st) .none kV doc pm an cdv ct), osl⟩) (c1 : PySem.W.codeIn K cdv x = true) (k1 : PySem.W.keepIn K (.ref f) = true) : DefOk T K mg x df :=
  ⟨st, f, _, ps, hc, hs, hl, fun_mk l1 c1 k1, PySem.W.mg_of X G a1, hb kV doc pm an cdv ct⟩
theorem walk {l : PySem.W.OpenLaw} {q : Program} {loose : List Str} {XP : (Str → Option Value) → Heap → Prop} {YP : World → Heap → Prop} {d : DefRec} {K : Params → PySem.W.Frag} {x : Str} {T : Tab} {tab : List (Str × Df)} {Γ : Str → Option D} {df : Df} {n : Nat} (hn : l.most = some 63) (hdf : d.params.defaults = [])
    (hY : ∀ (w : World) (h : Heap), YP w h → (K w.params).In h) (hr : Room (n + 1) callerA) (hd : d.name = "law") (hl : ("law" : Str) ∈ T.fs) (hlaw : tab.lookup ("law" : Str) = some df) (hx : df.N.take df.ps = [x])
    (good : ∀ (ns : List Int), ns.length ≤ 63 → wDf (phi tab Γ n) Γ df [.rol (ns.map D.int)] (fun _ => none) fun d _ => d = .bl true)
    (F : ∀ (w : World) (mg : Str → Option Value) (h : Heap), (K w.params).In h → h.Ns mainGlobals mg → ModOk T tab Γ (K w.params) mg) :
    PySem.W.WalkO q loose XP YP l.row.toRowW d [] (fun f vs => PySem.call f vs) :=
  L2.walk_of (n := 63) (k := n + 1) (x := x) (CX := fun _ => CX0) (sp := fun w => spLaw (K w.params)) hn (by decide) hdf hr hY
    (fun w mg fa h KX G hmg => by
      obtain ⟨fd, h1, h2⟩ := law_ok (P := l.prog) (w := w) (F w mg h KX G) hl (by rw [← hd]; exact hmg) hlaw hx good
      exact ⟨fd, h1, fun base _ _ => h2 base⟩)
    (fun _ _ a ns hl hO hS => ⟨a, ns, rfl, sqr_only hO hS, hl, fun _ => rfl⟩) fun _ _ _ _ _ z => z
end Mn

/-! Mn: the module's facts, gathered. -/
namespace Mn
open PySem PySem.Spec L2
inductive AllOk (T : Tab) (K : PySem.W.Frag) (mg : Str → Option Value) : List (Str × Df) → Prop
  | nil : AllOk T K mg []
  | cons {x : Str} {df : Df} {r : List (Str × Df)} : DefOk T K mg x df → AllOk T K mg r → AllOk T K mg ((x, df) :: r)
inductive AllNo (mg : Str → Option Value) : List Str → Prop
  | nil : AllNo mg []
  | cons {x : Str} {r : List Str} : mg x = none → AllNo mg r → AllNo mg (x :: r)
inductive AllGl (Γ : Str → Option D) (K : PySem.W.Frag) (mg : Str → Option Value) : List Str → Prop
  | nil : AllGl Γ K mg []
  | cons {x : Str} {r : List Str} : (∀ d, Γ x = some d → ∃ v u, mg x = some u ∧ RelV v u ∧ ∀ H, RD K H d v) → AllGl Γ K mg r → AllGl Γ K mg (x :: r)
theorem AllOk.at_ {T : Tab} {K : PySem.W.Frag} {mg : Str → Option Value} {tab : List (Str × Df)} (a : AllOk T K mg tab) : ∀ x ∈ tab.map (·.1), ∃ df, tab.lookup x = some df ∧ DefOk T K mg x df := by
  induction a with
  | nil => intro x h; cases h
  | @cons y df r h _ ih =>
    intro x hx
    rw [List.lookup_cons]
    cases e : (x == y) with
    | true =>
      have := eq_of_beq e
      subst this
      exact ⟨df, rfl, h⟩
    | false =>
      rcases List.mem_cons.mp hx with e' | hx
      · have e'' : x = y := e'
        rw [e'', beq_self_eq_true] at e
        cases e
      · exact ih x hx
theorem AllNo.at_ {mg : Str → Option Value} {l : List Str} (a : AllNo mg l) : ∀ x ∈ l, mg x = none := by
  induction a with
  | nil => intro x h; cases h
  | cons h _ ih =>
    intro x hx
    rcases List.mem_cons.mp hx with rfl | hx
    · exact h
    · exact ih x hx
theorem AllGl.at_ {Γ : Str → Option D} {K : PySem.W.Frag} {mg : Str → Option Value} {l : List Str} (a : AllGl Γ K mg l) : ∀ x ∈ l, ∀ d, Γ x = some d → ∃ v u, mg x = some u ∧ RelV v u ∧ ∀ H, RD K H d v := by
  induction a with
  | nil => intro x h; cases h
  | cons h _ ih =>
    intro x hx
    rcases List.mem_cons.mp hx with rfl | hx
    · exact h
    · exact ih x hx
theorem mod_ok {T : Tab} {tab : List (Str × Df)} {Γ : Str → Option D} {K : PySem.W.Frag} {mg : Str → Option Value} (e : T.fs = tab.map (·.1)) (a : AllOk T K mg tab) (b : AllNo mg bltNames) (c : AllGl Γ K mg T.gs) : ModOk T tab Γ K mg :=
  ⟨by rw [e]; exact a.at_, b.at_, c.at_⟩
theorem no_mk {K : PySem.W.Frag} {mg : Str → Option Value} {h : Heap} (X : K.In h) (G : h.Ns mainGlobals mg) {x : Str} {r : List Str} (z : PySem.W.nsIn K mainGlobals x = some none) (t : AllNo mg r) : AllNo mg (x :: r) := .cons (PySem.W.mg_none_of X G z) t
/-- texts by their signs -/
abbrev tx (l : List Nat) : Str := ⟨l.toArray⟩
end Mn

/-! Mn: small laws for the pure part. -/
namespace Mn
open PySem PySem.Spec L2
section
variable {α : Type} {a b c d e f g : α} {xs : List α}
theorem ixN_nat {n : Nat} {j : Nat} (h : j < n) : ixN n (j : Int) = some j := by
  unfold ixN
  rw [if_pos (Int.natCast_nonneg j), if_pos (by omega)]
  rfl
theorem atI_nat (n : Nat) (h : n < xs.length) : atI xs (n : Int) = some xs[n] := by
  unfold atI
  rw [ixN_nat h]
  exact List.getElem?_eq_getElem h
theorem atI_0 : atI (a :: xs) 0 = some a := atI_nat 0 (by simp)
theorem atI_1 : atI (a :: b :: xs) 1 = some b := atI_nat 1 (by simp)
theorem atI_2 : atI (a :: b :: c :: xs) 2 = some c := atI_nat 2 (by simp)
theorem atI_3 : atI (a :: b :: c :: d :: xs) 3 = some d := atI_nat 3 (by simp)
theorem atI_4 : atI (a :: b :: c :: d :: e :: xs) 4 = some e := atI_nat 4 (by simp)
theorem atI_some {i : Int} (h0 : 0 ≤ i) (h : i < xs.length) : ∃ v, atI xs i = some v ∧ v ∈ xs := by
  obtain ⟨n, rfl⟩ := Int.eq_ofNat_of_zero_le h0
  have : n < xs.length := by omega
  exact ⟨xs[n], atI_nat n this, List.getElem_mem this⟩
theorem ixN_0 {n : Nat} (h : 0 < n) : ixN n 0 = some 0 := ixN_nat h
theorem ixN_1 {n : Nat} (h : 1 < n) : ixN n 1 = some 1 := ixN_nat h
theorem ixN_2 {n : Nat} (h : 2 < n) : ixN n 2 = some 2 := ixN_nat h
end
theorem lstAt_of {S : Sto} {a : Addr} {xs : List D} {k : List D → Prop} (h : S a = some (.lst xs)) : lstAt S a k = k xs := by
  unfold lstAt
  rw [h]
  exact propext ⟨fun ⟨ys, e, q⟩ => by cases e; exact q, fun q => ⟨xs, rfl, q⟩⟩
theorem ite_dec {p : Prop} [Decidable p] {A B : Prop} : (if decide p = true then A else B) = (if p then A else B) := by
  by_cases h : p <;> simp [h]
theorem log2_lt {i : Int} {n : Nat} (h0 : 0 ≤ i) (h : i < 2 ^ n) (hn : 0 < n) : i.natAbs.log2 < n := by
  obtain ⟨m, rfl⟩ := Int.eq_ofNat_of_zero_le h0
  have : m < 2 ^ n := by exact_mod_cast h
  by_cases hm : m = 0
  · subst hm
    simpa using hn
  · exact (Nat.log2_lt (by simpa using hm)).mpr (by simpa using this)
theorem ite_ndec {p : Prop} [Decidable p] {A B : Prop} : (if (!decide p) = true then A else B) = (if p then B else A) := by
  by_cases h : p <;> simp [h]
section
variable {S : Sto} {R : MK} {i j : Int} {x y : Str} {a b : Addr} {p q : Bool} {xs ys : List D} {k : Bool → Prop} {d : D}
theorem c_lt : cmpD .Lt (.int i) (.int j) S R = R (.bl (decide (i < j))) S := rfl
theorem c_gt : cmpD .Gt (.int i) (.int j) S R = R (.bl (decide (j < i))) S := rfl
theorem c_le : cmpD .LtE (.int i) (.int j) S R = R (.bl (!decide (j < i))) S := rfl
theorem c_ge : cmpD .GtE (.int i) (.int j) S R = R (.bl (!decide (i < j))) S := rfl
theorem c_eqi : cmpD .Eq (.int i) (.int j) S R = R (.bl (decide (i = j))) S := rfl
theorem c_nei : cmpD .NotEq (.int i) (.int j) S R = R (.bl (!decide (i = j))) S := rfl
theorem c_eqs : cmpD .Eq (.str x) (.str y) S R = R (.bl (decide (x = y))) S := rfl
theorem c_nes : cmpD .NotEq (.str x) (.str y) S R = R (.bl (!decide (x = y))) S := rfl
theorem c_eqb : cmpD .Eq (.bl p) (.bl q) S R = R (.bl (decide (p = q))) S := rfl
theorem c_neb : cmpD .NotEq (.bl p) (.bl q) S R = R (.bl (!decide (p = q))) S := rfl
theorem t_bl : truD (.bl p) S k = k p := rfl
theorem t_int : truD (.int i) S k = k (i != 0) := rfl
theorem b_addi : binD .Add (.int i) (.int j) S R = R (.int (i + j)) S := rfl
theorem b_subi : binD .Sub (.int i) (.int j) S R = R (.int (i - j)) S := rfl
theorem b_muli : binD .Mult (.int i) (.int j) S R = (i.natAbs.log2 + j.natAbs.log2 < 1000000 ∧ R (.int (i * j)) S) := rfl
theorem b_modi : binD .Mod (.int i) (.int j) S R = (0 < j ∧ R (.int (i % j)) S) := rfl
theorem b_divi : binD .FloorDiv (.int i) (.int j) S R = (0 < j ∧ j.natAbs.log2 < 9000 ∧ R (.int (i / j)) S) := rfl
theorem b_powi : binD .Pow (.int i) (.int j) S R = (0 ≤ j ∧ j ≤ 1000000 ∧ i.natAbs < 2 ^ 64 ∧ R (.int (i ^ j.toNat)) S) := rfl
theorem b_adds : binD .Add (.str x) (.str y) S R = (x.length + y.length ≤ sizeLine ∧ R (.str (x ++ y)) S) := rfl
theorem b_addt : binD .Add (.tup xs) (.tup ys) S R = (xs.length + ys.length ≤ sizeLine ∧ R (.tup (xs ++ ys)) S) := rfl
theorem i_ref : idxD (.ref a) (.int i) S R = lstAt S a fun xs => ∃ v, atI xs i = some v ∧ R v S := rfl
theorem i_tup : idxD (.tup xs) (.int i) S R = ∃ v, atI xs i = some v ∧ R v S := rfl
theorem i_rol : idxD (.rol xs) (.int i) S R = ∃ v, atI xs i = some v ∧ R v S := rfl
theorem i_str : idxD (.str x) (.int i) S R = (x.length ≤ sizeLine ∧ ∃ c, atI x.cps.toList i = some c ∧ R (.str ⟨#[c]⟩) S) := rfl
theorem u_ref {Q : Sto → Prop} : putD (.ref a) (.int i) d S Q = lstAt S a fun xs => ∃ j, ixN xs.length i = some j ∧ Q (up S a (.lst (xs.set j d))) := rfl
theorem l_ref : bltD .len [.ref a] S R = lstAt S a fun xs => R (.int xs.length) S := rfl
theorem l_tup : bltD .len [.tup xs] S R = R (.int xs.length) S := rfl
theorem l_rol : bltD .len [.rol xs] S R = R (.int xs.length) S := rfl
theorem l_str : bltD .len [.str x] S R = (x.length ≤ sizeLine ∧ R (.int x.length) S) := rfl
theorem n_int : bltD .int [.int i] S R = R (.int i) S := rfl
theorem n_str : bltD .str [.int i] S R = (i.natAbs.log2 < 1920 ∧ R (.str (Str.ofString (toString i))) S) := rfl
theorem ex_some {α : Type} {v : α} {Q : α → Prop} : (∃ w, some v = some w ∧ Q w) = Q v := propext ⟨fun ⟨_, e, q⟩ => by cases e; exact q, fun q => ⟨v, rfl, q⟩⟩
end
section
variable {Φ : Str → Option SpD} {Γ : Str → Option D} {E : EndsD} {env : Env} {S : Sto} {s : Sd} {ss : List Sd} {R : MK} {RA : List D → Sto → Prop} {RT : Bool → Sto → Prop} {a b c : Cd} {ct cu : Ct} {t : Tg} {op : Operator} {cop : CmpOp} {xs ys : List Sd} {es : List Cd} {d : D} {i : Nat}
theorem w_cons : wSs Φ Γ (s :: ss) E env S = wS Φ Γ s ⟨wSs Φ Γ ss E, E.rt, E.bk, E.ct⟩ env S := rfl
theorem w_nil : wSs Φ Γ [] E env S = E.nx env S := rfl
theorem w_asg : wS Φ Γ (.asg t a) E env S = wE Φ Γ a env S fun d S1 => ∃ env1, asgD t d env = some env1 ∧ E.nx env1 S1 := rfl
theorem w_ite : wS Φ Γ (.ite ct xs ys) E env S = wT Φ Γ ct env S fun k S1 => if k = true then wSs Φ Γ xs E env S1 else wSs Φ Γ ys E env S1 := rfl
theorem w_ret : wS Φ Γ (.ret a) E env S = wE Φ Γ a env S E.rt := rfl
theorem w_exp : wS Φ Γ (.exp a) E env S = wE Φ Γ a env S fun _ S1 => E.nx env S1 := rfl
theorem w_put : wS Φ Γ (.put a b c) E env S = wE Φ Γ c env S fun v S1 => wE Φ Γ a env S1 fun o S2 => wE Φ Γ b env S2 fun k S3 => putD o k v S3 fun S4 => E.nx env S4 := rfl
theorem w_fr {cs : Cs} : wS Φ Γ (.fr t cs xs) E env S = wSr Φ Γ cs env S fun ds G S1 => frRun (asgD t) (wSs Φ Γ xs) G E ds env S1 := rfl
theorem w_nm : asgD (.nm i) d env = some (env.set i (some d)) := rfl
theorem v_cst : wE Φ Γ (.cst d) env S R = R d S := rfl
theorem v_bin : wE Φ Γ (.bin op a b) env S R = wE Φ Γ a env S fun d S1 => wE Φ Γ b env S1 fun e S2 => binD op d e S2 R := rfl
theorem v_cmp : wE Φ Γ (.cmp cop a b) env S R = wE Φ Γ a env S fun d S1 => wE Φ Γ b env S1 fun e S2 => cmpD cop d e S2 R := rfl
theorem v_idx : wE Φ Γ (.idx a b) env S R = wE Φ Γ a env S fun d S1 => wE Φ Γ b env S1 fun e S2 => idxD d e S2 R := rfl
theorem v_blt {f : Bf} : wE Φ Γ (.blt f es) env S R = wEs Φ Γ es env S fun ds S1 => bltD f ds S1 R := rfl
theorem v_call {f : Str} : wE Φ Γ (.call f es) env S R = wEs Φ Γ es env S fun ds S1 => ∃ sp, Φ f = some sp ∧ sp ds S1 R := rfl
theorem v_tup : wE Φ Γ (.tup es) env S R = wEs Φ Γ es env S fun ds S1 => ds.length ≤ sizeLine ∧ R (.tup ds) S1 := rfl
theorem v_lst : wE Φ Γ (.lst es) env S R = wEs Φ Γ es env S fun ds S1 => ds.length ≤ sizeLine ∧ newL S1 ds R := rfl
theorem v_var : wE Φ Γ (.var i) env S R = (match env.getD i none with | some d => R d S | none => False) := rfl
theorem v_lc {own : List Nat} {cs : Cs} : wE Φ Γ (.lc own a t cs ct) env S R = wSr Φ Γ cs env S fun xs G S1 => lcRun (asgD t) (wT Φ Γ ct) (wE Φ Γ a) G (wipeD env own) xs [] S1 fun acc S2 => newL S2 acc R := rfl
theorem v_lc2 {own own1 : List Nat} {cs cs1 : Cs} {t1 : Tg} : wE Φ Γ (.lc2 own own1 a t cs ct t1 cs1 cu) env S R = wSr Φ Γ cs env S fun xs G S1 =>
      lcRun2 (asgD t) (wT Φ Γ ct) (fun env1 acc S2 Q => wSr Φ Γ cs1 env1 S2 fun ys G1 S3 => lcRun (asgD t1) (wT Φ Γ cu) (wE Φ Γ a) G1 (wipeD env1 own1) ys acc S3 Q) G (wipeD env own) xs [] S1 fun acc S2 => newL S2 acc R := rfl
theorem v_ss : wE Φ Γ (.ss a) env S R = wE Φ Γ a env S fun d S1 => ssD d S1 R := rfl
theorem v_ls : wE Φ Γ (.ls a) env S R = wE Φ Γ a env S fun d S1 => lsD d S1 R := rfl
theorem v_fst : wE Φ Γ (.fst es) env S R = wFs Φ Γ es Str.empty env S fun x S1 => R (.str x) S1 := rfl
theorem f_nil {acc : Str} {K : Str → Sto → Prop} : wFs Φ Γ [] acc env S K = K acc S := rfl
theorem f_cons {acc : Str} {K : Str → Sto → Prop} : wFs Φ Γ (a :: es) acc env S K = wE Φ Γ a env S fun d S1 => ∃ y, fmtD d = some y ∧ (acc ++ y).length ≤ sizeLine ∧ wFs Φ Γ es (acc ++ y) env S1 K := rfl
theorem v_mth {m : Mf} : wE Φ Γ (.mth m a es) env S R = wE Φ Γ a env S fun d S1 => mtyD m d S1 ∧ wEs Φ Γ es env S1 fun ds S2 => mthD m d ds S2 R := rfl
theorem v_isi {ts : List Ty} : wE Φ Γ (.isi a ts) env S R = wE Φ Γ a env S fun d S1 => isiD d S1 ts fun b => R (.bl b) S1 := rfl
theorem v_and : wE Φ Γ (.and a b) env S R = wE Φ Γ a env S fun d S1 => truD d S1 fun k => if k = true then wE Φ Γ b env S1 R else R d S1 := rfl
theorem v_or : wE Φ Γ (.or a b) env S R = wE Φ Γ a env S fun d S1 => truD d S1 fun k => if k = true then R d S1 else wE Φ Γ b env S1 R := rfl
theorem v_ife : wE Φ Γ (.ife ct a b) env S R = wT Φ Γ ct env S fun k S1 => if k = true then wE Φ Γ a env S1 R else wE Φ Γ b env S1 R := rfl
theorem v_sli {lo hi : Cp} : wE Φ Γ (.sli a lo hi) env S R = wE Φ Γ a env S fun d S1 => wP Φ Γ lo env S1 fun l S2 => wP Φ Γ hi env S2 fun h S3 => sliD d l h S3 R := rfl
theorem p_no {RO : Option Int → Sto → Prop} : wP Φ Γ .no env S RO = RO none S := rfl
theorem p_at {RO : Option Int → Sto → Prop} : wP Φ Γ (.at a) env S RO = wE Φ Γ a env S fun d S1 => (match d with | .int i => RO (some i) S1 | _ => False) := rfl
theorem sr_it {T : List D → (Sto → Prop) → Sto → Prop} : wSr Φ Γ (.it a) env S T = wE Φ Γ a env S fun d S1 => itD d S1 T := rfl
theorem v_dd : wE Φ Γ (.dd a b) env S R = wE Φ Γ a env S fun y S1 => wE Φ Γ b env S1 fun z S2 => isTup y = true ∧ y.pure = true ∧ y.key.depth ≤ 8 ∧ ∀ p, S2 p = none → ∀ ep, R (.ref p) (up S2 p (.dct [(y, z)] ep)) := rfl
theorem v_dc {own : List Nat} {cs : Cs} : wE Φ Γ (.dc own a b t cs ct) env S R = wSr Φ Γ cs env S fun xs G S1 => dcRun (asgD t) (wT Φ Γ ct) (wE Φ Γ a) (wE Φ Γ b) G (wipeD env own) xs [] S1 fun acc S2 => ∀ p, S2 p = none → ∀ ep, R (.ref p) (up S2 p (.dct acc ep)) := rfl
theorem sr_keys {T : List D → (Sto → Prop) → Sto → Prop} : wSr Φ Γ (.keys a) env S T = wE Φ Γ a env S fun d S1 => keysD d S1 T := rfl
theorem sr_zz {T : List D → (Sto → Prop) → Sto → Prop} : wSr Φ Γ (.zz a b c) env S T = wE Φ Γ a env S fun d S1 => wE Φ Γ b env S1 fun e S2 => wE Φ Γ c env S2 fun f S3 => itD d S3 fun xs G S4 => itD e S4 fun ys G' S5 => itD f S5 fun zs G2 S6 => T (zipD xs (zipD ys zs)) (fun S => G S ∧ G' S ∧ G2 S) S6 := rfl
theorem sr_rng {T : List D → (Sto → Prop) → Sto → Prop} : wSr Φ Γ (.rng a) env S T = wE Φ Γ a env S fun d S1 => (match d with
    | .int n => -(2 ^ 62) ≤ n ∧ n < 2 ^ 62 ∧ T ((List.range n.toNat).map fun (k : Nat) => D.int k) (fun _ => True) S1
    | _ => False) := rfl
theorem vs_nil : wEs Φ Γ [] env S RA = RA [] S := rfl
theorem vs_cons (h : isStar a = false) : wEs Φ Γ (a :: es) env S RA = wE Φ Γ a env S fun d S1 => wEs Φ Γ es env S1 fun ds S2 => RA (d :: ds) S2 := by rw [wEs_cons (not_star h)]
theorem k_val : wT Φ Γ (.val a) env S RT = wE Φ Γ a env S fun d S1 => truD d S1 fun k => RT k S1 := rfl
theorem k_and : wT Φ Γ (.and ct cu) env S RT = wT Φ Γ ct env S fun k S1 => if k = true then wT Φ Γ cu env S1 RT else RT false S1 := rfl
theorem k_or : wT Φ Γ (.or ct cu) env S RT = wT Φ Γ ct env S fun k S1 => if k = true then RT true S1 else wT Φ Γ cu env S1 RT := rfl
theorem k_not : wT Φ Γ (.not ct) env S RT = wT Φ Γ ct env S fun k S1 => RT (!k) S1 := rfl
end
/-- the blocks of a statement, parts of a code by their places -/
def Sd.b1 : Sd → List Sd
  | .ite _ a _ => a
  | .whl _ b => b
  | .fr _ _ b => b
  | _ => []
def Sd.b2 : Sd → List Sd
  | .ite _ _ b => b
  | _ => []
def nth (c : List Sd) (i : Nat) : Sd := c.getD i .pas
end Mn

/-! Mn: loops by invariants. -/
namespace Mn
open PySem PySem.Spec L2
theorem lc_yes {g : D → Env → Option Env} {e : ME} {G : Sto → Prop} {env : Env} {xs : List D} {Q : List D → Sto → Prop} (I : Nat → List D → Sto → Prop) (hz : xs.length ≤ sizeLine) (hl : ∀ i acc S, I i acc S → acc.length ≤ i) (hG : ∀ i acc S, I i acc S → G S)
    (step : ∀ i (h : i < xs.length) acc S, I i acc S → ∃ env1, g xs[i] env = some env1 ∧ ∀ K : D → Sto → Prop, (∀ y S2, I (i + 1) (acc ++ [y]) S2 → K y S2) → e env1 S K) (hQ : ∀ acc S, I xs.length acc S → Q acc S) :
    ∀ (n i : Nat) acc S, xs.length - i = n → i ≤ xs.length → I i acc S → lcRun g (fun _ S R => R true S) e G env (xs.drop i) acc S Q := by
  intro n
  induction n with
  | zero =>
    intro i acc S h1 h2 h3
    have : i = xs.length := by omega
    subst this
    rw [List.drop_length]
    exact ⟨hG _ _ _ h3, hQ _ _ h3⟩
  | succ n ih =>
    intro i acc S h1 h2 h3
    have hlt : i < xs.length := by omega
    rw [List.drop_eq_getElem_cons hlt]
    obtain ⟨env1, e1, h⟩ := step i hlt acc S h3
    refine ⟨hG _ _ _ h3, env1, e1, ?_⟩
    show (if true = true then _ else _)
    rw [if_pos rfl]
    exact h _ fun y S2 h4 => ⟨by have := hl _ _ _ h3; omega, ih (i + 1) _ S2 (by omega) hlt h4⟩
theorem lc_tst {g : D → Env → Option Env} {t : MT} {e : ME} {G : Sto → Prop} {env : Env} {xs : List D} {Q : List D → Sto → Prop} (I : Nat → List D → Sto → Prop) (hz : xs.length ≤ sizeLine) (hl : ∀ i acc S, I i acc S → acc.length ≤ i) (hG : ∀ i acc S, I i acc S → G S)
    (step : ∀ i (h : i < xs.length) acc S, I i acc S → ∃ env1, g xs[i] env = some env1 ∧ ∀ (KT : Bool → Sto → Prop), (∀ S1, (∀ K : D → Sto → Prop, (∀ y S2, I (i + 1) (acc ++ [y]) S2 → K y S2) → e env1 S1 K) → KT true S1) → (∀ S1, I (i + 1) acc S1 → KT false S1) → t env1 S KT) (hQ : ∀ acc S, I xs.length acc S → Q acc S) :
    ∀ (n i : Nat) acc S, xs.length - i = n → i ≤ xs.length → I i acc S → lcRun g t e G env (xs.drop i) acc S Q := by
  intro n
  induction n with
  | zero =>
    intro i acc S h1 h2 h3
    have : i = xs.length := by omega
    subst this
    rw [List.drop_length]
    exact ⟨hG _ _ _ h3, hQ _ _ h3⟩
  | succ n ih =>
    intro i acc S h1 h2 h3
    have hlt : i < xs.length := by omega
    rw [List.drop_eq_getElem_cons hlt]
    obtain ⟨env1, e1, h⟩ := step i hlt acc S h3
    refine ⟨hG _ _ _ h3, env1, e1, h _ (fun S1 hk => ?_) (fun S1 h4 => ?_)⟩
    · rw [if_pos rfl]
      exact hk _ fun y S2 h4 => ⟨by have := hl _ _ _ h3; omega, ih (i + 1) _ S2 (by omega) hlt h4⟩
    · rw [if_neg Bool.false_ne_true]
      exact ih (i + 1) _ S1 (by omega) hlt h4
theorem fr_inv {g : D → Env → Option Env} {b : MSt} {G : Sto → Prop} {E : EndsD} {xs : List D} (I : Nat → Env → Sto → Prop) (hG : ∀ i env S, I i env S → G S)
    (step : ∀ i (h : i < xs.length) env S, I i env S → ∃ env1, g xs[i] env = some env1 ∧ ∀ N : Env → Sto → Prop, (∀ env' S', I (i + 1) env' S' → N env' S') → b ⟨N, E.rt, E.nx, N⟩ env1 S) (hQ : ∀ env S, I xs.length env S → E.nx env S) :
    ∀ (n i : Nat) env S, xs.length - i = n → i ≤ xs.length → I i env S → frRun g b G E (xs.drop i) env S := by
  intro n
  induction n with
  | zero =>
    intro i env S h1 h2 h3
    have : i = xs.length := by omega
    subst this
    rw [List.drop_length]
    exact ⟨hG _ _ _ h3, hQ _ _ h3⟩
  | succ n ih =>
    intro i env S h1 h2 h3
    have hlt : i < xs.length := by omega
    rw [List.drop_eq_getElem_cons hlt]
    obtain ⟨env1, e1, h⟩ := step i hlt env S h3
    exact ⟨hG _ _ _ h3, env1, e1, h _ fun env' S' h4 => ih (i + 1) env' S' (by omega) hlt h4⟩
end Mn

namespace Mn
open PySem PySem.Spec L2
def c__law_draw : List Sd :=
  [.asg (.nm 2) (.cst (.int (2305843009213693951))), .ite (.val (.cmp .Lt (.idx (.var 0) (.cst (.int (2)))) (.var 1))) [.asg (.nm 3) (.cst (.int (0))), .ite (.val (.cmp .Gt (.blt .len [(.idx (.var 0) (.cst (.int (0))))]) (.cst (.int (0))))) [.asg (.nm 3) (.idx (.idx (.var 0) (.cst (.int (0)))) (.bin .Mod (.blt .int [(.idx (.var 0) (.cst (.int (1))))]) (.blt .len [(.idx (.var 0) (.cst (.int (0))))])))] [], .ite (.or (.val (.cmp .GtE (.idx (.var 0) (.cst (.int (1)))) (.blt .len [(.idx (.var 0) (.cst (.int (0))))]))) (.val (.cmp .Lt (.var 3) (.bin .Pow (.cst (.int (10))) (.cst (.int (18))))))) [.asg (.nm 3) (.bin .Mod (.blt .int [(.bin .Add (.var 3) (.bin .Mult (.cst (.int (1000003))) (.idx (.var 0) (.cst (.int (1))))))]) (.var 2)), .asg (.nm 3) (.bin .Mod (.blt .int [(.bin .Add (.bin .Add (.bin .Mult (.var 3) (.var 3)) (.bin .Mult (.cst (.int (1181783497276652981))) (.var 3))) (.cst (.int (2049848353892358983))))]) (.var 2)), .asg (.nm 3) (.bin .Mod (.blt .int [(.bin .Add (.bin .Mult (.var 3) (.var 3)) (.cst (.int (1442695040888963407))))]) (.var 2))] [], .put (.var 0) (.cst (.int (1))) (.bin .Add (.idx (.var 0) (.cst (.int (1)))) (.cst (.int (1)))), .put (.var 0) (.cst (.int (2))) (.var 3)] [], .asg (.nm 4) (.bin .Mod (.blt .int [(.idx (.var 0) (.cst (.int (2))))]) (.var 1)), .put (.var 0) (.cst (.int (2))) (.bin .FloorDiv (.idx (.var 0) (.cst (.int (2)))) (.var 1)), .ret (.var 4)]
def n__law_draw : List Str := [(tx [95, 108, 97, 119, 95, 116, 97, 112, 101]), (tx [95, 108, 97, 119, 95, 109, 97, 110, 121]), (tx [95, 108, 97, 119, 95, 112, 114, 105, 109, 101]), (tx [95, 108, 97, 119, 95, 99, 101, 108, 108]), (tx [95, 108, 97, 119, 95, 102, 111, 117, 110, 100])]
/-- the tape: at most k draws so far -/
def TapeAt (s : Addr) (S : Sto) (t : Addr) (k : Nat) : Prop := ∃ (ns : List Int) (j : Nat) (acc : Int), S t = some (.lst [.ref s, .int j, .int acc]) ∧ S s = some (.lst (ns.map D.int)) ∧ s ≠ t ∧ j ≤ k ∧ 0 ≤ acc
def TapeOk (S : Sto) (t : Addr) (k : Nat) : Prop := ∃ (s : Addr) (ns : List Int) (j : Nat) (acc : Int), S t = some (.lst [.ref s, .int j, .int acc]) ∧ S s = some (.lst (ns.map D.int)) ∧ s ≠ t ∧ j ≤ k ∧ 0 ≤ acc
/-- all but the tape stands -/
def Keep (t : Addr) (S S' : Sto) : Prop := ∀ a c, S a = some c → a ≠ t → S' a = some c

theorem draw_at (Φ : Str → Option SpD) {Γ : Str → Option D} {S : Sto} {s : Addr} {t : Addr} {k : Nat} {many : Int} {R : MK} (h : TapeAt s S t k) (hk : k < 2 ^ 60) (h0 : 0 < many) (h1 : many < 2 ^ 60)
    (hR : ∀ i S', 0 ≤ i → i < many → TapeAt s S' t (k + 1) → Keep t S S' → R (.int i) S') : wDf Φ Γ ⟨n__law_draw, 2, c__law_draw⟩ [.ref t, .int many] S R := by
  refine ⟨rfl, ?_⟩
  obtain ⟨ns, j, acc, e1, e2, ne, hj, ha⟩ := h
  have hlog : many.natAbs.log2 < 9000 := Nat.lt_trans (log2_lt (n := 60) (by omega) h1 (by decide)) (by decide)
  have l1 : (1000003 : Int).natAbs.log2 + (j : Int).natAbs.log2 < 1000000 := by
    have a1 : (1000003 : Int).natAbs.log2 < 60 := log2_lt (by decide) (by decide) (by decide)
    have a2 : (j : Int).natAbs.log2 < 60 := log2_lt (by omega) (by have : j < 2 ^ 60 := by omega
                                                                   exact_mod_cast this) (by decide)
    omega
  have lm : ∀ x : Int, (x % 2305843009213693951).natAbs.log2 < 64 := fun x => log2_lt (Int.emod_nonneg _ (by decide)) (by have := Int.emod_lt_of_pos x (show (0 : Int) < 2305843009213693951 by decide); omega) (by decide)
  have lc : (1181783497276652981 : Int).natAbs.log2 < 64 := log2_lt (by decide) (by decide) (by decide)
  -- the end
  have fin : ∀ (x y : Option D) (S' : Sto) (j' : Nat) (acc' : Int), S' t = some (.lst [.ref s, .int j', .int acc']) → j' ≤ k + 1 → 0 ≤ acc' → Keep t S S' →
      wSs Φ Γ (c__law_draw.drop 2) ⟨fun _ S' => R .non S', R, fun _ _ => False, fun _ _ => False⟩ [some (.ref t), some (.int many), x, y, none] S' := by
    intro x y S' j' acc' e1' hj' ha' hkp
    simp only [c__law_draw, List.drop_succ_cons, List.drop_zero, w_cons, w_asg, w_put, w_ret, v_bin, v_blt, v_idx, v_var, v_cst, wEs, List.getD_cons_succ, List.getD_cons_zero, List.set_cons_succ, List.set_cons_zero, i_ref, lstAt_of e1', atI_2, ex_some, n_int, b_modi, b_divi, w_nm, u_ref, List.length_cons, List.length_nil, Nat.reduceAdd]
    refine ⟨h0, h0, hlog, 2, ixN_2 (by decide), ?_⟩
    refine hR _ _ (Int.emod_nonneg _ (by omega)) (Int.emod_lt_of_pos _ h0) ⟨ns, j', acc' / many, up_same, ?_, ne, hj', Int.ediv_nonneg ha' (by omega)⟩ fun a c e hne => ?_
    · rw [up_ne ne]
      exact hkp _ _ e2 ne
    · rw [up_ne hne]
      exact hkp _ _ e hne
  -- the stores of the cell
  have st : ∀ (x : Option D) (cell : Int), 0 ≤ cell → wSs Φ Γ ((nth c__law_draw 1).b1.drop 3) ⟨wSs Φ Γ (c__law_draw.drop 2) ⟨fun _ S' => R .non S', R, fun _ _ => False, fun _ _ => False⟩, R, fun _ _ => False, fun _ _ => False⟩ [some (.ref t), some (.int many), x, some (.int cell), none] S := by
    intro x cell hc
    simp only [c__law_draw, nth, Sd.b1, List.drop_succ_cons, List.drop_zero, List.getD_cons_succ, List.getD_cons_zero]
    simp only [w_cons, w_nil, w_put, v_bin, v_idx, v_var, v_cst, List.getD_cons_succ, List.getD_cons_zero, i_ref, lstAt_of e1, atI_1, ex_some, b_addi, u_ref, List.length_cons, List.length_nil, Nat.reduceAdd, ixN_1 (show 1 < 3 by decide), List.set_cons_succ, List.set_cons_zero, lstAt_of up_same, ixN_2 (show 2 < 3 by decide)]
    refine fin _ _ _ (j + 1) cell (by rw [up_same]; rfl) (by omega) hc fun a c e hne => ?_
    rw [up_ne hne, up_ne hne]
    exact e
  -- the cell made anew or taken
  have mid : ∀ (x : Option D) (cell : Int), x = some (.int 2305843009213693951) → wSs Φ Γ ((nth c__law_draw 1).b1.drop 2) ⟨wSs Φ Γ (c__law_draw.drop 2) ⟨fun _ S' => R .non S', R, fun _ _ => False, fun _ _ => False⟩, R, fun _ _ => False, fun _ _ => False⟩ [some (.ref t), some (.int many), x, some (.int cell), none] S := by
    intro x cell hx
    subst hx
    have made : wSs Φ Γ (nth ((nth c__law_draw 1).b1) 2).b1 ⟨wSs Φ Γ ((nth c__law_draw 1).b1.drop 3) ⟨wSs Φ Γ (c__law_draw.drop 2) ⟨fun _ S' => R .non S', R, fun _ _ => False, fun _ _ => False⟩, R, fun _ _ => False, fun _ _ => False⟩, R, fun _ _ => False, fun _ _ => False⟩ [some (.ref t), some (.int many), some (.int 2305843009213693951), some (.int cell), none] S := by
      simp only [c__law_draw, nth, Sd.b1, List.drop_succ_cons, List.drop_zero, List.getD_cons_succ, List.getD_cons_zero]
      simp only [w_cons, w_nil, w_asg, v_bin, v_blt, v_idx, v_var, v_cst, wEs, List.getD_cons_succ, List.getD_cons_zero, i_ref, lstAt_of e1, atI_1, ex_some, b_addi, b_muli, b_modi, n_int, w_nm, List.set_cons_succ, List.set_cons_zero]
      have big : ∀ x y : Int, (x % 2305843009213693951).natAbs.log2 + (y % 2305843009213693951).natAbs.log2 < 1000000 := fun x y => by have := lm x; have := lm y; omega
      refine ⟨l1, by decide, big _ _, by have := lm (cell + 1000003 * (j : Int)); omega, by decide, big _ _, by decide, st _ _ (Int.emod_nonneg _ (by decide))⟩
    have e3 : (nth c__law_draw 1).b1.drop 2 = nth ((nth c__law_draw 1).b1) 2 :: (nth c__law_draw 1).b1.drop 3 := rfl
    rw [e3, w_cons]
    have e4 : nth ((nth c__law_draw 1).b1) 2 = .ite (.or (.val (.cmp .GtE (.idx (.var 0) (.cst (.int (1)))) (.blt .len [(.idx (.var 0) (.cst (.int (0))))]))) (.val (.cmp .Lt (.var 3) (.bin .Pow (.cst (.int (10))) (.cst (.int (18))))))) (nth ((nth c__law_draw 1).b1) 2).b1 [] := rfl
    rw [e4, w_ite]
    simp only [k_or, k_val, v_cmp, v_idx, v_var, v_cst, v_blt, v_bin, wEs, List.getD_cons_succ, List.getD_cons_zero, i_ref, lstAt_of e1, atI_0, atI_1, ex_some, l_ref, lstAt_of e2, List.length_map, c_ge, c_lt, t_bl, ite_dec, ite_ndec, b_powi, w_nil]
    by_cases c1 : (j : Int) < ns.length
    · rw [if_pos c1]
      refine ⟨by decide, by decide, by decide, ?_⟩
      by_cases c2 : cell < 10 ^ Int.toNat 18
      · rw [if_pos c2]
        exact made
      · rw [if_neg c2]
        exact st _ _ (by have : (0 : Int) < 10 ^ Int.toNat 18 := by decide
                         omega)
    · rw [if_neg c1]
      exact made
  have e5 : c__law_draw = nth c__law_draw 0 :: nth c__law_draw 1 :: c__law_draw.drop 2 := rfl
  show wSs Φ Γ c__law_draw _ _ S
  rw [e5, w_cons]
  have e6 : nth c__law_draw 0 = .asg (.nm 2) (.cst (.int (2305843009213693951))) := rfl
  rw [e6, w_asg]
  simp only [v_cst, w_nm, ex_some, n__law_draw, List.map_cons, List.map_nil, List.length_cons, List.length_nil, List.replicate, List.cons_append, List.nil_append, List.set_cons_succ, List.set_cons_zero, Nat.reduceAdd, Nat.reduceSub]
  rw [w_cons]
  have e7 : nth c__law_draw 1 = .ite (.val (.cmp .Lt (.idx (.var 0) (.cst (.int (2)))) (.var 1))) (nth c__law_draw 1).b1 [] := rfl
  rw [e7, w_ite]
  simp only [k_val, v_cmp, v_idx, v_var, v_cst, List.getD_cons_succ, List.getD_cons_zero, i_ref, lstAt_of e1, atI_2, ex_some, c_lt, t_bl, ite_dec]
  by_cases c : acc < many
  · rw [if_pos c]
    have e8 : (nth c__law_draw 1).b1 = .asg (.nm 3) (.cst (.int 0)) :: nth ((nth c__law_draw 1).b1) 1 :: (nth c__law_draw 1).b1.drop 2 := rfl
    rw [e8, w_cons, w_asg]
    simp only [v_cst, w_nm, ex_some, List.set_cons_succ, List.set_cons_zero]
    rw [w_cons]
    have e9 : nth ((nth c__law_draw 1).b1) 1 = .ite (.val (.cmp .Gt (.blt .len [(.idx (.var 0) (.cst (.int (0))))]) (.cst (.int (0))))) [.asg (.nm 3) (.idx (.idx (.var 0) (.cst (.int (0)))) (.bin .Mod (.blt .int [(.idx (.var 0) (.cst (.int (1))))]) (.blt .len [(.idx (.var 0) (.cst (.int (0))))])))] [] := rfl
    rw [e9, w_ite]
    simp only [k_val, v_cmp, v_idx, v_var, v_cst, v_blt, v_bin, wEs, List.getD_cons_succ, List.getD_cons_zero, i_ref, lstAt_of e1, atI_0, atI_1, ex_some, l_ref, lstAt_of e2, List.length_map, c_gt, t_bl, ite_dec, n_int, b_modi, w_cons, w_nil, w_asg, w_nm, List.set_cons_succ, List.set_cons_zero]
    by_cases c1 : (0 : Int) < ns.length
    · rw [if_pos c1]
      obtain ⟨v, hv, hm⟩ := atI_some (xs := ns.map D.int) (i := (j : Int) % ns.length) (Int.emod_nonneg _ (by omega)) (by rw [List.length_map]; exact Int.emod_lt_of_pos _ c1)
      obtain ⟨z, _, rfl⟩ := List.mem_map.mp hm
      exact ⟨c1, _, hv, mid _ z rfl⟩
    · rw [if_neg c1]
      exact mid _ 0 rfl
  · rw [if_neg c]
    rw [w_nil]
    exact fin _ _ S j acc e1 (by omega) ha (fun _ _ e _ => e)
theorem draw_ok (Φ : Str → Option SpD) {Γ : Str → Option D} {S : Sto} {t : Addr} {k : Nat} {many : Int} {R : MK} (h : TapeOk S t k) (hk : k < 2 ^ 60) (h0 : 0 < many) (h1 : many < 2 ^ 60)
    (hR : ∀ i S', 0 ≤ i → i < many → TapeOk S' t (k + 1) → Keep t S S' → R (.int i) S') : wDf Φ Γ ⟨n__law_draw, 2, c__law_draw⟩ [.ref t, .int many] S R := by
  obtain ⟨s, h⟩ := h
  exact draw_at Φ h hk h0 h1 fun i S' a b c d => hR i S' a b ⟨s, c⟩ d
end Mn

namespace Mn
open PySem PySem.Spec L2
def c__law_like : List Sd :=
  [.ite (.val (.isi (.var 0) [.lst, .tup])) [.ite (.or (.val (.cmp .NotEq (.isi (.var 0) [.lst]) (.isi (.var 1) [.lst]))) (.val (.cmp .NotEq (.isi (.var 0) [.tup]) (.isi (.var 1) [.tup])))) [.ret (.cst (.bl false))] [], .ite (.val (.cmp .NotEq (.blt .len [(.var 0)]) (.blt .len [(.var 1)]))) [.ret (.cst (.bl false))] [], .ret (.cmp .Eq (.lc [2, 3] (.var 3) (.nm 3) (.rng (.blt .len [(.var 0)])) (.not (.val (.call (tx [95, 108, 97, 119, 95, 108, 105, 107, 101]) [(.idx (.var 0) (.var 3)), (.idx (.var 1) (.var 3))])))) (.lst []))] [], .ite (.val (.isi (.var 1) [.lst, .tup])) [.ret (.cst (.bl false))] [], .ret (.and (.cmp .Eq (.isi (.var 0) [.bool]) (.isi (.var 1) [.bool])) (.cmp .Eq (.var 0) (.var 1)))]
def n__law_like : List Str := [(tx [95, 108, 97, 119, 95, 111, 110, 101]), (tx [95, 108, 97, 119, 95, 116, 119, 111]), (tx [46, 48]), (tx [95, 108, 97, 119, 95, 107])]
/-- every cell stands -/
def Ext (S S' : Sto) : Prop := ∀ a c, S a = some c → S' a = some c
theorem Ext.refl (S : Sto) : Ext S S := fun _ _ h => h
theorem Ext.trans {S S1 S2 : Sto} (h : Ext S S1) (g : Ext S1 S2) : Ext S S2 := fun a c e => g a c (h a c e)
theorem Ext.new {S : Sto} {p : Addr} {c : Cell} (h : S p = none) : Ext S (up S p c) := fun a d e => by
  rw [up_ne (by rintro rfl; rw [h] at e; cases e)]
  exact e
mutual
/-- two values of one form and of the same flat parts, so many levels deep -/
inductive Alike (S : Sto) : Nat → D → D → Prop
  | non (n : Nat) : Alike S n .non .non
  | bl (n : Nat) (b : Bool) : Alike S n (.bl b) (.bl b)
  | int (n : Nat) (i : Int) : Alike S n (.int i) (.int i)
  | str (n : Nat) (x : Str) : Alike S n (.str x) (.str x)
  | tup {n : Nat} {ds es : List D} : ds.length < 2 ^ 60 → Alikes S n ds es → Alike S (n + 1) (.tup ds) (.tup es)
  | ref {n : Nat} {a b : Addr} {ds es : List D} : ds.length < 2 ^ 60 → S a = some (.lst ds) → S b = some (.lst es) → Alikes S n ds es → Alike S (n + 1) (.ref a) (.ref b)
inductive Alikes (S : Sto) : Nat → List D → List D → Prop
  | nil (n : Nat) : Alikes S n [] []
  | cons {n : Nat} {d e : D} {ds es : List D} : Alike S n d e → Alikes S n ds es → Alikes S n (d :: ds) (e :: es)
end
mutual
theorem Alike.ext {S S' : Sto} (h : Ext S S') : ∀ {n : Nat} {d e : D}, Alike S n d e → Alike S' n d e
  | _, _, _, .non n => .non n
  | _, _, _, .bl n b => .bl n b
  | _, _, _, .int n i => .int n i
  | _, _, _, .str n x => .str n x
  | _, _, _, .tup l r => .tup l (Alikes.ext h r)
  | _, _, _, .ref l e1 e2 r => .ref l (h _ _ e1) (h _ _ e2) (Alikes.ext h r)
theorem Alikes.ext {S S' : Sto} (h : Ext S S') : ∀ {n : Nat} {d e : List D}, Alikes S n d e → Alikes S' n d e
  | _, _, _, .nil n => .nil n
  | _, _, _, .cons a r => .cons (Alike.ext h a) (Alikes.ext h r)
end
theorem Alikes.length {S : Sto} : ∀ {n : Nat} {d e : List D}, Alikes S n d e → d.length = e.length
  | _, _, _, .nil n => rfl
  | _, _, _, .cons a r => by simp [Alikes.length r]
theorem Alikes.get {S : Sto} : ∀ {n : Nat} {d e : List D}, Alikes S n d e → ∀ (i : Nat) (h : i < d.length) (h' : i < e.length), Alike S n d[i] e[i]
  | _, _, _, .nil n, i, h, _ => by simp at h
  | _, _, _, .cons a r, 0, _, _ => a
  | _, _, _, .cons a r, i + 1, h, h' => Alikes.get r i (by simpa using h) (by simpa using h')
theorem y_ref {S : Sto} {a : Addr} {xs : List D} {t : Ty} {k : Bool → Prop} (h : S a = some (.lst xs)) : D.isTy (.ref a) S t k = k (t == .lst) := by
  unfold D.isTy
  exact propext ⟨fun ⟨_, _, q⟩ => q, fun q => ⟨xs, h, q⟩⟩
theorem lc_skip {g : D → Env → Option Env} {t : MT} {e : ME} {G : Sto → Prop} {env : Env} {S : Sto} {xs : List D} (hG : ∀ S', Ext S S' → G S') (h : ∀ x ∈ xs, ∀ S', Ext S S' → ∃ env1, g x env = some env1 ∧ ∀ K : Bool → Sto → Prop, (∀ S2, Ext S S2 → K false S2) → t env1 S' K) {acc : List D} {Q : List D → Sto → Prop} (hQ : ∀ S', Ext S S' → Q acc S') :
    ∀ S', Ext S S' → lcRun g t e G env xs acc S' Q := by
  induction xs with
  | nil => exact fun S' hx => ⟨hG S' hx, hQ S' hx⟩
  | cons x xs ih =>
    intro S' hx
    obtain ⟨env1, e1, h1⟩ := h x List.mem_cons_self S' hx
    refine ⟨hG S' hx, env1, e1, h1 _ fun S2 h2 => ?_⟩
    rw [if_neg Bool.false_ne_true]
    exact ih (fun y hy => h y (List.mem_cons_of_mem _ hy)) S2 h2
theorem eq_nils {S : Sto} {a b : Addr} {R : MK} (h1 : S a = some (.lst [])) (h2 : S b = some (.lst [])) (h : R (.bl true) S) : cmpD .Eq (.ref a) (.ref b) S R := .inl ⟨[], h1, rfl, by decide, rfl, .inl ⟨[], h2, rfl, by decide, rfl, h⟩⟩
section
variable {S : Sto} {k : Bool → Prop} {xs : List D} {a : Addr} {i : Int} {x : Str} {b : Bool}
theorem y1_tup : isiD (.tup xs) S [.lst, .tup] k = k true := rfl
theorem y2_tup : isiD (.tup xs) S [.lst] k = k false := rfl
theorem y3_tup : isiD (.tup xs) S [.tup] k = k true := rfl
theorem y1_ref (h : S a = some (.lst xs)) : isiD (.ref a) S [.lst, .tup] k = k true := by simp only [isiD, y_ref h]; rfl
theorem y2_ref (h : S a = some (.lst xs)) : isiD (.ref a) S [.lst] k = k true := by simp only [isiD, y_ref h]; rfl
theorem y3_ref (h : S a = some (.lst xs)) : isiD (.ref a) S [.tup] k = k false := by simp only [isiD, y_ref h]; rfl
theorem y1_non : isiD .non S [.lst, .tup] k = k false := rfl
theorem y1_bl : isiD (.bl b) S [.lst, .tup] k = k false := rfl
theorem y1_int : isiD (.int i) S [.lst, .tup] k = k false := rfl
theorem y1_str : isiD (.str x) S [.lst, .tup] k = k false := rfl
theorem y4_non : isiD .non S [.bool] k = k false := rfl
theorem y4_bl : isiD (.bl b) S [.bool] k = k true := rfl
theorem y4_int : isiD (.int i) S [.bool] k = k false := rfl
theorem y4_str : isiD (.str x) S [.bool] k = k false := rfl
theorem ifT {A B : Prop} : (if true = true then A else B) = A := if_pos rfl
theorem ifF {A B : Prop} : (if false = true then A else B) = B := if_neg Bool.false_ne_true
end
section
variable {Φ : Nat → Str → Option SpD} {Γ : Str → Option D}
theorem like_flat {Φ : Str → Option SpD} {d : D} {S : Sto} {R : MK} (hf : d.flat = true) (hR : R (.bl true) S) : wDf Φ Γ ⟨n__law_like, 2, c__law_like⟩ [d, d] S R := by
  refine ⟨rfl, ?_⟩
  simp only [c__law_like, n__law_like, w_cons, w_ite, k_val, v_isi, v_var, List.map_cons, List.map_nil, List.length_cons, List.length_nil, List.replicate, List.cons_append, List.nil_append, List.getD_cons_succ, List.getD_cons_zero, Nat.reduceAdd, Nat.reduceSub]
  cases d <;> first | (simp [D.flat] at hf; done) | skip
  · simp only [y1_non, y4_non, t_bl, ifF, w_nil, w_cons, w_ite, k_val, w_ret, v_and, v_cmp, v_isi, v_var, List.getD_cons_succ, List.getD_cons_zero, c_eqb, decide_true, ifT]
    exact .inl ⟨rfl, by decide, rfl, .inl ⟨rfl, by decide, rfl, hR⟩⟩
  · simp only [y1_bl, y4_bl, t_bl, ifF, w_nil, w_cons, w_ite, k_val, w_ret, v_and, v_cmp, v_isi, v_var, List.getD_cons_succ, List.getD_cons_zero, c_eqb, decide_true, ifT]
    exact hR
  · simp only [y1_int, y4_int, t_bl, ifF, w_nil, w_cons, w_ite, k_val, w_ret, v_and, v_cmp, v_isi, v_var, List.getD_cons_succ, List.getD_cons_zero, c_eqb, c_eqi, decide_true, ifT]
    exact hR
  · simp only [y1_str, y4_str, t_bl, ifF, w_nil, w_cons, w_ite, k_val, w_ret, v_and, v_cmp, v_isi, v_var, List.getD_cons_succ, List.getD_cons_zero, c_eqb, c_eqs, decide_true, ifT]
    exact hR
theorem like_ok (hΦ : ∀ n, Φ (n + 1) (tx [95, 108, 97, 119, 95, 108, 105, 107, 101]) = some (wDf (Φ n) Γ ⟨n__law_like, 2, c__law_like⟩)) :
    ∀ (n m : Nat) (d e : D) (S : Sto) (R : MK), n ≤ m → Alike S n d e → (∀ S', Ext S S' → R (.bl true) S') → wDf (Φ m) Γ ⟨n__law_like, 2, c__law_like⟩ [d, e] S R := by
  intro n
  induction n with
  | zero =>
    intro m d e S R hm al hR
    cases al with
    | non => exact like_flat rfl (hR S (Ext.refl S))
    | bl => exact like_flat rfl (hR S (Ext.refl S))
    | int => exact like_flat rfl (hR S (Ext.refl S))
    | str => exact like_flat rfl (hR S (Ext.refl S))
  | succ n ih =>
    intro m d e S R hm al hR
    obtain ⟨m, rfl⟩ : ∃ k, m = k + 1 := ⟨m - 1, by omega⟩
    -- two rows of items
    have rows : ∀ (ds es : List D) (d e : D), ds.length < 2 ^ 60 → Alikes S n ds es → (∀ S', Ext S S' → ∀ R, R (.int ds.length) S' → bltD .len [d] S' R) → (∀ i (h : i < ds.length) S' R, Ext S S' → R ds[i] S' → idxD d (.int (i : Nat)) S' R) → (∀ i (h : i < es.length) S' R, Ext S S' → R es[i] S' → idxD e (.int (i : Nat)) S' R) →
        wE (Φ (m + 1)) Γ (.cmp .Eq (.lc [2, 3] (.var 3) (.nm 3) (.rng (.blt .len [(.var 0)])) (.not (.val (.call (tx [95, 108, 97, 119, 95, 108, 105, 107, 101]) [(.idx (.var 0) (.var 3)), (.idx (.var 1) (.var 3))])))) (.lst [])) [some d, some e, none, none] S R := by
      intro ds es d e hlt al hl hi hj
      rw [v_cmp]
      rw [v_lc, sr_rng]
      simp only [v_blt, wEs, v_var, List.getD_cons_zero]
      refine hl S (Ext.refl S) _ ⟨by omega, by omega, ?_⟩
      refine lc_skip (S := S) (fun _ _ => trivial) (fun x hx S' hxt => ?_) (fun S' hxt => ?_) S (Ext.refl S)
      · obtain ⟨i, hi1, rfl⟩ := List.mem_map.mp hx
        have hi1 : i < ds.length := by simpa using hi1
        have hi2 : i < es.length := by rw [← al.length]; exact hi1
        refine ⟨_, rfl, fun K hK => ?_⟩
        simp only [wipeD, k_not, k_val, v_call, wEs, v_idx, v_var, List.set_cons_succ, List.set_cons_zero, List.getD_cons_succ, List.getD_cons_zero]
        refine hi i hi1 S' _ hxt (hj i hi2 S' _ hxt ⟨_, hΦ m, ih m _ _ S' _ (by omega) ((al.get i hi1 hi2).ext hxt) fun S2 h2 => hK S2 (hxt.trans h2)⟩)
      · intro p hp
        simp only [v_lst, wEs]
        refine ⟨by decide, fun q hq => ?_⟩
        have ne : p ≠ q := by rintro rfl; rw [up_same] at hq; cases hq
        exact eq_nils (by rw [up_ne ne]; exact up_same) up_same (hR _ ((hxt.trans (.new hp)).trans (.new hq)))
    cases al with
    | non => exact like_flat rfl (hR S (Ext.refl S))
    | bl => exact like_flat rfl (hR S (Ext.refl S))
    | int => exact like_flat rfl (hR S (Ext.refl S))
    | str => exact like_flat rfl (hR S (Ext.refl S))
    | @tup _ ds es hl as =>
      have r := rows ds es (.tup ds) (.tup es) hl as (fun _ _ _ h => h) (fun i h _ _ _ h2 => ⟨_, atI_nat i h, h2⟩) (fun i h _ _ _ h2 => ⟨_, atI_nat i h, h2⟩)
      refine ⟨rfl, ?_⟩
      simp only [c__law_like, n__law_like, w_cons, w_ite, k_val, k_or, v_isi, v_var, List.map_cons, List.map_nil, List.length_cons, List.length_nil, List.replicate, List.cons_append, List.nil_append, List.getD_cons_succ, List.getD_cons_zero, Nat.reduceAdd, Nat.reduceSub, y1_tup, y2_tup, y3_tup, t_bl, ifT, ifF, v_cmp, c_neb, decide_true, Bool.not_true, w_nil, v_blt, wEs, l_tup, c_nei, as.length]
      exact r
    | @ref _ a b ds es hl e1 e2 as =>
      have r := rows ds es (.ref a) (.ref b) hl as (fun S' hx _ h => by rw [l_ref, lstAt_of (hx _ _ e1)]; exact h) (fun i h S' _ hx h2 => by rw [i_ref, lstAt_of (hx _ _ e1)]; exact ⟨_, atI_nat i h, h2⟩) (fun i h S' _ hx h2 => by rw [i_ref, lstAt_of (hx _ _ e2)]; exact ⟨_, atI_nat i h, h2⟩)
      refine ⟨rfl, ?_⟩
      simp only [c__law_like, n__law_like, w_cons, w_ite, k_val, k_or, v_isi, v_var, List.map_cons, List.map_nil, List.length_cons, List.length_nil, List.replicate, List.cons_append, List.nil_append, List.getD_cons_succ, List.getD_cons_zero, Nat.reduceAdd, Nat.reduceSub, y1_ref e1, y2_ref e1, y3_ref e1, y2_ref e2, y3_ref e2, t_bl, ifT, ifF, v_cmp, c_neb, decide_true, Bool.not_true, w_nil, v_blt, wEs, l_ref, lstAt_of e1, lstAt_of e2, c_nei, as.length]
      exact r
end
end Mn

namespace Mn
open PySem PySem.Spec L2
def c__law_head : List Sd :=
  [.asg (.nm 1) (.lst [(.cst (.str (tx [48]))), (.cst (.str (tx [49]))), (.cst (.str (tx [50]))), (.cst (.str (tx [57]))), (.cst (.str (tx [48, 49]))), (.cst (.str (tx [49, 50]))), (.cst (.str (tx [48, 49, 50, 51, 52, 53, 54, 55, 56, 57]))), (.cst (.str (tx [50, 57]))), (.cst (.str (tx [49])))]), .ite (.val (.cmp .Gt (.call (tx [95, 108, 97, 119, 95, 100, 114, 97, 119]) [(.var 0), (.cst (.int (4)))]) (.cst (.int (0))))) [.ret (.idx (.var 1) (.call (tx [95, 108, 97, 119, 95, 100, 114, 97, 119]) [(.var 0), (.cst (.int (9)))]))] [], .asg (.nm 2) (.ss (.lc [3, 4] (.call (tx [95, 108, 97, 119, 95, 100, 114, 97, 119]) [(.var 0), (.cst (.int (10)))]) (.nm 4) (.rng (.bin .Add (.cst (.int (1))) (.call (tx [95, 108, 97, 119, 95, 100, 114, 97, 119]) [(.var 0), (.cst (.int (4)))]))) .yes)), .ret (.mth .join (.cst (.str (tx []))) [(.lc [3, 5] (.blt .str [(.var 5)]) (.nm 5) (.it (.var 2)) .yes)])]
def n__law_head : List Str := [(tx [95, 108, 97, 119, 95, 116, 97, 112, 101]), (tx [95, 108, 97, 119, 95, 115, 111, 109, 101]), (tx [95, 108, 97, 119, 95, 100, 105, 103, 105, 116, 115, 95, 104, 101, 114, 101]), (tx [46, 48]), (tx [95, 108, 97, 119, 95, 116, 117, 114, 110]), (tx [95, 108, 97, 119, 95, 100, 105, 103, 105, 116])]
def c__law_digits : List Sd :=
  [.asg (.nm 2) (.cst (.str (tx []))), .fr (.nm 3) (.rng (.call (tx [95, 108, 97, 119, 95, 100, 114, 97, 119]) [(.var 0), (.bin .Add (.var 1) (.cst (.int (1))))])) [.asg (.nm 2) (.bin .Add (.var 2) (.idx (.lst [(.cst (.str (tx [48]))), (.cst (.str (tx [49]))), (.cst (.str (tx [50]))), (.cst (.str (tx [57]))), (.cst (.str (tx [48]))), (.cst (.str (tx [49]))), (.blt .str [(.call (tx [95, 108, 97, 119, 95, 100, 114, 97, 119]) [(.var 0), (.cst (.int (10)))])])]) (.call (tx [95, 108, 97, 119, 95, 100, 114, 97, 119]) [(.var 0), (.cst (.int (7)))])))], .ret (.var 2)]
def n__law_digits : List Str := [(tx [95, 108, 97, 119, 95, 116, 97, 112, 101]), (tx [95, 108, 97, 119, 95, 109, 111, 115, 116]), (tx [95, 108, 97, 119, 95, 102, 111, 117, 110, 100]), (tx [95, 108, 97, 119, 95, 116, 117, 114, 110])]
def c__law_goal : List Sd :=
  [.asg (.nm 2) (.call (tx [95, 108, 97, 119, 95, 100, 114, 97, 119]) [(.var 0), (.cst (.int (9)))]), .ite (.val (.cmp .Lt (.var 2) (.cst (.int (4))))) [.ret (.tup [(.cst (.str (tx [108, 105, 110, 101]))), (.idx (.lst [(.cst (.str (tx [104, 97, 108, 108]))), (.cst (.str (tx [100, 101, 115, 107]))), (.cst (.str (tx [99, 105, 116, 121]))), (.cst (.str (tx [98, 97, 114])))]) (.call (tx [95, 108, 97, 119, 95, 100, 114, 97, 119]) [(.var 0), (.cst (.int (4)))]))])] [], .ret (.ife (.val (.cmp .Lt (.var 2) (.cst (.int (5))))) (.tup [(.cst (.str (tx [110, 111, 98, 111, 100, 121])))]) (.tup [(.cst (.str (tx [112, 108, 97, 110]))), (.idx (.var 1) (.call (tx [95, 108, 97, 119, 95, 100, 114, 97, 119]) [(.var 0), (.blt .len [(.var 1)])]))]))]
def n__law_goal : List Str := [(tx [95, 108, 97, 119, 95, 116, 97, 112, 101]), (tx [95, 108, 97, 119, 95, 110, 97, 109, 101, 115]), (tx [95, 108, 97, 119, 95, 119, 97, 121])]
def c__law_new_rule : List Sd :=
  [.asg (.nm 2) (.tup []), .fr (.nm 3) (.rng (.idx (.lst [(.cst (.int (1))), (.cst (.int (1))), (.cst (.int (2))), (.cst (.int (0))), (.cst (.int (2)))]) (.call (tx [95, 108, 97, 119, 95, 100, 114, 97, 119]) [(.var 0), (.cst (.int (5)))]))) [.asg (.nm 2) (.bin .Add (.var 2) (.tup [(.call (tx [95, 108, 97, 119, 95, 104, 101, 97, 100]) [(.var 0)])]))], .asg (.tp [(.nm 4), (.nm 5)]) (.tup [(.cmp .Gt (.call (tx [95, 108, 97, 119, 95, 100, 114, 97, 119]) [(.var 0), (.cst (.int (4)))]) (.cst (.int (0)))), (.call (tx [95, 108, 97, 119, 95, 100, 114, 97, 119]) [(.var 0), (.bin .Add (.blt .len [(.var 2)]) (.cst (.int (1))))])]), .ret (.tup [(.var 2), (.var 4), (.var 5), (.sli (.call (tx [95, 108, 97, 119, 95, 100, 105, 103, 105, 116, 115]) [(.var 0), (.cst (.int (3)))]) .no (.at (.cst (.int (3))))), (.call (tx [95, 108, 97, 119, 95, 103, 111, 97, 108]) [(.var 0), (.var 1)])])]
def n__law_new_rule : List Str := [(tx [95, 108, 97, 119, 95, 116, 97, 112, 101]), (tx [95, 108, 97, 119, 95, 110, 97, 109, 101, 115]), (tx [95, 108, 97, 119, 95, 104, 101, 97, 100, 115]), (tx [95, 108, 97, 119, 95, 116, 117, 114, 110]), (tx [95, 108, 97, 119, 95, 109, 111, 114, 101]), (tx [95, 108, 97, 119, 95, 100, 114, 111, 112])]
def c__law_exchange : List Sd :=
  [.asg (.tp [(.nm 3), (.nm 4)]) (.tup [(.sli (.lst [(.cst (.str (tx [97]))), (.cst (.str (tx [98]))), (.cst (.str (tx [99])))]) .no (.at (.bin .Add (.cst (.int (1))) (.call (tx [95, 108, 97, 119, 95, 100, 114, 97, 119]) [(.var 0), (.var 1)])))), (.tup [])]), .fr (.nm 5) (.it (.var 3)) [.asg (.nm 6) (.tup []), .fr (.nm 7) (.rng (.call (tx [95, 108, 97, 119, 95, 100, 114, 97, 119]) [(.var 0), (.bin .Add (.var 2) (.cst (.int (1))))])) [.asg (.nm 6) (.bin .Add (.var 6) (.tup [(.call (tx [95, 108, 97, 119, 95, 110, 101, 119, 95, 114, 117, 108, 101]) [(.var 0), (.var 3)])]))], .asg (.nm 4) (.bin .Add (.var 4) (.tup [(.tup [(.var 5), (.idx (.lst [(.cst (.str (tx [102, 105, 114, 115, 116]))), (.cst (.str (tx [108, 111, 110, 103, 101, 115, 116])))]) (.call (tx [95, 108, 97, 119, 95, 100, 114, 97, 119]) [(.var 0), (.cst (.int (2)))])), (.var 6)])]))], .ret (.var 4)]
def n__law_exchange : List Str := [(tx [95, 108, 97, 119, 95, 116, 97, 112, 101]), (tx [95, 108, 97, 119, 95, 109, 111, 115, 116]), (tx [95, 108, 97, 119, 95, 109, 97, 110, 121]), (tx [95, 108, 97, 119, 95, 110, 97, 109, 101, 115]), (tx [95, 108, 97, 119, 95, 102, 111, 117, 110, 100]), (tx [95, 108, 97, 119, 95, 110, 97, 109, 101]), (tx [95, 108, 97, 119, 95, 114, 117, 108, 101, 115]), (tx [95, 108, 97, 119, 95, 116, 117, 114, 110])]
/-! ### what the law draws -/
inductive Goal where
  | line (x : Str) | nobody | plan (n : Str)
structure Rule where
  heads : List Str
  more : Bool
  drop : Nat
  put : Str
  goal : Goal
structure Plan where
  name : Str
  order : Str
  rules : List Rule
abbrev sLine : Str := tx [108, 105, 110, 101]
abbrev sNobody : Str := tx [110, 111, 98, 111, 100, 121]
abbrev sPlan : Str := tx [112, 108, 97, 110]
abbrev sFirst : Str := tx [102, 105, 114, 115, 116]
abbrev sLongest : Str := tx [108, 111, 110, 103, 101, 115, 116]
def encG : Goal → D
  | .line x => .tup [.str sLine, .str x]
  | .nobody => .tup [.str sNobody]
  | .plan n => .tup [.str sPlan, .str n]
def encR (r : Rule) : D := .tup [.tup (r.heads.map D.str), .bl r.more, .int r.drop, .str r.put, encG r.goal]
def encP (p : Plan) : D := .tup [.str p.name, .str p.order, .tup (p.rules.map encR)]
def encX (x : List Plan) : D := .tup (x.map encP)
abbrev tl (x : Str) : List Nat := x.cps.toList
def IsDig (x : Str) : Prop := ∀ c ∈ tl x, 48 ≤ c ∧ c ≤ 57
structure HeadOk (x : Str) : Prop where
  ne : tl x ≠ []
  up : (tl x).Pairwise (· < ·)
  dg : IsDig x
def lineNames : List Str := [tx [104, 97, 108, 108], tx [100, 101, 115, 107], tx [99, 105, 116, 121], tx [98, 97, 114]]
def GoalOk (names : List Str) : Goal → Prop
  | .line x => x ∈ lineNames
  | .nobody => True
  | .plan n => n ∈ names
structure RuleOk (names : List Str) (r : Rule) : Prop where
  heads : ∀ h ∈ r.heads, HeadOk h
  few : r.heads.length ≤ 2
  drop : r.drop ≤ r.heads.length
  put : IsDig r.put
  short : (tl r.put).length ≤ 3
  goal : GoalOk names r.goal
structure PlanOk (names : List Str) (many : Nat) (p : Plan) : Prop where
  name : p.name ∈ names
  order : p.order = sFirst ∨ p.order = sLongest
  rules : ∀ r ∈ p.rules, RuleOk names r
  few : p.rules.length ≤ many
def abc : List Str := [tx [97], tx [98], tx [99]]
structure ExOk (many : Nat) (x : List Plan) : Prop where
  names : ∃ n, 1 ≤ n ∧ n ≤ 3 ∧ x.map Plan.name = abc.take n
  plans : ∀ p ∈ x, PlanOk (x.map Plan.name) many p
theorem ext_keep {t : Addr} {S S' : Sto} {p : Addr} {c : Cell} (h : Keep t S S') (hp : S' p = none) : Keep t S (up S' p c) := fun a d e ne => by
  have := h a d e ne
  rw [up_ne (by rintro rfl; rw [hp] at this; cases this)]
  exact this
theorem Keep.trans {t : Addr} {S S1 S2 : Sto} (h : Keep t S S1) (g : Keep t S1 S2) : Keep t S S2 := fun a c e ne => g a c (h a c e ne) ne
theorem Keep.refl (t : Addr) (S : Sto) : Keep t S S := fun _ _ h _ => h
theorem TapeOk.new {S : Sto} {t p : Addr} {k : Nat} {c : Cell} (h : TapeOk S t k) (hp : S p = none) : TapeOk (up S p c) t k := by
  obtain ⟨s, ns, j, acc, e1, e2, r⟩ := h
  exact ⟨s, ns, j, acc, by rw [up_ne (by rintro rfl; rw [hp] at e1; cases e1)]; exact e1, by rw [up_ne (by rintro rfl; rw [hp] at e2; cases e2)]; exact e2, r⟩
theorem TapeOk.more {S : Sto} {t : Addr} {k m : Nat} (h : TapeOk S t k) (hm : k ≤ m) : TapeOk S t m := by
  obtain ⟨s, ns, j, acc, e1, e2, ne, hj, ha⟩ := h
  exact ⟨s, ns, j, acc, e1, e2, ne, by omega, ha⟩
abbrev nDraw : Str := tx [95, 108, 97, 119, 95, 100, 114, 97, 119]
section
variable {Φ : Nat → Str → Option SpD} {Γ : Str → Option D}
/-- a draw, as the codes call it -/
theorem dr (hD : ∀ n, Φ (n + 1) nDraw = some (wDf (Φ n) Γ ⟨n__law_draw, 2, c__law_draw⟩)) {m : Nat} {S : Sto} {t : Addr} {k : Nat} {many : Int} {R : MK} (h : TapeOk S t k) (hk : k < 2 ^ 60) (h0 : 0 < many) (h1 : many < 2 ^ 60)
    (hR : ∀ i S', 0 ≤ i → i < many → TapeOk S' t (k + 1) → Keep t S S' → R (.int i) S') : ∃ sp, Φ (m + 1) nDraw = some sp ∧ sp [.ref t, .int many] S R :=
  ⟨_, hD m, draw_ok _ h hk h0 h1 hR⟩
theorem goal_ok (hD : ∀ n, Φ (n + 1) nDraw = some (wDf (Φ n) Γ ⟨n__law_draw, 2, c__law_draw⟩)) {m : Nat} {S : Sto} {t l : Addr} {k : Nat} {names : List Str} {R : MK} (h : TapeOk S t k) (hk : k + 2 < 2 ^ 60) (hl : S l = some (.lst (names.map D.str))) (hlt : l ≠ t) (hn : names ≠ []) (hn2 : names.length < 2 ^ 60)
    (hR : ∀ g S', GoalOk names g → TapeOk S' t (k + 2) → Keep t S S' → R (encG g) S') : wDf (Φ (m + 1)) Γ ⟨n__law_goal, 2, c__law_goal⟩ [.ref t, .ref l] S R := by
  refine ⟨rfl, ?_⟩
  simp only [c__law_goal, n__law_goal, w_cons, w_asg, w_ite, w_ret, v_call, v_var, v_cst, wEs, k_val, v_cmp, w_nil, List.map_cons, List.map_nil, List.length_cons, List.length_nil, List.replicate, List.cons_append, List.nil_append, List.getD_cons_succ, List.getD_cons_zero, List.set_cons_succ, List.set_cons_zero, w_nm, ex_some, Nat.reduceAdd, Nat.reduceSub]
  refine dr hD h (by omega) (by decide) (by decide) fun way S1 w0 w9 h1 k1 => ?_
  simp only [List.getD_cons_succ, List.getD_cons_zero, c_lt, t_bl, ite_dec, v_tup, v_idx, v_lst, v_call, v_ife, v_blt, wEs, v_cst, v_var, k_val, v_cmp]
  by_cases c : way < 4
  · rw [if_pos c]
    refine ⟨by decide, fun p hp => ?_⟩
    refine dr hD (h1.new hp) (by omega) (by decide) (by decide) fun i S2 i0 i4 h2 k2 => ?_
    have e : S2 p = some (.lst (lineNames.map D.str)) := k2 p _ up_same (by rintro rfl; obtain ⟨_, _, _, _, e, _⟩ := h1; rw [hp] at e; cases e)
    rw [i_ref, lstAt_of e]
    obtain ⟨v, hv, hm⟩ := atI_some (xs := lineNames.map D.str) i0 (by exact i4)
    obtain ⟨x, hx, rfl⟩ := List.mem_map.mp hm
    exact ⟨_, hv, show 2 ≤ sizeLine by decide, hR (.line x) S2 hx h2 (k1.trans ((ext_keep (Keep.refl t S1) hp).trans k2))⟩
  · rw [if_neg c]
    by_cases c2 : way < 5
    · rw [if_pos c2]
      exact ⟨by decide, hR .nobody S1 trivial (h1.more (by omega)) k1⟩
    · rw [if_neg c2]
      have e := k1 l _ hl hlt
      rw [l_ref, lstAt_of e]
      have hpos : 0 < names.length := List.length_pos_iff.mpr hn
      refine dr hD h1 (by omega) (by rw [List.length_map]; omega) (by rw [List.length_map]; omega) fun i S2 i0 i4 h2 k2 => ?_
      have e2 := k2 l _ e hlt
      rw [i_ref, lstAt_of e2]
      obtain ⟨v, hv, hm⟩ := atI_some (xs := names.map D.str) i0 i4
      obtain ⟨x, hx, rfl⟩ := List.mem_map.mp hm
      exact ⟨_, hv, show 2 ≤ sizeLine by decide, hR (.plan x) S2 hx h2 (k1.trans k2)⟩
theorem tl_dig {i : Int} (h0 : 0 ≤ i) (h : i < 10) : ∃ n : Nat, n < 10 ∧ i = n ∧ tl (Str.ofString (toString i)) = [48 + n] := by
  obtain ⟨n, rfl⟩ := Int.eq_ofNat_of_zero_le h0
  have hn : n < 10 := by omega
  exact ⟨n, hn, rfl, (TL.tl_num n).trans (TL.numL_lt hn)⟩
theorem log_small {i : Int} (h0 : 0 ≤ i) (h : i < 10) : i.natAbs.log2 < 1920 := Nat.lt_trans (log2_lt (n := 10) h0 (by omega) (by decide)) (by decide)
theorem len_tl (x : Str) : x.length = (tl x).length := by simp [Str.length]
/-- one sign drawn -/
theorem digits_ok (hD : ∀ n, Φ (n + 1) nDraw = some (wDf (Φ n) Γ ⟨n__law_draw, 2, c__law_draw⟩)) {m : Nat} {S : Sto} {t : Addr} {k most : Nat} {R : MK} (h : TapeOk S t k) (hk : k + 2 * most + 2 < 2 ^ 60) (hm : most < 1000)
    (hR : ∀ x S', IsDig x → (tl x).length ≤ most → TapeOk S' t (k + 1 + 2 * most) → Keep t S S' → R (.str x) S') : wDf (Φ (m + 1)) Γ ⟨n__law_digits, 2, c__law_digits⟩ [.ref t, .int most] S R := by
  refine ⟨rfl, ?_⟩
  simp only [c__law_digits, n__law_digits, w_cons, w_asg, v_cst, w_nm, ex_some, List.map_cons, List.map_nil, List.length_cons, List.length_nil, List.replicate, List.cons_append, List.nil_append, List.set_cons_succ, List.set_cons_zero, Nat.reduceAdd, Nat.reduceSub]
  rw [w_fr, sr_rng]
  simp only [v_call, wEs, v_bin, v_var, v_cst, List.getD_cons_succ, List.getD_cons_zero, b_addi]
  refine dr hD h (by omega) (by omega) (by omega) fun n S1 n0 n1 h1 k1 => ⟨by omega, by omega, ?_⟩
  refine fr_inv (fun i env S' => ∃ x y, env = [some (.ref t), some (.int most), some (.str x), y] ∧ IsDig x ∧ (tl x).length = i ∧ i ≤ most ∧ TapeOk S' t (k + 1 + 2 * i) ∧ Keep t S S') (fun _ _ _ _ => trivial) (fun i hi env S' hI => ?_) (fun env S' hI => ?_) _ 0 _ S1 rfl (Nat.zero_le _) ⟨tx [], none, rfl, (fun c hc => by cases hc), rfl, Nat.zero_le _, h1, k1⟩
  · obtain ⟨x, y, rfl, hx, hl, him, h2, k2⟩ := hI
    have hi' : i < n.toNat := by simpa using hi
    refine ⟨_, rfl, fun N hN => ?_⟩
    simp only [w_cons, w_nil, w_asg, v_bin, v_var, v_idx, v_lst, wEs, v_cst, v_blt, v_call, List.set_cons_succ, List.set_cons_zero, List.getD_cons_succ, List.getD_cons_zero]
    refine dr hD h2 (by omega) (by decide) (by decide) fun d S3 d0 d1 h3 k3 => ?_
    rw [n_str]
    refine ⟨log_small d0 d1, show 7 ≤ sizeLine by decide, fun p hp => ?_⟩
    refine dr hD (h3.new hp) (by omega) (by decide) (by decide) fun j S4 j0 j1 h4 k4 => ?_
    obtain ⟨q, hq, rfl, hd⟩ := tl_dig d0 d1
    have e : S4 p = _ := k4 p _ up_same (by rintro rfl; obtain ⟨_, _, _, _, e, _⟩ := h3; rw [hp] at e; cases e)
    rw [i_ref, lstAt_of e]
    obtain ⟨v, hv, hmem⟩ := atI_some (xs := [D.str (tx [48]), D.str (tx [49]), D.str (tx [50]), D.str (tx [57]), D.str (tx [48]), D.str (tx [49]), D.str (Str.ofString (toString (q : Int)))]) j0 j1
    have hv' : ∃ z, v = .str z ∧ ∃ c, tl z = [c] ∧ 48 ≤ c ∧ c ≤ 57 := by
      simp only [List.mem_cons, List.not_mem_nil, or_false] at hmem
      rcases hmem with rfl | rfl | rfl | rfl | rfl | rfl | rfl
      · exact ⟨_, rfl, 48, rfl, by decide, by decide⟩
      · exact ⟨_, rfl, 49, rfl, by decide, by decide⟩
      · exact ⟨_, rfl, 50, rfl, by decide, by decide⟩
      · exact ⟨_, rfl, 57, rfl, by decide, by decide⟩
      · exact ⟨_, rfl, 48, rfl, by decide, by decide⟩
      · exact ⟨_, rfl, 49, rfl, by decide, by decide⟩
      · exact ⟨_, rfl, 48 + q, hd, by omega, by omega⟩
    obtain ⟨z, rfl, c, hz, c0, c1⟩ := hv'
    refine ⟨_, hv, ?_⟩
    rw [b_adds]
    have sz : (2000 : Nat) ≤ sizeLine := by decide
    refine ⟨by rw [len_tl, len_tl, hz]; simp only [List.length_cons, List.length_nil]; omega, _, rfl, hN _ _ ⟨x ++ z, some (.int i), ?_, fun c' hc' => ?_, ?_, by omega, h4.more (by omega), (k2.trans k3).trans ((ext_keep (Keep.refl t S3) hp).trans k4)⟩⟩
    · simp
    · rw [show tl (x ++ z) = tl x ++ tl z from TL.tl_append x z, List.mem_append] at hc'
      rcases hc' with hc' | hc'
      · exact hx c' hc'
      · rw [hz] at hc'
        have := List.mem_singleton.mp hc'
        subst this
        exact ⟨c0, c1⟩
    · rw [show tl (x ++ z) = tl x ++ tl z from TL.tl_append x z, List.length_append, hz, hl] <;> rfl
  · obtain ⟨x, y, rfl, hx, hl, him, h2, k2⟩ := hI
    simp only [w_cons, w_ret, v_var, List.getD_cons_succ, List.getD_cons_zero]
    have hlen : ((List.range n.toNat).map fun (k : Nat) => D.int k).length = n.toNat := by simp
    exact hR x S' hx (by omega) (h2.more (by omega)) k2
def someHeads : List Str := [tx [48], tx [49], tx [50], tx [57], tx [48, 49], tx [49, 50], tx [48, 49, 50, 51, 52, 53, 54, 55, 56, 57], tx [50, 57], tx [49]]
theorem some_heads : ∀ x ∈ someHeads, HeadOk x := by
  intro x hx
  simp only [someHeads, List.mem_cons, List.not_mem_nil, or_false] at hx
  rcases hx with rfl | rfl | rfl | rfl | rfl | rfl | rfl | rfl | rfl <;>
    exact ⟨by decide, by decide, by intro c hc; have : ∀ c ∈ ([48, 49, 50, 51, 52, 53, 54, 55, 56, 57] : List Nat), 48 ≤ c ∧ c ≤ 57 := by decide
                                    exact this c (by revert hc; simp [tl] <;> omega)⟩
theorem joinL_nil : ∀ l : List (List Nat), TL.joinL [] l = l.flatten
  | [] => rfl
  | [x] => by simp [TL.joinL]
  | x :: y :: r => by
    have := joinL_nil (y :: r)
    simp only [TL.joinL, List.append_nil, List.nil_append, this, List.flatten_cons]
/-- the texts of some digits, joined -/
theorem join_digs {ys : List Str} {ns : List Nat} (h : ys.map tl = ns.map fun n => [48 + n]) : tl (Txt.join (tx []) ys) = ns.map (48 + ·) := by
  rw [TL.join_eq]
  show TL.tl _ = _
  rw [TL.tl_join]
  have e : TL.tl (tx []) = [] := rfl
  rw [e, joinL_nil]
  have h' : ys.map TL.tl = ns.map fun n => [48 + n] := h
  rw [h']
  clear h h'
  induction ns with
  | nil => rfl
  | cons n ns ih => simp [ih]
theorem rise_len {n : Nat} : ∀ (ms : List Nat) (b : Nat), ms.Pairwise (· < ·) → (∀ q ∈ ms, b ≤ q ∧ q < n) → b ≤ n → ms.length + b ≤ n
  | [], b, _, _, h => by simpa using h
  | q :: ms, b, pw, h, hb => by
    obtain ⟨h1, h2⟩ := List.pairwise_cons.mp pw
    have hq := h q List.mem_cons_self
    have := rise_len ms (q + 1) h2 (fun z hz => ⟨h1 z hz, (h z (List.mem_cons_of_mem _ hz)).2⟩) (by omega)
    rw [List.length_cons]
    omega
theorem sum_ones : ∀ ms : List Nat, (ms.map (List.length ∘ fun n => [48 + n])).sum = ms.length
  | [] => rfl
  | q :: ms => by
    rw [List.map_cons, List.sum_cons, sum_ones ms, List.length_cons]
    show 1 + _ = _
    omega
theorem head_ok (hD : ∀ n, Φ (n + 1) nDraw = some (wDf (Φ n) Γ ⟨n__law_draw, 2, c__law_draw⟩)) {m : Nat} {S : Sto} {t : Addr} {k : Nat} {R : MK} (h : TapeOk S t k) (hk : k + 10 < 2 ^ 60)
    (hR : ∀ x S', HeadOk x → TapeOk S' t (k + 6) → Keep t S S' → R (.str x) S') : wDf (Φ (m + 1)) Γ ⟨n__law_head, 1, c__law_head⟩ [.ref t] S R := by
  refine ⟨rfl, ?_⟩
  have tn : ∀ {S : Sto} {k : Nat} {p : Addr}, TapeOk S t k → S p = none → p ≠ t := fun h hp => by rintro rfl; obtain ⟨_, _, _, _, e, _⟩ := h; rw [hp] at e; cases e
  simp only [c__law_head, n__law_head, w_cons, w_asg, v_lst, wEs, v_cst, w_nm, ex_some, List.map_cons, List.map_nil, List.length_cons, List.length_nil, List.replicate, List.cons_append, List.nil_append, List.set_cons_succ, List.set_cons_zero, Nat.reduceAdd, Nat.reduceSub]
  refine ⟨by decide, fun p hp => ?_⟩
  have h0 := h.new (c := .lst (someHeads.map D.str)) hp
  have pt := tn h hp
  have k0 : Keep t S (up S p (.lst (someHeads.map D.str))) := ext_keep (Keep.refl t S) hp
  simp only [w_ite, k_val, v_cmp, v_call, wEs, v_var, v_cst, List.getD_cons_succ, List.getD_cons_zero]
  refine dr hD h0 (by omega) (by decide) (by decide) fun i S1 i0 i4 h1 k1 => ?_
  simp only [c_gt, t_bl, ite_dec, w_cons, w_nil, w_ret, w_asg, v_idx, v_call, wEs, v_var, v_cst, List.getD_cons_succ, List.getD_cons_zero]
  by_cases c : 0 < i
  · rw [if_pos c]
    refine dr hD h1 (by omega) (by decide) (by decide) fun j S2 j0 j9 h2 k2 => ?_
    have e : S2 p = some (.lst (someHeads.map D.str)) := k2 p _ (k1 p _ up_same pt) pt
    rw [i_ref, lstAt_of e]
    obtain ⟨v, hv, hm⟩ := atI_some (xs := someHeads.map D.str) j0 (by exact j9)
    obtain ⟨x, hx, rfl⟩ := List.mem_map.mp hm
    exact ⟨_, hv, hR x S2 (some_heads x hx) (h2.more (by omega)) ((k0.trans k1).trans k2)⟩
  · rw [if_neg c]
    rw [v_ss, v_lc, sr_rng]
    simp only [v_bin, v_call, wEs, v_var, v_cst, List.getD_cons_succ, List.getD_cons_zero]
    refine dr hD h1 (by omega) (by decide) (by decide) fun n S2 n0 n4 h2 k2 => ?_
    rw [b_addi]
    refine ⟨by omega, by omega, ?_⟩
    have hlen : ((List.range (1 + n).toNat).map fun (k : Nat) => D.int k).length = (1 + n).toNat := by simp
    refine lc_yes (fun i acc S' => ∃ ns : List Nat, acc = ns.map (fun (q : Nat) => D.int q) ∧ ns.length = i ∧ (∀ q ∈ ns, q < 10) ∧ TapeOk S' t (k + 2 + i) ∧ Keep t S2 S') (by rw [hlen]; exact Nat.le_trans (show _ ≤ 100 by omega) (by decide)) (fun i acc S' ⟨ns, e, hl, _⟩ => by rw [e, List.length_map, hl]; exact Nat.le_refl _) (fun _ _ _ _ => trivial) (fun i hi acc S' hI => ?_) (fun acc S' hI => ?_) _ 0 [] S2 rfl (Nat.zero_le _) ⟨[], rfl, rfl, (fun _ hq => by cases hq), h2, Keep.refl _ _⟩
    · obtain ⟨ns, rfl, hl, hq, h3, k3⟩ := hI
      rw [hlen] at hi
      refine ⟨_, rfl, fun K hK => ?_⟩
      simp only [v_call, wEs, v_var, v_cst, wipeD, List.set_cons_succ, List.set_cons_zero, List.getD_cons_succ, List.getD_cons_zero]
      refine dr hD h3 (by omega) (by decide) (by decide) fun d S4 d0 d1 h4 k4 => ?_
      obtain ⟨q, rfl⟩ := Int.eq_ofNat_of_zero_le d0
      refine hK _ _ ⟨ns ++ [q], by simp, by simp [hl], fun z hz => ?_, h4.more (by omega), k3.trans k4⟩
      rcases List.mem_append.mp hz with hz | hz
      · exact hq z hz
      · have := List.mem_singleton.mp hz
        omega
    · obtain ⟨ns, rfl, hl, hq, h3, k3⟩ := hI
      rw [hlen] at hl h3
      intro p2 hp2
      have h4 := h3.new (c := .lst (ns.map fun (q : Nat) => D.int q)) hp2
      have p2t := tn h3 hp2
      refine ⟨_, up_same, ?_, .inl ⟨ns.map fun (q : Nat) => (q : Int), ?_, fun ns' pw hmem => fun p3 hp3 => ?_⟩⟩
      · rw [List.length_map]; omega
      · clear hl hq h4
        induction ns with
        | nil => rfl
        | cons q ns ih => simp only [List.map_cons, allInts, ih, Option.map_some]
      · have h5 := h4.new (c := .lst (ns'.map D.int)) hp3
        have p3t := tn h4 hp3
        -- the digits in order
        obtain ⟨ms, rfl⟩ : ∃ ms : List Nat, ns' = ms.map fun (q : Nat) => (q : Int) := by
          have hn : ∀ z ∈ ns', 0 ≤ z := fun z hz => by
            obtain ⟨q, _, rfl⟩ := List.mem_map.mp ((hmem z).mp hz)
            omega
          refine ⟨ns'.map Int.toNat, ?_⟩
          rw [List.map_map]
          clear pw hmem h5 hp3
          induction ns' with
          | nil => rfl
          | cons z zs ih =>
            have := hn z List.mem_cons_self
            rw [List.map_cons, ← ih fun y hy => hn y (List.mem_cons_of_mem _ hy)]
            simp only [Function.comp]
            rw [Int.toNat_of_nonneg this]
        have ms10 : ∀ q ∈ ms, q < 10 := fun q hq' => by
          have : ((q : Nat) : Int) ∈ ns.map fun (q : Nat) => (q : Int) := (hmem q).mp (List.mem_map.mpr ⟨q, hq', rfl⟩)
          obtain ⟨z, hz, e⟩ := List.mem_map.mp this
          have := hq z hz
          omega
        have mspw : ms.Pairwise (· < ·) := (List.pairwise_map.mp pw).imp fun h => by omega
        have msne : ms ≠ [] := by
          rintro rfl
          cases ns with
          | nil => simp at hl; omega
          | cons q ns => exact absurd ((hmem q).mpr (by simp)) (by simp)
        simp only [w_nm, ex_some, w_cons, w_ret, v_mth, v_cst, wEs]
        refine ⟨trivial, ?_⟩
        rw [v_lc, sr_it]
        simp only [v_var, List.getD_cons_succ, List.getD_cons_zero, List.set_cons_succ, List.set_cons_zero]
        refine ⟨_, up_same, ?_⟩
        have hlen2 : ((ms.map fun (q : Nat) => (q : Int)).map D.int).length = ms.length := by simp
        have sz : ms.length ≤ 10 := by
          have := rise_len (n := 10) ms 0 mspw (fun q hq' => ⟨Nat.zero_le _, ms10 q hq'⟩) (by decide)
          omega
        refine lc_yes (fun i acc S' => ∃ ys : List Str, acc = ys.map D.str ∧ ys.map tl = (ms.take i).map (fun n => [48 + n]) ∧ TapeOk S' t (k + 6) ∧ Keep t S2 S' ∧ S' p3 = some (.lst ((ms.map fun (q : Nat) => (q : Int)).map D.int))) (by rw [hlen2]; exact Nat.le_trans sz (by decide)) (fun i acc S' ⟨ys, e, hy, _⟩ => ?_) (fun i acc S' hI => hI.choose_spec.2.2.2.2) (fun i hi acc S' hI => ?_) (fun acc S' hI => ?_) _ 0 [] _ rfl (Nat.zero_le _) ⟨[], rfl, rfl, h5.more (by omega), ext_keep (ext_keep k3 hp2) hp3, up_same⟩
        · have := congrArg List.length hy
          simp only [List.length_map, List.length_take] at this
          rw [e, List.length_map]
          omega
        · obtain ⟨ys, rfl, hy, h6, k6, e6⟩ := hI
          rw [hlen2] at hi
          refine ⟨_, rfl, fun K hK => ?_⟩
          simp only [v_blt, wEs, v_var, wipeD, List.set_cons_succ, List.set_cons_zero, List.getD_cons_succ, List.getD_cons_zero, List.getElem_map]
          rw [n_str]
          have hq10 := ms10 ms[i] (List.getElem_mem hi)
          refine ⟨log_small (by omega) (by omega), hK _ _ ⟨ys ++ [Str.ofString (toString ((ms[i] : Nat) : Int))], by simp, ?_, h6, k6, e6⟩⟩
          rw [List.map_append, hy, List.take_succ_eq_append_getElem hi, List.map_append]
          congr 1
          show [TL.tl _] = _
          rw [TL.tl_num, TL.numL_lt hq10] <;> rfl
        · obtain ⟨ys, rfl, hy, h6, k6, e6⟩ := hI
          rw [hlen2, List.take_length] at hy
          intro p4 hp4
          refine ⟨_, up_same, ys, ?_, ?_, ?_⟩
          · clear hy
            induction ys with
            | nil => rfl
            | cons y ys ih => simp only [List.map_cons, allStrs, ih, Option.map_some]
          · have e1 : ys.map (·.length) = (ys.map tl).map List.length := by
              rw [List.map_map]
              exact List.map_congr_left fun x _ => len_tl x
            rw [e1, hy, List.map_map]
            have e2 := sum_ones ms
            rw [e2]
            have e3 : (tx []).length = 0 := rfl
            rw [e3]
            omega
          · have ej := join_digs hy
            refine hR _ _ ⟨?_, ?_, ?_⟩ (h6.new hp4) (((k0.trans k1).trans k2).trans (ext_keep k6 hp4))
            · rw [ej]; simpa using msne
            · rw [ej]; exact List.pairwise_map.mpr (mspw.imp fun h => by omega)
            · intro c hc
              rw [ej] at hc
              obtain ⟨q, hq', rfl⟩ := List.mem_map.mp hc
              have := ms10 q hq'
              omega
end
abbrev nHead : Str := tx [95, 108, 97, 119, 95, 104, 101, 97, 100]
abbrev nDigits : Str := tx [95, 108, 97, 119, 95, 100, 105, 103, 105, 116, 115]
abbrev nGoal : Str := tx [95, 108, 97, 119, 95, 103, 111, 97, 108]
abbrev nRule : Str := tx [95, 108, 97, 119, 95, 110, 101, 119, 95, 114, 117, 108, 101]
abbrev nExch : Str := tx [95, 108, 97, 119, 95, 101, 120, 99, 104, 97, 110, 103, 101]
/-- the drawing defs stand under their names -/
structure Gen (Φ : Nat → Str → Option SpD) (Γ : Str → Option D) : Prop where
  draw : ∀ n, Φ (n + 1) nDraw = some (wDf (Φ n) Γ ⟨n__law_draw, 2, c__law_draw⟩)
  head : ∀ n, Φ (n + 1) nHead = some (wDf (Φ n) Γ ⟨n__law_head, 1, c__law_head⟩)
  digits : ∀ n, Φ (n + 1) nDigits = some (wDf (Φ n) Γ ⟨n__law_digits, 2, c__law_digits⟩)
  goal : ∀ n, Φ (n + 1) nGoal = some (wDf (Φ n) Γ ⟨n__law_goal, 2, c__law_goal⟩)
  rule : ∀ n, Φ (n + 1) nRule = some (wDf (Φ n) Γ ⟨n__law_new_rule, 2, c__law_new_rule⟩)
  exch : ∀ n, Φ (n + 1) nExch = some (wDf (Φ n) Γ ⟨n__law_exchange, 3, c__law_exchange⟩)
section
variable {Φ : Nat → Str → Option SpD} {Γ : Str → Option D}
theorem w_tp2 {i j : Nat} {d e : D} {env : Env} : asgD (.tp [.nm i, .nm j]) (.tup [d, e]) env = some ((env.set i (some d)).set j (some e)) := rfl
theorem tape_ne {S : Sto} {t p : Addr} {k : Nat} (h : TapeOk S t k) (hp : S p = none) : p ≠ t := by
  rintro rfl
  obtain ⟨_, _, _, _, e, _⟩ := h
  rw [hp] at e
  cases e
theorem cut_put {x : Str} (h : IsDig x) (hl : (tl x).length ≤ 3) : IsDig (cutS x none (some 3)) ∧ (tl (cutS x none (some 3))).length ≤ 3 := by
  have e : tl (cutS x none (some 3)) = ((tl x).drop (HT.sIx x.length 0 none)).take (HT.sIx x.length x.length (some 3) - HT.sIx x.length 0 none) := by simp [cutS, tl]
  refine ⟨fun c hc => ?_, ?_⟩
  · rw [e] at hc
    exact h c (List.mem_of_mem_drop (List.mem_of_mem_take hc))
  · rw [e, List.length_take, List.length_drop]
    omega
theorem rule_ok (G : Gen Φ Γ) {m : Nat} {S : Sto} {t l : Addr} {k : Nat} {names : List Str} {R : MK} (h : TapeOk S t k) (hk : k + 40 < 2 ^ 60) (hl : S l = some (.lst (names.map D.str))) (hlt : l ≠ t) (hn : names ≠ []) (hn2 : names.length < 2 ^ 60)
    (hR : ∀ r S', RuleOk names r → TapeOk S' t (k + 24) → Keep t S S' → R (encR r) S') : wDf (Φ (m + 2)) Γ ⟨n__law_new_rule, 2, c__law_new_rule⟩ [.ref t, .ref l] S R := by
  refine ⟨rfl, ?_⟩
  simp only [c__law_new_rule, n__law_new_rule, w_cons, w_asg, v_tup, wEs, w_nm, ex_some, List.map_cons, List.map_nil, List.length_cons, List.length_nil, List.replicate, List.cons_append, List.nil_append, List.set_cons_succ, List.set_cons_zero, Nat.reduceAdd, Nat.reduceSub]
  refine ⟨by decide, ?_⟩
  rw [w_fr, sr_rng]
  simp only [v_idx, v_lst, wEs, v_cst, v_call, v_var, List.getD_cons_succ, List.getD_cons_zero]
  refine ⟨show 5 ≤ sizeLine by decide, fun p hp => ?_⟩
  have pt := tape_ne h hp
  refine dr G.draw (h.new hp) (by omega) (by decide) (by decide) fun i S1 i0 i5 h1 k1 => ?_
  have e : S1 p = _ := k1 p _ up_same pt
  rw [i_ref, lstAt_of e]
  obtain ⟨v, hv, hm⟩ := atI_some (xs := [D.int 1, D.int 1, D.int 2, D.int 0, D.int 2]) i0 i5
  have hv' : ∃ n : Nat, v = .int n ∧ n ≤ 2 := by
    simp only [List.mem_cons, List.not_mem_nil, or_false] at hm
    rcases hm with rfl | rfl | rfl | rfl | rfl
    · exact ⟨1, rfl, by decide⟩
    · exact ⟨1, rfl, by decide⟩
    · exact ⟨2, rfl, by decide⟩
    · exact ⟨0, rfl, by decide⟩
    · exact ⟨2, rfl, by decide⟩
  obtain ⟨n, rfl, hn3⟩ := hv'
  refine ⟨_, hv, by omega, by omega, ?_⟩
  have hlen : ((List.range (n : Int).toNat).map fun (k : Nat) => D.int k).length = n := by simp
  refine fr_inv (fun i env S' => ∃ (hs : List Str) (y : Option D), env = [some (.ref t), some (.ref l), some (.tup (hs.map D.str)), y, none, none] ∧ (∀ x ∈ hs, HeadOk x) ∧ hs.length = i ∧ i ≤ 2 ∧ TapeOk S' t (k + 1 + 6 * i) ∧ Keep t S S') (fun _ _ _ _ => trivial) (fun i hi env S' hI => ?_) (fun env S' hI => ?_) _ 0 _ S1 rfl (Nat.zero_le _) ⟨[], none, rfl, (fun _ hx => by cases hx), rfl, by decide, h1, (ext_keep (Keep.refl t S) hp).trans k1⟩
  · obtain ⟨hs, y, rfl, hh, hl2, hi2, h2, k2⟩ := hI
    rw [hlen] at hi
    refine ⟨_, rfl, fun N hN => ?_⟩
    simp only [w_cons, w_nil, w_asg, v_bin, v_var, v_tup, wEs, v_call, List.set_cons_succ, List.set_cons_zero, List.getD_cons_succ, List.getD_cons_zero]
    refine ⟨_, G.head (m + 1), head_ok G.draw h2 (by omega) fun x S3 hx h3 k3 => ⟨show 1 ≤ sizeLine by decide, ?_⟩⟩
    rw [b_addt]
    refine ⟨by rw [List.length_map]; exact Nat.le_trans (show _ ≤ 100 by simp only [List.length_cons, List.length_nil]; omega) (by decide), _, rfl, hN _ _ ⟨hs ++ [x], some (.int i), ?_, fun z hz => ?_, by simp [hl2], by omega, h3.more (by omega), k2.trans k3⟩⟩
    · simp
    · rcases List.mem_append.mp hz with hz | hz
      · exact hh z hz
      · rw [List.mem_singleton.mp hz]; exact hx
  · obtain ⟨hs, y, rfl, hh, hl2, hi2, h2, k2⟩ := hI
    rw [hlen] at hl2 h2
    simp only [w_cons, w_nil, w_asg, w_ret, v_tup, wEs, v_cmp, v_call, v_var, v_cst, v_bin, v_blt, l_tup, b_addi, List.length_map, List.getD_cons_succ, List.getD_cons_zero]
    refine dr G.draw h2 (by omega) (by decide) (by decide) fun mo S2 mo0 mo4 h3 k3 => ?_
    rw [c_gt]
    refine dr G.draw h3 (by omega) (by omega) (by omega) fun dp S4 dp0 dp1 h4 k4 => ?_
    obtain ⟨dn, rfl⟩ := Int.eq_ofNat_of_zero_le dp0
    refine ⟨show 2 ≤ sizeLine by decide, _, w_tp2, ?_⟩
    simp only [List.set_cons_succ, List.set_cons_zero, List.getD_cons_succ, List.getD_cons_zero, v_sli, v_call, wEs, v_var, v_cst, p_no, p_at]
    refine ⟨_, G.digits (m + 1), digits_ok (most := 3) G.draw h4 (by omega) (by decide) fun pu S5 hpu lpu h5 k5 => ?_⟩
    refine ⟨Nat.le_trans (show _ ≤ 100 by rw [len_tl]; omega) (by decide), ?_⟩
    have kk := ((k2.trans k3).trans k4).trans k5
    refine ⟨_, G.goal (m + 1), goal_ok G.draw h5 (by omega) (kk l _ hl hlt) hlt hn hn2 fun g S6 hg h6 k6 => ⟨show 5 ≤ sizeLine by decide, ?_⟩⟩
    obtain ⟨c1, c2⟩ := cut_put hpu lpu
    exact hR ⟨hs, decide (0 < mo), dn, cutS pu none (some 3), g⟩ S6 ⟨hh, (show hs.length ≤ 2 by omega), by show dn ≤ hs.length; omega, c1, c2, hg⟩ (h6.more (by omega)) (kk.trans k6)
theorem cut_take {α : Type} (xs : List α) (n : Nat) : cutG xs none (some (n : Int)) = xs.take n := by
  unfold cutG
  rw [HT.sIx_none, HT.sIx_nat, List.drop_zero, Nat.sub_zero]
  by_cases h : n ≤ xs.length
  · rw [Nat.min_eq_left h]
  · rw [Nat.min_eq_right (by omega), List.take_length, List.take_of_length_le (by omega)]
theorem exch_ok2 (G : Gen Φ Γ) {m : Nat} {S : Sto} {t : Addr} {k many most : Nat} {R : MK} (hm1 : 1 ≤ most) (hm3 : most ≤ 3) (h : TapeOk S t k) (hk : k + 100000 < 2 ^ 60) (hmany : many ≤ 100)
    (hR : ∀ x S', ExOk many x → TapeOk S' t (k + 10000) → Keep t S S' → R (encX x) S') : wDf (Φ (m + 3)) Γ ⟨n__law_exchange, 3, c__law_exchange⟩ [.ref t, .int (most : Nat), .int many] S R := by
  refine ⟨rfl, ?_⟩
  simp only [c__law_exchange, n__law_exchange, w_cons, w_asg, v_tup, v_sli, v_lst, wEs, v_cst, p_no, p_at, v_bin, v_call, v_var, List.map_cons, List.map_nil, List.length_cons, List.length_nil, List.replicate, List.cons_append, List.nil_append, List.getD_cons_succ, List.getD_cons_zero, Nat.reduceAdd, Nat.reduceSub]
  refine ⟨show 3 ≤ sizeLine by decide, fun p hp => ?_⟩
  have pt := tape_ne h hp
  refine dr G.draw (h.new hp) (by omega) (by omega) (by omega) fun i S1 i0 i3 h1 k1 => ?_
  rw [b_addi]
  obtain ⟨q, rfl⟩ := Int.eq_ofNat_of_zero_le i0
  have e : S1 p = some (.lst (abc.map D.str)) := k1 p _ up_same pt
  have k01 : Keep t S S1 := (ext_keep (Keep.refl t S) hp).trans k1
  refine ⟨_, e, fun l hl => ⟨Nat.zero_le _, show 2 ≤ sizeLine by decide, _, w_tp2, ?_⟩⟩
  have lt := tape_ne h1 hl
  have e2 : cutG (abc.map D.str) none (some (1 + (q : Int))) = (abc.take (1 + q)).map D.str := by
    rw [show (1 : Int) + (q : Int) = ((1 + q : Nat) : Int) by omega, cut_take, List.map_take]
  rw [e2]
  have hq : q < 3 := by omega
  obtain ⟨names, hnames⟩ : ∃ ns, ns = abc.take (1 + q) := ⟨_, rfl⟩
  have nlen : names.length = 1 + q := by rw [hnames, List.length_take]; exact Nat.min_eq_left (by show _ ≤ 3; omega)
  rw [← hnames]
  simp only [List.set_cons_succ, List.set_cons_zero]
  rw [w_fr, sr_it]
  simp only [v_var, List.getD_cons_succ, List.getD_cons_zero]
  have h2 := h1.new (c := .lst (names.map D.str)) hl
  have k2 : Keep t S (up S1 l (.lst (names.map D.str))) := ext_keep k01 hl
  refine ⟨_, up_same, ?_⟩
  have hlen : (names.map D.str).length = names.length := by simp
  refine fr_inv (fun i env S' => ∃ (x : List Plan) (y5 y6 y7 : Option D), env = [some (.ref t), some (.int (most : Nat)), some (.int many), some (.ref l), some (.tup (x.map encP)), y5, y6, y7] ∧ x.map Plan.name = names.take i ∧ (∀ p ∈ x, PlanOk names many p) ∧ i ≤ 3 ∧ TapeOk S' t (k + 1 + i * 2502) ∧ Keep t S S' ∧ S' l = some (.lst (names.map D.str)))
    (fun _ _ _ hI => hI.choose_spec.choose_spec.choose_spec.choose_spec.2.2.2.2.2.2) (fun i hi env S' hI => ?_) (fun env S' hI => ?_) _ 0 _ _ rfl (Nat.zero_le _) ⟨[], none, none, none, rfl, rfl, (fun _ hx => by cases hx), by decide, h2, k2, up_same⟩
  · obtain ⟨x, y5, y6, y7, rfl, hx, hp', hi3, h3, k3, el⟩ := hI
    rw [hlen] at hi
    refine ⟨_, rfl, fun N hN => ?_⟩
    simp only [w_cons, w_nil, w_asg, v_tup, wEs, w_nm, ex_some, List.set_cons_succ, List.set_cons_zero, List.getElem_map]
    refine ⟨by decide, ?_⟩
    rw [w_fr, sr_rng]
    simp only [v_call, wEs, v_bin, v_var, v_cst, b_addi, List.getD_cons_succ, List.getD_cons_zero]
    refine dr G.draw h3 (by omega) (by omega) (by omega) fun n S4 n0 n1 h4 k4 => ⟨by omega, by omega, ?_⟩
    have hlen4 : ((List.range n.toNat).map fun (k : Nat) => D.int k).length = n.toNat := by simp
    refine fr_inv (fun j env S' => ∃ (rs : List Rule) (y7 : Option D), env = [some (.ref t), some (.int (most : Nat)), some (.int many), some (.ref l), some (.tup (x.map encP)), some (.str names[i]), some (.tup (rs.map encR)), y7] ∧ (∀ r ∈ rs, RuleOk names r) ∧ rs.length = j ∧ TapeOk S' t (k + 1 + i * 2502 + 1 + 24 * j) ∧ Keep t S S' ∧ S' l = some (.lst (names.map D.str)))
      (fun _ _ _ _ => trivial) (fun j hj env S' hI => ?_) (fun env S' hI => ?_) _ 0 _ _ rfl (Nat.zero_le _) ⟨[], y7, rfl, (fun _ hx => by cases hx), rfl, h4, k3.trans k4, k4 l _ el lt⟩
    · obtain ⟨rs, y7', rfl, hrs, hlr, h5, k5, el5⟩ := hI
      rw [hlen4] at hj
      refine ⟨_, rfl, fun N2 hN2 => ?_⟩
      simp only [w_cons, w_nil, w_asg, v_bin, v_var, v_tup, wEs, v_call, List.set_cons_succ, List.set_cons_zero, List.getD_cons_succ, List.getD_cons_zero]
      refine ⟨_, G.rule (m + 2), rule_ok G h5 (by omega) el5 lt (by intro z; rw [z] at nlen; simp at nlen; omega) (by omega) fun r S6 hr h6 k6 => ⟨show 1 ≤ sizeLine by decide, ?_⟩⟩
      rw [b_addt]
      refine ⟨by rw [List.length_map]; exact Nat.le_trans (show _ ≤ 200 by simp only [List.length_cons, List.length_nil]; omega) (by decide), _, rfl, hN2 _ _ ⟨rs ++ [r], some (.int j), by simp, fun z hz => ?_, by simp [hlr], h6.more (by omega), k5.trans k6, k6 l _ el5 lt⟩⟩
      rcases List.mem_append.mp hz with hz | hz
      · exact hrs z hz
      · rw [List.mem_singleton.mp hz]; exact hr
    · obtain ⟨rs, y7', rfl, hrs, hlr, h5, k5, el5⟩ := hI
      rw [hlen4] at hlr h5
      simp only [w_cons, w_nil, w_asg, v_bin, v_var, v_tup, v_idx, v_lst, wEs, v_cst, v_call, List.set_cons_succ, List.set_cons_zero, List.getD_cons_succ, List.getD_cons_zero]
      refine ⟨show 2 ≤ sizeLine by decide, fun p5 hp5 => ?_⟩
      have p5t := tape_ne h5 hp5
      refine dr G.draw (h5.new hp5) (by omega) (by decide) (by decide) fun j S7 j0 j2 h7 k7 => ?_
      have e7 : S7 p5 = some (.lst ([sFirst, sLongest].map D.str)) := k7 p5 _ up_same p5t
      rw [i_ref, lstAt_of e7]
      obtain ⟨v, hv, hm⟩ := atI_some (xs := [sFirst, sLongest].map D.str) j0 (by exact j2)
      obtain ⟨od, hod, rfl⟩ := List.mem_map.mp hm
      refine ⟨_, hv, show 3 ≤ sizeLine by decide, show 1 ≤ sizeLine by decide, ?_⟩
      rw [b_addt]
      have hxl : x.length = i := by
        have := congrArg List.length hx
        rw [List.length_map, List.length_take] at this
        omega
      have kk : Keep t S S7 := k5.trans ((ext_keep (Keep.refl t S') hp5).trans k7)
      refine ⟨by rw [List.length_map]; exact Nat.le_trans (show _ ≤ 200 by simp only [List.length_cons, List.length_nil]; omega) (by decide), _, rfl, hN _ _ ⟨x ++ [⟨names[i], od, rs⟩], some (.str names[i]), some (.tup (rs.map encR)), y7', by simp [encP], ?_, fun z hz => ?_, by omega, h7.more (by omega), kk, ?_⟩⟩
      · rw [List.map_append, hx, List.take_succ_eq_append_getElem hi] <;> rfl
      · rcases List.mem_append.mp hz with hz | hz
        · exact hp' z hz
        · rw [List.mem_singleton.mp hz]
          exact ⟨List.getElem_mem hi, by simpa using hod, hrs, by show rs.length ≤ many; omega⟩
      · have := el5
        exact k7 l _ (by rw [up_ne (by rintro rfl; rw [hp5] at this; cases this)]; exact this) lt
  · obtain ⟨x, y5, y6, y7, rfl, hx, hp', hi3, h3, k3, el⟩ := hI
    rw [hlen] at hx h3
    rw [List.take_length] at hx
    simp only [w_cons, w_ret, v_var, List.getD_cons_succ, List.getD_cons_zero]
    refine hR x S' ⟨⟨1 + q, by omega, by omega, by rw [hx, hnames]⟩, by rw [hx]; exact hp'⟩ (h3.more (by omega)) k3
theorem exch_ok (G : Gen Φ Γ) {m : Nat} {S : Sto} {t : Addr} {k many : Nat} {R : MK} (h : TapeOk S t k) (hk : k + 100000 < 2 ^ 60) (hmany : many ≤ 100)
    (hR : ∀ x S', ExOk many x → TapeOk S' t (k + 10000) → Keep t S S' → R (encX x) S') : wDf (Φ (m + 3)) Γ ⟨n__law_exchange, 3, c__law_exchange⟩ [.ref t, .int 3, .int many] S R := exch_ok2 (most := 3) G (by decide) (by decide) h hk hmany hR
end
end Mn

/-! own small laws, gathered out of the other texts -/
namespace Mn
open PySem PySem.Spec L2
theorem all_bls : ∀ l : List Bool, allBls (l.map D.bl) = some l
  | [] => rfl
  | b :: l => by simp only [List.map_cons, allBls, all_bls l, Option.map_some]
theorem tl_tx (ds : List Nat) : tl (tx ds) = ds := by simp [tl]
theorem tx_tl (x : Str) : tx (tl x) = x := TL.mk_tl x
theorem str_eq {x : Str} {ds : List Nat} (h : tl x = ds) : x = tx ds := by rw [← h, tx_tl]
theorem w_tp5 {a b c d e : Nat} {v1 v2 v3 v4 v5 : D} {env : Env} : asgD (.tp [.nm a, .nm b, .nm c, .nm d, .nm e]) (.tup [v1, v2, v3, v4, v5]) env = some (((((env.set a (some v1)).set b (some v2)).set c (some v3)).set d (some v4)).set e (some v5)) := rfl
theorem v_glb {Φ : Str → Option SpD} {Γ : Str → Option D} {x : Str} {env : Env} {S : Sto} {R : MK} : wE Φ Γ (.glb x) env S R = ∃ d, Γ x = some d ∧ R d S := rfl
theorem nodup_len {α : Type} [DecidableEq α] : ∀ {as bs : List α}, as.Nodup → (∀ k ∈ as, k ∈ bs) → as.length ≤ bs.length
  | [], _, _, _ => Nat.zero_le _
  | a :: as, bs, nd, h => by
    obtain ⟨n1, n2⟩ := List.nodup_cons.mp nd
    have hm := h a List.mem_cons_self
    have := nodup_len (as := as) (bs := bs.erase a) n2 fun k hk => (List.mem_erase_of_ne (by rintro rfl; exact n1 hk)).mpr (h k (List.mem_cons_of_mem _ hk))
    rw [List.length_erase_of_mem hm] at this
    have := List.length_pos_of_mem hm
    rw [List.length_cons]
    omega
theorem lc2_yes {g : D → Env → Option Env} {m : Env → List D → Sto → (List D → Sto → Prop) → Prop} {G : Sto → Prop} {env : Env} {xs : List D} {Q : List D → Sto → Prop} (I : Nat → List D → Sto → Prop) (hG : ∀ i acc S, I i acc S → G S)
    (step : ∀ i (h : i < xs.length) acc S, I i acc S → ∃ env1, g xs[i] env = some env1 ∧ ∀ K : List D → Sto → Prop, (∀ acc' S', I (i + 1) acc' S' → K acc' S') → m env1 acc S K) (hQ : ∀ acc S, I xs.length acc S → Q acc S) :
    ∀ (n i : Nat) acc S, xs.length - i = n → i ≤ xs.length → I i acc S → lcRun2 g (fun _ S R => R true S) m G env (xs.drop i) acc S Q := by
  intro n
  induction n with
  | zero =>
    intro i acc S h1 h2 h3
    have : i = xs.length := by omega
    subst this
    rw [List.drop_length]
    exact ⟨hG _ _ _ h3, hQ _ _ h3⟩
  | succ n ih =>
    intro i acc S h1 h2 h3
    have hlt : i < xs.length := by omega
    rw [List.drop_eq_getElem_cons hlt]
    obtain ⟨env1, e1, h⟩ := step i hlt acc S h3
    refine ⟨hG _ _ _ h3, env1, e1, ?_⟩
    show (if true = true then _ else _)
    rw [if_pos rfl]
    exact h _ fun acc' S2 h4 => ih (i + 1) acc' S2 (by omega) hlt h4
theorem all_strs : ∀ ys : List Str, allStrs (ys.map D.str) = some ys
  | [] => rfl
  | y :: ys => by simp only [List.map_cons, allStrs, all_strs ys, Option.map_some]
theorem tx_inj {a b : List Nat} (h : tx a = tx b) : a = b := by rw [← tl_tx a, ← tl_tx b, h]
theorem tx_len (l : List Nat) : (tx l).length = l.length := by rw [len_tl, tl_tx]
theorem w_tp3 {a b c : Nat} {v1 v2 v3 : D} {env : Env} : asgD (.tp [.nm a, .nm b, .nm c]) (.tup [v1, v2, v3]) env = some (((env.set a (some v1)).set b (some v2)).set c (some v3)) := rfl
mutual
def D.txt : D → Bool
  | .non => true
  | .int _ => true
  | .str x => PyData.canLay0 (.str x)
  | .tup xs => D.txts xs
  | _ => false
def D.txts : List D → Bool
  | [] => true
  | x :: xs => D.txt x && D.txts xs
end
mutual
theorem txt_pure : ∀ {d : D}, d.txt = true → d.pure = true ∧ d.pd.canLay0 = true
  | .non, _ => ⟨rfl, by rw [D.pd, PyData.canLay0]⟩
  | .int i, _ => ⟨rfl, by rw [D.pd, PyData.canLay0]⟩
  | .str x, h => ⟨rfl, h⟩
  | .tup xs, h => by
    have := txts_pure (xs := xs) (by simpa [D.txt] using h)
    exact ⟨by rw [D.pure]; exact this.1, by rw [D.pd, PyData.canLay0]; exact this.2⟩
  | .bl _, h | .rol _, h | .ref _, h => by simp [D.txt] at h
theorem txts_pure : ∀ {xs : List D}, D.txts xs = true → D.pures xs = true ∧ PyData.canLayAll0 (D.pds xs) = true
  | [], _ => ⟨rfl, rfl⟩
  | x :: xs, h => by
    have h' : x.txt = true ∧ D.txts xs = true := by simpa [D.txts] using h
    have a := txt_pure h'.1
    have b := txts_pure h'.2
    exact ⟨by rw [D.pures, a.1, b.1]; rfl, by rw [D.pds, PyData.canLayAll0, a.2, b.2]; rfl⟩
end
mutual
theorem txt_eqv : ∀ {d e : D}, d.txt = true → e.txt = true → (PyData.eqv d.pd e.pd = true ↔ d = e)
  | .str x, .str y, _, _ => by
    rw [D.pd, D.pd, PyData.eqv]
    exact ⟨fun h => by rw [eq_of_beq h], fun h => by cases h; exact beq_self_eq_true x⟩
  | .int x, .int y, _, _ => by
    rw [D.pd, D.pd, PyData.eqv]
    exact ⟨fun h => by rw [eq_of_beq h], fun h => by cases h; exact beq_self_eq_true x⟩
  | .non, .non, _, _ => by
    rw [D.pd, PyData.eqv]
    exact ⟨fun _ => rfl, fun _ => rfl⟩
  | .tup xs, .tup ys, h, g => by
    rw [D.pd, D.pd, PyData.eqv]
    have := txts_eqv (xs := xs) (ys := ys) (by simpa [D.txt] using h) (by simpa [D.txt] using g)
    exact this.trans ⟨fun h => by rw [h], fun h => by cases h; rfl⟩
  | .str _, .tup _, _, _ | .str _, .int _, _, _ | .str _, .non, _, _ | .tup _, .str _, _, _ | .tup _, .int _, _, _ | .tup _, .non, _, _ | .int _, .str _, _, _ | .int _, .tup _, _, _ | .int _, .non, _, _ | .non, .str _, _, _ | .non, .tup _, _, _ | .non, .int _, _, _ => by
    simp only [D.pd, PyData.eqv]
    exact ⟨fun h => (by cases h), fun h => (by cases h)⟩
  | .bl _, _, h, _ | .rol _, _, h, _ | .ref _, _, h, _ => by simp [D.txt] at h
  | .non, .bl _, _, h | .non, .rol _, _, h | .non, .ref _, _, h => by simp [D.txt] at h
  | .int _, .bl _, _, h | .int _, .rol _, _, h | .int _, .ref _, _, h => by simp [D.txt] at h
  | .str _, .bl _, _, h | .str _, .rol _, _, h | .str _, .ref _, _, h => by simp [D.txt] at h
  | .tup _, .bl _, _, h | .tup _, .rol _, _, h | .tup _, .ref _, _, h => by simp [D.txt] at h
theorem txts_eqv : ∀ {xs ys : List D}, D.txts xs = true → D.txts ys = true → (PyData.eqvAll (D.pds xs) (D.pds ys) = true ↔ xs = ys)
  | [], [], _, _ => ⟨fun _ => rfl, fun _ => rfl⟩
  | [], _ :: _, _, _ => ⟨fun h => (by simp [D.pds, PyData.eqvAll] at h), fun h => (by cases h)⟩
  | _ :: _, [], _, _ => ⟨fun h => (by simp [D.pds, PyData.eqvAll] at h), fun h => (by cases h)⟩
  | x :: xs, y :: ys, h, g => by
    have h' : x.txt = true ∧ D.txts xs = true := by simpa [D.txts] using h
    have g' : y.txt = true ∧ D.txts ys = true := by simpa [D.txts] using g
    rw [D.pds, D.pds, PyData.eqvAll, Bool.and_eq_true, txt_eqv h'.1 g'.1, txts_eqv h'.2 g'.2]
    exact ⟨fun ⟨a, b⟩ => by rw [a, b], fun h => by cases h; exact ⟨rfl, rfl⟩⟩
end
theorem dig_txt {x : Str} (h : ∀ c ∈ tl x, c < 0x110000) : (D.str x).txt = true := by
  show PyData.canLay0 (.str x) = true
  rw [PyData.canLay0]
  show (x.cps.all fun c => decide (c < 0x110000)) = true
  rw [← Array.all_toList, List.all_eq_true]
  exact fun c hc => decide_eq_true (h c hc)
theorem txts_map {α : Type} {f : α → D} : ∀ {l : List α}, (∀ a ∈ l, (f a).txt = true) → D.txts (l.map f) = true
  | [], _ => rfl
  | a :: l, h => by rw [List.map_cons, D.txts, h a List.mem_cons_self, txts_map fun b hb => h b (List.mem_cons_of_mem _ hb)]; rfl
theorem deps_map {α : Type} {f : α → D} {n : Nat} : ∀ {l : List α}, (∀ a ∈ l, (f a).dep ≤ n) → D.deps (l.map f) ≤ n
  | [], _ => Nat.zero_le _
  | a :: l, h => by
    rw [List.map_cons, D.deps]
    exact Nat.max_le.mpr ⟨h a List.mem_cons_self, deps_map fun b hb => h b (List.mem_cons_of_mem _ hb)⟩
theorem str_inj {a b : Str} (h : D.str a = D.str b) : a = b := by injection h
theorem it_txt {x : Str} {S : Sto} {T : List D → (Sto → Prop) → Sto → Prop} : itD (.str x) S T = T (chars x) (fun _ => True) S := rfl
theorem sr_zip {Φ : Str → Option SpD} {Γ : Str → Option D} {a b : Cd} {env : Env} {S : Sto} {T : List D → (Sto → Prop) → Sto → Prop} : wSr Φ Γ (.zip a b) env S T = wE Φ Γ a env S fun d S1 => wE Φ Γ b env S1 fun e S2 => itD d S2 fun xs G S3 => itD e S3 fun ys G' S4 => T (zipD xs ys) (fun S => G S ∧ G' S) S4 := rfl
theorem filt_take {α : Type} (P : α → Bool) (l : List α) {i : Nat} (h : i < l.length) : (l.take (i + 1)).filter P = (l.take i).filter P ++ (if P l[i] then [l[i]] else []) := by
  rw [List.take_succ_eq_append_getElem h, List.filter_append]
  congr 1
  rw [List.filter_cons]
  split <;> rfl
theorem lc_pure {β : Type} {l : List β} {f h : β → D} {P : β → Bool} {g : D → Env → Option Env} {t : MT} {e : ME} {G : Sto → Prop} {env : Env} {S : Sto} {Q : List D → Sto → Prop} (hz : l.length ≤ sizeLine) (hG : G S) (hs : ∀ b ∈ l, ∃ env1, g (f b) env = some env1 ∧ (∀ KT : Bool → Sto → Prop, KT (P b) S → t env1 S KT) ∧ (P b = true → ∀ K : MK, K (h b) S → e env1 S K)) (hQ : Q ((l.filter P).map h) S) :
    lcRun g t e G env (l.map f) [] S Q := by
  have key : ∀ n j, l.length - j = n → j ≤ l.length → lcRun g t e G env ((l.drop j).map f) (((l.take j).filter P).map h) S Q := by
    intro n
    induction n with
    | zero =>
      intro j e hj
      have : j = l.length := by omega
      subst this
      rw [List.drop_length, List.take_length]
      exact ⟨hG, hQ⟩
    | succ n ih =>
      intro j e hj
      have hj' : j < l.length := by omega
      rw [List.drop_eq_getElem_cons hj', List.map_cons]
      have ih' := ih (j + 1) (by omega) (by omega)
      rw [filt_take P l hj'] at ih'
      obtain ⟨env1, h1, h2, h3⟩ := hs _ (List.getElem_mem hj')
      refine ⟨hG, env1, h1, h2 _ ?_⟩
      cases hp : P l[j] with
      | false =>
        rw [hp] at ih'
        simp only [Bool.false_eq_true, if_false, List.append_nil] at ih' ⊢
        exact ih'
      | true =>
        rw [hp] at ih'
        simp only [if_true] at ih' ⊢
        refine h3 hp _ ⟨?_, ?_⟩
        · rw [List.length_map]
          have := List.length_filter_le P (l.take j)
          rw [List.length_take] at this
          omega
        · rw [List.map_append] at ih'
          exact ih'
  have := key l.length 0 rfl (Nat.zero_le _)
  rw [List.drop_zero, List.take_zero] at this
  exact this
theorem lc_all {β : Type} {l : List β} {f h : β → D} {g : D → Env → Option Env} {e : ME} {G : Sto → Prop} {env : Env} {S : Sto} {Q : List D → Sto → Prop} (hz : l.length ≤ sizeLine) (hG : G S) (hs : ∀ b ∈ l, ∃ env1, g (f b) env = some env1 ∧ ∀ K : MK, K (h b) S → e env1 S K) (hQ : Q (l.map h) S) :
    lcRun g (fun _ S R => R true S) e G env (l.map f) [] S Q := by
  refine lc_pure (P := fun _ => true) (h := h) hz hG (fun b hb => ?_) ?_
  · obtain ⟨env1, h1, h2⟩ := hs b hb
    exact ⟨env1, h1, fun KT h => h, fun _ => h2⟩
  · rw [List.filter_eq_self.mpr (fun _ _ => rfl)]
    exact hQ
theorem t_yes {Φ : Str → Option SpD} {Γ : Str → Option D} : wT Φ Γ .yes = fun _ S R => R true S := rfl
theorem len1 {α : Type} {l : List α} (h : l.length = 1) : ∃ a0, l = [a0] := by
  match l, h with | [a0], _ => exact ⟨a0, rfl⟩
abbrev LEnd : EndsD := ⟨fun _ _ => D.non = .bl true, fun d _ => d = .bl true, fun _ _ => False, fun _ _ => False⟩
theorem law_frame {Φ : Str → Option SpD} {Γ : Str → Option D} {c : List Sd} {N : List Str} {L T : Nat} {body rest : List Sd} (hc : c = .asg (.nm 1) (.lst [(.blt .list [(.var 0)]), (.cst (.int (0))), (.cst (.int (0)))]) :: .fr (.nm 2) (.rng (.cst (.int (T : Nat)))) body :: rest) (hN : N.length = L + 3) (hT : T ≤ 1000)
    (step : ∀ (S : Sto) (t : Addr) (k : Nat) (y0 y2 : Option D) (e : Env) (Nx : Env → Sto → Prop) (RT : D → Sto → Prop) (B : Env → Sto → Prop), e.length = L → TapeOk S t k → k ≤ 10 ^ 12 → (∀ S' e', e'.length = L → TapeOk S' t (k + 1000000) → Nx (y0 :: some (.ref t) :: y2 :: e') S') → wSs Φ Γ body ⟨Nx, RT, B, Nx⟩ (y0 :: some (.ref t) :: y2 :: e) S)
    (fin : ∀ (S : Sto) (e : Env), e.length = L + 3 → wSs Φ Γ rest LEnd e S) (ns : List Int) (hns : ns.length ≤ 63) : wDf Φ Γ ⟨N, 1, c⟩ [.rol (ns.map D.int)] (fun _ => none) fun d _ => d = .bl true := by
  refine ⟨rfl, ?_⟩
  subst hc
  show wSs Φ Γ _ _ ([some (.rol (ns.map D.int))] ++ List.replicate (N.length - 1) none) _
  rw [hN, show L + 3 - 1 = L + 1 + 1 by omega, List.replicate_succ, List.replicate_succ, List.singleton_append]
  rw [w_cons, w_asg]
  simp only [v_lst, v_blt, wEs, v_var, v_cst, List.length_cons, List.length_nil, Nat.reduceAdd, List.getD_cons_succ, List.getD_cons_zero]
  intro s hs
  refine ⟨show 3 ≤ sizeLine by decide, fun t ht => ⟨_, w_nm, ?_⟩⟩
  have st : s ≠ t := by rintro rfl; rw [up_same] at ht; cases ht
  have h0 : TapeOk (up (up (fun _ => none) s (.lst (ns.map D.int))) t (.lst [.ref s, .int 0, .int 0])) t 0 := ⟨s, ns, 0, 0, up_same, by rw [up_ne st]; exact up_same, st, Nat.le_refl _, Int.le_refl _⟩
  simp only [List.set_cons_succ, List.set_cons_zero]
  rw [w_cons, w_fr, sr_rng]
  refine ⟨by omega, by omega, ?_⟩
  have hl : ((List.range (T : Int).toNat).map fun (k : Nat) => D.int k).length = T := by simp
  refine fr_inv (fun i env S' => ∃ y2 e, env = some (.rol (ns.map D.int)) :: some (.ref t) :: y2 :: e ∧ e.length = L ∧ TapeOk S' t (i * 1000000)) (fun _ _ _ _ => trivial) (fun i hi env S' hI => ?_) (fun env S' hI => ?_) _ 0 _ _ rfl (Nat.zero_le _) ⟨_, _, rfl, List.length_replicate, h0.more (by omega)⟩
  · obtain ⟨y2, e, rfl, he, h1⟩ := hI
    rw [hl] at hi
    refine ⟨_, w_nm, fun Nx hN => ?_⟩
    simp only [List.set_cons_succ, List.set_cons_zero]
    refine step _ _ _ _ _ _ _ _ _ he h1 (by omega) fun S2 e2 he2 h2 => hN _ _ ⟨_, _, rfl, he2, h2.more (by omega)⟩
  · obtain ⟨y2, e, rfl, he, h1⟩ := hI
    exact fin _ _ (by simp only [List.length_cons]; omega)
theorem phi_at {tab : List (Str × Df)} {Γ : Str → Option D} {n i : Nat} {x y : Str} {df : Df} (h : (tab.map (·.1)).findIdx? (fun z => x == z) = some i) (e : tab[i]? = some (y, df)) : phi tab Γ (n + 1) x = some (wDf (phi tab Γ n) Γ df) := by
  have go : ∀ (tab : List (Str × Df)) (i : Nat), (tab.map (·.1)).findIdx? (fun z => x == z) = some i → tab[i]? = some (y, df) → tab.lookup x = some df := by
    intro tab
    induction tab with
    | nil => intro i h; cases h
    | cons p r ih =>
      intro i h e
      obtain ⟨z, dz⟩ := p
      rw [List.map_cons, List.findIdx?_cons] at h
      rw [List.lookup_cons]
      cases q : (x == z) with
      | true =>
        simp only [q, if_true] at h
        cases h
        cases e
        rfl
      | false =>
        simp only [q, Bool.false_eq_true, if_false] at h
        cases hj : (r.map (·.1)).findIdx? (fun z => x == z) with
        | none => rw [hj] at h; cases h
        | some j =>
          rw [hj] at h
          cases h
          exact ih j hj (by simpa using e)
  show Option.map _ _ = _
  rw [go tab i h e]
  rfl
section
variable {K : PySem.W.Frag} {mg : Str → Option Value} {h : Heap} {x : Str} {Γ : Str → Option D}
theorem gl_int (X : K.In h) (G : h.Ns mainGlobals mg) {i : Int} {t : Tok} (hΓ : Γ x = some (.int i)) (a1 : PySem.W.nsIn K mainGlobals x = some (some (.int i t))) : ∀ d, Γ x = some d → ∃ v u, mg x = some u ∧ RelV v u ∧ ∀ H, RD K H d v := fun d e => by
  rw [hΓ] at e
  cases e
  exact ⟨.int i, _, PySem.W.mg_of X G a1, ⟨t, rfl⟩, fun H => .int i⟩
theorem gl_str (X : K.In h) (G : h.Ns mainGlobals mg) {y : Str} {t : Tok} (hΓ : Γ x = some (.str y)) (a1 : PySem.W.nsIn K mainGlobals x = some (some (.str y t))) : ∀ d, Γ x = some d → ∃ v u, mg x = some u ∧ RelV v u ∧ ∀ H, RD K H d v := fun d e => by
  rw [hΓ] at e
  cases e
  exact ⟨.str y, _, PySem.W.mg_of X G a1, ⟨t, rfl⟩, fun H => .str y⟩
theorem gl_tup1 (X : K.In h) (G : h.Ns mainGlobals mg) {a : Addr} {y : Str} {t : Tok} {od : Option Addr} {n : Nat} {osl : Array (Option Value)} (hΓ : Γ x = some (.tup [.str y])) (a1 : PySem.W.nsIn K mainGlobals x = some (some (.ref a))) (l1 : K.lookup a = some ⟨.type "tuple", od, .seq #[.str y t] n, osl⟩) : ∀ d, Γ x = some d → ∃ v u, mg x = some u ∧ RelV v u ∧ ∀ H, RD K H d v := fun d e => by
  rw [hΓ] at e
  cases e
  refine ⟨.ref a, _, PySem.W.mg_of X G a1, rfl, fun H => .tup (.inr ⟨_, _, n, l1, rfl, rfl, show 1 ≤ sizeLine by decide, .cons (show RelV (.str y) (.str y t) from ⟨t, rfl⟩) .nil⟩) (.cons (.str y) .nil)⟩
end
mutual
theorem pd_refl : ∀ d : D, PyData.eqv d.pd d.pd = true
  | .non => by rw [D.pd, PyData.eqv]
  | .bl b => by rw [D.pd, PyData.eqv]; exact beq_self_eq_true b
  | .int i => by rw [D.pd, PyData.eqv]; exact beq_self_eq_true i
  | .str x => by rw [D.pd, PyData.eqv]; exact beq_self_eq_true x
  | .tup xs => by rw [D.pd, PyData.eqv]; exact pds_refl xs
  | .rol _ => by rw [D.pd, PyData.eqv]
  | .ref _ => by rw [D.pd, PyData.eqv]
theorem pds_refl : ∀ xs : List D, PyData.eqvAll (D.pds xs) (D.pds xs) = true
  | [] => by rw [D.pds, PyData.eqvAll]
  | x :: xs => by rw [D.pds, PyData.eqvAll, pd_refl x, pds_refl xs]; rfl
end
theorem gl_tup2 {K : PySem.W.Frag} {mg : Str → Option Value} {h : Heap} {x : Str} {Γ : Str → Option D} (X : K.In h) (G : h.Ns mainGlobals mg) {a : Addr} {y y2 : Str} {t t2 : Tok} {od : Option Addr} {n : Nat} {osl : Array (Option Value)} (hΓ : Γ x = some (.tup [.str y, .str y2])) (a1 : PySem.W.nsIn K mainGlobals x = some (some (.ref a))) (l1 : K.lookup a = some ⟨.type "tuple", od, .seq #[.str y t, .str y2 t2] n, osl⟩) : ∀ d, Γ x = some d → ∃ v u, mg x = some u ∧ RelV v u ∧ ∀ H, RD K H d v := fun d e => by
  rw [hΓ] at e
  cases e
  refine ⟨.ref a, _, PySem.W.mg_of X G a1, rfl, fun H => .tup (.inr ⟨_, _, n, l1, rfl, rfl, show 2 ≤ sizeLine by decide, .cons (show RelV (.str y) (.str y t) from ⟨t, rfl⟩) (.cons (show RelV (.str y2) (.str y2 t2) from ⟨t2, rfl⟩) .nil)⟩) (.cons (.str y) (.cons (.str y2) .nil))⟩
abbrev W := List Nat
abbrev LET : W := [97, 98, 99, 100, 101, 102, 103, 104, 105, 106, 107, 108, 109, 110, 111, 112, 113, 114, 115, 116, 117, 118, 119, 120, 121, 122]
abbrev DIG : W := [48, 49, 50, 51, 52, 53, 54, 55, 56, 57]
abbrev wFirst : W := [102, 105, 114, 115, 116]
abbrev wLongest : W := [108, 111, 110, 103, 101, 115, 116]
abbrev wPlan : W := [112, 108, 97, 110]
abbrev wLine : W := [108, 105, 110, 101]
abbrev wNobody : W := [110, 111, 98, 111, 100, 121]
def isW (x : W) : Bool := decide (1 ≤ x.length) && decide (x.length ≤ 8) && x.all fun c => decide (c ∈ LET)
def isNu (x : W) (m : Nat) : Bool := decide (x.length ≤ m) && x.all fun c => decide (c ∈ DIG)
def isUp : W → Bool
  | a :: b :: r => decide (a < b) && isUp (b :: r)
  | _ => true
def isH (x : W) : Bool := isNu x 10 && !decide (x = []) && isUp x
theorem lc_ext {β : Type} {l : List β} {f h : β → D} {g : D → Env → Option Env} {e : ME} {G : Sto → Prop} {env : Env} {S : Sto} {Q : List D → Sto → Prop} (hz : l.length ≤ sizeLine) (hG : ∀ S', Ext S S' → G S') (hs : ∀ b ∈ l, ∃ env1, g (f b) env = some env1 ∧ ∀ S' (K : MK), Ext S S' → (∀ S2, Ext S S2 → K (h b) S2) → e env1 S' K) (hQ : ∀ S', Ext S S' → Q (l.map h) S') :
    lcRun g (fun _ S R => R true S) e G env (l.map f) [] S Q := by
  have hl : (l.map f).length = l.length := List.length_map _
  refine lc_yes (xs := l.map f) (fun i acc S' => acc = (l.take i).map h ∧ Ext S S') (by rw [hl]; exact hz) (fun i acc S' ⟨e, _⟩ => ?_) (fun i acc S' hI => hG S' hI.2) (fun i hi acc S' ⟨e, x⟩ => ?_) (fun acc S' ⟨e, x⟩ => ?_) _ 0 [] S rfl (Nat.zero_le _) ⟨rfl, Ext.refl S⟩
  · rw [e, List.length_map, List.length_take]
    exact Nat.min_le_left _ _
  · subst e
    rw [hl] at hi
    rw [List.getElem_map]
    obtain ⟨env1, h1, h2⟩ := hs _ (List.getElem_mem hi)
    refine ⟨env1, h1, fun K hK => h2 S' K x fun S2 x2 => hK _ _ ⟨?_, x2⟩⟩
    rw [List.take_succ_eq_append_getElem hi, List.map_append]; rfl
  · subst e
    rw [hl, List.take_length]
    exact hQ S' x
theorem all_new {β : Type} {l : List β} {P : β → Bool} {S0 S : Sto} {R : MK} (x : Ext S0 S) (h : ∀ S', Ext S0 S' → R (.bl (l.all P)) S') : newL S (l.map fun b => D.bl (P b)) fun d S1 => bltD .all [d] S1 R := by
  intro p hp
  show lstAt _ _ _
  rw [lstAt_of up_same]
  refine ⟨l.map P, by have := all_bls (l.map P); rw [List.map_map] at this; exact this, ?_⟩
  have e : (l.map P).all id = l.all P := by rw [List.all_map]; rfl
  rw [e]
  exact h _ (x.trans (.new hp))
theorem chars_tx (x : W) : chars (tx x) = x.map fun c => D.str (tx [c]) := by
  unfold chars
  have : (tx x).cps.toList = x := tl_tx x
  rw [this]
theorem v_chn2 {Φ : Str → Option SpD} {Γ : Str → Option D} {a b c : Cd} {op op2 : CmpOp} {env : Env} {S : Sto} {R : MK} : wE Φ Γ (.chn op op2 a b c) env S R = wE Φ Γ a env S fun d S1 => wE Φ Γ b env S1 fun e S2 => cmpD op d e S2 fun z S3 => match z with
    | .bl true => wE Φ Γ c env S3 fun f S4 => cmpD op2 e f S4 R
    | .bl false => R (.bl false) S3
    | _ => False := rfl
theorem chn_le {S : Sto} {R : MK} {i j k : Int} (hR : R (.bl (decide (i ≤ j) && decide (j ≤ k))) S) : cmpD .LtE (.int i) (.int j) S (fun z S3 => match z with
    | .bl true => cmpD .LtE (.int j) (.int k) S3 R
    | .bl false => R (.bl false) S3
    | _ => False) := by
  rw [c_le]
  by_cases h : j < i
  · rw [decide_eq_true h]
    have : decide (i ≤ j) = false := decide_eq_false (by omega)
    rw [this] at hR
    exact hR
  · rw [decide_eq_false h]
    have e1 : decide (i ≤ j) = true := decide_eq_true (by omega)
    rw [e1, Bool.true_and] at hR
    show cmpD .LtE (.int j) (.int k) S R
    rw [c_le]
    by_cases q : k < j
    · rw [decide_eq_true q]
      have : decide (j ≤ k) = false := decide_eq_false (by omega)
      rw [this] at hR
      exact hR
    · rw [decide_eq_false q]
      have : decide (j ≤ k) = true := decide_eq_true (by omega)
      rw [this] at hR
      exact hR
theorem k_or2 {Φ : Str → Option SpD} {Γ : Str → Option D} {a b : Ct} {env : Env} {S : Sto} {F G : Sto → Prop} : wT Φ Γ (.or a b) env S (fun k S1 => if k = true then F S1 else G S1) = wT Φ Γ a env S fun k S1 => if k = true then F S1 else wT Φ Γ b env S1 fun k S2 => if k = true then F S2 else G S2 := rfl
theorem k_not2 {Φ : Str → Option SpD} {Γ : Str → Option D} {a : Ct} {env : Env} {S : Sto} {F G : Sto → Prop} : wT Φ Γ (.not a) env S (fun k S1 => if k = true then F S1 else G S1) = wT Φ Γ a env S fun k S1 => if k = true then G S1 else F S1 := by
  show wT Φ Γ a env S (fun k S1 => if (!k) = true then F S1 else G S1) = _
  congr 1
  funext k S1
  cases k <;> rfl
theorem ty_str {x : Str} {S : Sto} {k : Bool → Prop} (h : k true) : isiD (.str x) S [.str] k := h
theorem in_sg2 {c : Nat} {y : W} {S : Sto} {R : MK} (h : R (.bl (decide (c ∈ y))) S) : cmpD .In (.str (tx [c])) (.str (tx y)) S R := by
  refine ⟨c, rfl, ?_⟩
  have : (tx y).cps.toList = y := tl_tx y
  rw [this]; exact h
theorem up_zip : ∀ x : W, ((x.zip (x.drop 1)).all fun p => decide (p.1 < p.2)) = isUp x
  | [] => rfl
  | [a] => rfl
  | a :: b :: r => by
    have ih := up_zip (b :: r)
    show (decide (a < b) && ((b :: r).zip ((b :: r).drop 1)).all fun p => decide (p.1 < p.2)) = (decide (a < b) && isUp (b :: r))
    rw [ih]
theorem zip_tx : ∀ (x y : W), zipD (chars (tx x)) (chars (tx y)) = (x.zip y).map fun p => D.tup [.str (tx [p.1]), .str (tx [p.2])] := by
  intro x y
  rw [chars_tx, chars_tx]
  induction x generalizing y with
  | nil => rfl
  | cons a x ih =>
    cases y with
    | nil => rfl
    | cons b y => rw [List.map_cons, List.map_cons, List.zip_cons_cons, List.map_cons, ← ih y]; rfl
theorem cutS_from (x : W) (k : Nat) : cutS (tx x) (some (k : Int)) none = tx (x.drop k) := by
  refine str_eq ?_
  unfold cutS
  have e : (tx x).cps.toList = x := tl_tx x
  have e2 : (tx x).length = x.length := tx_len x
  show ((tx x).cps.toList.drop _).take _ = _
  rw [e, e2, HT.sIx_nat]
  show (x.drop (min k x.length)).take (x.length - min k x.length) = x.drop k
  by_cases h : k ≤ x.length
  · rw [Nat.min_eq_left h, List.take_of_length_le (by rw [List.length_drop]; exact Nat.le_refl _)]
  · rw [Nat.min_eq_right (by omega), List.drop_length, List.drop_of_length_le (by omega), List.take_nil]
theorem perm_len {α : Type} [DecidableEq α] : ∀ {as bs : List α}, as.Nodup → (∀ k ∈ as, k ∈ bs) → as.length = bs.length → bs.Perm as
  | [], bs, _, _, e => by
    have : bs = [] := List.length_eq_zero_iff.mp e.symm
    rw [this]
  | a :: as, bs, nd, h, e => by
    obtain ⟨n1, n2⟩ := List.nodup_cons.mp nd
    have hm := h a List.mem_cons_self
    have ih := perm_len (as := as) (bs := bs.erase a) n2 (fun k hk => (List.mem_erase_of_ne (by rintro rfl; exact n1 hk)).mpr (h k (List.mem_cons_of_mem _ hk))) (by
      rw [List.length_erase_of_mem hm, ← e, List.length_cons]; omega)
    exact (List.perm_cons_erase hm).trans (ih.cons a)
theorem nodup_iff {α : Type} [DecidableEq α] {ks ns : List α} (nd : ks.Nodup) (h : ∀ k, k ∈ ks ↔ k ∈ ns) : ks.length = ns.length ↔ ns.Nodup := by
  constructor
  · exact fun e => (perm_len nd (fun k hk => (h k).mp hk) e).nodup_iff.mpr nd
  · exact fun nd2 => Nat.le_antisymm (nodup_len nd fun k hk => (h k).mp hk) (nodup_len nd2 fun k hk => (h k).mpr hk)
theorem nodup_tx (l : List W) : (l.map tx).Nodup ↔ l.Nodup := by
  unfold List.Nodup
  rw [List.pairwise_map]
  exact ⟨fun h => h.imp fun q e => q (by rw [e]), fun h => h.imp fun q e => q (tx_inj e)⟩
theorem lc_acc2 {β : Type} {f h : β → D} {g : D → Env → Option Env} {e : ME} {G : Sto → Prop} {env : Env} {S : Sto} {Q : List D → Sto → Prop} (hG : G S) : ∀ {l : List β} {acc : List D}, acc.length + l.length ≤ sizeLine → (∀ b ∈ l, ∃ env1, g (f b) env = some env1 ∧ ∀ K : MK, K (h b) S → e env1 S K) → Q (acc ++ l.map h) S → lcRun g (fun _ S R => R true S) e G env (l.map f) acc S Q
  | [], acc, _, _, hQ => by
    rw [List.map_nil, List.append_nil] at hQ
    exact ⟨hG, hQ⟩
  | b :: l, acc, hz, hs, hQ => by
    obtain ⟨env1, h1, h2⟩ := hs b List.mem_cons_self
    rw [List.length_cons] at hz
    rw [List.map_cons]
    refine ⟨hG, env1, h1, ?_⟩
    show (if true = true then _ else _)
    rw [if_pos rfl]
    refine h2 _ ⟨by omega, ?_⟩
    refine lc_acc2 hG (by rw [List.length_append, List.length_singleton]; omega) (fun b hb => hs b (List.mem_cons_of_mem _ hb)) ?_
    rw [List.append_assoc]
    exact hQ
theorem flatL {α β : Type} {f : α → List β} {k : Nat} : ∀ {l : List α}, (∀ x ∈ l, (f x).length ≤ k) → (l.flatMap f).length ≤ l.length * k
  | [], _ => Nat.zero_le _
  | a :: l, h => by
    have ih := flatL (f := f) (l := l) fun x hx => h x (List.mem_cons_of_mem _ hx)
    have := h a List.mem_cons_self
    rw [List.flatMap_cons, List.length_append, List.length_cons, Nat.succ_mul]
    omega
end Mn

/-! arbitrary values, and what the checks say of them -/
namespace Mn
open PySem PySem.Spec L2
abbrev nIsWord : Str := tx [105, 115, 95, 119, 111, 114, 100]
abbrev nIsNumber : Str := tx [105, 115, 95, 110, 117, 109, 98, 101, 114]
abbrev nIsHead : Str := tx [105, 115, 95, 104, 101, 97, 100]
abbrev nIsGoal : Str := tx [105, 115, 95, 103, 111, 97, 108]
abbrev nIsRule : Str := tx [105, 115, 95, 114, 117, 108, 101]
abbrev nIsPlan : Str := tx [105, 115, 95, 112, 108, 97, 110]
abbrev nIsX : Str := tx [105, 115, 95, 101, 120, 99, 104, 97, 110, 103, 101]
abbrev nLETTERS : Str := tx [76, 69, 84, 84, 69, 82, 83]
abbrev nDIGITS : Str := tx [68, 73, 71, 73, 84, 83]
abbrev nORDERS : Str := tx [79, 82, 68, 69, 82, 83]
abbrev nMOST : Str := tx [77, 79, 83, 84, 95, 82, 85, 76, 69, 83]
abbrev nNOBODY : Str := tx [78, 79, 66, 79, 68, 89]
/-! pure checks -/
def pW : PyData → Bool
  | .str x => isW (tl x)
  | _ => false
def pN (k : Nat) : PyData → Bool
  | .str x => isNu (tl x) k
  | _ => false
def pH : PyData → Bool
  | .str x => isH (tl x)
  | _ => false
def pG : PyData → Bool
  | .tuple [.str a] => decide (tl a = wNobody)
  | .tuple [.str a, w] => decide (tl a = wLine ∨ tl a = wPlan) && pW w
  | _ => false
def isTupB : PyData → Bool
  | .tuple _ => true
  | _ => false
def tupL : PyData → List PyData
  | .tuple xs => xs
  | _ => []
def dropP (n : Nat) : PyData → Bool
  | .int d => decide (0 ≤ d) && decide (d ≤ n)
  | _ => false
def isBoolB : PyData → Bool
  | .bool _ => true
  | _ => false
def isStrB : PyData → Bool
  | .str _ => true
  | _ => false
def pR : PyData → Bool
  | .tuple [hs, more, d, put, g] => isTupB hs && (decide ((tupL hs).length ≤ 2) && ((tupL hs).all pH && (isBoolB more && (dropP (tupL hs).length d && (pN 3 put && pG g)))))
  | _ => false
def pO : PyData → Bool
  | .str o => decide (tl o = wFirst ∨ tl o = wLongest)
  | _ => false
def pP : PyData → Bool
  | .tuple [n, o, rs] => pW n && (pO o && (isTupB rs && (decide ((tupL rs).length ≤ 6) && (tupL rs).all pR)))
  | _ => false
def fld (i : Nat) (u : PyData) : PyData := (tupL u).getD i .none
def strW : PyData → W
  | .str x => tl x
  | _ => []
def namesP (ps : List PyData) : List W := ps.map fun p => strW (fld 0 p)
def goalsP (ps : List PyData) : List PyData := ps.flatMap fun p => (tupL (fld 2 p)).map (fld 4)
def goalIn (ns : List W) (g : PyData) : Bool := !decide (strW (fld 0 g) = wPlan) || decide (strW (fld 1 g) ∈ ns)
def pX : PyData → Bool
  | .tuple ps => decide (1 ≤ ps.length) && decide (ps.length ≤ 3) && ps.all pP && (decide (namesP ps).Nodup && (goalsP ps).all (goalIn (namesP ps)))
  | _ => false
/-! small values -/
mutual
def sm : PyData → Bool
  | .str x => decide ((tl x).length ≤ 5000) && (tl x).all fun c => decide (c < 0x110000)
  | .list us => decide (us.length ≤ 5000) && sms us
  | .tuple us => decide (us.length ≤ 5000) && sms us
  | .dict _ => false
  | _ => true
def sms : List PyData → Bool
  | [] => true
  | u :: us => sm u && sms us
end
theorem sms_mem : ∀ {us : List PyData}, sms us = true → ∀ u ∈ us, sm u = true
  | [], _, u, h => by cases h
  | a :: us, h, u, hu => by
    rw [sms, Bool.and_eq_true] at h
    rcases List.mem_cons.mp hu with rfl | hu
    · exact h.1
    · exact sms_mem h.2 u hu
/-! what a value is, under more things -/
mutual
theorem Den.ext {S S' : Sto} (x : Ext S S') : ∀ (u : PyData) {d : D}, Den S d u → Den S' d u
  | .none, _, h => by cases h; exact .non
  | .bool b, _, h => by cases h; exact .bl b
  | .int i, _, h => by cases h; exact .int i
  | .str y, _, h => by cases h; exact .str y
  | .tuple us, _, h => by
    cases h with
    | tup h => exact .tup (Dens.ext x us h)
  | .list us, _, h => by
    cases h with
    | ref e h => exact .ref (x _ _ e) (Dens.ext x us h)
  | .dict _, _, h => by cases h
theorem Dens.ext {S S' : Sto} (x : Ext S S') : ∀ (us : List PyData) {ds : List D}, Dens S ds us → Dens S' ds us
  | [], _, h => by cases h; exact .nil
  | u :: us, _, h => by
    cases h with
    | cons h1 h2 => exact .cons (Den.ext x u h1) (Dens.ext x us h2)
end
theorem Dens.length {S : Sto} : ∀ {ds : List D} {us : List PyData}, Dens S ds us → ds.length = us.length
  | _, _, .nil => rfl
  | _, _, .cons _ r => by rw [List.length_cons, List.length_cons, r.length]
theorem Dens.zip {S : Sto} : ∀ {ds : List D} {us : List PyData}, Dens S ds us → ∃ ps : List (D × PyData), ds = ps.map (·.1) ∧ us = ps.map (·.2) ∧ ∀ p ∈ ps, Den S p.1 p.2
  | _, _, .nil => ⟨[], rfl, rfl, fun _ h => nomatch h⟩
  | _, _, .cons h r => by
    obtain ⟨ps, rfl, rfl, hp⟩ := r.zip
    exact ⟨(_, _) :: ps, rfl, rfl, fun p hm => by
      rcases List.mem_cons.mp hm with rfl | hm
      · exact h
      · exact hp p hm⟩
/-- the kinds of a value -/
def isK : Ty → PyData → Bool
  | .tup, .tuple _ => true
  | .lst, .list _ => true
  | .str, .str _ => true
  | .int, .int _ => true
  | .int, .bool _ => true
  | .bool, .bool _ => true
  | _, _ => false
theorem isi_den {S : Sto} {d : D} {u : PyData} (h : Den S d u) {t : Ty} {k : Bool → Prop} (hk : k (isK t u)) : isiD d S [t] k := by
  cases h with
  | ref e _ =>
    refine ⟨_, e, ?_⟩
    cases t <;> exact hk
  | _ => cases t <;> exact hk
end Mn

namespace Mn
open PySem PySem.Spec L2
def n_is_word : List Str := [(tx [118, 97, 108, 117, 101]), (tx [46, 48]), (tx [108, 101, 116, 116, 101, 114])]
def c_is_word : List Sd :=
  [.ret (.and (.isi (.var 0) [.str]) (.and (.chn .LtE .LtE (.cst (.int (1))) (.blt .len [(.var 0)]) (.cst (.int (8)))) (.blt .all [(.lc [1, 2] (.cmp .In (.var 2) (.glb (tx [76, 69, 84, 84, 69, 82, 83]))) (.nm 2) (.it (.var 0)) .yes)])))]
def n_is_number : List Str := [(tx [118, 97, 108, 117, 101]), (tx [109, 111, 115, 116]), (tx [46, 48]), (tx [100, 105, 103, 105, 116])]
def c_is_number : List Sd :=
  [.ret (.and (.isi (.var 0) [.str]) (.and (.cmp .LtE (.blt .len [(.var 0)]) (.var 1)) (.blt .all [(.lc [2, 3] (.cmp .In (.var 3) (.glb (tx [68, 73, 71, 73, 84, 83]))) (.nm 3) (.it (.var 0)) .yes)])))]
def n_is_head : List Str := [(tx [118, 97, 108, 117, 101]), (tx [46, 48]), (tx [111, 110, 101]), (tx [111, 116, 104, 101, 114])]
def c_is_head : List Sd :=
  [.ite (.or (.not (.val (.call (tx [105, 115, 95, 110, 117, 109, 98, 101, 114]) [(.var 0), (.cst (.int (10)))]))) (.val (.cmp .Eq (.var 0) (.cst (.str (tx [])))))) [.ret (.cst (.bl false))] [], .ret (.blt .all [(.lc [1, 2, 3] (.cmp .Lt (.var 2) (.var 3)) (.tp [(.nm 2), (.nm 3)]) (.zip (.var 0) (.sli (.var 0) (.at (.cst (.int (1)))) .no)) .yes)])]
def n_is_goal : List Str := [(tx [118, 97, 108, 117, 101])]
def c_is_goal : List Sd :=
  [.ite (.or (.not (.val (.isi (.var 0) [.tup]))) (.or (.val (.cmp .Eq (.blt .len [(.var 0)]) (.cst (.int (0))))) (.not (.val (.isi (.idx (.var 0) (.cst (.int (0)))) [.str]))))) [.ret (.cst (.bl false))] [], .ret (.or (.cmp .Eq (.var 0) (.glb (tx [78, 79, 66, 79, 68, 89]))) (.and (.cmp .Eq (.blt .len [(.var 0)]) (.cst (.int (2)))) (.and (.cmp .In (.idx (.var 0) (.cst (.int (0)))) (.tup [(.cst (.str (tx [108, 105, 110, 101]))), (.cst (.str (tx [112, 108, 97, 110])))])) (.call (tx [105, 115, 95, 119, 111, 114, 100]) [(.idx (.var 0) (.cst (.int (1))))]))))]
def n_is_rule : List Str := [(tx [118, 97, 108, 117, 101]), (tx [104, 101, 97, 100, 115]), (tx [109, 111, 114, 101]), (tx [100, 114, 111, 112]), (tx [112, 117, 116]), (tx [103, 111, 97, 108]), (tx [46, 48]), (tx [104, 101, 97, 100])]
def c_is_rule : List Sd :=
  [.ite (.or (.not (.val (.isi (.var 0) [.tup]))) (.val (.cmp .NotEq (.blt .len [(.var 0)]) (.cst (.int (5)))))) [.ret (.cst (.bl false))] [], .asg (.tp [(.nm 1), (.nm 2), (.nm 3), (.nm 4), (.nm 5)]) (.var 0), .ite (.or (.not (.val (.isi (.var 1) [.tup]))) (.or (.val (.cmp .Gt (.blt .len [(.var 1)]) (.cst (.int (2))))) (.not (.val (.blt .all [(.lc [6, 7] (.call (tx [105, 115, 95, 104, 101, 97, 100]) [(.var 7)]) (.nm 7) (.it (.var 1)) .yes)]))))) [.ret (.cst (.bl false))] [], .ite (.or (.not (.val (.isi (.var 2) [.bool]))) (.or (.not (.val (.isi (.var 3) [.int]))) (.or (.val (.isi (.var 3) [.bool])) (.not (.val (.chn .LtE .LtE (.cst (.int (0))) (.var 3) (.blt .len [(.var 1)]))))))) [.ret (.cst (.bl false))] [], .ret (.and (.call (tx [105, 115, 95, 110, 117, 109, 98, 101, 114]) [(.var 4), (.cst (.int (3)))]) (.call (tx [105, 115, 95, 103, 111, 97, 108]) [(.var 5)]))]
def n_is_plan : List Str := [(tx [118, 97, 108, 117, 101]), (tx [110, 97, 109, 101]), (tx [111, 114, 100, 101, 114]), (tx [114, 117, 108, 101, 115]), (tx [46, 48]), (tx [114, 117, 108, 101])]
def c_is_plan : List Sd :=
  [.ite (.or (.not (.val (.isi (.var 0) [.tup]))) (.or (.val (.cmp .NotEq (.blt .len [(.var 0)]) (.cst (.int (3))))) (.not (.val (.call (tx [105, 115, 95, 119, 111, 114, 100]) [(.idx (.var 0) (.cst (.int (0))))]))))) [.ret (.cst (.bl false))] [], .asg (.tp [(.nm 1), (.nm 2), (.nm 3)]) (.var 0), .ite (.or (.not (.val (.isi (.var 2) [.str]))) (.or (.val (.cmp .NotIn (.var 2) (.glb (tx [79, 82, 68, 69, 82, 83])))) (.or (.not (.val (.isi (.var 3) [.tup]))) (.val (.cmp .Gt (.blt .len [(.var 3)]) (.glb (tx [77, 79, 83, 84, 95, 82, 85, 76, 69, 83]))))))) [.ret (.cst (.bl false))] [], .ret (.blt .all [(.lc [4, 5] (.call (tx [105, 115, 95, 114, 117, 108, 101]) [(.var 5)]) (.nm 5) (.it (.var 3)) .yes)])]
def n_is_exchange : List Str := [(tx [118, 97, 108, 117, 101]), (tx [110, 97, 109, 101, 115]), (tx [103, 111, 97, 108, 115]), (tx [46, 48]), (tx [112, 108, 97, 110]), (tx [114, 117, 108, 101]), (tx [103, 111, 97, 108])]
def c_is_exchange : List Sd :=
  [.ite (.or (.not (.val (.isi (.var 0) [.tup]))) (.or (.not (.val (.chn .LtE .LtE (.cst (.int (1))) (.blt .len [(.var 0)]) (.cst (.int (3)))))) (.not (.val (.blt .all [(.lc [3, 4] (.call (tx [105, 115, 95, 112, 108, 97, 110]) [(.var 4)]) (.nm 4) (.it (.var 0)) .yes)]))))) [.ret (.cst (.bl false))] [], .asg (.nm 1) (.lc [3, 4] (.idx (.var 4) (.cst (.int (0)))) (.nm 4) (.it (.var 0)) .yes), .asg (.nm 2) (.lc2 [3, 4, 5] [5] (.idx (.var 5) (.cst (.int (4)))) (.nm 4) (.it (.var 0)) .yes (.nm 5) (.it (.idx (.var 4) (.cst (.int (2))))) .yes), .ret (.and (.cmp .Eq (.ls (.var 1)) (.blt .len [(.var 1)])) (.blt .all [(.lc [3, 6] (.or (.cmp .NotEq (.idx (.var 6) (.cst (.int (0)))) (.cst (.str (tx [112, 108, 97, 110])))) (.cmp .In (.idx (.var 6) (.cst (.int (1)))) (.var 1))) (.nm 6) (.it (.var 2)) .yes)]))]
def WOk (x : W) : Prop := x.length ≤ 5000 ∧ ∀ c ∈ x, c < 0x110000
theorem WOk.txt {x : W} (h : WOk x) : (D.str (tx x)).txt = true := dig_txt fun c hc => by rw [tl_tx] at hc; exact h.2 c hc
theorem any_strs {x : W} {l : List W} (hx : WOk x) (hl : ∀ y ∈ l, WOk y) : ((l.map fun y => D.str (tx y)).any fun z => PyData.eqv z.pd (D.str (tx x)).pd) = decide (x ∈ l) := by
  rw [Bool.eq_iff_iff, decide_eq_true_iff, List.any_eq_true]
  constructor
  · rintro ⟨z, hz, e⟩
    obtain ⟨y, hy, rfl⟩ := List.mem_map.mp hz
    have := (txt_eqv (hl y hy).txt hx.txt).mp e
    rw [← tx_inj (str_inj this)]
    exact hy
  · exact fun hm => ⟨_, List.mem_map_of_mem hm, pd_refl _⟩
theorem all_flat (l : List W) : (l.map fun y => D.str (tx y)).all D.flat = true := by
  rw [List.all_map, List.all_eq_true]; exact fun _ _ => rfl
theorem in_tups {neg : Bool} {x : W} {l : List W} {S : Sto} {R : MK} (hx : WOk x) (hl : ∀ y ∈ l, WOk y) (h : R (.bl (if neg then !decide (x ∈ l) else decide (x ∈ l))) S) : inD neg (.str (tx x)) (.tup (l.map fun y => .str (tx y))) S R := by
  refine ⟨rfl, all_flat l, ?_⟩
  rw [any_strs hx hl]
  exact h
theorem in_tupsY {x : W} {l : List W} {S : Sto} {R : MK} (hx : WOk x) (hl : ∀ y ∈ l, WOk y) (h : R (.bl (decide (x ∈ l))) S) : cmpD .In (.str (tx x)) (.tup (l.map fun y => .str (tx y))) S R := in_tups (neg := false) hx hl h
theorem in_tupsN {x : W} {l : List W} {S : Sto} {R : MK} (hx : WOk x) (hl : ∀ y ∈ l, WOk y) (h : R (.bl (!decide (x ∈ l))) S) : cmpD .NotIn (.str (tx x)) (.tup (l.map fun y => .str (tx y))) S R := in_tups (neg := true) hx hl h
theorem w_okc {x : W} (h : x.all (fun c => decide (c < 128)) = true) (hl : x.length ≤ 5000) : WOk x := ⟨hl, fun c hc => by have := of_decide_eq_true (List.all_eq_true.mp h c hc); omega⟩
structure FamV (Φ : Nat → Str → Option SpD) (Γ : Str → Option D) : Prop where
  word : ∀ n, Φ (n + 1) nIsWord = some (wDf (Φ n) Γ ⟨n_is_word, 1, c_is_word⟩)
  number : ∀ n, Φ (n + 1) nIsNumber = some (wDf (Φ n) Γ ⟨n_is_number, 2, c_is_number⟩)
  head : ∀ n, Φ (n + 1) nIsHead = some (wDf (Φ n) Γ ⟨n_is_head, 1, c_is_head⟩)
  goal : ∀ n, Φ (n + 1) nIsGoal = some (wDf (Φ n) Γ ⟨n_is_goal, 1, c_is_goal⟩)
  rule : ∀ n, Φ (n + 1) nIsRule = some (wDf (Φ n) Γ ⟨n_is_rule, 1, c_is_rule⟩)
  plan : ∀ n, Φ (n + 1) nIsPlan = some (wDf (Φ n) Γ ⟨n_is_plan, 1, c_is_plan⟩)
  exch : ∀ n, Φ (n + 1) nIsX = some (wDf (Φ n) Γ ⟨n_is_exchange, 1, c_is_exchange⟩)
  gL : Γ nLETTERS = some (.str (tx LET))
  gD : Γ nDIGITS = some (.str (tx DIG))
  gO : Γ nORDERS = some (.tup [.str (tx wFirst), .str (tx wLongest)])
  gM : Γ nMOST = some (.int 6)
  gN : Γ nNOBODY = some (.tup [.str (tx wNobody)])
/-- a value that may be asked -/
structure Ok (u : PyData) : Prop where
  s : sm u = true
  d : u.depth ≤ 40
theorem depth_mem : ∀ {us : List PyData} {u : PyData}, u ∈ us → u.depth ≤ PyData.depthAll us
  | a :: us, u, h => by
    rw [PyData.depthAll]
    rcases List.mem_cons.mp h with rfl | h
    · omega
    · have := depth_mem h; omega
theorem Ok.tup {us : List PyData} (h : Ok (.tuple us)) : us.length ≤ 5000 ∧ ∀ u ∈ us, Ok u := by
  obtain ⟨s, d⟩ := h
  rw [sm, Bool.and_eq_true] at s
  rw [PyData.depth] at d
  exact ⟨of_decide_eq_true s.1, fun u hu => ⟨sms_mem s.2 u hu, by have := depth_mem hu; omega⟩⟩
theorem Ok.str {x : W} (h : Ok (.str (tx x))) : WOk x := by
  obtain ⟨s, d⟩ := h
  rw [sm, Bool.and_eq_true, tl_tx] at s
  exact ⟨of_decide_eq_true s.1, fun c hc => of_decide_eq_true (List.all_eq_true.mp s.2 c hc)⟩
mutual
theorem sm_lay : ∀ {u : PyData}, sm u = true → u.canLay0 = true
  | .none, _ => by rw [PyData.canLay0]
  | .bool _, _ => by rw [PyData.canLay0]
  | .int _, _ => by rw [PyData.canLay0]
  | .str x, h => by
    rw [sm, Bool.and_eq_true] at h
    exact dig_txt (x := x) fun c hc => of_decide_eq_true (List.all_eq_true.mp h.2 c hc)
  | .tuple us, h => by
    rw [sm, Bool.and_eq_true] at h
    rw [PyData.canLay0]; exact sms_lay h.2
  | .list us, h => by
    rw [sm, Bool.and_eq_true] at h
    rw [PyData.canLay0]; exact sms_lay h.2
  | .dict _, h => by simp [sm] at h
theorem sms_lay : ∀ {us : List PyData}, sms us = true → PyData.canLayAll0 us = true
  | [], _ => by rw [PyData.canLayAll0]
  | u :: us, h => by
    rw [sms, Bool.and_eq_true] at h
    rw [PyData.canLayAll0, sm_lay h.1, sms_lay h.2]; rfl
end
theorem str_of (y : Str) : ∃ x : W, y = tx x := ⟨tl y, (tx_tl y).symm⟩
/-- two values are compared -/
theorem eq_den {neg : Bool} {S : Sto} {d e : D} {u v : PyData} {R : MK} (hd : Den S d u) (he : Den S e v) (ou : Ok u) (ov : Ok v) (h : R (.bl (if neg then !PyData.eqv u v else PyData.eqv u v)) S) :
    contD d S fun u => contD e S fun v => R (.bl (if neg then !PyData.eqv u v else PyData.eqv u v)) S :=
  .inr ⟨u, hd, ou.d, sm_lay ou.s, .inr ⟨v, he, ov.d, sm_lay ov.s, h⟩⟩
theorem eq_tt {S : Sto} {xs ys : List D} {u v : PyData} {R : MK} (hd : Den S (.tup xs) u) (he : Den S (.tup ys) v) (ou : Ok u) (ov : Ok v) (h : R (.bl (PyData.eqv u v)) S) : cmpD .Eq (.tup xs) (.tup ys) S R := eq_den (neg := false) (R := R) hd he ou ov h
theorem eq_rr {S : Sto} {a b : Addr} {u v : PyData} {R : MK} (hd : Den S (.ref a) u) (he : Den S (.ref b) v) (ou : Ok u) (ov : Ok v) (h : R (.bl (PyData.eqv u v)) S) : cmpD .Eq (.ref a) (.ref b) S R := eq_den (neg := false) (R := R) hd he ou ov h
theorem ne_rr {S : Sto} {a b : Addr} {u v : PyData} {R : MK} (hd : Den S (.ref a) u) (he : Den S (.ref b) v) (ou : Ok u) (ov : Ok v) (h : R (.bl (!PyData.eqv u v)) S) : cmpD .NotEq (.ref a) (.ref b) S R := eq_den (neg := true) (R := R) hd he ou ov h
theorem pG_non {u : PyData} (h : isStrB u = false) (us : List PyData) : pG (.tuple (u :: us)) = false := by
  rcases us with _ | ⟨w, _ | ⟨v, r⟩⟩ <;> cases u <;> first | rfl | (simp [isStrB] at h)
theorem pG_two {a : W} {us : List PyData} (h : us.length ≠ 1) (h0 : us ≠ []) : pG (.tuple (.str (tx a) :: us)) = false := by
  rcases us with _ | ⟨w, _ | ⟨v, r⟩⟩
  · exact absurd rfl h0
  · exact absurd rfl h
  · rfl
theorem ifB {b : Bool} {A B : Prop} {i : Decidable (b = true)} (hb : b = false) (h : B) : @ite Prop (b = true) i A B := by
  subst hb
  rw [if_neg Bool.false_ne_true]; exact h
theorem isk_str {u : PyData} : isK .str u = isStrB u := by cases u <;> rfl
section
variable {Φ : Nat → Str → Option SpD} {Γ : Str → Option D} (fi : FamV Φ Γ)
include fi
theorem is_wordV {m : Nat} {d : D} {u : PyData} {S : Sto} (hd : Den S d u) (hs : Ok u) {R : MK} (hR : ∀ S', Ext S S' → R (.bl (pW u)) S') : wDf (Φ m) Γ ⟨n_is_word, 1, c_is_word⟩ [d] S R := by
  have sz : (16000000 : Nat) ≤ sizeLine := by decide
  refine ⟨rfl, ?_⟩
  simp only [c_is_word, n_is_word, List.map_cons, List.map_nil, List.length_cons, List.length_nil, List.replicate, List.cons_append, List.nil_append, Nat.reduceAdd, Nat.reduceSub]
  rw [w_cons, w_ret, v_and, v_isi]
  simp only [v_var, List.getD_cons_succ, List.getD_cons_zero]
  refine isi_den hd ?_
  cases hd with
  | str y =>
    obtain ⟨x, rfl⟩ := str_of y
    have hx := hs.str.1
    rw [show isK .str (.str (tx x)) = true from rfl, t_bl, if_pos rfl, v_and, v_chn2]
    simp only [v_cst, v_blt, wEs, v_var, List.getD_cons_succ, List.getD_cons_zero]
    refine ⟨by rw [tx_len]; omega, ?_⟩
    rw [tx_len]
    refine chn_le ?_
    rw [t_bl]
    have e : (decide ((1 : Int) ≤ (x.length : Nat)) && decide (((x.length : Nat) : Int) ≤ 8)) = (decide (1 ≤ x.length) && decide (x.length ≤ 8)) := by
      congr 1 <;> (congr 1; exact propext (by omega))
    rw [e]
    simp only [pW, tl_tx] at hR
    unfold isW at hR
    cases hb : (decide (1 ≤ x.length) && decide (x.length ≤ 8)) with
    | false =>
      rw [hb] at hR
      rw [if_neg Bool.false_ne_true]
      exact hR S (Ext.refl S)
    | true =>
      rw [hb] at hR
      rw [if_pos rfl, v_lc, sr_it]
      simp only [v_var, List.getD_cons_succ, List.getD_cons_zero]
      rw [it_txt, chars_tx, t_yes]
      have gL := fi.gL
      refine lc_ext (l := x) (h := fun c => .bl (decide (c ∈ LET))) (by omega) (fun _ _ => trivial) (fun c hc => ⟨_, w_nm, fun S' K x1 hK => ?_⟩) (fun S' x1 => all_new x1 hR)
      try simp only [wipeD]
      simp only [List.set_cons_succ, List.set_cons_zero, v_cmp, v_var, v_glb, List.getD_cons_succ, List.getD_cons_zero]
      exact ⟨_, gL, in_sg2 (hK S' x1)⟩
  | _ =>
    simp only [isK]
    rw [t_bl, if_neg Bool.false_ne_true]
    exact hR S (Ext.refl S)
theorem is_numberV {m k : Nat} {d : D} {u : PyData} {S : Sto} (hd : Den S d u) (hs : Ok u) {R : MK} (hR : ∀ S', Ext S S' → R (.bl (pN k u)) S') : wDf (Φ m) Γ ⟨n_is_number, 2, c_is_number⟩ [d, .int (k : Nat)] S R := by
  have sz : (16000000 : Nat) ≤ sizeLine := by decide
  refine ⟨rfl, ?_⟩
  simp only [c_is_number, n_is_number, List.map_cons, List.map_nil, List.length_cons, List.length_nil, List.replicate, List.cons_append, List.nil_append, Nat.reduceAdd, Nat.reduceSub]
  rw [w_cons, w_ret, v_and, v_isi]
  simp only [v_var, List.getD_cons_succ, List.getD_cons_zero]
  refine isi_den hd ?_
  cases hd with
  | str y =>
    obtain ⟨x, rfl⟩ := str_of y
    have hx := hs.str.1
    rw [show isK .str (.str (tx x)) = true from rfl, t_bl, if_pos rfl, v_and, v_cmp]
    simp only [v_cst, v_blt, wEs, v_var, List.getD_cons_succ, List.getD_cons_zero]
    refine ⟨by rw [tx_len]; omega, ?_⟩
    rw [tx_len]
    try dsimp only
    rw [c_le, t_bl]
    have e : (!decide (((k : Nat) : Int) < (x.length : Nat))) = decide (x.length ≤ k) := by
      by_cases q : x.length ≤ k
      · rw [decide_eq_true q, decide_eq_false (by omega)]; rfl
      · rw [decide_eq_false q, decide_eq_true (by omega)]; rfl
    rw [e]
    simp only [pN, tl_tx] at hR
    unfold isNu at hR
    cases hb : decide (x.length ≤ k) with
    | false =>
      rw [hb] at hR
      rw [if_neg Bool.false_ne_true]
      exact hR S (Ext.refl S)
    | true =>
      rw [hb] at hR
      rw [if_pos rfl, v_lc, sr_it]
      simp only [v_var, List.getD_cons_succ, List.getD_cons_zero]
      rw [it_txt, chars_tx, t_yes]
      have gD := fi.gD
      refine lc_ext (l := x) (h := fun c => .bl (decide (c ∈ DIG))) (by omega) (fun _ _ => trivial) (fun c hc => ⟨_, w_nm, fun S' K x1 hK => ?_⟩) (fun S' x1 => all_new x1 hR)
      try simp only [wipeD]
      simp only [List.set_cons_succ, List.set_cons_zero, v_cmp, v_var, v_glb, List.getD_cons_succ, List.getD_cons_zero]
      exact ⟨_, gD, in_sg2 (hK S' x1)⟩
  | _ =>
    simp only [isK]
    rw [t_bl, if_neg Bool.false_ne_true]
    exact hR S (Ext.refl S)
theorem is_headV {m : Nat} {d : D} {u : PyData} {S : Sto} (hd : Den S d u) (hs : Ok u) {R : MK} (hR : ∀ S', Ext S S' → R (.bl (pH u)) S') : wDf (Φ (m + 1)) Γ ⟨n_is_head, 1, c_is_head⟩ [d] S R := by
  have sz : (16000000 : Nat) ≤ sizeLine := by decide
  refine ⟨rfl, ?_⟩
  simp only [c_is_head, n_is_head, List.map_cons, List.map_nil, List.length_cons, List.length_nil, List.replicate, List.cons_append, List.nil_append, Nat.reduceAdd, Nat.reduceSub]
  rw [w_cons, w_ite]
  rw [k_or2, k_not2, k_val, v_call]
  simp only [wEs, v_var, v_cst, List.getD_cons_succ, List.getD_cons_zero]
  refine ⟨_, fi.number m, is_numberV fi (k := 10) hd hs fun S1 x1 => ?_⟩
  rw [t_bl]
  cases hd with
  | str y =>
    obtain ⟨x, rfl⟩ := str_of y
    have hx := hs.str.1
    simp only [pH, pN, tl_tx] at hR ⊢
    unfold isH at hR
    cases hb : isNu x 10 with
    | false =>
      rw [hb] at hR
      rw [if_neg Bool.false_ne_true, w_cons, w_ret, v_cst]
      exact hR S1 x1
    | true =>
      rw [hb] at hR
      rw [if_pos rfl, k_val, v_cmp]
      simp only [v_var, v_cst, List.getD_cons_succ, List.getD_cons_zero]
      rw [c_eqs, t_bl]
      by_cases q : x = []
      · subst q
        rw [decide_eq_true rfl] at hR
        have : decide (tx [] = tx []) = true := decide_eq_true rfl
        rw [this, if_pos rfl, w_cons, w_ret, v_cst]
        exact hR S1 x1
      · rw [decide_eq_false q] at hR
        have : decide (tx x = tx []) = false := decide_eq_false fun e => q (tx_inj e)
        rw [this, if_neg Bool.false_ne_true, w_nil]
        dsimp only
        rw [w_cons, w_ret, v_blt]
        simp only [wEs]
        rw [v_lc, sr_zip]
        simp only [v_sli, v_var, p_at, p_no, v_cst, List.getD_cons_succ, List.getD_cons_zero]
        refine ⟨by rw [tx_len]; omega, ?_⟩
        rw [show (1 : Int) = ((1 : Nat) : Int) from rfl, cutS_from]
        dsimp only
        rw [it_txt, it_txt, zip_tx, t_yes]
        refine lc_ext (l := x.zip (x.drop 1)) (h := fun p => .bl (decide (p.1 < p.2))) (by rw [List.length_zip]; omega) (fun _ _ => ⟨trivial, trivial⟩) (fun p hp => ⟨_, w_tp2, fun S' K x2 hK => ?_⟩) (fun S' x2 => all_new (x1.trans x2) (by rw [up_zip]; exact hR))
        try simp only [wipeD]
        simp only [List.set_cons_succ, List.set_cons_zero, v_cmp, v_var, List.getD_cons_succ, List.getD_cons_zero]
        show K (.bl (decide ((tx [p.1]).cps.toList < (tx [p.2]).cps.toList))) S'
        have : decide ((tx [p.1]).cps.toList < (tx [p.2]).cps.toList) = decide (p.1 < p.2) := by
          rw [Bool.eq_iff_iff, decide_eq_true_iff, decide_eq_true_iff]
          show [p.1] < [p.2] ↔ _
          rw [List.cons_lt_cons_iff]
          exact ⟨fun h => h.elim id fun h => absurd h.2 (List.lt_irrefl _), .inl⟩
        rw [this]
        exact hK S' x2
  | _ =>
    refine ifB rfl ?_
    rw [w_cons, w_ret, v_cst]
    exact hR S1 x1
theorem is_goalV {m : Nat} {d : D} {u : PyData} {S : Sto} (hd : Den S d u) (hs : Ok u) {R : MK} (hR : ∀ S', Ext S S' → R (.bl (pG u)) S') : wDf (Φ (m + 1)) Γ ⟨n_is_goal, 1, c_is_goal⟩ [d] S R := by
  have sz : (16000000 : Nat) ≤ sizeLine := by decide
  have gN := fi.gN
  refine ⟨rfl, ?_⟩
  simp only [c_is_goal, n_is_goal, List.map_cons, List.map_nil, List.length_cons, List.length_nil, List.replicate, List.cons_append, List.nil_append, Nat.reduceAdd, Nat.reduceSub]
  rw [w_cons, w_ite, k_or2, k_not2, k_val, v_isi]
  simp only [v_var, List.getD_cons_succ, List.getD_cons_zero]
  refine isi_den hd ?_
  cases hd with
  | @tup ds us h =>
    obtain ⟨hl, ho⟩ := hs.tup
    rw [show isK .tup (.tuple us) = true from rfl, t_bl, if_pos rfl, k_or2, k_val, v_cmp]
    simp only [v_blt, wEs, v_var, v_cst, List.getD_cons_succ, List.getD_cons_zero]
    rw [l_tup, h.length]
    try dsimp only
    rw [c_eqi, t_bl]
    cases h with
    | nil =>
      have : decide (((([] : List PyData).length : Nat) : Int) = 0) = true := by decide
      rw [this, if_pos rfl, w_cons, w_ret, v_cst]
      exact hR S (Ext.refl S)
    | @cons d1 ds u1 us h1 h2 =>
      have : decide ((((u1 :: us).length : Nat) : Int) = 0) = false := decide_eq_false (by rw [List.length_cons]; omega)
      rw [this, if_neg Bool.false_ne_true, k_not2, k_val, v_isi, v_idx]
      simp only [v_var, v_cst, List.getD_cons_succ, List.getD_cons_zero]
      refine ⟨_, atI_0, ?_⟩
      refine isi_den h1 ?_
      rw [isk_str]
      cases hsb : isStrB u1 with
      | false =>
        rw [t_bl, if_neg Bool.false_ne_true, w_cons, w_ret, v_cst]
        rw [pG_non hsb] at hR
        exact hR S (Ext.refl S)
      | true =>
        rw [t_bl, if_pos rfl, w_nil]
        cases h1 with
        | str y =>
          obtain ⟨a, rfl⟩ := str_of y
          try dsimp only
          rw [w_cons, w_ret, v_or, v_cmp]
          simp only [v_var, v_glb, List.getD_cons_succ, List.getD_cons_zero]
          refine ⟨_, gN, ?_⟩
          have on : Ok (.tuple [.str (tx wNobody)]) := ⟨by decide, by decide⟩
          refine eq_tt (.tup (.cons (.str _) h2)) (.tup (.cons (.str _) .nil)) hs on ?_
          have ee : PyData.eqv (.tuple (.str (tx a) :: us)) (.tuple [.str (tx wNobody)]) = (decide (a = wNobody) && us.isEmpty) := by
            rw [PyData.eqv, PyData.eqvAll, PyData.eqv]
            congr 1
            · rw [Bool.eq_iff_iff, beq_iff_eq, decide_eq_true_iff]
              exact ⟨tx_inj, fun h => by rw [h]⟩
            · cases us <;> rw [PyData.eqvAll] <;> rfl
          rw [ee, t_bl]
          cases hb : (decide (a = wNobody) && us.isEmpty) with
          | true =>
            rw [Bool.and_eq_true, List.isEmpty_iff] at hb
            obtain ⟨ha, rfl⟩ := hb
            rw [if_pos rfl]
            have : pG (.tuple [.str (tx a)]) = true := by simp only [pG, tl_tx]; exact ha
            rw [this] at hR
            exact hR S (Ext.refl S)
          | false =>
            rw [if_neg Bool.false_ne_true, v_and, v_cmp]
            simp only [v_blt, wEs, v_var, v_cst, List.getD_cons_succ, List.getD_cons_zero]
            rw [l_tup]
            try dsimp only
            rw [c_eqi, t_bl]
            have e2 : decide ((((D.str (tx a) :: ds).length : Nat) : Int) = 2) = decide (us.length = 1) := by
              rw [List.length_cons, h2.length]
              congr 1; exact propext (by omega)
            rw [e2]
            by_cases q : us.length = 1
            case neg =>
              rw [decide_eq_false q, if_neg Bool.false_ne_true]
              have : pG (.tuple (.str (tx a) :: us)) = false := by
                by_cases q0 : us = []
                · subst q0
                  simp only [pG, tl_tx]
                  rw [List.isEmpty_nil, Bool.and_true] at hb
                  exact hb
                · exact pG_two q q0
              rw [this] at hR
              exact hR S (Ext.refl S)
            rw [decide_eq_true q, if_pos rfl]
            obtain ⟨w, rfl⟩ := len1 q
            cases h2 with
            | @cons d2 ds2 _ _ g1 g2 =>
            cases g2
            rw [v_and, v_cmp, v_idx]
            simp only [v_var, v_cst, List.getD_cons_succ, List.getD_cons_zero]
            refine ⟨_, atI_0, ?_⟩
            simp only [v_tup, wEs, v_cst, List.length_cons, List.length_nil, Nat.reduceAdd, List.getD_cons_succ, List.getD_cons_zero]
            refine ⟨show 2 ≤ sizeLine by decide, ?_⟩
            have hl : ∀ y ∈ [wLine, wPlan], WOk y := fun y hy => by
              rcases List.mem_cons.mp hy with rfl | hy
              · exact w_okc (by decide) (by decide)
              · rw [List.mem_singleton.mp hy]; exact w_okc (by decide) (by decide)
            refine in_tupsY (l := [wLine, wPlan]) (ho _ List.mem_cons_self).str hl ?_
            rw [t_bl]
            have e3 : decide (a ∈ [wLine, wPlan]) = decide (a = wLine ∨ a = wPlan) := by
              congr 1; exact propext (by simp)
            rw [e3]
            have ep : pG (.tuple [.str (tx a), w]) = (decide (a = wLine ∨ a = wPlan) && pW w) := by simp only [pG, tl_tx]
            rw [ep] at hR
            cases hb2 : decide (a = wLine ∨ a = wPlan) with
            | false =>
              rw [hb2, Bool.false_and] at hR
              rw [if_neg Bool.false_ne_true]
              exact hR S (Ext.refl S)
            | true =>
              rw [hb2, Bool.true_and] at hR
              rw [if_pos rfl, v_call]
              simp only [wEs, v_idx]
              simp only [v_var, v_cst, List.getD_cons_succ, List.getD_cons_zero]
              exact ⟨_, atI_1, _, fi.word m, is_wordV fi g1 (ho w (by simp)) hR⟩
        | _ => simp [isStrB] at hsb
  | _ =>
    simp only [isK]
    rw [t_bl, if_neg Bool.false_ne_true, w_cons, w_ret, v_cst]
    exact hR S (Ext.refl S)
end
end Mn

namespace Mn
open PySem PySem.Spec L2
theorem pR_len {us : List PyData} (h : us.length ≠ 5) : pR (.tuple us) = false := by
  rcases us with _ | ⟨a, _ | ⟨b, _ | ⟨c, _ | ⟨d, _ | ⟨e, _ | ⟨f, r⟩⟩⟩⟩⟩⟩ <;> first | rfl | exact absurd rfl h
theorem len5 {α : Type} {l : List α} (h : l.length = 5) : ∃ a b c d e, l = [a, b, c, d, e] := by
  rcases l with _ | ⟨a, _ | ⟨b, _ | ⟨c, _ | ⟨d, _ | ⟨e, _ | ⟨f, r⟩⟩⟩⟩⟩⟩ <;> first | exact ⟨_, _, _, _, _, rfl⟩ | simp at h
theorem Dens.five {S : Sto} {ds : List D} {a b c d e : PyData} (h : Dens S ds [a, b, c, d, e]) : ∃ x1 x2 x3 x4 x5, ds = [x1, x2, x3, x4, x5] ∧ Den S x1 a ∧ Den S x2 b ∧ Den S x3 c ∧ Den S x4 d ∧ Den S x5 e := by
  cases h with | cons h1 h => cases h with | cons h2 h => cases h with | cons h3 h => cases h with | cons h4 h => cases h with | cons h5 h =>
  cases h
  exact ⟨_, _, _, _, _, rfl, h1, h2, h3, h4, h5⟩
theorem Dens.three {S : Sto} {ds : List D} {a b c : PyData} (h : Dens S ds [a, b, c]) : ∃ x1 x2 x3, ds = [x1, x2, x3] ∧ Den S x1 a ∧ Den S x2 b ∧ Den S x3 c := by
  cases h with | cons h1 h => cases h with | cons h2 h => cases h with | cons h3 h =>
  cases h
  exact ⟨_, _, _, rfl, h1, h2, h3⟩
theorem tup_of {u : PyData} (h : isTupB u = true) : ∃ l, u = .tuple l := by cases u <;> first | exact ⟨_, rfl⟩ | (simp [isTupB] at h)
theorem Den.tupD {S : Sto} {d : D} {us : List PyData} (h : Den S d (.tuple us)) : ∃ ds, d = .tup ds ∧ Dens S ds us := by
  cases h with
  | tup h => exact ⟨_, rfl, h⟩
theorem isk_tup {u : PyData} : isK .tup u = isTupB u := by cases u <;> rfl
theorem isk_bool {u : PyData} : isK .bool u = isBoolB u := by cases u <;> rfl
theorem dropP_bool {u : PyData} {n : Nat} (h : isBoolB u = true) : dropP n u = false := by cases u <;> first | rfl | (simp [isBoolB, isK] at h)
theorem dropP_non {u : PyData} {n : Nat} (h : isK .int u = false) : dropP n u = false := by cases u <;> first | rfl | (simp [isBoolB, isK] at h)
theorem ne_n {i j : Nat} {S : Sto} {R : MK} (h : R (.bl (!decide (i = j))) S) : cmpD .NotEq (.int (i : Nat)) (.int (j : Nat)) S R := by
  show R (.bl (!decide (((i : Nat) : Int) = ((j : Nat) : Int)))) S
  have : decide (((i : Nat) : Int) = ((j : Nat) : Int)) = decide (i = j) := by congr 1; exact propext (by omega)
  rw [this]; exact h
theorem gt_n {i j : Nat} {S : Sto} {R : MK} (h : R (.bl (!decide (i ≤ j))) S) : cmpD .Gt (.int (i : Nat)) (.int (j : Nat)) S R := by
  show R (.bl (decide (((j : Nat) : Int) < ((i : Nat) : Int)))) S
  have : decide (((j : Nat) : Int) < ((i : Nat) : Int)) = !decide (i ≤ j) := by
    by_cases q : i ≤ j
    · rw [decide_eq_true q, decide_eq_false (by omega)]; rfl
    · rw [decide_eq_false q, decide_eq_true (by omega)]; rfl
  rw [this]; exact h
theorem chn_len {S : Sto} {R : MK} {i j : Int} {xs : List D} (hR : R (.bl (decide (i ≤ j) && decide (j ≤ (xs.length : Nat)))) S) : cmpD .LtE (.int i) (.int j) S (fun z S3 => match z with
    | .bl true => bltD .len [.tup xs] S3 fun f S4 => cmpD .LtE (.int j) f S4 R
    | .bl false => R (.bl false) S3
    | _ => False) := chn_le (k := (xs.length : Nat)) hR
section
variable {Φ : Nat → Str → Option SpD} {Γ : Str → Option D} (fi : FamV Φ Γ)
include fi
theorem is_ruleV {m : Nat} {d : D} {u : PyData} {S : Sto} (hd : Den S d u) (hs : Ok u) {R : MK} (hR : ∀ S', Ext S S' → R (.bl (pR u)) S') : wDf (Φ (m + 2)) Γ ⟨n_is_rule, 1, c_is_rule⟩ [d] S R := by
  have sz : (16000000 : Nat) ≤ sizeLine := by decide
  refine ⟨rfl, ?_⟩
  simp only [c_is_rule, n_is_rule, List.map_cons, List.map_nil, List.length_cons, List.length_nil, List.replicate, List.cons_append, List.nil_append, Nat.reduceAdd, Nat.reduceSub]
  rw [w_cons, w_ite, k_or2, k_not2, k_val, v_isi]
  simp only [v_var, List.getD_cons_succ, List.getD_cons_zero]
  refine isi_den hd ?_
  cases hd with
  | @tup ds us h =>
    obtain ⟨hl, ho⟩ := hs.tup
    rw [show isK .tup (.tuple us) = true from rfl, t_bl, if_pos rfl, k_val, v_cmp]
    simp only [v_blt, wEs, v_var, v_cst, List.getD_cons_succ, List.getD_cons_zero]
    rw [l_tup, h.length]
    refine ne_n (j := 5) ?_
    rw [t_bl]
    by_cases q5 : us.length = 5
    case neg =>
      rw [decide_eq_false q5, show (!false) = true from rfl, if_pos rfl, w_cons, w_ret, v_cst]
      rw [pR_len q5] at hR
      exact hR S (Ext.refl S)
    rw [decide_eq_true q5, show (!true) = false from rfl, if_neg Bool.false_ne_true, w_nil]
    try dsimp only
    obtain ⟨hs', more, drop, put, goal, rfl⟩ := len5 q5
    obtain ⟨x1, x2, x3, x4, x5, rfl, g1, g2, g3, g4, g5⟩ := h.five
    have er : pR (.tuple [hs', more, drop, put, goal]) = (isTupB hs' && (decide ((tupL hs').length ≤ 2) && ((tupL hs').all pH && (isBoolB more && (dropP (tupL hs').length drop && (pN 3 put && pG goal)))))) := rfl
    rw [er] at hR
    rw [w_cons, w_asg, v_var]
    simp only [List.getD_cons_succ, List.getD_cons_zero]
    refine ⟨_, w_tp5, ?_⟩
    simp only [List.set_cons_succ, List.set_cons_zero]
    rw [w_cons, w_ite, k_or2, k_not2, k_val, v_isi]
    simp only [v_var, List.getD_cons_succ, List.getD_cons_zero]
    refine isi_den g1 ?_
    rw [isk_tup, t_bl]
    cases ht : isTupB hs' with
    | false =>
      rw [ht] at hR
      rw [if_neg Bool.false_ne_true, w_cons, w_ret, v_cst]
      exact hR S (Ext.refl S)
    | true =>
    rw [ht, Bool.true_and] at hR
    rw [if_pos rfl]
    obtain ⟨hus, rfl⟩ := tup_of ht
    obtain ⟨hds, rfl, g1'⟩ := g1.tupD
    rw [show tupL (.tuple hus) = hus from rfl] at hR
    have hok := (ho (.tuple hus) (by simp)).tup
    rw [k_or2, k_val, v_cmp]
    simp only [v_blt, wEs, v_var, v_cst, List.getD_cons_succ, List.getD_cons_zero]
    rw [l_tup, g1'.length]
    refine gt_n (j := 2) ?_
    rw [t_bl]
    by_cases q : hus.length ≤ 2
    case neg =>
      rw [decide_eq_false q] at hR ⊢
      rw [show (!false) = true from rfl, if_pos rfl, w_cons, w_ret, v_cst]
      exact hR S (Ext.refl S)
    rw [decide_eq_true q, Bool.true_and] at hR
    rw [decide_eq_true q, show (!true) = false from rfl, if_neg Bool.false_ne_true, k_not2, k_val, v_blt]
    simp only [wEs]
    rw [v_lc, sr_it]
    simp only [v_var, List.getD_cons_succ, List.getD_cons_zero]
    rw [t_yes]
    obtain ⟨ps, e1, e2, hp⟩ := g1'.zip
    subst e1 e2
    refine lc_ext (l := ps) (f := fun p => p.1) (h := fun p => .bl (pH p.2)) (by rw [List.length_map] at q; omega) (fun _ _ => trivial) (fun p hpm => ⟨_, w_nm, fun S' K x1 hK => ?_⟩) (fun S1 x1 => all_new x1 fun S2 x2 => ?_)
    · try simp only [wipeD]
      simp only [List.set_cons_succ, List.set_cons_zero, v_call, wEs, v_var, List.getD_cons_succ, List.getD_cons_zero]
      exact ⟨_, fi.head (m + 1), is_headV fi ((hp p hpm).ext x1) (hok.2 _ (List.mem_map_of_mem hpm)) fun S3 x3 => hK S3 (x1.trans x3)⟩
    rw [t_bl]
    have ea : (ps.all fun p => pH p.2) = (ps.map (·.2)).all pH := by rw [List.all_map]; rfl
    rw [ea]
    cases hb : (ps.map (·.2)).all pH with
    | false =>
      rw [hb] at hR
      rw [if_neg Bool.false_ne_true, w_cons, w_ret, v_cst]
      exact hR S2 x2
    | true =>
      rw [hb, Bool.true_and] at hR
      rw [if_pos rfl, w_nil]
      try dsimp only
      rw [w_cons, w_ite, k_or2, k_not2, k_val, v_isi]
      simp only [v_var, List.getD_cons_succ, List.getD_cons_zero]
      refine isi_den (g2.ext x2) ?_
      rw [isk_bool, t_bl]
      cases hm : isBoolB more with
      | false =>
        rw [hm] at hR
        rw [if_neg Bool.false_ne_true, w_cons, w_ret, v_cst]
        exact hR S2 x2
      | true =>
      rw [hm, Bool.true_and] at hR
      rw [if_pos rfl, k_or2, k_not2, k_val, v_isi]
      simp only [v_var, List.getD_cons_succ, List.getD_cons_zero]
      refine isi_den (g3.ext x2) ?_
      rw [t_bl]
      cases hi : isK .int drop with
      | false =>
        rw [dropP_non hi] at hR
        rw [if_neg Bool.false_ne_true, w_cons, w_ret, v_cst]
        exact hR S2 x2
      | true =>
      rw [if_pos rfl, k_or2, k_val, v_isi]
      simp only [v_var, List.getD_cons_succ, List.getD_cons_zero]
      refine isi_den (g3.ext x2) ?_
      rw [isk_bool, t_bl]
      cases hbb : isBoolB drop with
      | true =>
        rw [dropP_bool hbb] at hR
        rw [if_pos rfl, w_cons, w_ret, v_cst]
        exact hR S2 x2
      | false =>
      rw [if_neg Bool.false_ne_true, k_not2, k_val, v_chn2]
      cases g3 with
      | int i =>
        simp only [v_cst, v_var, v_blt, wEs, List.getD_cons_succ, List.getD_cons_zero]
        refine chn_len ?_
        rw [t_bl, List.length_map]
        rw [show dropP (ps.map (·.2)).length (.int i) = (decide (0 ≤ i) && decide (i ≤ ((ps.map (·.2)).length : Nat))) from rfl, List.length_map] at hR
        cases hd : (decide (0 ≤ i) && decide (i ≤ ((ps.length : Nat) : Int))) with
        | false =>
          rw [hd] at hR
          rw [if_neg Bool.false_ne_true, w_cons, w_ret, v_cst]
          exact hR S2 x2
        | true =>
          rw [hd, Bool.true_and] at hR
          rw [if_pos rfl, w_nil]
          try dsimp only
          rw [w_cons, w_ret, v_and, v_call]
          simp only [wEs, v_var, v_cst, List.getD_cons_succ, List.getD_cons_zero]
          refine ⟨_, fi.number (m + 1), is_numberV fi (k := 3) (g4.ext x2) (ho put (by simp)) fun S3 x3 => ?_⟩
          rw [t_bl]
          cases hpn : pN 3 put with
          | false =>
            rw [hpn] at hR
            rw [if_neg Bool.false_ne_true]
            exact hR S3 (x2.trans x3)
          | true =>
            rw [hpn, Bool.true_and] at hR
            rw [if_pos rfl, v_call]
            simp only [wEs, v_var, List.getD_cons_succ, List.getD_cons_zero]
            exact ⟨_, fi.goal (m + 1), is_goalV fi (g5.ext (x2.trans x3)) (ho goal (by simp)) fun S4 x4 => hR S4 ((x2.trans x3).trans x4)⟩
      | bl b => exact absurd hbb (by simp [isBoolB])
      | _ => exact absurd hi (by simp [isK])
  | _ =>
    simp only [isK]
    rw [t_bl, if_neg Bool.false_ne_true, w_cons, w_ret, v_cst]
    exact hR S (Ext.refl S)
end
end Mn

namespace Mn
open PySem PySem.Spec L2
theorem pP_len {us : List PyData} (h : us.length ≠ 3) : pP (.tuple us) = false := by
  rcases us with _ | ⟨a, _ | ⟨b, _ | ⟨c, _ | ⟨d, r⟩⟩⟩⟩ <;> first | rfl | exact absurd rfl h
theorem len3 {α : Type} {l : List α} (h : l.length = 3) : ∃ a b c, l = [a, b, c] := by
  rcases l with _ | ⟨a, _ | ⟨b, _ | ⟨c, _ | ⟨d, r⟩⟩⟩⟩ <;> first | exact ⟨_, _, _, rfl⟩ | simp at h
/-- what the checks leave -/
theorem pW_str {u : PyData} (h : pW u = true) : ∃ x, u = .str (tx x) ∧ isW x = true := by
  cases u <;> first | (simp [pW] at h; done) | skip
  rename_i y
  exact ⟨tl y, by rw [tx_tl], h⟩
theorem pO_str {u : PyData} (h : isStrB u = true) : ∃ x, u = .str (tx x) := by
  cases u <;> first | (simp [isStrB] at h; done) | skip
  rename_i y
  exact ⟨tl y, by rw [tx_tl]⟩
theorem pO_non {u : PyData} (h : isStrB u = false) : pO u = false := by cases u <;> first | rfl | (simp [isStrB] at h)
theorem pG_tup {u : PyData} (h : pG u = true) : (u = .tuple [.str (tx wNobody)]) ∨ ∃ a w, u = .tuple [.str (tx a), .str (tx w)] ∧ (a = wLine ∨ a = wPlan) ∧ isW w = true := by
  cases u <;> first | (simp [pG] at h; done) | skip
  rename_i us
  rcases us with _ | ⟨a, _ | ⟨b, _ | ⟨c, r⟩⟩⟩
  · simp [pG] at h
  · cases a <;> first | (simp [pG] at h; done) | skip
    rename_i y
    obtain ⟨x, rfl⟩ := str_of y
    simp only [pG, tl_tx, decide_eq_true_eq] at h
    subst h
    exact .inl rfl
  · cases a <;> first | (simp [pG] at h; done) | skip
    rename_i y
    obtain ⟨x, rfl⟩ := str_of y
    simp only [pG, tl_tx, Bool.and_eq_true, decide_eq_true_eq] at h
    obtain ⟨w, rfl, hw⟩ := pW_str h.2
    exact .inr ⟨x, w, rfl, h.1, hw⟩
  · cases a <;> simp [pG] at h
theorem pR_tup {u : PyData} (h : pR u = true) : ∃ a b c d g, u = .tuple [a, b, c, d, g] ∧ pG g = true := by
  cases u <;> first | (simp [pR] at h; done) | skip
  rename_i us
  by_cases q : us.length = 5
  · obtain ⟨a, b, c, d, g, rfl⟩ := len5 q
    simp only [pR, Bool.and_eq_true] at h
    exact ⟨_, _, _, _, _, rfl, h.2.2.2.2.2.2⟩
  · rw [pR_len q] at h; cases h
theorem pP_tup {u : PyData} (h : pP u = true) : ∃ n o rs, u = .tuple [.str (tx n), o, .tuple rs] ∧ isW n = true ∧ rs.length ≤ 6 ∧ ∀ r ∈ rs, pR r = true := by
  cases u <;> first | (simp [pP] at h; done) | skip
  rename_i us
  by_cases q : us.length = 3
  · obtain ⟨n, o, rs, rfl⟩ := len3 q
    simp only [pP, Bool.and_eq_true, decide_eq_true_eq] at h
    obtain ⟨h1, h2, h3, h4, h5⟩ := h
    obtain ⟨x, rfl, hw⟩ := pW_str h1
    obtain ⟨l, rfl⟩ := tup_of h3
    exact ⟨x, o, l, rfl, hw, h4, List.all_eq_true.mp h5⟩
  · rw [pP_len q] at h; cases h
theorem let_in {x : W} (h : isW x = true) : WOk x := by
  unfold isW at h
  simp only [Bool.and_eq_true, decide_eq_true_eq, List.all_eq_true] at h
  refine ⟨by omega, fun c hc => ?_⟩
  have h2 := h.2 c hc
  have : ∀ c ∈ LET, c < 0x110000 := by decide
  exact this c h2
section
variable {Φ : Nat → Str → Option SpD} {Γ : Str → Option D} (fi : FamV Φ Γ)
include fi
theorem is_planV {m : Nat} {d : D} {u : PyData} {S : Sto} (hd : Den S d u) (hs : Ok u) {R : MK} (hR : ∀ S', Ext S S' → R (.bl (pP u)) S') : wDf (Φ (m + 3)) Γ ⟨n_is_plan, 1, c_is_plan⟩ [d] S R := by
  have sz : (16000000 : Nat) ≤ sizeLine := by decide
  have gO := fi.gO
  have gM := fi.gM
  refine ⟨rfl, ?_⟩
  simp only [c_is_plan, n_is_plan, List.map_cons, List.map_nil, List.length_cons, List.length_nil, List.replicate, List.cons_append, List.nil_append, Nat.reduceAdd, Nat.reduceSub]
  rw [w_cons, w_ite, k_or2, k_not2, k_val, v_isi]
  simp only [v_var, List.getD_cons_succ, List.getD_cons_zero]
  refine isi_den hd ?_
  cases hd with
  | @tup ds us h =>
    obtain ⟨hl, ho⟩ := hs.tup
    rw [show isK .tup (.tuple us) = true from rfl, t_bl, if_pos rfl, k_or2, k_val, v_cmp]
    simp only [v_blt, wEs, v_var, v_cst, List.getD_cons_succ, List.getD_cons_zero]
    rw [l_tup, h.length]
    refine ne_n (j := 3) ?_
    rw [t_bl]
    by_cases q3 : us.length = 3
    case neg =>
      rw [decide_eq_false q3, show (!false) = true from rfl, if_pos rfl, w_cons, w_ret, v_cst]
      rw [pP_len q3] at hR
      exact hR S (Ext.refl S)
    rw [decide_eq_true q3, show (!true) = false from rfl, if_neg Bool.false_ne_true, k_not2, k_val, v_call]
    obtain ⟨n, o, rs, rfl⟩ := len3 q3
    obtain ⟨y1, y2, y3, rfl, g1, g2, g3⟩ := h.three
    have er : pP (.tuple [n, o, rs]) = (pW n && (pO o && (isTupB rs && (decide ((tupL rs).length ≤ 6) && (tupL rs).all pR)))) := rfl
    rw [er] at hR
    simp only [wEs, v_idx]
    simp only [v_var, v_cst, List.getD_cons_succ, List.getD_cons_zero]
    refine ⟨_, atI_0, _, fi.word (m + 2), is_wordV fi g1 (ho n (by simp)) fun S1 x1 => ?_⟩
    rw [t_bl]
    cases hw : pW n with
    | false =>
      rw [hw] at hR
      rw [if_neg Bool.false_ne_true, w_cons, w_ret, v_cst]
      exact hR S1 x1
    | true =>
    rw [hw, Bool.true_and] at hR
    rw [if_pos rfl, w_nil]
    try dsimp only
    rw [w_cons, w_asg, v_var]
    simp only [List.getD_cons_succ, List.getD_cons_zero]
    refine ⟨_, w_tp3, ?_⟩
    simp only [List.set_cons_succ, List.set_cons_zero]
    rw [w_cons, w_ite, k_or2, k_not2, k_val, v_isi]
    simp only [v_var, List.getD_cons_succ, List.getD_cons_zero]
    refine isi_den (g2.ext x1) ?_
    rw [isk_str, t_bl]
    cases hst : isStrB o with
    | false =>
      rw [pO_non hst] at hR
      rw [if_neg Bool.false_ne_true, w_cons, w_ret, v_cst]
      exact hR S1 x1
    | true =>
    rw [if_pos rfl, k_or2, k_val, v_cmp]
    simp only [v_var, v_glb, List.getD_cons_succ, List.getD_cons_zero]
    refine ⟨_, gO, ?_⟩
    have hlo : ∀ y ∈ [wFirst, wLongest], WOk y := fun y hy => by
      rcases List.mem_cons.mp hy with rfl | hy
      · exact w_okc (by decide) (by decide)
      · rw [List.mem_singleton.mp hy]; exact w_okc (by decide) (by decide)
    obtain ⟨x, rfl⟩ := pO_str hst
    cases g2 with
    | str =>
    refine in_tupsN (l := [wFirst, wLongest]) (ho _ (by simp)).str hlo ?_
    rw [t_bl]
    have e1 : decide (x ∈ [wFirst, wLongest]) = pO (.str (tx x)) := by
      simp only [pO, tl_tx]
      congr 1; exact propext (by simp)
    rw [e1]
    cases hpo : pO (.str (tx x)) with
    | false =>
      rw [hpo] at hR
      rw [show (!false) = true from rfl, if_pos rfl, w_cons, w_ret, v_cst]
      exact hR S1 x1
    | true =>
      rw [hpo, Bool.true_and] at hR
      rw [show (!true) = false from rfl, if_neg Bool.false_ne_true, k_or2, k_not2, k_val, v_isi]
      simp only [v_var, List.getD_cons_succ, List.getD_cons_zero]
      refine isi_den (g3.ext x1) ?_
      rw [isk_tup, t_bl]
      cases ht : isTupB rs with
      | false =>
        rw [ht] at hR
        rw [if_neg Bool.false_ne_true, w_cons, w_ret, v_cst]
        exact hR S1 x1
      | true =>
      rw [ht, Bool.true_and] at hR
      obtain ⟨rus, rfl⟩ := tup_of ht
      obtain ⟨rds, rfl, g3'⟩ := g3.tupD
      have hok := (ho (.tuple rus) (by simp)).tup
      rw [show tupL (.tuple rus) = rus from rfl] at hR
      rw [if_pos rfl, k_val, v_cmp]
      simp only [v_blt, wEs, v_var, v_glb, List.getD_cons_succ, List.getD_cons_zero]
      rw [l_tup, g3'.length]
      try dsimp only
      refine ⟨_, gM, ?_⟩
      refine gt_n (j := 6) ?_
      rw [t_bl]
      by_cases q : rus.length ≤ 6
      case neg =>
        rw [decide_eq_false q] at hR ⊢
        rw [show (!false) = true from rfl, if_pos rfl, w_cons, w_ret, v_cst]
        exact hR S1 x1
      rw [decide_eq_true q, Bool.true_and] at hR
      rw [decide_eq_true q, show (!true) = false from rfl, if_neg Bool.false_ne_true, w_nil]
      try dsimp only
      rw [w_cons, w_ret, v_blt]
      simp only [wEs]
      rw [v_lc, sr_it]
      simp only [v_var, List.getD_cons_succ, List.getD_cons_zero]
      rw [t_yes]
      obtain ⟨ps, e1, e2, hp⟩ := g3'.zip
      subst e1 e2
      have ea : (ps.all fun p => pR p.2) = (ps.map (·.2)).all pR := by rw [List.all_map]; rfl
      refine lc_ext (l := ps) (f := fun p => p.1) (h := fun p => .bl (pR p.2)) (by rw [List.length_map] at q; omega) (fun _ _ => trivial) (fun p hpm => ⟨_, w_nm, fun S' K x2 hK => ?_⟩) (fun S2 x2 => all_new (x1.trans x2) (by rw [ea]; exact hR))
      try simp only [wipeD]
      simp only [List.set_cons_succ, List.set_cons_zero, v_call, wEs, v_var, List.getD_cons_succ, List.getD_cons_zero]
      exact ⟨_, fi.rule (m + 2), is_ruleV fi ((hp p hpm).ext (x1.trans x2)) (hok.2 _ (List.mem_map_of_mem hpm)) fun S3 x3 => hK S3 (x2.trans x3)⟩
  | _ =>
    simp only [isK]
    rw [t_bl, if_neg Bool.false_ne_true, w_cons, w_ret, v_cst]
    exact hR S (Ext.refl S)
end
end Mn

namespace Mn
open PySem PySem.Spec L2
def encW (g : List W) : D := .tup (g.map fun x => .str (tx x))
def uW (g : List W) : PyData := .tuple (g.map fun x => .str (tx x))
def GoodG (g : List W) : Prop := g = [wNobody] ∨ ∃ a w, g = [a, w] ∧ (a = wLine ∨ a = wPlan) ∧ isW w = true
structure QR where
  a : D
  b : D
  c : D
  d : D
  ua : PyData
  ub : PyData
  uc : PyData
  ud : PyData
  g : List W
def QR.enc (r : QR) : D := .tup [r.a, r.b, r.c, r.d, encW r.g]
def QR.u (r : QR) : PyData := .tuple [r.ua, r.ub, r.uc, r.ud, uW r.g]
structure QP where
  name : W
  o : D
  uo : PyData
  rs : List QR
def QP.enc (p : QP) : D := .tup [.str (tx p.name), p.o, .tup (p.rs.map QR.enc)]
def QP.u (p : QP) : PyData := .tuple [.str (tx p.name), p.uo, .tuple (p.rs.map QR.u)]
structure QPOk (p : QP) : Prop where
  name : isW p.name = true
  few : p.rs.length ≤ 6
  goals : ∀ r ∈ p.rs, GoodG r.g
theorem den_uW {S : Sto} {d : D} : ∀ {g : List W}, Den S d (uW g) → d = encW g := by
  intro g h
  obtain ⟨ds, rfl, h'⟩ := h.tupD
  unfold encW
  congr 1
  clear h
  induction g generalizing ds with
  | nil => cases h'; rfl
  | cons x g ih =>
    rw [List.map_cons] at h'
    cases h' with
    | cons h1 h2 =>
      cases h1
      rw [List.map_cons, ih _ h2]
theorem pG_good {u : PyData} (h : pG u = true) : ∃ g, u = uW g ∧ GoodG g := by
  rcases pG_tup h with rfl | ⟨a, w, rfl, ha, hw⟩
  · exact ⟨[wNobody], rfl, .inl rfl⟩
  · exact ⟨[a, w], rfl, .inr ⟨a, w, rfl, ha, hw⟩⟩
theorem qr_of {S : Sto} : ∀ {us : List PyData} {ds : List D}, Dens S ds us → (∀ u ∈ us, pR u = true) → ∃ rs : List QR, ds = rs.map QR.enc ∧ us = rs.map QR.u ∧ ∀ r ∈ rs, GoodG r.g
  | _, _, .nil, _ => ⟨[], rfl, rfl, fun _ h => nomatch h⟩
  | _, _, .cons h r, hp => by
    obtain ⟨rs, rfl, rfl, hg⟩ := qr_of r fun u hu => hp u (List.mem_cons_of_mem _ hu)
    obtain ⟨a, b, c, d, g, rfl, h5⟩ := pR_tup (hp _ List.mem_cons_self)
    obtain ⟨ds, rfl, h'⟩ := h.tupD
    obtain ⟨x1, x2, x3, x4, x5, rfl, _, _, _, _, g5⟩ := h'.five
    obtain ⟨gl, rfl, gg⟩ := pG_good h5
    rw [den_uW g5]
    exact ⟨⟨x1, x2, x3, x4, a, b, c, d, gl⟩ :: rs, rfl, rfl, fun r hr => by
      rcases List.mem_cons.mp hr with rfl | hr
      · exact gg
      · exact hg r hr⟩
theorem qp_of {S : Sto} : ∀ {us : List PyData} {ds : List D}, Dens S ds us → (∀ u ∈ us, pP u = true) → ∃ ps : List QP, ds = ps.map QP.enc ∧ us = ps.map QP.u ∧ ∀ p ∈ ps, QPOk p
  | _, _, .nil, _ => ⟨[], rfl, rfl, fun _ h => nomatch h⟩
  | _, _, .cons h r, hp => by
    obtain ⟨ps, rfl, rfl, hg⟩ := qp_of r fun u hu => hp u (List.mem_cons_of_mem _ hu)
    obtain ⟨n, o, rus, rfl, hw, h6, hr⟩ := pP_tup (hp _ List.mem_cons_self)
    obtain ⟨ds, rfl, h'⟩ := h.tupD
    obtain ⟨x1, x2, x3, rfl, g1, g2, g3⟩ := h'.three
    obtain ⟨rds, rfl, g3'⟩ := g3.tupD
    obtain ⟨rs, rfl, rfl, hgr⟩ := qr_of g3' hr
    cases g1
    exact ⟨⟨n, x2, o, rs⟩ :: ps, rfl, rfl, fun p hpm => by
      rcases List.mem_cons.mp hpm with rfl | hpm
      · exact ⟨hw, by rw [List.length_map] at h6; exact h6, hgr⟩
      · exact hg p hpm⟩
def goalsQ (ps : List QP) : List (List W) := ps.flatMap fun p => p.rs.map QR.g
theorem namesP_q (ps : List QP) : namesP (ps.map QP.u) = ps.map QP.name := by
  unfold namesP
  rw [List.map_map]
  refine List.map_congr_left fun p _ => ?_
  show tl (tx p.name) = p.name
  exact tl_tx _
theorem goalsP_q (ps : List QP) : goalsP (ps.map QP.u) = (goalsQ ps).map uW := by
  unfold goalsP goalsQ
  rw [List.flatMap_map, List.map_flatMap]
  congr 1
  funext p
  show ((p.rs.map QR.u).map (fld 4)) = _
  rw [List.map_map, List.map_map]
  rfl
theorem goalIn_q {ns : List W} {g : List W} (h : GoodG g) : goalIn ns (uW g) = (!decide (g.headD [] = wPlan) || decide (g.getD 1 [] ∈ ns)) := by
  rcases h with rfl | ⟨a, w, rfl, _, _⟩
  · have h1 : strW (fld 0 (uW [wNobody])) = wNobody := tl_tx _
    unfold goalIn
    rw [h1]
    rfl
  · have h1 : strW (fld 0 (uW [a, w])) = a := tl_tx _
    have h2 : strW (fld 1 (uW [a, w])) = w := tl_tx _
    unfold goalIn
    rw [h1, h2]
    rfl
section
variable {Φ : Nat → Str → Option SpD} {Γ : Str → Option D} (fi : FamV Φ Γ)
include fi
theorem is_exchV {m : Nat} {d : D} {u : PyData} {S : Sto} (hd : Den S d u) (hs : Ok u) {R : MK} (hR : ∀ S', Ext S S' → R (.bl (pX u)) S') : wDf (Φ (m + 4)) Γ ⟨n_is_exchange, 1, c_is_exchange⟩ [d] S R := by
  have sz : (16000000 : Nat) ≤ sizeLine := by decide
  refine ⟨rfl, ?_⟩
  simp only [c_is_exchange, n_is_exchange, List.map_cons, List.map_nil, List.length_cons, List.length_nil, List.replicate, List.cons_append, List.nil_append, Nat.reduceAdd, Nat.reduceSub]
  rw [w_cons, w_ite, k_or2, k_not2, k_val, v_isi]
  simp only [v_var, List.getD_cons_succ, List.getD_cons_zero]
  refine isi_den hd ?_
  cases hd with
  | @tup ds us h =>
    obtain ⟨hl, ho⟩ := hs.tup
    rw [show isK .tup (.tuple us) = true from rfl, t_bl, if_pos rfl, k_or2, k_not2, k_val, v_chn2]
    simp only [v_blt, wEs, v_var, v_cst, List.getD_cons_succ, List.getD_cons_zero]
    rw [l_tup, h.length]
    refine chn_le ?_
    rw [t_bl]
    have e1 : (decide ((1 : Int) ≤ (us.length : Nat)) && decide (((us.length : Nat) : Int) ≤ 3)) = (decide (1 ≤ us.length) && decide (us.length ≤ 3)) := by
      congr 1 <;> (congr 1; exact propext (by omega))
    rw [e1]
    rw [show pX (.tuple us) = (decide (1 ≤ us.length) && decide (us.length ≤ 3) && us.all pP && (decide (namesP us).Nodup && (goalsP us).all (goalIn (namesP us)))) from rfl] at hR
    cases hb : (decide (1 ≤ us.length) && decide (us.length ≤ 3)) with
    | false =>
      rw [hb] at hR
      rw [if_neg Bool.false_ne_true, w_cons, w_ret, v_cst]
      exact hR S (Ext.refl S)
    | true =>
    have h3 : us.length ≤ 3 := by
      rw [Bool.and_eq_true] at hb
      exact of_decide_eq_true hb.2
    rw [hb, Bool.true_and] at hR
    rw [if_pos rfl, k_not2, k_val, v_blt]
    simp only [wEs]
    rw [v_lc, sr_it]
    simp only [v_var, List.getD_cons_succ, List.getD_cons_zero]
    rw [t_yes]
    obtain ⟨zs, z1, z2, hz⟩ := h.zip
    have ea : (zs.all fun p => pP p.2) = us.all pP := by rw [z2, List.all_map]; rfl
    have zl : zs.length = us.length := by rw [z2, List.length_map]
    show lcRun _ _ _ (fun _ => True) _ ds [] S _
    rw [z1]
    refine lc_ext (l := zs) (f := fun p => p.1) (h := fun p => .bl (pP p.2)) (by omega) (fun _ _ => trivial) (fun p hpm => ⟨_, w_nm, fun S' K x1 hK => ?_⟩) (fun S1 x1 => all_new x1 fun S2 x2 => ?_)
    · try simp only [wipeD]
      simp only [List.set_cons_succ, List.set_cons_zero, v_call, wEs, v_var, List.getD_cons_succ, List.getD_cons_zero]
      exact ⟨_, fi.plan (m + 3), is_planV fi ((hz p hpm).ext x1) (ho _ (by rw [z2]; exact List.mem_map_of_mem hpm)) fun S3 x3 => hK S3 (x1.trans x3)⟩
    rw [t_bl, ea, ← z1]
    cases ha : us.all pP with
    | false =>
      rw [ha] at hR
      rw [if_neg Bool.false_ne_true, w_cons, w_ret, v_cst]
      exact hR S2 x2
    | true =>
    rw [ha, Bool.true_and] at hR
    clear z1 z2 hz ea zl
    obtain ⟨ps, rfl, rfl, okp⟩ := qp_of h (List.all_eq_true.mp ha)
    rw [namesP_q, goalsP_q] at hR
    rw [List.length_map] at h3
    rw [if_pos rfl, w_nil]
    try dsimp only
    rw [w_cons, w_asg, v_lc, sr_it]
    simp only [v_var, List.getD_cons_succ, List.getD_cons_zero]
    rw [t_yes]
    show lcRun _ _ _ (fun _ => True) _ (ps.map QP.enc) [] S2 _
    refine lc_all (l := ps) (f := QP.enc) (h := fun p => D.str (tx p.name)) (by omega) trivial (fun p hpp => ⟨_, w_nm, fun K hK => ?_⟩) ?_
    · try simp only [wipeD]
      simp only [List.set_cons_succ, List.set_cons_zero, v_idx, v_var, v_cst, List.getD_cons_succ, List.getD_cons_zero]
      exact ⟨_, atI_0, hK⟩
    intro p1 hp1
    refine ⟨_, w_nm, ?_⟩
    simp only [List.set_cons_succ, List.set_cons_zero]
    have x3 := x2.trans (Ext.new (c := .lst (ps.map fun p => D.str (tx p.name))) hp1)
    have n1 : (up S2 p1 (.lst (ps.map fun p => D.str (tx p.name)))) p1 = some (.lst ((ps.map QP.name).map fun x => D.str (tx x))) := by rw [up_same, List.map_map]; rfl
    generalize up S2 p1 (.lst (ps.map fun p => D.str (tx p.name))) = S3 at x3 n1
    rw [w_cons, w_asg, v_lc2, sr_it]
    simp only [v_var, List.getD_cons_succ, List.getD_cons_zero]
    show lcRun2 _ _ _ (fun _ => True) _ (ps.map QP.enc) [] S3 _
    have hlen : (ps.map QP.enc).length = ps.length := by simp
    have six : ∀ p ∈ ps, p.rs.length ≤ 6 := fun p hpp => (okp p hpp).few
    have gl : ∀ i, (goalsQ (ps.take i)).length ≤ 18 := fun i => by
      have := flatL (f := fun p : QP => p.rs.map QR.g) (k := 6) (l := ps.take i) fun p hpp => by rw [List.length_map]; exact six p (List.mem_of_mem_take hpp)
      have h2 : (ps.take i).length ≤ 3 := by rw [List.length_take]; omega
      unfold goalsQ
      omega
    rw [t_yes]
    refine lc2_yes (fun i acc S' => acc = (goalsQ (ps.take i)).map encW ∧ S' = S3) (fun _ _ _ _ => trivial) (fun i hi acc S' ⟨e, e2⟩ => ?_) (fun acc S' ⟨e, e2⟩ => ?_) _ 0 [] S3 rfl (Nat.zero_le _) ⟨rfl, rfl⟩
    · subst e e2
      rw [hlen] at hi
      rw [List.getElem_map]
      refine ⟨_, w_nm, fun K hK => ?_⟩
      try simp only [wipeD]
      simp only [List.set_cons_succ, List.set_cons_zero]
      rw [sr_it]
      simp only [v_idx, v_var, v_cst, List.getD_cons_succ, List.getD_cons_zero]
      refine ⟨_, atI_2, ?_⟩
      have h6 := six _ (List.getElem_mem hi)
      have g6 := gl i
      try rw [t_yes]
      refine lc_acc2 (l := ps[i].rs) (f := QR.enc) (h := fun r => encW r.g) (G := fun _ => True) trivial (by rw [List.length_map]; omega) (fun r hr => ⟨_, w_nm, fun K hK => ?_⟩) (hK _ _ ⟨?_, rfl⟩)
      · try simp only [wipeD]
        simp only [List.set_cons_succ, List.set_cons_zero, v_idx, v_var, v_cst, List.getD_cons_succ, List.getD_cons_zero]
        exact ⟨_, atI_4, hK⟩
      · rw [List.take_succ_eq_append_getElem hi]
        unfold goalsQ
        rw [List.flatMap_append, List.map_append, List.flatMap_cons, List.flatMap_nil, List.append_nil, List.map_map]; rfl
    subst e e2
    rw [hlen, List.take_length]
    have gl := gl ps.length
    rw [List.take_length] at gl
    intro p2 hp2
    refine ⟨_, w_nm, ?_⟩
    simp only [List.set_cons_succ, List.set_cons_zero]
    have x4 := x3.trans (Ext.new (c := .lst ((goalsQ ps).map encW)) hp2)
    have n1' := Ext.new (c := .lst ((goalsQ ps).map encW)) hp2 _ _ n1
    have n2 := up_same (S := S') (a := p2) (c := .lst ((goalsQ ps).map encW))
    generalize up S' p2 (.lst ((goalsQ ps).map encW)) = S4 at x4 n1' n2
    rw [w_cons, w_ret, v_and, v_cmp, v_ls]
    simp only [v_var, v_blt, wEs, List.getD_cons_succ, List.getD_cons_zero]
    have es : ((ps.map QP.name).map fun x => D.str (tx x)) = ((ps.map QP.name).map tx).map D.str := by simp only [List.map_map]; rfl
    have n3 := n1'
    rw [es] at n3
    refine ⟨_, n3, by simp only [List.length_map]; omega, .inr ⟨_, all_strs _, fun ks nd hk => ?_⟩⟩
    try dsimp only
    rw [l_ref, lstAt_of n1', c_eqi, t_bl]
    have hnl := nodup_iff nd hk
    have e5 : decide (((ks.length : Nat) : Int) = (((ps.map QP.name).map fun x => D.str (tx x)).length : Nat)) = decide (ps.map QP.name).Nodup := by
      rw [Bool.eq_iff_iff, decide_eq_true_iff, decide_eq_true_iff, ← nodup_tx, ← hnl]
      simp only [List.length_map]
      omega
    rw [e5]
    cases hn : decide (ps.map QP.name).Nodup with
    | false =>
      rw [hn] at hR
      rw [if_neg Bool.false_ne_true]
      exact hR S4 x4
    | true =>
      rw [hn, Bool.true_and] at hR
      rw [if_pos rfl, v_lc, sr_it]
      simp only [v_var, List.getD_cons_succ, List.getD_cons_zero]
      refine ⟨_, n2, ?_⟩
      try rw [t_yes]
      have nok : ∀ y ∈ ps.map QP.name, WOk y := fun y hy => by
        obtain ⟨p, hpp, rfl⟩ := List.mem_map.mp hy
        exact let_in (okp p hpp).name
      have gd : ∀ g ∈ goalsQ ps, GoodG g := fun g hg => by
        obtain ⟨p, hpp, hg⟩ := List.mem_flatMap.mp hg
        obtain ⟨r, hr, rfl⟩ := List.mem_map.mp hg
        exact (okp p hpp).goals r hr
      have eg : ((goalsQ ps).map uW).all (goalIn (ps.map QP.name)) = (goalsQ ps).all fun g => !decide (g.headD [] = wPlan) || decide (g.getD 1 [] ∈ ps.map QP.name) := by
        rw [List.all_map]
        rw [Bool.eq_iff_iff, List.all_eq_true, List.all_eq_true]
        exact ⟨fun h g hg => by have := h g hg; rw [Function.comp, goalIn_q (gd g hg)] at this; exact this, fun h g hg => by rw [Function.comp, goalIn_q (gd g hg)]; exact h g hg⟩
      rw [eg] at hR
      refine lc_ext (l := goalsQ ps) (f := encW) (h := fun g => .bl (!decide (g.headD [] = wPlan) || decide (g.getD 1 [] ∈ ps.map QP.name))) (by omega) (fun S' x => x _ _ n2) (fun g hg => ⟨_, w_nm, fun S' K x5 hK => ?_⟩) (fun S5 x5 => all_new (x4.trans x5) hR)
      try simp only [wipeD]
      simp only [List.set_cons_succ, List.set_cons_zero]
      rw [v_or, v_cmp, v_idx]
      simp only [v_var, v_cst, List.getD_cons_succ, List.getD_cons_zero]
      rcases gd g hg with rfl | ⟨a, w, rfl, hal, hw⟩
      · refine ⟨_, atI_0, ?_⟩
        try dsimp only
        rw [c_nes, t_bl]
        have : decide (tx wNobody = tx [112, 108, 97, 110]) = false := by decide
        rw [this]
        exact hK S' x5
      · refine ⟨_, atI_0, ?_⟩
        try dsimp only
        rw [c_nes, t_bl]
        have e6 : decide (tx a = tx [112, 108, 97, 110]) = decide (a = wPlan) := by
          rw [Bool.eq_iff_iff, decide_eq_true_iff, decide_eq_true_iff]
          exact ⟨fun h => tx_inj h, fun h => by rw [h]⟩
        rw [e6]
        have hK' : ∀ S2, Ext S4 S2 → K (.bl (!decide (a = wPlan) || decide (w ∈ ps.map QP.name))) S2 := hK
        cases hd : decide (a = wPlan) with
        | false =>
          rw [hd] at hK'
          rw [show (!false) = true from rfl, if_pos rfl]
          exact hK' S' x5
        | true =>
          rw [hd] at hK'
          rw [show (!true) = false from rfl, if_neg Bool.false_ne_true, v_cmp, v_idx]
          simp only [v_var, v_cst, List.getD_cons_succ, List.getD_cons_zero]
          refine ⟨_, atI_1, ?_⟩
          have wok : WOk w := let_in hw
          have tn := txts_pure (txts_map (f := fun x => D.str (tx x)) (l := ps.map QP.name) fun y hy => (nok y hy).txt)
          have tw := txt_pure wok.txt
          refine .inl ⟨_, x5 _ _ n1', tw.1, Nat.zero_le _, tw.2, tn.1, deps_map fun _ _ => Nat.zero_le _, tn.2, ?_⟩
          rw [any_strs wok nok]
          exact hK' S' x5
  | _ =>
    simp only [isK]
    rw [t_bl, if_neg Bool.false_ne_true, w_cons, w_ret, v_cst]
    exact hR S (Ext.refl S)
end
end Mn

/-! the law's own checks -/
namespace Mn
open PySem PySem.Spec L2
def n__law_whole : List Str := [(tx [95, 108, 97, 119, 95, 105, 116, 101, 109])]
def c__law_whole : List Sd :=
  [.ret (.and (.isi (.var 0) [.int]) (.not (.isi (.var 0) [.bool])))]
def n__law_within : List Str := [(tx [95, 108, 97, 119, 95, 105, 116, 101, 109]), (tx [95, 108, 97, 119, 95, 108, 111, 119]), (tx [95, 108, 97, 119, 95, 104, 105, 103, 104])]
def c__law_within : List Sd :=
  [.ret (.and (.call (tx [95, 108, 97, 119, 95, 119, 104, 111, 108, 101]) [(.var 0)]) (.chn .LtE .LtE (.var 1) (.var 0) (.var 2)))]
def n__law_is_digits : List Str := [(tx [95, 108, 97, 119, 95, 118, 97, 108, 117, 101]), (tx [95, 108, 97, 119, 95, 109, 111, 115, 116]), (tx [46, 48]), (tx [95, 108, 97, 119, 95, 115, 105, 103, 110])]
def c__law_is_digits : List Sd :=
  [.ite (.not (.and (.val (.isi (.var 0) [.str])) (.val (.cmp .LtE (.blt .len [(.var 0)]) (.var 1))))) [.ret (.cst (.bl false))] [], .ret (.cmp .Eq (.lc [2, 3] (.var 3) (.nm 3) (.it (.var 0)) (.val (.cmp .NotIn (.var 3) (.cst (.str (tx [48, 49, 50, 51, 52, 53, 54, 55, 56, 57])))))) (.lst []))]
def n__law_is_name : List Str := [(tx [95, 108, 97, 119, 95, 118, 97, 108, 117, 101]), (tx [46, 48]), (tx [95, 108, 97, 119, 95, 115, 105, 103, 110])]
def c__law_is_name : List Sd :=
  [.ite (.not (.and (.val (.isi (.var 0) [.str])) (.val (.chn .Lt .Lt (.cst (.int (0))) (.blt .len [(.var 0)]) (.cst (.int (9))))))) [.ret (.cst (.bl false))] [], .ret (.cmp .Eq (.lc [1, 2] (.var 2) (.nm 2) (.it (.var 0)) (.not (.val (.chn .LtE .LtE (.cst (.str (tx [97]))) (.var 2) (.cst (.str (tx [122]))))))) (.lst []))]
def n__law_is_head : List Str := [(tx [95, 108, 97, 119, 95, 118, 97, 108, 117, 101])]
def c__law_is_head : List Sd :=
  [.ret (.and (.call (tx [95, 108, 97, 119, 95, 105, 115, 95, 100, 105, 103, 105, 116, 115]) [(.var 0), (.cst (.int (10)))]) (.and (.cmp .NotEq (.var 0) (.cst (.str (tx [])))) (.cmp .Eq (.blt .list [(.var 0)]) (.ss (.var 0)))))]
def n__law_is_goal : List Str := [(tx [95, 108, 97, 119, 95, 118, 97, 108, 117, 101]), (tx [95, 108, 97, 119, 95, 110, 97, 109, 101, 115])]
def c__law_is_goal : List Sd :=
  [.ite (.or (.not (.val (.isi (.var 0) [.tup]))) (.or (.val (.cmp .Eq (.var 0) (.tup []))) (.not (.val (.isi (.idx (.var 0) (.cst (.int (0)))) [.str]))))) [.ret (.cst (.bl false))] [], .ite (.val (.cmp .Eq (.idx (.var 0) (.cst (.int (0)))) (.cst (.str (tx [110, 111, 98, 111, 100, 121]))))) [.ret (.cmp .Eq (.blt .len [(.var 0)]) (.cst (.int (1))))] [], .ite (.or (.val (.cmp .NotEq (.blt .len [(.var 0)]) (.cst (.int (2))))) (.not (.val (.call (tx [95, 108, 97, 119, 95, 105, 115, 95, 110, 97, 109, 101]) [(.idx (.var 0) (.cst (.int (1))))])))) [.ret (.cst (.bl false))] [], .ret (.or (.cmp .Eq (.idx (.var 0) (.cst (.int (0)))) (.cst (.str (tx [108, 105, 110, 101])))) (.and (.cmp .Eq (.idx (.var 0) (.cst (.int (0)))) (.cst (.str (tx [112, 108, 97, 110])))) (.cmp .In (.idx (.var 0) (.cst (.int (1)))) (.var 1))))]
def n__law_is_one_rule : List Str := [(tx [95, 108, 97, 119, 95, 118, 97, 108, 117, 101]), (tx [95, 108, 97, 119, 95, 110, 97, 109, 101, 115]), (tx [46, 48]), (tx [95, 108, 97, 119, 95, 104, 101, 97, 100, 95, 104, 101, 114, 101])]
def c__law_is_one_rule : List Sd :=
  [.ite (.or (.not (.val (.isi (.var 0) [.tup]))) (.val (.cmp .NotEq (.blt .len [(.var 0)]) (.cst (.int (5)))))) [.ret (.cst (.bl false))] [], .ite (.or (.not (.val (.isi (.idx (.var 0) (.cst (.int (0)))) [.tup]))) (.val (.cmp .Gt (.blt .len [(.idx (.var 0) (.cst (.int (0))))]) (.cst (.int (2)))))) [.ret (.cst (.bl false))] [], .ite (.or (.val (.cmp .NotEq (.lc [2, 3] (.var 3) (.nm 3) (.it (.idx (.var 0) (.cst (.int (0))))) (.not (.val (.call (tx [95, 108, 97, 119, 95, 105, 115, 95, 104, 101, 97, 100]) [(.var 3)])))) (.lst []))) (.not (.val (.isi (.idx (.var 0) (.cst (.int (1)))) [.bool])))) [.ret (.cst (.bl false))] [], .ite (.not (.and (.val (.call (tx [95, 108, 97, 119, 95, 119, 105, 116, 104, 105, 110]) [(.idx (.var 0) (.cst (.int (2)))), (.cst (.int (0))), (.blt .len [(.idx (.var 0) (.cst (.int (0))))])])) (.val (.call (tx [95, 108, 97, 119, 95, 105, 115, 95, 100, 105, 103, 105, 116, 115]) [(.idx (.var 0) (.cst (.int (3)))), (.cst (.int (3)))])))) [.ret (.cst (.bl false))] [], .ret (.call (tx [95, 108, 97, 119, 95, 105, 115, 95, 103, 111, 97, 108]) [(.idx (.var 0) (.cst (.int (4)))), (.var 1)])]
def n__law_is_exchange : List Str := [(tx [95, 108, 97, 119, 95, 118, 97, 108, 117, 101]), (tx [95, 108, 97, 119, 95, 112, 108, 97, 110]), (tx [95, 108, 97, 119, 95, 110, 97, 109, 101, 115]), (tx [95, 108, 97, 119, 95, 110, 97, 109, 101]), (tx [95, 108, 97, 119, 95, 111, 114, 100, 101, 114]), (tx [95, 108, 97, 119, 95, 114, 117, 108, 101, 115]), (tx [46, 48]), (tx [95, 108, 97, 119, 95, 105, 116, 101, 109])]
def c__law_is_exchange : List Sd :=
  [.ite (.or (.not (.val (.isi (.var 0) [.tup]))) (.not (.val (.chn .Lt .Lt (.cst (.int (0))) (.blt .len [(.var 0)]) (.cst (.int (4))))))) [.ret (.cst (.bl false))] [], .fr (.nm 1) (.it (.var 0)) [.ite (.or (.not (.val (.isi (.var 1) [.tup]))) (.or (.val (.cmp .NotEq (.blt .len [(.var 1)]) (.cst (.int (3))))) (.not (.val (.call (tx [95, 108, 97, 119, 95, 105, 115, 95, 110, 97, 109, 101]) [(.idx (.var 1) (.cst (.int (0))))]))))) [.ret (.cst (.bl false))] []], .asg (.nm 2) (.lc [6, 1] (.idx (.var 1) (.cst (.int (0)))) (.nm 1) (.it (.var 0)) .yes), .fr (.tp [(.nm 3), (.nm 4), (.nm 5)]) (.it (.var 0)) [.ite (.or (.not (.val (.isi (.var 4) [.str]))) (.val (.cmp .NotIn (.var 4) (.tup [(.cst (.str (tx [102, 105, 114, 115, 116]))), (.cst (.str (tx [108, 111, 110, 103, 101, 115, 116])))])))) [.ret (.cst (.bl false))] [], .ite (.or (.not (.val (.isi (.var 5) [.tup]))) (.val (.cmp .Gt (.blt .len [(.var 5)]) (.cst (.int (6)))))) [.ret (.cst (.bl false))] [], .ite (.val (.cmp .NotEq (.lc [6, 7] (.var 7) (.nm 7) (.it (.var 5)) (.not (.val (.call (tx [95, 108, 97, 119, 95, 105, 115, 95, 111, 110, 101, 95, 114, 117, 108, 101]) [(.var 7), (.var 2)])))) (.lst []))) [.ret (.cst (.bl false))] []], .ret (.cmp .Eq (.blt .len [(.ss (.var 2))]) (.blt .len [(.var 2)]))]
abbrev nWhole : Str := tx [95, 108, 97, 119, 95, 119, 104, 111, 108, 101]
abbrev nWithin : Str := tx [95, 108, 97, 119, 95, 119, 105, 116, 104, 105, 110]
abbrev nLDigits : Str := tx [95, 108, 97, 119, 95, 105, 115, 95, 100, 105, 103, 105, 116, 115]
abbrev nLName : Str := tx [95, 108, 97, 119, 95, 105, 115, 95, 110, 97, 109, 101]
abbrev nLHead : Str := tx [95, 108, 97, 119, 95, 105, 115, 95, 104, 101, 97, 100]
abbrev nLGoal : Str := tx [95, 108, 97, 119, 95, 105, 115, 95, 103, 111, 97, 108]
abbrev nLRule : Str := tx [95, 108, 97, 119, 95, 105, 115, 95, 111, 110, 101, 95, 114, 117, 108, 101]
abbrev nLX : Str := tx [95, 108, 97, 119, 95, 105, 115, 95, 101, 120, 99, 104, 97, 110, 103, 101]
structure FamL (Φ : Nat → Str → Option SpD) (Γ : Str → Option D) : Prop where
  whole : ∀ n, Φ (n + 1) nWhole = some (wDf (Φ n) Γ ⟨n__law_whole, 1, c__law_whole⟩)
  within : ∀ n, Φ (n + 1) nWithin = some (wDf (Φ n) Γ ⟨n__law_within, 3, c__law_within⟩)
  digits : ∀ n, Φ (n + 1) nLDigits = some (wDf (Φ n) Γ ⟨n__law_is_digits, 2, c__law_is_digits⟩)
  name : ∀ n, Φ (n + 1) nLName = some (wDf (Φ n) Γ ⟨n__law_is_name, 1, c__law_is_name⟩)
  head : ∀ n, Φ (n + 1) nLHead = some (wDf (Φ n) Γ ⟨n__law_is_head, 1, c__law_is_head⟩)
  goal : ∀ n, Φ (n + 1) nLGoal = some (wDf (Φ n) Γ ⟨n__law_is_goal, 2, c__law_is_goal⟩)
  rule : ∀ n, Φ (n + 1) nLRule = some (wDf (Φ n) Γ ⟨n__law_is_one_rule, 2, c__law_is_one_rule⟩)
  exch : ∀ n, Φ (n + 1) nLX = some (wDf (Φ n) Γ ⟨n__law_is_exchange, 1, c__law_is_exchange⟩)
theorem eqv_nil (us : List PyData) : PyData.eqv (.list us) (.list []) = us.isEmpty := by
  rw [PyData.eqv]
  cases us <;> rw [PyData.eqvAll] <;> rfl
theorem ok_nil : Ok (.list []) := ⟨by decide, by decide⟩
theorem eq_nilV {S : Sto} {a b : Addr} {xs : List D} {us : List PyData} {R : MK} (h1 : S a = some (.lst xs)) (h2 : S b = some (.lst [])) (hd : Dens S xs us) (ok : Ok (.list us)) (h : R (.bl us.isEmpty) S) : cmpD .Eq (.ref a) (.ref b) S R :=
  eq_rr (.ref h1 hd) (.ref h2 .nil) ok ok_nil (by rw [eqv_nil]; exact h)
theorem ne_nilV {S : Sto} {a b : Addr} {xs : List D} {us : List PyData} {R : MK} (h1 : S a = some (.lst xs)) (h2 : S b = some (.lst [])) (hd : Dens S xs us) (ok : Ok (.list us)) (h : R (.bl (!us.isEmpty)) S) : cmpD .NotEq (.ref a) (.ref b) S R :=
  ne_rr (.ref h1 hd) (.ref h2 .nil) ok ok_nil (by rw [eqv_nil]; exact h)
theorem dens_strs {S : Sto} : ∀ l : List W, Dens S (l.map fun x => .str (tx x)) (l.map fun x => .str (tx x))
  | [] => .nil
  | _ :: l => .cons (.str _) (dens_strs l)
theorem sms_of : ∀ {us : List PyData}, (∀ u ∈ us, sm u = true) → sms us = true
  | [], _ => by rw [sms]
  | u :: us, h => by rw [sms, h u List.mem_cons_self, sms_of fun v hv => h v (List.mem_cons_of_mem _ hv)]; rfl
theorem depths_of {n : Nat} : ∀ {us : List PyData}, (∀ u ∈ us, u.depth ≤ n) → PyData.depthAll us ≤ n
  | [], _ => by rw [PyData.depthAll]; exact Nat.zero_le _
  | u :: us, h => by
    rw [PyData.depthAll]
    have := h u List.mem_cons_self
    have := depths_of fun v hv => h v (List.mem_cons_of_mem _ hv)
    omega
theorem WOk.ok {x : W} (h : WOk x) : Ok (.str (tx x)) := ⟨by
  rw [sm, tl_tx, decide_eq_true h.1, Bool.true_and]
  exact List.all_eq_true.mpr fun c hc => decide_eq_true (h.2 c hc), by rw [PyData.depth]; omega⟩
theorem ok_list {us : List PyData} (hl : us.length ≤ 5000) (h : ∀ u ∈ us, sm u = true ∧ u.depth ≤ 39) : Ok (.list us) :=
  ⟨by rw [sm, decide_eq_true hl, sms_of fun u hu => (h u hu).1]; rfl, by rw [PyData.depth]; have := depths_of fun u hu => (h u hu).2; omega⟩
theorem ok_strs {l : List W} (hl : l.length ≤ 5000) (h : ∀ x ∈ l, WOk x) : Ok (.list (l.map fun x => .str (tx x))) :=
  ok_list (by rw [List.length_map]; exact hl) fun u hu => by
    obtain ⟨x, hx, rfl⟩ := List.mem_map.mp hu
    exact ⟨(h x hx).ok.s, by rw [PyData.depth]; omega⟩
theorem notin_sg {c : Nat} {y : W} {S : Sto} {R : MK} (h : R (.bl (!decide (c ∈ y))) S) : cmpD .NotIn (.str (tx [c])) (.str (tx y)) S R := by
  refine ⟨c, rfl, ?_⟩
  have : (tx y).cps.toList = y := tl_tx y
  rw [this]; exact h
theorem lt_sg (a b : Nat) : decide ((tx [a]).cps.toList < (tx [b]).cps.toList) = decide (a < b) := by
  rw [Bool.eq_iff_iff, decide_eq_true_iff, decide_eq_true_iff]
  show [a] < [b] ↔ _
  rw [List.cons_lt_cons_iff]
  exact ⟨fun h => h.elim id fun h => absurd h.2 (List.lt_irrefl _), .inl⟩
theorem chn_sg {S : Sto} {R : MK} {a b c : Nat} (hR : R (.bl (decide (a ≤ c) && decide (c ≤ b))) S) : cmpD .LtE (.str (tx [a])) (.str (tx [c])) S (fun z S3 => match z with
    | .bl true => cmpD .LtE (.str (tx [c])) (.str (tx [b])) S3 R
    | .bl false => R (.bl false) S3
    | _ => False) := by
  have e : ∀ {x y : Nat} {R : MK}, cmpD .LtE (.str (tx [x])) (.str (tx [y])) S R = R (.bl (!decide (y < x))) S := fun {x y R} => by
    show R (.bl (!decide ((tx [y]).cps.toList < (tx [x]).cps.toList))) S = _
    rw [lt_sg]
  rw [e]
  by_cases h : c < a
  · rw [decide_eq_true h]
    rw [decide_eq_false (by omega : ¬ a ≤ c), Bool.false_and] at hR
    exact hR
  · rw [decide_eq_false h]
    rw [decide_eq_true (by omega : a ≤ c), Bool.true_and] at hR
    show cmpD .LtE (.str (tx [c])) (.str (tx [b])) S R
    rw [e]
    by_cases q : b < c
    · rw [decide_eq_true q]
      rw [decide_eq_false (by omega : ¬ c ≤ b)] at hR
      exact hR
    · rw [decide_eq_false q]
      rw [decide_eq_true (by omega : c ≤ b)] at hR
      exact hR
theorem filt_empty {P : Nat → Bool} (x : W) : ((x.filter fun c => !P c).map fun c => PyData.str (tx [c])).isEmpty = x.all P := by
  induction x with
  | nil => rfl
  | cons a x ih =>
    rw [List.filter_cons, List.all_cons]
    cases P a with
    | true => simpa using ih
    | false => rfl
theorem let_iff (c : Nat) : (decide (97 ≤ c) && decide (c ≤ 122)) = decide (c ∈ LET) := by
  rw [Bool.eq_iff_iff, Bool.and_eq_true, decide_eq_true_iff, decide_eq_true_iff, decide_eq_true_iff]
  constructor
  · rintro ⟨h1, h2⟩
    have : c - 97 < 26 := by omega
    have key : ∀ k, k < 26 → (k + 97) ∈ LET := by decide
    have := key (c - 97) this
    rwa [show c - 97 + 97 = c by omega] at this
  · have key : ∀ c ∈ LET, 97 ≤ c ∧ c ≤ 122 := by decide
    exact key c
section
variable {Φ : Nat → Str → Option SpD} {Γ : Str → Option D}
theorem ldigitsV {m k : Nat} {d : D} {u : PyData} {S : Sto} (hd : Den S d u) (hs : Ok u) {R : MK} (hR : ∀ S', Ext S S' → R (.bl (pN k u)) S') : wDf (Φ m) Γ ⟨n__law_is_digits, 2, c__law_is_digits⟩ [d, .int (k : Nat)] S R := by
  have sz : (16000000 : Nat) ≤ sizeLine := by decide
  refine ⟨rfl, ?_⟩
  simp only [c__law_is_digits, n__law_is_digits, List.map_cons, List.map_nil, List.length_cons, List.length_nil, List.replicate, List.cons_append, List.nil_append, Nat.reduceAdd, Nat.reduceSub]
  rw [w_cons, w_ite, k_not2, k_and, k_val, v_isi]
  simp only [v_var, List.getD_cons_succ, List.getD_cons_zero]
  refine isi_den hd ?_
  rw [isk_str]
  cases hst : isStrB u with
  | false =>
    have : pN k u = false := by cases u <;> first | rfl | (simp [isStrB] at hst)
    rw [this] at hR
    rw [t_bl, if_neg Bool.false_ne_true]
    refine ifB rfl ?_
    rw [w_cons, w_ret, v_cst]
    exact hR S (Ext.refl S)
  | true =>
  obtain ⟨x, rfl⟩ := pO_str hst
  have hx := hs.str
  cases hd
  rw [t_bl, if_pos rfl, k_val, v_cmp]
  simp only [v_cst, v_blt, wEs, v_var, List.getD_cons_succ, List.getD_cons_zero]
  refine ⟨by rw [tx_len]; have := hx.1; omega, ?_⟩
  rw [tx_len]
  try dsimp only
  rw [c_le, t_bl]
  have e : (!decide (((k : Nat) : Int) < (x.length : Nat))) = decide (x.length ≤ k) := by
    by_cases q : x.length ≤ k
    · rw [decide_eq_true q, decide_eq_false (by omega)]; rfl
    · rw [decide_eq_false q, decide_eq_true (by omega)]; rfl
  rw [e]
  simp only [pN, tl_tx] at hR
  unfold isNu at hR
  cases hb : decide (x.length ≤ k) with
  | false =>
    rw [hb] at hR
    rw [if_neg Bool.false_ne_true, w_cons, w_ret, v_cst]
    exact hR S (Ext.refl S)
  | true =>
    rw [hb, Bool.true_and] at hR
    rw [if_pos rfl, w_nil]
    try dsimp only
    rw [w_cons, w_ret, v_cmp, v_lc, sr_it]
    simp only [v_var, List.getD_cons_succ, List.getD_cons_zero]
    rw [it_txt, chars_tx]
    refine lc_pure (l := x) (h := fun c => .str (tx [c])) (P := fun c => !decide (c ∈ DIG)) (by have := hx.1; omega) trivial (fun c hc => ⟨_, w_nm, fun KT hK => ?_, fun _ K hK => ?_⟩) ?_
    · try simp only [wipeD]
      rw [k_val, v_cmp]
      simp only [List.set_cons_succ, List.set_cons_zero, v_var, v_cst, List.getD_cons_succ, List.getD_cons_zero]
      refine notin_sg (y := DIG) ?_
      rw [t_bl]; exact hK
    · try simp only [wipeD]
      simp only [List.set_cons_succ, List.set_cons_zero, v_var, List.getD_cons_succ, List.getD_cons_zero]
      exact hK
    intro p1 hp1
    rw [v_lst]
    simp only [wEs, List.length_cons, List.length_nil, Nat.reduceAdd]
    refine ⟨Nat.zero_le _, fun p2 hp2 => ?_⟩
    have x2 := (Ext.new (c := .lst ((x.filter fun c => !decide (c ∈ DIG)).map fun c => D.str (tx [c]))) hp1).trans (Ext.new (c := .lst []) hp2)
    have el : ((x.filter fun c => !decide (c ∈ DIG)).map fun c => D.str (tx [c])) = ((x.filter fun c => !decide (c ∈ DIG)).map fun c => [c]).map fun y => D.str (tx y) := by rw [List.map_map]; rfl
    have eu : (((x.filter fun c => !decide (c ∈ DIG)).map fun c => [c]).map fun y => PyData.str (tx y)) = (x.filter fun c => !decide (c ∈ DIG)).map fun c => PyData.str (tx [c]) := by rw [List.map_map]; rfl
    refine eq_nilV (Ext.new (c := .lst []) hp2 _ _ up_same) up_same (by rw [el]; exact dens_strs _) (ok_strs (by rw [List.length_map]; exact Nat.le_trans (List.length_filter_le _ _) hx.1) fun y hy => ?_) ?_
    · obtain ⟨c, hc, rfl⟩ := List.mem_map.mp hy
      exact ⟨by simp, fun b hb => by rw [List.mem_singleton.mp hb]; exact hx.2 c (List.mem_filter.mp hc).1⟩
    · rw [eu, filt_empty]
      exact hR _ x2
theorem lnameV {m : Nat} {d : D} {u : PyData} {S : Sto} (hd : Den S d u) (hs : Ok u) {R : MK} (hR : ∀ S', Ext S S' → R (.bl (pW u)) S') : wDf (Φ m) Γ ⟨n__law_is_name, 1, c__law_is_name⟩ [d] S R := by
  have sz : (16000000 : Nat) ≤ sizeLine := by decide
  refine ⟨rfl, ?_⟩
  simp only [c__law_is_name, n__law_is_name, List.map_cons, List.map_nil, List.length_cons, List.length_nil, List.replicate, List.cons_append, List.nil_append, Nat.reduceAdd, Nat.reduceSub]
  rw [w_cons, w_ite, k_not2, k_and, k_val, v_isi]
  simp only [v_var, List.getD_cons_succ, List.getD_cons_zero]
  refine isi_den hd ?_
  rw [isk_str]
  cases hst : isStrB u with
  | false =>
    have : pW u = false := by cases u <;> first | rfl | (simp [isStrB] at hst)
    rw [this] at hR
    rw [t_bl, if_neg Bool.false_ne_true]
    refine ifB rfl ?_
    rw [w_cons, w_ret, v_cst]
    exact hR S (Ext.refl S)
  | true =>
  obtain ⟨x, rfl⟩ := pO_str hst
  have hx := hs.str
  cases hd
  rw [t_bl, if_pos rfl, k_val, v_chn2]
  simp only [v_cst, v_blt, wEs, v_var, List.getD_cons_succ, List.getD_cons_zero]
  refine ⟨by rw [tx_len]; have := hx.1; omega, ?_⟩
  rw [tx_len]
  have chl : ∀ {S : Sto} {R : MK} {i j k : Int}, R (.bl (decide (i < j) && decide (j < k))) S → cmpD .Lt (.int i) (.int j) S (fun z S3 => match z with
    | .bl true => cmpD .Lt (.int j) (.int k) S3 R
    | .bl false => R (.bl false) S3
    | _ => False) := fun {S R i j k} h => by
    rw [c_lt]
    cases q : decide (i < j) with
    | false => rw [q, Bool.false_and] at h; exact h
    | true => rw [q, Bool.true_and] at h; show cmpD .Lt (.int j) (.int k) S R; rw [c_lt]; exact h
  refine chl ?_
  rw [t_bl]
  have e : (decide ((0 : Int) < (x.length : Nat)) && decide (((x.length : Nat) : Int) < 9)) = (decide (1 ≤ x.length) && decide (x.length ≤ 8)) := by
    congr 1 <;> (congr 1; exact propext (by omega))
  rw [e]
  simp only [pW, tl_tx] at hR
  unfold isW at hR
  cases hb : (decide (1 ≤ x.length) && decide (x.length ≤ 8)) with
  | false =>
    rw [hb] at hR
    rw [if_neg Bool.false_ne_true, w_cons, w_ret, v_cst]
    exact hR S (Ext.refl S)
  | true =>
    rw [hb, Bool.true_and] at hR
    rw [if_pos rfl, w_nil]
    try dsimp only
    rw [w_cons, w_ret, v_cmp, v_lc, sr_it]
    simp only [v_var, List.getD_cons_succ, List.getD_cons_zero]
    rw [it_txt, chars_tx]
    refine lc_pure (l := x) (h := fun c => .str (tx [c])) (P := fun c => !decide (c ∈ LET)) (by have := hx.1; omega) trivial (fun c hc => ⟨_, w_nm, fun KT hK => ?_, fun _ K hK => ?_⟩) ?_
    · try simp only [wipeD]
      show wT _ _ (.val _) _ _ (fun k S1 => KT (!k) S1)
      rw [k_val, v_chn2]
      simp only [List.set_cons_succ, List.set_cons_zero, v_var, v_cst, List.getD_cons_succ, List.getD_cons_zero]
      refine chn_sg ?_
      rw [t_bl, let_iff]; exact hK
    · try simp only [wipeD]
      simp only [List.set_cons_succ, List.set_cons_zero, v_var, List.getD_cons_succ, List.getD_cons_zero]
      exact hK
    intro p1 hp1
    rw [v_lst]
    simp only [wEs, List.length_cons, List.length_nil, Nat.reduceAdd]
    refine ⟨Nat.zero_le _, fun p2 hp2 => ?_⟩
    have x2 := (Ext.new (c := .lst ((x.filter fun c => !decide (c ∈ LET)).map fun c => D.str (tx [c]))) hp1).trans (Ext.new (c := .lst []) hp2)
    have el : ((x.filter fun c => !decide (c ∈ LET)).map fun c => D.str (tx [c])) = ((x.filter fun c => !decide (c ∈ LET)).map fun c => [c]).map fun y => D.str (tx y) := by rw [List.map_map]; rfl
    have eu : (((x.filter fun c => !decide (c ∈ LET)).map fun c => [c]).map fun y => PyData.str (tx y)) = (x.filter fun c => !decide (c ∈ LET)).map fun c => PyData.str (tx [c]) := by rw [List.map_map]; rfl
    refine eq_nilV (Ext.new (c := .lst []) hp2 _ _ up_same) up_same (by rw [el]; exact dens_strs _) (ok_strs (by rw [List.length_map]; exact Nat.le_trans (List.length_filter_le _ _) hx.1) fun y hy => ?_) ?_
    · obtain ⟨c, hc, rfl⟩ := List.mem_map.mp hy
      exact ⟨by simp, fun b hb => by rw [List.mem_singleton.mp hb]; exact hx.2 c (List.mem_filter.mp hc).1⟩
    · rw [eu, filt_empty]
      exact hR _ x2
end
end Mn

namespace Mn
open PySem PySem.Spec L2
theorem up_lt : ∀ {a : Nat} {r : W}, isUp (a :: r) = true → (∀ b ∈ r, a < b) ∧ isUp r = true
  | a, [], _ => ⟨fun _ h => (by cases h), rfl⟩
  | a, b :: r, h => by
    have h : (decide (a < b) && isUp (b :: r)) = true := h
    rw [Bool.and_eq_true, decide_eq_true_iff] at h
    have ih := up_lt h.2
    refine ⟨fun c hc => ?_, h.2⟩
    rcases List.mem_cons.mp hc with rfl | hc
    · exact h.1
    · have := ih.1 c hc; omega
theorem up_pw : ∀ {x : W}, isUp x = true ↔ x.Pairwise (· < ·)
  | [] => ⟨fun _ => .nil, fun _ => rfl⟩
  | [a] => ⟨fun _ => .cons (fun _ h => nomatch h) .nil, fun _ => rfl⟩
  | a :: b :: r => by
    rw [List.pairwise_cons, ← up_pw]
    constructor
    · exact fun h => up_lt h
    · rintro ⟨h1, h2⟩
      show (decide (a < b) && isUp (b :: r)) = true
      rw [h2, decide_eq_true (h1 b List.mem_cons_self)]; rfl
theorem up_uniq : ∀ {x y : W}, x.Pairwise (· < ·) → y.Pairwise (· < ·) → (∀ c, c ∈ x ↔ c ∈ y) → x = y
  | [], [], _, _, _ => rfl
  | [], b :: y, _, _, h => absurd ((h b).mpr List.mem_cons_self) (by simp)
  | a :: x, [], _, _, h => absurd ((h a).mp List.mem_cons_self) (by simp)
  | a :: x, b :: y, h1, h2, h => by
    obtain ⟨p1, q1⟩ := List.pairwise_cons.mp h1
    obtain ⟨p2, q2⟩ := List.pairwise_cons.mp h2
    have e : a = b := by
      rcases List.mem_cons.mp ((h a).mp List.mem_cons_self) with e | m
      · exact e
      · rcases List.mem_cons.mp ((h b).mpr List.mem_cons_self) with e | m2
        · exact e.symm
        · have := p1 b m2; have := p2 a m; omega
    subst e
    rw [up_uniq q1 q2 fun c => ⟨fun hc => ?_, fun hc => ?_⟩]
    · rcases List.mem_cons.mp ((h c).mp (List.mem_cons_of_mem _ hc)) with e | m
      · have := p1 c hc; omega
      · exact m
    · rcases List.mem_cons.mp ((h c).mpr (List.mem_cons_of_mem _ hc)) with e | m
      · have := p2 c hc; omega
      · exact m
theorem eqv_chars : ∀ (x y : W), PyData.eqvAll (x.map fun c => .str (tx [c])) (y.map fun c => .str (tx [c])) = decide (x = y)
  | [], [] => by rw [List.map_nil, PyData.eqvAll]; rfl
  | [], b :: y => by rw [List.map_nil, List.map_cons, PyData.eqvAll]; rfl
  | a :: x, [] => by rw [List.map_nil, List.map_cons, PyData.eqvAll]; rfl
  | a :: x, b :: y => by
    rw [List.map_cons, List.map_cons, PyData.eqvAll, PyData.eqv, eqv_chars x y]
    rw [Bool.eq_iff_iff, Bool.and_eq_true, beq_iff_eq, decide_eq_true_iff, decide_eq_true_iff, List.cons.injEq]
    exact ⟨fun ⟨h1, h2⟩ => ⟨by have := tx_inj h1; simpa using this, h2⟩, fun ⟨h1, h2⟩ => ⟨by rw [h1], h2⟩⟩
theorem signs_tx (x : W) : signs (tx x) = x.map fun c => tx [c] := by
  unfold signs
  have : (tx x).cps.toList = x := tl_tx x
  rw [this]
theorem sg_list : ∀ {ks : List Str} {x : W}, (∀ k ∈ ks, k ∈ x.map fun c => tx [c]) → ∃ ys : W, ks = ys.map fun c => tx [c]
  | [], _, _ => ⟨[], rfl⟩
  | k :: ks, x, h => by
    obtain ⟨ys, rfl⟩ := sg_list fun k hk => h k (List.mem_cons_of_mem _ hk)
    obtain ⟨c, _, rfl⟩ := List.mem_map.mp (h k List.mem_cons_self)
    exact ⟨c :: ys, rfl⟩
theorem mem_sg {c : Nat} {x : W} : tx [c] ∈ (x.map fun c => tx [c]) ↔ c ∈ x := by
  constructor
  · intro h
    obtain ⟨d, hd, e⟩ := List.mem_map.mp h
    have := tx_inj e
    simp at this
    rw [← this]; exact hd
  · exact fun h => List.mem_map_of_mem h
theorem pw_sg {ys : W} (h : (ys.map fun c => tx [c]).Pairwise ltS) : ys.Pairwise (· < ·) := by
  rw [List.pairwise_map] at h
  refine h.imp fun {a b} q => ?_
  have q : (tx [a]).cps.toList < (tx [b]).cps.toList := q
  have := decide_eq_true q
  rw [lt_sg] at this
  exact of_decide_eq_true this
theorem eqv_tnil (us : List PyData) : PyData.eqv (.tuple us) (.tuple []) = us.isEmpty := by
  rw [PyData.eqv]
  cases us <;> rw [PyData.eqvAll] <;> rfl
section
variable {Φ : Nat → Str → Option SpD} {Γ : Str → Option D} (fl : FamL Φ Γ)
include fl
theorem lheadV {m : Nat} {d : D} {u : PyData} {S : Sto} (hd : Den S d u) (hs : Ok u) {R : MK} (hR : ∀ S', Ext S S' → R (.bl (pH u)) S') : wDf (Φ (m + 1)) Γ ⟨n__law_is_head, 1, c__law_is_head⟩ [d] S R := by
  have sz : (16000000 : Nat) ≤ sizeLine := by decide
  refine ⟨rfl, ?_⟩
  simp only [c__law_is_head, n__law_is_head, List.map_cons, List.map_nil, List.length_cons, List.length_nil, List.replicate, List.cons_append, List.nil_append, Nat.reduceAdd, Nat.reduceSub]
  rw [w_cons, w_ret, v_and, v_call]
  simp only [wEs, v_var, v_cst, List.getD_cons_succ, List.getD_cons_zero]
  refine ⟨_, fl.digits m, ldigitsV (k := 10) hd hs fun S1 x1 => ?_⟩
  rw [t_bl]
  cases hst : isStrB u with
  | false =>
    have p1 : pN 10 u = false := by cases u <;> first | rfl | (simp [isStrB] at hst)
    have p2 : pH u = false := by cases u <;> first | rfl | (simp [isStrB] at hst)
    rw [p2] at hR
    refine ifB p1 ?_
    rw [p1]
    exact hR S1 x1
  | true =>
  obtain ⟨x, rfl⟩ := pO_str hst
  have hx := hs.str
  cases hd
  simp only [pN, pH, tl_tx] at hR ⊢
  unfold isH at hR
  cases hb : isNu x 10 with
  | false =>
    rw [hb] at hR
    rw [if_neg Bool.false_ne_true]
    exact hR S1 x1
  | true =>
    rw [hb, Bool.true_and] at hR
    rw [if_pos rfl, v_and, v_cmp]
    simp only [v_var, v_cst, List.getD_cons_succ, List.getD_cons_zero]
    rw [c_nes, t_bl]
    have e1 : decide (tx x = tx []) = decide (x = []) := by congr 1; exact propext ⟨fun h => tx_inj h, fun h => by rw [h]⟩
    rw [e1]
    have lx : x.length ≤ 10 := by
      unfold isNu at hb
      rw [Bool.and_eq_true] at hb
      exact of_decide_eq_true hb.1
    cases q : decide (x = []) with
    | true =>
      rw [q] at hR
      rw [show (!true) = false from rfl, if_neg Bool.false_ne_true]
      exact hR S1 x1
    | false =>
      rw [q] at hR
      rw [show (!false) = true from rfl, if_pos rfl, v_cmp]
      simp only [v_blt, v_ss, wEs, v_var, List.getD_cons_succ, List.getD_cons_zero]
      refine ⟨by rw [tx_len]; omega, fun p hp => ?_⟩
      refine ⟨by rw [tx_len]; omega, fun ks pw hm p2 hp2 => ?_⟩
      rw [signs_tx] at hm
      obtain ⟨ys, rfl⟩ := sg_list fun k hk => (hm k).mp hk
      have mem : ∀ c, c ∈ ys ↔ c ∈ x := fun c => by rw [← mem_sg, hm, mem_sg]
      have pwy := pw_sg pw
      have ly : ys.length ≤ x.length := nodup_len (pwy.imp fun {a b} h => Nat.ne_of_lt h) fun k hk => (mem k).mp hk
      have up : isUp x = decide (x = ys) := by
        rw [Bool.eq_iff_iff, decide_eq_true_iff, up_pw]
        exact ⟨fun h => up_uniq h pwy fun c => (mem c).symm, fun h => by rw [h]; exact pwy⟩
      rw [up] at hR
      have c1 : (chars (tx x)) = (x.map fun c => [c]).map fun y => D.str (tx y) := by rw [chars_tx, List.map_map]; rfl
      have c2 : ((ys.map fun c => tx [c]).map D.str) = (ys.map fun c => [c]).map fun y => D.str (tx y) := by rw [List.map_map, List.map_map]; rfl
      have wok : ∀ z : W, z.length ≤ 10 → (∀ c ∈ z, c ∈ x) → Ok (.list ((z.map fun c => [c]).map fun y => .str (tx y))) := fun z hz h => ok_strs (by rw [List.length_map]; omega) fun y hy => by
        obtain ⟨c, hc, rfl⟩ := List.mem_map.mp hy
        exact ⟨by simp, fun b hb => by rw [List.mem_singleton.mp hb]; exact hx.2 c (h c hc)⟩
      refine eq_rr (u := .list ((x.map fun c => [c]).map fun y => .str (tx y))) (v := .list ((ys.map fun c => [c]).map fun y => .str (tx y))) (.ref (Ext.new hp2 _ _ up_same) (by rw [c1]; exact dens_strs _)) (.ref up_same (by rw [c2]; exact dens_strs _)) (wok x lx fun _ h => h) (wok ys (by omega) fun c hc => (mem c).mp hc) ?_
      have ee : PyData.eqv (.list ((x.map fun c => [c]).map fun y => .str (tx y))) (.list ((ys.map fun c => [c]).map fun y => .str (tx y))) = decide (x = ys) := by
        rw [PyData.eqv, List.map_map, List.map_map]
        exact eqv_chars x ys
      rw [ee]
      exact hR _ ((x1.trans (Ext.new hp)).trans (Ext.new hp2))
theorem lgoalV {m : Nat} {d : D} {u : PyData} {S : Sto} {l : Addr} {ns : List W} (hd : Den S d u) (hs : Ok u) (hl : S l = some (.lst (ns.map fun x => .str (tx x)))) (hn : ∀ x ∈ ns, WOk x) {R : MK} (hR : ∀ S', Ext S S' → R (.bl (pG u && goalIn ns u)) S') : wDf (Φ (m + 1)) Γ ⟨n__law_is_goal, 2, c__law_is_goal⟩ [d, .ref l] S R := by
  have sz : (16000000 : Nat) ≤ sizeLine := by decide
  refine ⟨rfl, ?_⟩
  simp only [c__law_is_goal, n__law_is_goal, List.map_cons, List.map_nil, List.length_cons, List.length_nil, List.replicate, List.cons_append, List.nil_append, Nat.reduceAdd, Nat.reduceSub]
  rw [w_cons, w_ite, k_or2, k_not2, k_val, v_isi]
  simp only [v_var, List.getD_cons_succ, List.getD_cons_zero]
  refine isi_den hd ?_
  rw [isk_tup, t_bl]
  cases ht : isTupB u with
  | false =>
    have : pG u = false := by cases u <;> first | rfl | (simp [isTupB] at ht)
    rw [this, Bool.false_and] at hR
    rw [if_neg Bool.false_ne_true, w_cons, w_ret, v_cst]
    exact hR S (Ext.refl S)
  | true =>
  obtain ⟨us, rfl⟩ := tup_of ht
  obtain ⟨ds, rfl, h⟩ := hd.tupD
  obtain ⟨hz, ho⟩ := hs.tup
  rw [if_pos rfl, k_or2, k_val, v_cmp]
  simp only [v_tup, wEs, v_var, List.length_cons, List.length_nil, Nat.reduceAdd, List.getD_cons_succ, List.getD_cons_zero]
  refine ⟨Nat.zero_le _, ?_⟩
  refine eq_tt hd (.tup .nil) hs ⟨by decide, by decide⟩ ?_
  rw [eqv_tnil, t_bl]
  cases h with
  | nil =>
    rw [show ([] : List PyData).isEmpty = true from rfl, if_pos rfl, w_cons, w_ret, v_cst]
    exact hR S (Ext.refl S)
  | @cons d1 ds u1 us h1 h2 =>
  rw [show (u1 :: us).isEmpty = false from rfl, if_neg Bool.false_ne_true, k_not2, k_val, v_isi, v_idx]
  simp only [v_var, v_cst, List.getD_cons_succ, List.getD_cons_zero]
  refine ⟨_, atI_0, ?_⟩
  refine isi_den h1 ?_
  rw [isk_str]
  cases hsb : isStrB u1 with
  | false =>
    rw [t_bl, if_neg Bool.false_ne_true, w_cons, w_ret, v_cst]
    rw [pG_non hsb, Bool.false_and] at hR
    exact hR S (Ext.refl S)
  | true =>
  rw [t_bl, if_pos rfl, w_nil]
  obtain ⟨a, rfl⟩ := pO_str hsb
  cases h1
  try dsimp only
  rw [w_cons, w_ite, k_val, v_cmp, v_idx]
  simp only [v_var, v_cst, List.getD_cons_succ, List.getD_cons_zero]
  refine ⟨_, atI_0, ?_⟩
  try dsimp only
  rw [c_eqs, t_bl]
  have f0 : strW (fld 0 (.tuple (.str (tx a) :: us))) = a := tl_tx a
  have e1 : decide (tx a = tx [110, 111, 98, 111, 100, 121]) = decide (a = wNobody) := by congr 1; exact propext ⟨fun h => tx_inj h, fun h => by rw [h]⟩
  rw [e1]
  by_cases qn : a = wNobody
  · subst qn
    rw [decide_eq_true rfl, if_pos rfl, w_cons, w_ret, v_cmp]
    simp only [v_blt, wEs, v_var, v_cst, List.getD_cons_succ, List.getD_cons_zero]
    rw [l_tup]
    try dsimp only
    rw [c_eqi]
    have e2 : decide ((((D.str (tx wNobody) :: ds).length : Nat) : Int) = 1) = (pG (.tuple (.str (tx wNobody) :: us)) && goalIn ns (.tuple (.str (tx wNobody) :: us))) := by
      have gi : goalIn ns (.tuple (.str (tx wNobody) :: us)) = true := by
        unfold goalIn
        rw [f0]; rfl
      rw [gi, Bool.and_true, List.length_cons, h2.length]
      rcases us with _ | ⟨w, _ | ⟨v, r⟩⟩
      · rfl
      · have : pG (.tuple [.str (tx wNobody), w]) = false := by
          simp only [pG, tl_tx]
          rw [show decide (wNobody = wLine ∨ wNobody = wPlan) = false from by decide]; rfl
        rw [this]; rfl
      · exact decide_eq_false (by rw [List.length_cons, List.length_cons]; omega)
    rw [e2]
    exact hR S (Ext.refl S)
  rw [decide_eq_false qn, if_neg Bool.false_ne_true, w_nil]
  try dsimp only
  rw [w_cons, w_ite, k_or2, k_val, v_cmp]
  simp only [v_blt, wEs, v_var, v_cst, List.getD_cons_succ, List.getD_cons_zero]
  rw [l_tup, List.length_cons, h2.length]
  refine ne_n (j := 2) ?_
  rw [t_bl]
  by_cases q : us.length = 1
  case neg =>
    rw [decide_eq_false (by omega : ¬ us.length + 1 = 2), show (!false) = true from rfl, if_pos rfl, w_cons, w_ret, v_cst]
    have : pG (.tuple (.str (tx a) :: us)) = false := by
      by_cases q0 : us = []
      · subst q0
        simp only [pG, tl_tx]
        exact decide_eq_false qn
      · exact pG_two q q0
    rw [this, Bool.false_and] at hR
    exact hR S (Ext.refl S)
  rw [decide_eq_true (by omega : us.length + 1 = 2), show (!true) = false from rfl, if_neg Bool.false_ne_true, k_not2, k_val, v_call]
  obtain ⟨w, rfl⟩ := len1 q
  cases h2 with
  | @cons d2 ds2 _ _ g1 g2 =>
  cases g2
  simp only [wEs, v_idx]
  simp only [v_var, v_cst, List.getD_cons_succ, List.getD_cons_zero]
  have ep : pG (.tuple [.str (tx a), w]) = (decide (a = wLine ∨ a = wPlan) && pW w) := by simp only [pG, tl_tx]
  rw [ep] at hR
  refine ⟨_, atI_1, _, fl.name m, lnameV g1 (ho w (by simp)) fun S1 x1 => ?_⟩
  rw [t_bl]
  cases hw : pW w with
  | false =>
    rw [hw, Bool.and_false, Bool.false_and] at hR
    rw [if_neg Bool.false_ne_true, w_cons, w_ret, v_cst]
    exact hR S1 x1
  | true =>
  rw [hw, Bool.and_true] at hR
  obtain ⟨wx, rfl, hwx⟩ := pW_str hw
  cases g1
  rw [if_pos rfl, w_nil]
  try dsimp only
  rw [w_cons, w_ret, v_or, v_cmp, v_idx]
  simp only [v_var, v_cst, List.getD_cons_succ, List.getD_cons_zero]
  refine ⟨_, atI_0, ?_⟩
  try dsimp only
  have eL : decide (tx a = tx [108, 105, 110, 101]) = decide (a = wLine) := by congr 1; exact propext ⟨fun h => tx_inj h, fun h => by rw [h]⟩
  rw [c_eqs, eL, t_bl]
  have gi : goalIn ns (.tuple [.str (tx a), .str (tx wx)]) = (!decide (a = wPlan) || decide (wx ∈ ns)) := by
    have f1 : strW (fld 1 (.tuple [.str (tx a), .str (tx wx)])) = wx := tl_tx wx
    unfold goalIn
    rw [f0, f1]
  rw [gi] at hR
  by_cases ql : a = wLine
  · rw [decide_eq_true ql, if_pos rfl]
    subst ql
    exact hR S1 x1
  rw [decide_eq_false ql, if_neg Bool.false_ne_true, v_and, v_cmp, v_idx]
  simp only [v_var, v_cst, List.getD_cons_succ, List.getD_cons_zero]
  refine ⟨_, atI_0, ?_⟩
  try dsimp only
  have eP : decide (tx a = tx [112, 108, 97, 110]) = decide (a = wPlan) := by congr 1; exact propext ⟨fun h => tx_inj h, fun h => by rw [h]⟩
  rw [c_eqs, eP, t_bl]
  by_cases qp : a = wPlan
  · rw [decide_eq_true qp, if_pos rfl, v_cmp, v_idx]
    simp only [v_var, v_cst, List.getD_cons_succ, List.getD_cons_zero]
    refine ⟨_, atI_1, ?_⟩
    have wok : WOk wx := let_in hwx
    have tn := txts_pure (txts_map (f := fun x => D.str (tx x)) (l := ns) fun y hy => (hn y hy).txt)
    have tw := txt_pure wok.txt
    refine .inl ⟨_, x1 _ _ hl, tw.1, Nat.zero_le _, tw.2, tn.1, deps_map fun _ _ => Nat.zero_le _, tn.2, ?_⟩
    rw [any_strs wok hn]
    subst qp
    exact hR S1 x1
  · rw [decide_eq_false qp, if_neg Bool.false_ne_true]
    have : decide (a = wLine ∨ a = wPlan) = false := decide_eq_false fun h => h.elim ql qp
    rw [this, Bool.false_and] at hR
    exact hR S1 x1
end
end Mn

namespace Mn
open PySem PySem.Spec L2
theorem lc_fext {β : Type} {l : List β} {f h : β → D} {P : β → Bool} {g : D → Env → Option Env} {t : MT} {e : ME} {G : Sto → Prop} {env : Env} {S : Sto} {Q : List D → Sto → Prop} (hz : l.length ≤ sizeLine) (hG : ∀ S', Ext S S' → G S')
    (hs : ∀ b ∈ l, ∃ env1, g (f b) env = some env1 ∧ ∀ S', Ext S S' → (∀ KT : Bool → Sto → Prop, (∀ S2, Ext S' S2 → KT (P b) S2) → t env1 S' KT) ∧ ∀ K : MK, K (h b) S' → e env1 S' K) (hQ : ∀ S', Ext S S' → Q ((l.filter P).map h) S') :
    lcRun g t e G env (l.map f) [] S Q := by
  have key : ∀ n j S', l.length - j = n → j ≤ l.length → Ext S S' → lcRun g t e G env ((l.drop j).map f) (((l.take j).filter P).map h) S' Q := by
    intro n
    induction n with
    | zero =>
      intro j S' e hj x
      have : j = l.length := by omega
      subst this
      rw [List.drop_length, List.take_length]
      exact ⟨hG S' x, hQ S' x⟩
    | succ n ih =>
      intro j S' e hj x
      have hj' : j < l.length := by omega
      rw [List.drop_eq_getElem_cons hj', List.map_cons]
      have ih' := fun S2 x2 => ih (j + 1) S2 (by omega) (by omega) x2
      rw [filt_take P l hj'] at ih'
      obtain ⟨env1, h1, h2⟩ := hs _ (List.getElem_mem hj')
      refine ⟨hG S' x, env1, h1, (h2 S' x).1 _ fun S2 x2 => ?_⟩
      cases hp : P l[j] with
      | false =>
        rw [hp] at ih'
        simp only [Bool.false_eq_true, if_false, List.append_nil] at ih' ⊢
        exact ih' S2 (x.trans x2)
      | true =>
        rw [hp] at ih'
        simp only [if_true] at ih' ⊢
        refine (h2 S2 (x.trans x2)).2 _ ⟨?_, ?_⟩
        · rw [List.length_map]
          have := List.length_filter_le P (l.take j)
          rw [List.length_take] at this
          omega
        · have := ih' S2 (x.trans x2)
          rw [List.map_append] at this
          exact this
  have := key l.length 0 S rfl (Nat.zero_le _) (Ext.refl S)
  rw [List.drop_zero, List.take_zero] at this
  exact this
def isIntB : PyData → Bool
  | .int _ => true
  | _ => false
section
variable {Φ : Nat → Str → Option SpD} {Γ : Str → Option D} (fl : FamL Φ Γ)
include fl
theorem lwholeV {m : Nat} {d : D} {u : PyData} {S : Sto} (hd : Den S d u) {R : MK} (hR : R (.bl (isIntB u)) S) : wDf (Φ m) Γ ⟨n__law_whole, 1, c__law_whole⟩ [d] S R := by
  refine ⟨rfl, ?_⟩
  simp only [c__law_whole, n__law_whole, List.map_cons, List.map_nil, List.length_cons, List.length_nil, List.replicate, List.cons_append, List.nil_append, Nat.reduceAdd, Nat.reduceSub]
  rw [w_cons, w_ret, v_and, v_isi]
  simp only [v_var, List.getD_cons_succ, List.getD_cons_zero]
  refine isi_den hd ?_
  rw [t_bl]
  cases hi : isK .int u with
  | false =>
    have : isIntB u = false := by cases u <;> first | rfl | (simp [isK] at hi)
    rw [this] at hR
    rw [if_neg Bool.false_ne_true]
    exact hR
  | true =>
    rw [if_pos rfl]
    show isiD _ _ _ _
    refine isi_den hd ?_
    show R (.bl (!(isK .bool u))) S
    have : isIntB u = !isK .bool u := by cases u <;> first | rfl | (simp [isK] at hi)
    rw [← this]
    exact hR
theorem lwithinV {m n : Nat} {d : D} {u : PyData} {S : Sto} (hd : Den S d u) {R : MK} (hR : R (.bl (dropP n u)) S) : wDf (Φ (m + 1)) Γ ⟨n__law_within, 3, c__law_within⟩ [d, .int 0, .int (n : Nat)] S R := by
  refine ⟨rfl, ?_⟩
  simp only [c__law_within, n__law_within, List.map_cons, List.map_nil, List.length_cons, List.length_nil, List.replicate, List.cons_append, List.nil_append, Nat.reduceAdd, Nat.reduceSub]
  rw [w_cons, w_ret, v_and, v_call]
  simp only [wEs, v_var, List.getD_cons_succ, List.getD_cons_zero]
  refine ⟨_, fl.whole m, lwholeV fl hd ?_⟩
  rw [t_bl]
  cases hi : isIntB u with
  | false =>
    have : dropP n u = false := by cases u <;> first | rfl | (simp [isIntB] at hi)
    rw [this] at hR
    rw [if_neg Bool.false_ne_true]
    exact hR
  | true =>
    rw [if_pos rfl, v_chn2]
    cases u <;> first | (simp [isIntB] at hi; done) | skip
    cases hd
    simp only [v_var, List.getD_cons_succ, List.getD_cons_zero]
    exact chn_le hR
theorem lruleV {m : Nat} {d : D} {u : PyData} {S : Sto} {l : Addr} {ns : List W} (hd : Den S d u) (hs : Ok u) (hl : S l = some (.lst (ns.map fun x => .str (tx x)))) (hn : ∀ x ∈ ns, WOk x) {R : MK} (hR : ∀ S', Ext S S' → R (.bl (pR u && goalIn ns (fld 4 u))) S') : wDf (Φ (m + 2)) Γ ⟨n__law_is_one_rule, 2, c__law_is_one_rule⟩ [d, .ref l] S R := by
  have sz : (16000000 : Nat) ≤ sizeLine := by decide
  refine ⟨rfl, ?_⟩
  simp only [c__law_is_one_rule, n__law_is_one_rule, List.map_cons, List.map_nil, List.length_cons, List.length_nil, List.replicate, List.cons_append, List.nil_append, Nat.reduceAdd, Nat.reduceSub]
  rw [w_cons, w_ite, k_or2, k_not2, k_val, v_isi]
  simp only [v_var, List.getD_cons_succ, List.getD_cons_zero]
  refine isi_den hd ?_
  rw [isk_tup, t_bl]
  cases ht : isTupB u with
  | false =>
    have : pR u = false := by cases u <;> first | rfl | (simp [isTupB] at ht)
    rw [this, Bool.false_and] at hR
    rw [if_neg Bool.false_ne_true, w_cons, w_ret, v_cst]
    exact hR S (Ext.refl S)
  | true =>
  obtain ⟨us, rfl⟩ := tup_of ht
  obtain ⟨ds, rfl, h⟩ := hd.tupD
  obtain ⟨hz, ho⟩ := hs.tup
  rw [if_pos rfl, k_val, v_cmp]
  simp only [v_blt, wEs, v_var, v_cst, List.getD_cons_succ, List.getD_cons_zero]
  rw [l_tup, h.length]
  refine ne_n (j := 5) ?_
  rw [t_bl]
  by_cases q5 : us.length = 5
  case neg =>
    rw [decide_eq_false q5, show (!false) = true from rfl, if_pos rfl, w_cons, w_ret, v_cst]
    rw [pR_len q5, Bool.false_and] at hR
    exact hR S (Ext.refl S)
  rw [decide_eq_true q5, show (!true) = false from rfl, if_neg Bool.false_ne_true, w_nil]
  try dsimp only
  obtain ⟨hs', more, drop, put, goal, rfl⟩ := len5 q5
  obtain ⟨x1, x2, x3, x4, x5, rfl, g1, g2, g3, g4, g5⟩ := h.five
  have er : pR (.tuple [hs', more, drop, put, goal]) = (isTupB hs' && (decide ((tupL hs').length ≤ 2) && ((tupL hs').all pH && (isBoolB more && (dropP (tupL hs').length drop && (pN 3 put && pG goal)))))) := rfl
  rw [er, show fld 4 (.tuple [hs', more, drop, put, goal]) = goal from rfl] at hR
  rw [w_cons, w_ite, k_or2, k_not2, k_val, v_isi, v_idx]
  simp only [v_var, v_cst, List.getD_cons_succ, List.getD_cons_zero]
  refine ⟨_, atI_0, ?_⟩
  refine isi_den g1 ?_
  rw [isk_tup, t_bl]
  cases ht2 : isTupB hs' with
  | false =>
    rw [ht2] at hR
    rw [if_neg Bool.false_ne_true, w_cons, w_ret, v_cst]
    exact hR S (Ext.refl S)
  | true =>
  rw [ht2, Bool.true_and] at hR
  obtain ⟨hus, rfl⟩ := tup_of ht2
  obtain ⟨hds, rfl, g1'⟩ := g1.tupD
  rw [show tupL (.tuple hus) = hus from rfl] at hR
  have hok := (ho (.tuple hus) (by simp)).tup
  rw [if_pos rfl, k_val, v_cmp]
  simp only [v_blt, wEs, v_idx]
  simp only [v_var, v_cst, List.getD_cons_succ, List.getD_cons_zero]
  refine ⟨_, atI_0, ?_⟩
  try dsimp only
  rw [l_tup, g1'.length]
  refine gt_n (j := 2) ?_
  rw [t_bl]
  by_cases q : hus.length ≤ 2
  case neg =>
    rw [decide_eq_false q] at hR ⊢
    rw [show (!false) = true from rfl, if_pos rfl, w_cons, w_ret, v_cst]
    exact hR S (Ext.refl S)
  rw [decide_eq_true q, Bool.true_and] at hR
  rw [decide_eq_true q, show (!true) = false from rfl, if_neg Bool.false_ne_true, w_nil]
  try dsimp only
  rw [w_cons, w_ite, k_or2, k_val, v_cmp, v_lc, sr_it, v_idx]
  simp only [v_var, v_cst, List.getD_cons_succ, List.getD_cons_zero]
  refine ⟨_, atI_0, ?_⟩
  obtain ⟨ps, e1, e2, hp⟩ := g1'.zip
  show lcRun _ _ _ (fun _ => True) _ hds [] S _
  rw [e1]
  have lps : ps.length ≤ 2 := by rw [e2, List.length_map] at q; exact q
  refine lc_fext (l := ps) (f := fun p => p.1) (h := fun p => p.1) (P := fun p => !pH p.2) (by omega) (fun _ _ => trivial) (fun p hpm => ⟨_, w_nm, fun S' y1 => ⟨fun KT hK => ?_, fun K hK => ?_⟩⟩) (fun S1 y1 => ?_)
  · try simp only [wipeD]
    show wT _ _ (.val _) _ _ (fun k S1 => KT (!k) S1)
    rw [k_val, v_call]
    simp only [List.set_cons_succ, List.set_cons_zero, wEs, v_var, List.getD_cons_succ, List.getD_cons_zero]
    refine ⟨_, fl.head (m + 1), lheadV fl ((hp p hpm).ext y1) (hok.2 _ (by rw [e2]; exact List.mem_map_of_mem hpm)) fun S3 y3 => ?_⟩
    rw [t_bl]
    exact hK S3 y3
  · try simp only [wipeD]
    simp only [List.set_cons_succ, List.set_cons_zero, v_var, List.getD_cons_succ, List.getD_cons_zero]
    exact hK
  intro p1 hp1
  rw [v_lst]
  simp only [wEs, List.length_cons, List.length_nil, Nat.reduceAdd]
  refine ⟨Nat.zero_le _, fun p2 hp2 => ?_⟩
  have y2 := (y1.trans (Ext.new (c := .lst ((ps.filter fun p => !pH p.2).map fun p => p.1)) hp1)).trans (Ext.new (c := .lst []) hp2)
  have dn : ∀ {S' : Sto} (zs : List (D × PyData)), (∀ p ∈ zs, Den S' p.1 p.2) → Dens S' (zs.map fun p => p.1) (zs.map fun p => p.2) := by
    intro S' zs
    induction zs with
    | nil => intro _; exact .nil
    | cons z zs ih => intro h; exact .cons (h z List.mem_cons_self) (ih fun p hp => h p (List.mem_cons_of_mem _ hp))
  have mf : ∀ p ∈ ps.filter fun p => !pH p.2, p ∈ ps := fun p hp => (List.mem_filter.mp hp).1
  refine ne_nilV (us := (ps.filter fun p => !pH p.2).map fun p => p.2) (Ext.new (c := .lst []) hp2 _ _ up_same) up_same (dn _ fun p hpm => (hp p (mf p hpm)).ext y2) (ok_list (by rw [List.length_map]; have := List.length_filter_le (fun p : D × PyData => !pH p.2) ps; omega) fun u hu => ?_) ?_
  · obtain ⟨p, hpm, rfl⟩ := List.mem_map.mp hu
    have hm2 : p.2 ∈ hus := by rw [e2]; exact List.mem_map_of_mem (mf p hpm)
    have o1 := hok.2 _ hm2
    refine ⟨o1.s, ?_⟩
    have d1 := hs.d
    rw [PyData.depth, PyData.depthAll, PyData.depth] at d1
    have := depth_mem hm2
    omega
  have ea : ((ps.filter fun p => !pH p.2).map fun p => p.2).isEmpty = hus.all pH := by
    rw [e2]
    clear e1 e2 hp lps mf dn y2 hok g1' hR hp1 hp2
    induction ps with
    | nil => rfl
    | cons a ps ih =>
      rw [List.filter_cons, List.map_cons, List.all_cons]
      cases pH a.2 with
      | true => simpa using ih
      | false => rfl
  generalize up (up S1 p1 _) p2 _ = S2 at y2
  rw [ea, t_bl]
  cases hb : hus.all pH with
  | false =>
    rw [hb] at hR
    rw [show (!false) = true from rfl, if_pos rfl, w_cons, w_ret, v_cst]
    exact hR S2 y2
  | true =>
  rw [hb, Bool.true_and] at hR
  rw [show (!true) = false from rfl, if_neg Bool.false_ne_true, k_not2, k_val, v_isi, v_idx]
  simp only [v_var, v_cst, List.getD_cons_succ, List.getD_cons_zero]
  refine ⟨_, atI_1, ?_⟩
  refine isi_den (g2.ext y2) ?_
  rw [isk_bool, t_bl]
  cases hm : isBoolB more with
  | false =>
    rw [hm] at hR
    rw [if_neg Bool.false_ne_true, w_cons, w_ret, v_cst]
    exact hR S2 y2
  | true =>
  rw [hm, Bool.true_and] at hR
  rw [if_pos rfl, w_nil]
  try dsimp only
  rw [w_cons, w_ite, k_not2, k_and, k_val, v_call]
  simp only [wEs, v_idx, v_blt]
  simp only [v_var, v_cst, List.getD_cons_succ, List.getD_cons_zero]
  refine ⟨_, atI_2, _, atI_0, ?_⟩
  try dsimp only
  rw [l_tup, show (ps.map fun p => p.1).length = hus.length by rw [← e1]; exact g1'.length]
  refine ⟨_, fl.within (m + 1), lwithinV fl (g3.ext y2) ?_⟩
  rw [t_bl]
  cases hdp : dropP hus.length drop with
  | false =>
    rw [hdp] at hR
    rw [if_neg Bool.false_ne_true]
    refine ifB rfl ?_
    rw [w_cons, w_ret, v_cst]
    exact hR S2 y2
  | true =>
  rw [hdp, Bool.true_and] at hR
  rw [if_pos rfl, k_val, v_call]
  simp only [wEs, v_idx]
  simp only [v_var, v_cst, List.getD_cons_succ, List.getD_cons_zero]
  refine ⟨_, atI_3, _, fl.digits (m + 1), ldigitsV (k := 3) (g4.ext y2) (ho put (by simp)) fun S3 y3 => ?_⟩
  rw [t_bl]
  cases hpn : pN 3 put with
  | false =>
    rw [hpn] at hR
    rw [if_neg Bool.false_ne_true, w_cons, w_ret, v_cst]
    exact hR S3 (y2.trans y3)
  | true =>
  rw [hpn, Bool.true_and] at hR
  rw [if_pos rfl, w_nil]
  try dsimp only
  rw [w_cons, w_ret, v_call]
  simp only [wEs, v_idx]
  simp only [v_var, v_cst, List.getD_cons_succ, List.getD_cons_zero]
  exact ⟨_, atI_4, _, fl.goal (m + 1), lgoalV fl (g5.ext (y2.trans y3)) (ho goal (by simp)) ((y2.trans y3) _ _ hl) hn fun S4 y4 => hR S4 ((y2.trans y3).trans y4)⟩
end
end Mn

namespace Mn
open PySem PySem.Spec L2
theorem chn_lt {S : Sto} {R : MK} {i j k : Int} (h : R (.bl (decide (i < j) && decide (j < k))) S) : cmpD .Lt (.int i) (.int j) S (fun z S3 => match z with
    | .bl true => cmpD .Lt (.int j) (.int k) S3 R
    | .bl false => R (.bl false) S3
    | _ => False) := by
  rw [c_lt]
  cases q : decide (i < j) with
  | false => rw [q, Bool.false_and] at h; exact h
  | true => rw [q, Bool.true_and] at h; show cmpD .Lt (.int j) (.int k) S R; rw [c_lt]; exact h
def shB (u : PyData) : Bool := isTupB u && (decide ((tupL u).length = 3) && pW (fld 0 u))
def lrB (ns : List W) (r : PyData) : Bool := pR r && goalIn ns (fld 4 r)
def lpB (ns : List W) (u : PyData) : Bool := pO (fld 1 u) && (isTupB (fld 2 u) && (decide ((tupL (fld 2 u)).length ≤ 6) && (tupL (fld 2 u)).all (lrB ns)))
def lxB (us : List PyData) : Bool := decide (1 ≤ us.length) && decide (us.length ≤ 3) && (us.all shB && (us.all (lpB (namesP us)) && decide (namesP us).Nodup))
theorem pP_eq (u : PyData) : pP u = (shB u && (pO (fld 1 u) && (isTupB (fld 2 u) && (decide ((tupL (fld 2 u)).length ≤ 6) && (tupL (fld 2 u)).all pR)))) := by
  cases u <;> first | rfl | skip
  rename_i us
  by_cases q : us.length = 3
  · obtain ⟨a, b, c, rfl⟩ := len3 q
    show (pW a && _) = ((true && (true && pW a)) && _)
    rw [Bool.true_and, Bool.true_and]
    rfl
  · have : shB (.tuple us) = false := by
      show (true && (decide (us.length = 3) && _)) = false
      rw [decide_eq_false q]; rfl
    rw [pP_len q, this]; rfl
theorem all_and {α : Type} (l : List α) (p q : α → Bool) : (l.all p && l.all q) = l.all fun x => p x && q x := by
  induction l with
  | nil => rfl
  | cons a l ih =>
    rw [List.all_cons, List.all_cons, List.all_cons, ← ih]
    cases p a <;> cases q a <;> simp
theorem all_flat2 {α β : Type} (l : List α) (f : α → List β) (p : β → Bool) : (l.flatMap f).all p = l.all fun a => (f a).all p := by
  induction l with
  | nil => rfl
  | cons a l ih => rw [List.flatMap_cons, List.all_append, ih, List.all_cons]
theorem pX_lx (us : List PyData) : pX (.tuple us) = lxB us := by
  show (decide (1 ≤ us.length) && decide (us.length ≤ 3) && us.all pP && (decide (namesP us).Nodup && (goalsP us).all (goalIn (namesP us)))) = _
  have e1 : us.all pP = (us.all shB && us.all fun u => pO (fld 1 u) && (isTupB (fld 2 u) && (decide ((tupL (fld 2 u)).length ≤ 6) && (tupL (fld 2 u)).all pR))) := by
    rw [all_and]
    congr 1
    funext u
    exact pP_eq u
  have e2 : ((us.all fun u => pO (fld 1 u) && (isTupB (fld 2 u) && (decide ((tupL (fld 2 u)).length ≤ 6) && (tupL (fld 2 u)).all pR))) && (goalsP us).all (goalIn (namesP us))) = us.all (lpB (namesP us)) := by
    unfold goalsP
    rw [all_flat2, all_and]
    congr 1
    funext u
    unfold lpB
    rw [List.all_map]
    have : (tupL (fld 2 u)).all (lrB (namesP us)) = ((tupL (fld 2 u)).all pR && (tupL (fld 2 u)).all (goalIn (namesP us) ∘ fld 4)) := by
      rw [all_and]; rfl
    rw [this]
    generalize (tupL (fld 2 u)).all pR = a
    generalize (tupL (fld 2 u)).all (goalIn (namesP us) ∘ fld 4) = b
    cases pO (fld 1 u) <;> cases isTupB (fld 2 u) <;> cases decide ((tupL (fld 2 u)).length ≤ 6) <;> cases a <;> cases b <;> rfl
  unfold lxB
  rw [e1, ← e2]
  generalize (us.all fun u => pO (fld 1 u) && (isTupB (fld 2 u) && (decide ((tupL (fld 2 u)).length ≤ 6) && (tupL (fld 2 u)).all pR))) = a
  generalize us.all shB = b
  generalize (goalsP us).all (goalIn (namesP us)) = c
  generalize decide (namesP us).Nodup = d
  generalize (decide (1 ≤ us.length) && decide (us.length ≤ 3)) = e
  cases a <;> cases b <;> cases c <;> cases d <;> cases e <;> rfl
structure LP where
  name : W
  o : D
  r : D
  uo : PyData
  ur : PyData
def LP.enc (p : LP) : D := .tup [.str (tx p.name), p.o, p.r]
def LP.u (p : LP) : PyData := .tuple [.str (tx p.name), p.uo, p.ur]
theorem lp_of {S : Sto} : ∀ {us : List PyData} {ds : List D}, Dens S ds us → (∀ u ∈ us, shB u = true) → ∃ ps : List LP, ds = ps.map LP.enc ∧ us = ps.map LP.u ∧ ∀ p ∈ ps, isW p.name = true ∧ Den S p.o p.uo ∧ Den S p.r p.ur
  | _, _, .nil, _ => ⟨[], rfl, rfl, fun _ h => nomatch h⟩
  | u :: us, _, .cons h r, hp => by
    obtain ⟨ps, rfl, rfl, hg⟩ := lp_of r fun u hu => hp u (List.mem_cons_of_mem _ hu)
    have hu := hp _ List.mem_cons_self
    unfold shB at hu
    simp only [Bool.and_eq_true, decide_eq_true_eq] at hu
    obtain ⟨h1, h2, h3⟩ := hu
    obtain ⟨l, rfl⟩ := tup_of h1
    obtain ⟨a, b, c, rfl⟩ := len3 h2
    obtain ⟨n, rfl, hw⟩ := pW_str (u := a) h3
    obtain ⟨ds, rfl, h'⟩ := h.tupD
    obtain ⟨x1, x2, x3, rfl, g1, g2, g3⟩ := h'.three
    cases g1
    exact ⟨⟨n, x2, x3, b, c⟩ :: ps, rfl, rfl, fun p hpm => by
      rcases List.mem_cons.mp hpm with rfl | hpm
      · exact ⟨hw, g2, g3⟩
      · exact hg p hpm⟩
theorem all_bad {α : Type} {l : List α} {p : α → Bool} {x : α} (hx : x ∈ l) (h : p x = false) : l.all p = false := by
  cases q : l.all p with
  | false => rfl
  | true => rw [List.all_eq_true.mp q x hx] at h; cases h
section
variable {Φ : Nat → Str → Option SpD} {Γ : Str → Option D} (fl : FamL Φ Γ)
include fl
theorem lexchV {m : Nat} {d : D} {u : PyData} {S : Sto} (hd : Den S d u) (hs : Ok u) {R : MK} (hR : ∀ S', Ext S S' → R (.bl (pX u)) S') : wDf (Φ (m + 3)) Γ ⟨n__law_is_exchange, 1, c__law_is_exchange⟩ [d] S R := by
  have sz : (16000000 : Nat) ≤ sizeLine := by decide
  refine ⟨rfl, ?_⟩
  simp only [c__law_is_exchange, n__law_is_exchange, List.map_cons, List.map_nil, List.length_cons, List.length_nil, List.replicate, List.cons_append, List.nil_append, Nat.reduceAdd, Nat.reduceSub]
  rw [w_cons, w_ite, k_or2, k_not2, k_val, v_isi]
  simp only [v_var, List.getD_cons_succ, List.getD_cons_zero]
  refine isi_den hd ?_
  rw [isk_tup, t_bl]
  cases ht : isTupB u with
  | false =>
    have : pX u = false := by cases u <;> first | rfl | (simp [isTupB] at ht)
    rw [this] at hR
    rw [if_neg Bool.false_ne_true, w_cons, w_ret, v_cst]
    exact hR S (Ext.refl S)
  | true =>
  obtain ⟨us, rfl⟩ := tup_of ht
  obtain ⟨ds, rfl, h⟩ := hd.tupD
  obtain ⟨hz, ho⟩ := hs.tup
  rw [pX_lx] at hR
  rw [if_pos rfl, k_not2, k_val, v_chn2]
  simp only [v_blt, wEs, v_var, v_cst, List.getD_cons_succ, List.getD_cons_zero]
  rw [l_tup, h.length]
  refine chn_lt ?_
  rw [t_bl]
  have e1 : (decide ((0 : Int) < (us.length : Nat)) && decide (((us.length : Nat) : Int) < 4)) = (decide (1 ≤ us.length) && decide (us.length ≤ 3)) := by
    congr 1 <;> (congr 1; exact propext (by omega))
  rw [e1]
  unfold lxB at hR
  cases hb : (decide (1 ≤ us.length) && decide (us.length ≤ 3)) with
  | false =>
    rw [hb] at hR
    rw [if_neg Bool.false_ne_true, w_cons, w_ret, v_cst]
    exact hR S (Ext.refl S)
  | true =>
  have h3 : us.length ≤ 3 := by
    rw [Bool.and_eq_true] at hb
    exact of_decide_eq_true hb.2
  rw [hb, Bool.true_and] at hR
  rw [if_pos rfl, w_nil]
  try dsimp only
  rw [w_cons, w_fr, sr_it]
  simp only [v_var, List.getD_cons_succ, List.getD_cons_zero]
  show frRun _ _ (fun _ => True) _ ds _ S
  have hlen := h.length
  refine fr_inv (fun i env S' => (∃ y1, env = [some (.tup ds), y1, none, none, none, none, none, none]) ∧ Ext S S' ∧ ∀ u ∈ us.take i, shB u = true) (fun _ _ _ _ => trivial) (fun i hi env S' hI => ?_) (fun env S' hI => ?_) _ 0 _ _ rfl (Nat.zero_le _) ⟨⟨_, rfl⟩, Ext.refl S, fun u hu => by rw [List.take_zero] at hu; cases hu⟩
  · obtain ⟨⟨y1, rfl⟩, x, hsh⟩ := hI
    refine ⟨_, w_nm, fun Nx hN => ?_⟩
    simp only [List.set_cons_succ, List.set_cons_zero]
    have hi2 : i < us.length := by rw [← hlen]; exact hi
    have dni : ∀ {ds : List D} {us : List PyData}, Dens S ds us → ∀ i (h1 : i < ds.length) (h2 : i < us.length), Den S ds[i] us[i] := by
      intro ds us h
      induction us generalizing ds with
      | nil => intro i _ h2; exact absurd h2 (Nat.not_lt_zero _)
      | cons u us ih =>
        cases h with
        | cons g1 g2 =>
          intro i h1 h2
          cases i with
          | zero => exact g1
          | succ i => exact ih g2 i _ _
    have hdi := (dni h i hi hi2).ext x
    have oki := ho us[i] (List.getElem_mem hi2)
    have next : shB us[i] = true → ∀ u ∈ us.take (i + 1), shB u = true := fun q u hu => by
      rw [List.take_succ_eq_append_getElem hi2] at hu
      rcases List.mem_append.mp hu with hu | hu
      · exact hsh u hu
      · rw [List.mem_singleton.mp hu]; exact q
    have bad : shB us[i] = false → ∀ S', Ext S S' → R (.bl false) S' := fun q S' x' => by
      have := hR S' x'
      rw [all_bad (List.getElem_mem hi2) q] at this
      exact this
    generalize us[i] = ui at hdi oki next bad
    generalize ds[i] = di at hdi
    rw [w_cons, w_ite, k_or2, k_not2, k_val, v_isi]
    simp only [v_var, List.getD_cons_succ, List.getD_cons_zero]
    refine isi_den hdi ?_
    rw [isk_tup, t_bl]
    cases ht2 : isTupB ui with
    | false =>
      rw [if_neg Bool.false_ne_true, w_cons, w_ret, v_cst]
      exact bad (by unfold shB; rw [ht2]; rfl) S' x
    | true =>
    obtain ⟨vs, rfl⟩ := tup_of ht2
    obtain ⟨es, rfl, g⟩ := hdi.tupD
    rw [if_pos rfl, k_or2, k_val, v_cmp]
    simp only [v_blt, wEs, v_var, v_cst, List.getD_cons_succ, List.getD_cons_zero]
    rw [l_tup, g.length]
    refine ne_n (j := 3) ?_
    rw [t_bl]
    by_cases q3 : vs.length = 3
    case neg =>
      rw [decide_eq_false q3, show (!false) = true from rfl, if_pos rfl, w_cons, w_ret, v_cst]
      refine bad ?_ S' x
      show (true && (decide (vs.length = 3) && _)) = false
      rw [decide_eq_false q3]; rfl
    rw [decide_eq_true q3, show (!true) = false from rfl, if_neg Bool.false_ne_true, k_not2, k_val, v_call]
    obtain ⟨a, b, c, rfl⟩ := len3 q3
    obtain ⟨z1, z2, z3, rfl, g1, g2, g3⟩ := g.three
    simp only [wEs, v_idx]
    simp only [v_var, v_cst, List.getD_cons_succ, List.getD_cons_zero]
    refine ⟨_, atI_0, _, fl.name (m + 2), lnameV g1 (oki.tup.2 a (by simp)) fun S1 x1 => ?_⟩
    rw [t_bl]
    have es : shB (.tuple [a, b, c]) = pW a := by
      show (true && (true && pW a)) = pW a
      rw [Bool.true_and, Bool.true_and]
    cases hw : pW a with
    | false =>
      rw [if_neg Bool.false_ne_true, w_cons, w_ret, v_cst]
      exact bad (es.trans hw) S1 (x.trans x1)
    | true =>
    rw [if_pos rfl, w_nil]
    try dsimp only
    rw [w_nil]
    exact hN _ _ ⟨⟨_, rfl⟩, x.trans x1, next (es.trans hw)⟩
  obtain ⟨⟨y1, rfl⟩, x1, hsh⟩ := hI
  rw [hlen, List.take_length] at hsh
  rw [show us.all shB = true from List.all_eq_true.mpr hsh, Bool.true_and] at hR
  obtain ⟨ps, rfl, rfl, okp⟩ := lp_of h hsh
  have en : namesP (ps.map LP.u) = ps.map LP.name := by
    unfold namesP
    rw [List.map_map]
    exact List.map_congr_left fun p _ => tl_tx _
  rw [en] at hR
  rw [List.length_map] at h3
  generalize S' = S1 at x1
  try dsimp only
  rw [w_cons, w_asg, v_lc, sr_it]
  simp only [v_var, List.getD_cons_succ, List.getD_cons_zero]
  rw [t_yes]
  show lcRun _ _ _ (fun _ => True) _ (ps.map LP.enc) [] S1 _
  refine lc_all (l := ps) (f := LP.enc) (h := fun p => D.str (tx p.name)) (by omega) trivial (fun p hpp => ⟨_, w_nm, fun K hK => ?_⟩) ?_
  · try simp only [wipeD]
    simp only [List.set_cons_succ, List.set_cons_zero, v_idx, v_var, v_cst, List.getD_cons_succ, List.getD_cons_zero]
    exact ⟨_, atI_0, hK⟩
  intro p1 hp1
  refine ⟨_, w_nm, ?_⟩
  simp only [List.set_cons_succ, List.set_cons_zero]
  have x3 := x1.trans (Ext.new (c := .lst (ps.map fun p => D.str (tx p.name))) hp1)
  have n1 : (up S1 p1 (.lst (ps.map fun p => D.str (tx p.name)))) p1 = some (.lst ((ps.map LP.name).map fun x => D.str (tx x))) := by rw [up_same, List.map_map]; rfl
  generalize up S1 p1 (.lst (ps.map fun p => D.str (tx p.name))) = S3 at x3 n1
  have nok : ∀ y ∈ ps.map LP.name, WOk y := fun y hy => by
    obtain ⟨p, hpp, rfl⟩ := List.mem_map.mp hy
    exact let_in (okp p hpp).1
  rw [w_cons, w_fr, sr_it]
  simp only [v_var, List.getD_cons_succ, List.getD_cons_zero]
  show frRun _ _ (fun _ => True) _ (ps.map LP.enc) _ S3
  refine fr_inv (fun i env S' => (∃ z1 z3 z4 z5 z6 z7, env = [some (.tup (ps.map LP.enc)), z1, some (.ref p1), z3, z4, z5, z6, z7]) ∧ Ext S3 S' ∧ ∀ p ∈ ps.take i, lpB (ps.map LP.name) p.u = true) (fun _ _ _ _ => trivial) (fun i hi env S' hI => ?_) (fun env S' hI => ?_) _ 0 _ _ rfl (Nat.zero_le _) ⟨⟨_, _, _, _, _, _, rfl⟩, Ext.refl S3, fun u hu => by rw [List.take_zero] at hu; cases hu⟩
  · obtain ⟨⟨z1, z3, z4, z5, z6, z7, rfl⟩, x, hlp⟩ := hI
    rw [List.length_map] at hi
    rw [List.getElem_map]
    have hpm := List.getElem_mem hi
    have oki := (ho _ (List.mem_map_of_mem (f := LP.u) hpm)).tup
    have next : lpB (ps.map LP.name) ps[i].u = true → ∀ p ∈ ps.take (i + 1), lpB (ps.map LP.name) p.u = true := fun q u hu => by
      rw [List.take_succ_eq_append_getElem hi] at hu
      rcases List.mem_append.mp hu with hu | hu
      · exact hlp u hu
      · rw [List.mem_singleton.mp hu]; exact q
    have bad : lpB (ps.map LP.name) ps[i].u = false → ∀ S', Ext S S' → R (.bl false) S' := fun q S' x' => by
      have := hR S' x'
      rw [all_bad (List.mem_map_of_mem (f := LP.u) hpm) q] at this
      exact this
    obtain ⟨hw, g2, g3⟩ := okp _ hpm
    generalize ps[i] = p at hpm oki next bad hw g2 g3
    obtain ⟨n, o, r, uo, ur⟩ := p
    refine ⟨_, w_tp3, fun Nx hN => ?_⟩
    simp only [List.set_cons_succ, List.set_cons_zero]
    have xx := x3.trans x
    have k2 : Den S' o uo := g2.ext xx
    have k3 : Den S' r ur := g3.ext xx
    clear g2 g3
    have el : lpB (ps.map LP.name) (LP.u ⟨n, o, r, uo, ur⟩) = (pO uo && (isTupB ur && (decide ((tupL ur).length ≤ 6) && (tupL ur).all (lrB (ps.map LP.name))))) := rfl
    rw [el] at next bad
    have o1 := oki.2 uo (by simp)
    have o2 := oki.2 ur (by simp)
    rw [w_cons, w_ite, k_or2, k_not2, k_val, v_isi]
    simp only [v_var, List.getD_cons_succ, List.getD_cons_zero]
    refine isi_den k2 ?_
    rw [isk_str, t_bl]
    cases hst : isStrB uo with
    | false =>
      rw [if_neg Bool.false_ne_true, w_cons, w_ret, v_cst]
      exact bad (by rw [pO_non hst]; rfl) S' xx
    | true =>
    rw [if_pos rfl, k_val, v_cmp]
    obtain ⟨ox, rfl⟩ := pO_str hst
    cases k2
    simp only [v_var, v_tup, wEs, v_cst, List.length_cons, List.length_nil, Nat.reduceAdd, List.getD_cons_succ, List.getD_cons_zero]
    refine ⟨show 2 ≤ sizeLine by decide, ?_⟩
    have hlo : ∀ y ∈ [wFirst, wLongest], WOk y := fun y hy => by
      rcases List.mem_cons.mp hy with rfl | hy
      · exact w_okc (by decide) (by decide)
      · rw [List.mem_singleton.mp hy]; exact w_okc (by decide) (by decide)
    refine in_tupsN (l := [wFirst, wLongest]) o1.str hlo ?_
    rw [t_bl]
    have e1 : decide (ox ∈ [wFirst, wLongest]) = pO (.str (tx ox)) := by
      simp only [pO, tl_tx]
      congr 1; exact propext (by simp)
    rw [e1]
    cases hpo : pO (.str (tx ox)) with
    | false =>
      rw [show (!false) = true from rfl, if_pos rfl, w_cons, w_ret, v_cst]
      exact bad (by rw [hpo]; rfl) S' xx
    | true =>
    rw [show (!true) = false from rfl, if_neg Bool.false_ne_true, w_nil]
    rw [hpo, Bool.true_and] at next bad
    try dsimp only
    rw [w_cons, w_ite, k_or2, k_not2, k_val, v_isi]
    simp only [v_var, List.getD_cons_succ, List.getD_cons_zero]
    refine isi_den k3 ?_
    rw [isk_tup, t_bl]
    cases ht2 : isTupB ur with
    | false =>
      rw [if_neg Bool.false_ne_true, w_cons, w_ret, v_cst]
      exact bad (by rw [ht2]; rfl) S' xx
    | true =>
    rw [ht2, Bool.true_and] at next bad
    obtain ⟨rus, rfl⟩ := tup_of ht2
    obtain ⟨rds, rfl, g3'⟩ := k3.tupD
    rw [show tupL (.tuple rus) = rus from rfl] at next bad
    have hok := o2.tup
    rw [if_pos rfl, k_val, v_cmp]
    simp only [v_blt, wEs, v_var, v_cst, List.getD_cons_succ, List.getD_cons_zero]
    rw [l_tup, g3'.length]
    refine gt_n (j := 6) ?_
    rw [t_bl]
    by_cases q : rus.length ≤ 6
    case neg =>
      rw [decide_eq_false q, show (!false) = true from rfl, if_pos rfl, w_cons, w_ret, v_cst]
      exact bad (by rw [decide_eq_false q]; rfl) S' xx
    rw [decide_eq_true q, Bool.true_and] at next bad
    rw [decide_eq_true q, show (!true) = false from rfl, if_neg Bool.false_ne_true, w_nil]
    try dsimp only
    rw [w_cons, w_ite, k_val, v_cmp, v_lc, sr_it]
    simp only [v_var, List.getD_cons_succ, List.getD_cons_zero]
    obtain ⟨zs, q1, q2, hp⟩ := g3'.zip
    show lcRun _ _ _ (fun _ => True) _ rds [] S' _
    rw [q1]
    have lzs : zs.length ≤ 6 := by rw [q2, List.length_map] at q; exact q
    refine lc_fext (l := zs) (f := fun p => p.1) (h := fun p => p.1) (P := fun p => !lrB (ps.map LP.name) p.2) (by omega) (fun _ _ => trivial) (fun p hpm => ⟨_, w_nm, fun S2 y1 => ⟨fun KT hK => ?_, fun K hK => ?_⟩⟩) (fun S2 y1 => ?_)
    · try simp only [wipeD]
      show wT _ _ (.val _) _ _ (fun k S1 => KT (!k) S1)
      rw [k_val, v_call]
      simp only [List.set_cons_succ, List.set_cons_zero, wEs, v_var, List.getD_cons_succ, List.getD_cons_zero]
      refine ⟨_, fl.rule (m + 2), lruleV fl ((hp p hpm).ext y1) (hok.2 _ (by rw [q2]; exact List.mem_map_of_mem hpm)) ((x.trans y1) _ _ n1) nok fun S3 y3 => ?_⟩
      rw [t_bl]
      exact hK S3 y3
    · try simp only [wipeD]
      simp only [List.set_cons_succ, List.set_cons_zero, v_var, List.getD_cons_succ, List.getD_cons_zero]
      exact hK
    intro p2 hp2
    rw [v_lst]
    simp only [wEs, List.length_cons, List.length_nil, Nat.reduceAdd]
    refine ⟨Nat.zero_le _, fun p3 hp3 => ?_⟩
    have y2 := (y1.trans (Ext.new (c := .lst ((zs.filter fun p => !lrB (ps.map LP.name) p.2).map fun p => p.1)) hp2)).trans (Ext.new (c := .lst []) hp3)
    have dn : ∀ {S' : Sto} (zs : List (D × PyData)), (∀ p ∈ zs, Den S' p.1 p.2) → Dens S' (zs.map fun p => p.1) (zs.map fun p => p.2) := by
      intro S' zs
      induction zs with
      | nil => intro _; exact .nil
      | cons z zs ih => intro h; exact .cons (h z List.mem_cons_self) (ih fun p hp => h p (List.mem_cons_of_mem _ hp))
    have mf : ∀ p ∈ zs.filter fun p => !lrB (ps.map LP.name) p.2, p ∈ zs := fun p hp => (List.mem_filter.mp hp).1
    refine ne_nilV (us := (zs.filter fun p => !lrB (ps.map LP.name) p.2).map fun p => p.2) (Ext.new (c := .lst []) hp3 _ _ up_same) up_same (dn _ fun p hpm => (hp p (mf p hpm)).ext y2) (ok_list (by rw [List.length_map]; have := List.length_filter_le (fun p : D × PyData => !lrB (ps.map LP.name) p.2) zs; omega) fun u hu => ?_) ?_
    · obtain ⟨p, hpm, rfl⟩ := List.mem_map.mp hu
      have hm2 : p.2 ∈ rus := by rw [q2]; exact List.mem_map_of_mem (mf p hpm)
      have o1 := hok.2 _ hm2
      refine ⟨o1.s, ?_⟩
      have d1 := o2.d
      rw [PyData.depth] at d1
      have := depth_mem hm2
      omega
    have ea : ((zs.filter fun p => !lrB (ps.map LP.name) p.2).map fun p => p.2).isEmpty = rus.all (lrB (ps.map LP.name)) := by
      rw [q2]
      clear q1 q2 hp lzs mf dn y2 hok g3' bad next hp2 hp3 o2 oki y1
      induction zs with
      | nil => rfl
      | cons a zs ih =>
        rw [List.filter_cons, List.map_cons, List.all_cons]
        cases lrB (ps.map LP.name) a.2 with
        | true => simpa using ih
        | false => rfl
    generalize up (up S2 p2 _) p3 _ = S4 at y2
    rw [ea, t_bl]
    cases hb2 : rus.all (lrB (ps.map LP.name)) with
    | false =>
      rw [show (!false) = true from rfl, if_pos rfl, w_cons, w_ret, v_cst]
      exact bad hb2 S4 (xx.trans y2)
    | true =>
    rw [show (!true) = false from rfl, if_neg Bool.false_ne_true, w_nil]
    try dsimp only
    rw [w_nil]
    exact hN _ _ ⟨⟨_, _, _, _, _, _, rfl⟩, x.trans y2, next hb2⟩
  obtain ⟨⟨z1, z3, z4, z5, z6, z7, rfl⟩, x4, hlp⟩ := hI
  rw [List.length_map, List.take_length] at hlp
  have hall : (ps.map LP.u).all (lpB (ps.map LP.name)) = true := by
    rw [List.all_map]
    exact List.all_eq_true.mpr hlp
  rw [hall, Bool.true_and] at hR
  try dsimp only
  rw [w_cons, w_ret, v_cmp]
  simp only [v_blt, v_ss, wEs, v_var, List.getD_cons_succ, List.getD_cons_zero]
  have n2 := x4 _ _ n1
  have es : ((ps.map LP.name).map fun x => D.str (tx x)) = ((ps.map LP.name).map tx).map D.str := by simp only [List.map_map]; rfl
  have n3 := n2
  rw [es] at n3
  refine ⟨_, n3, by simp only [List.length_map]; omega, .inr ⟨_, all_strs _, fun ks pw hk p2 hp2 => ?_⟩⟩
  have nd : ks.Nodup := pw.imp fun {a b} (q : a.cps.toList < b.cps.toList) e => by subst e; exact List.lt_irrefl _ q
  have hnl := nodup_iff nd hk
  have y2 := Ext.new (c := .lst (ks.map D.str)) hp2
  try dsimp only
  rw [l_ref, lstAt_of up_same]
  try dsimp only
  rw [l_ref, lstAt_of (y2 _ _ n2), c_eqi]
  have e5 : decide ((((ks.map D.str).length : Nat) : Int) = (((ps.map LP.name).map fun x => D.str (tx x)).length : Nat)) = decide (ps.map LP.name).Nodup := by
    rw [Bool.eq_iff_iff, decide_eq_true_iff, decide_eq_true_iff, ← nodup_tx, ← hnl]
    simp only [List.length_map]
    omega
  rw [e5]
  exact hR _ ((x3.trans x4).trans y2)
end
end Mn

/-! the tape, its script's place held -/
namespace Mn
open PySem PySem.Spec L2
theorem Keep.step {t p : Addr} {S S' : Sto} (k : Keep t S S') (hp : S p = none) (c : Cell) : Keep t S (up S' p c) := fun a d e ne => by
  rw [up_ne (by rintro rfl; rw [hp] at e; cases e)]
  exact k a d e ne
section
variable {s0 : Addr}
theorem TapeAt.new {S : Sto} {t p : Addr} {k : Nat} {c : Cell} (h : TapeAt s0 S t k) (hp : S p = none) : TapeAt s0 (up S p c) t k := by
  obtain ⟨ns, j, acc, e1, e2, r⟩ := h
  exact ⟨ns, j, acc, by rw [up_ne (by rintro rfl; rw [hp] at e1; cases e1)]; exact e1, by rw [up_ne (by rintro rfl; rw [hp] at e2; cases e2)]; exact e2, r⟩
theorem TapeAt.more {S : Sto} {t : Addr} {k m : Nat} (h : TapeAt s0 S t k) (hm : k ≤ m) : TapeAt s0 S t m := by
  obtain ⟨ns, j, acc, e1, e2, ne, hj, ha⟩ := h
  exact ⟨ns, j, acc, e1, e2, ne, by omega, ha⟩
theorem TapeAt.ext {S S' : Sto} {t : Addr} {k : Nat} (h : TapeAt s0 S t k) (hs : Ext S S') : TapeAt s0 S' t k := by
  obtain ⟨ns, j, acc, e1, e2, r⟩ := h
  exact ⟨ns, j, acc, hs _ _ e1, hs _ _ e2, r⟩
theorem TapeAt.put {S : Sto} {t p : Addr} {k : Nat} {c : Cell} (h : TapeAt s0 S t k) (h1 : p ≠ t) (h2 : p ≠ s0) : TapeAt s0 (up S p c) t k := by
  obtain ⟨ns, j, acc, e1, e2, r⟩ := h
  exact ⟨ns, j, acc, by rw [up_ne fun e => h1 e.symm]; exact e1, by rw [up_ne fun e => h2 e.symm]; exact e2, r⟩
theorem tapeAt_ne {S : Sto} {t p : Addr} {k : Nat} (h : TapeAt s0 S t k) (hp : S p = none) : p ≠ t := by
  rintro rfl
  obtain ⟨_, _, _, e, _⟩ := h
  rw [hp] at e
  cases e
theorem tapeAt_ns {S : Sto} {t p : Addr} {k : Nat} (h : TapeAt s0 S t k) (hp : S p = none) : p ≠ s0 := by
  rintro rfl
  obtain ⟨_, _, _, _, e, _⟩ := h
  rw [hp] at e
  cases e
end
/-- t is one of z -/
class In (t : Addr) (z : List Addr) : Prop where
  mem : t ∈ z
instance In.here {t : Addr} {z : List Addr} : In t (t :: z) := ⟨List.mem_cons_self⟩
instance In.there {t a : Addr} {z : List Addr} [i : In t z] : In t (a :: z) := ⟨List.mem_cons_of_mem _ i.mem⟩
/-- the tape, and other cells that stand -/
def TapeZ (s0 : Addr) (z : List Addr) (S : Sto) (t : Addr) (k : Nat) : Prop := TapeAt s0 S t k ∧ ∀ a ∈ z, ∃ c, S a = some c
section
variable {s0 t : Addr} {z : List Addr}
theorem TapeZ.new {S : Sto} {p : Addr} {k : Nat} {c : Cell} (h : TapeZ s0 z S t k) (hp : S p = none) : TapeZ s0 z (up S p c) t k := ⟨h.1.new hp, fun a ha => by
  by_cases e : a = p
  · subst e; exact ⟨c, up_same⟩
  · rw [up_ne e]; exact h.2 a ha⟩
theorem TapeZ.more {S : Sto} {k m : Nat} (h : TapeZ s0 z S t k) (hm : k ≤ m) : TapeZ s0 z S t m := ⟨h.1.more hm, h.2⟩
theorem TapeZ.ext {S S' : Sto} {k : Nat} (h : TapeZ s0 z S t k) (hs : Ext S S') : TapeZ s0 z S' t k := ⟨h.1.ext hs, fun a ha => let ⟨c, e⟩ := h.2 a ha; ⟨c, hs _ _ e⟩⟩
theorem TapeZ.put {S : Sto} {p : Addr} {k : Nat} {c : Cell} (h : TapeZ s0 z S t k) (h1 : p ≠ t) (h2 : p ≠ s0) : TapeZ s0 z (up S p c) t k := ⟨h.1.put h1 h2, fun a ha => by
  by_cases e : a = p
  · subst e; exact ⟨c, up_same⟩
  · rw [up_ne e]; exact h.2 a ha⟩
theorem TapeZ.push {S : Sto} {p : Addr} {k : Nat} {c : Cell} (h : TapeZ s0 z S t k) (hp : S p = some c) : TapeZ s0 (p :: z) S t k := ⟨h.1, fun a ha => by
  rcases List.mem_cons.mp ha with rfl | ha
  · exact ⟨c, hp⟩
  · exact h.2 a ha⟩
theorem TapeZ.pop {S : Sto} {p : Addr} {k : Nat} (h : TapeZ s0 (p :: z) S t k) : TapeZ s0 z S t k := ⟨h.1, fun a ha => h.2 a (List.mem_cons_of_mem _ ha)⟩
theorem tape_nt {S : Sto} {p : Addr} {k : Nat} (h : TapeZ s0 z S t k) (hp : S p = none) : p ≠ t := tapeAt_ne h.1 hp
theorem tape_ns {S : Sto} {p : Addr} {k : Nat} (h : TapeZ s0 z S t k) (hp : S p = none) : p ≠ s0 := tapeAt_ns h.1 hp
theorem tape_nz {S : Sto} {p : Addr} {k : Nat} (h : TapeZ s0 z S t k) (hp : S p = none) : p ∉ z := fun m => by
  obtain ⟨c, e⟩ := h.2 p m
  rw [hp] at e
  cases e
theorem draw_z (Φ : Str → Option SpD) {Γ : Str → Option D} {S : Sto} {k : Nat} {many : Int} {R : MK} (h : TapeZ s0 z S t k) (hk : k < 2 ^ 60) (h0 : 0 < many) (h1 : many < 2 ^ 60)
    (hR : ∀ i S', 0 ≤ i → i < many → TapeZ s0 z S' t (k + 1) → Keep t S S' → R (.int i) S') : wDf Φ Γ ⟨n__law_draw, 2, c__law_draw⟩ [.ref t, .int many] S R :=
  draw_at Φ h.1 hk h0 h1 fun i S' a b c d => hR i S' a b ⟨c, fun x hx => by
    by_cases e : x = t
    · subst e
      obtain ⟨_, _, _, e, _⟩ := c
      exact ⟨_, e⟩
    · obtain ⟨c', e'⟩ := h.2 x hx
      exact ⟨c', d _ _ e' e⟩⟩ d
end
end Mn

/-! drawn values -/
namespace Mn
open PySem PySem.Spec L2
def n__law_any : List Str := [(tx [95, 108, 97, 119, 95, 116, 97, 112, 101]), (tx [95, 108, 97, 119, 95, 100, 101, 101, 112]), (tx [95, 108, 97, 119, 95, 99, 111, 117, 114, 115, 101]), (tx [95, 108, 97, 119, 95, 115, 111, 109, 101]), (tx [46, 48]), (tx [95, 108, 97, 119, 95, 107])]
def c__law_any : List Sd :=
  [.asg (.nm 2) (.call (tx [95, 108, 97, 119, 95, 100, 114, 97, 119]) [(.var 0), (.cst (.int (13)))]), .ite (.and (.val (.cmp .Lt (.var 2) (.cst (.int (4))))) (.val (.cmp .Gt (.var 1) (.cst (.int (0)))))) [.asg (.nm 3) (.lc [4, 5] (.call (tx [95, 108, 97, 119, 95, 97, 110, 121]) [(.var 0), (.bin .Sub (.var 1) (.cst (.int (1))))]) (.nm 5) (.rng (.call (tx [95, 108, 97, 119, 95, 100, 114, 97, 119]) [(.var 0), (.cst (.int (4)))])) .yes), .ret (.idx (.lst [(.var 3), (.blt .tuple [(.var 3)]), (.blt .tuple [(.var 3)]), (.blt .tuple [(.var 3)])]) (.var 2))] [], .ite (.val (.cmp .Lt (.var 2) (.cst (.int (8))))) [.ret (.idx (.lst [(.bin .Sub (.call (tx [95, 108, 97, 119, 95, 100, 114, 97, 119]) [(.var 0), (.cst (.int (12)))]) (.cst (.int (2)))), (.call (tx [95, 108, 97, 119, 95, 100, 114, 97, 119]) [(.var 0), (.bin .Pow (.cst (.int (10))) (.cst (.int (12))))]), (.cst (.int (0))), (.cst (.int (3)))]) (.blt .max2 [(.cst (.int (0))), (.bin .Sub (.var 2) (.cst (.int (4))))]))] [], .asg (.nm 3) (.lst [(.cst (.str (tx []))), (.cst (.str (tx [48]))), (.cst (.str (tx [97]))), (.cst (.str (tx [108, 105, 110, 101]))), (.cst (.str (tx [112, 108, 97, 110]))), (.cst (.str (tx [102, 105, 114, 115, 116]))), (.cst (.str (tx [49, 50])))]), .ret (.idx (.lst [(.cst (.bl true)), (.cst (.bl false)), (.cst .non), (.idx (.var 3) (.call (tx [95, 108, 97, 119, 95, 100, 114, 97, 119]) [(.var 0), (.cst (.int (7)))])), (.tup [(.cst (.int (1))), (.cst (.int (2)))])]) (.bin .Sub (.var 2) (.cst (.int (8)))))]
def n__law_spoilt : List Str := [(tx [95, 108, 97, 119, 95, 116, 97, 112, 101]), (tx [95, 108, 97, 119, 95, 105, 116, 101, 109]), (tx [95, 108, 97, 119, 95, 107]), (tx [95, 108, 97, 119, 95, 114, 101, 115, 116]), (tx [95, 108, 97, 119, 95, 99, 111, 117, 114, 115, 101]), (tx [95, 108, 97, 119, 95, 97, 116])]
def c__law_spoilt : List Sd :=
  [.ite (.and (.val (.isi (.var 1) [.tup, .lst])) (.and (.val (.cmp .Gt (.blt .len [(.var 1)]) (.cst (.int (0))))) (.val (.cmp .Gt (.call (tx [95, 108, 97, 119, 95, 100, 114, 97, 119]) [(.var 0), (.cst (.int (7)))]) (.cst (.int (0))))))) [.asg (.nm 2) (.call (tx [95, 108, 97, 119, 95, 100, 114, 97, 119]) [(.var 0), (.blt .len [(.var 1)])]), .asg (.nm 3) (.blt .list [(.var 1)]), .asg (.nm 4) (.call (tx [95, 108, 97, 119, 95, 100, 114, 97, 119]) [(.var 0), (.cst (.int (12)))]), .ite (.val (.cmp .Lt (.var 4) (.cst (.int (8))))) [.put (.var 3) (.var 2) (.call (tx [95, 108, 97, 119, 95, 115, 112, 111, 105, 108, 116]) [(.var 0), (.idx (.var 3) (.var 2))])] [.ite (.val (.cmp .Eq (.var 4) (.cst (.int (8))))) [.exp (.mth .pop (.var 3) [(.var 2)])] [.ite (.val (.cmp .Eq (.var 4) (.cst (.int (9))))) [.exp (.mth .insert (.var 3) [(.var 2), (.idx (.var 3) (.call (tx [95, 108, 97, 119, 95, 100, 114, 97, 119]) [(.var 0), (.blt .len [(.var 3)])]))])] [.ite (.val (.cmp .Eq (.var 4) (.cst (.int (10))))) [.asg (.nm 3) (.rev (.var 3))] [.exp (.mth .insert (.var 3) [(.var 2), (.call (tx [95, 108, 97, 119, 95, 97, 110, 121]) [(.var 0), (.cst (.int (1)))])])]]]], .ret (.ife (.val (.isi (.var 1) [.tup])) (.blt .tuple [(.var 3)]) (.var 3))] [], .ite (.and (.val (.call (tx [95, 108, 97, 119, 95, 119, 104, 111, 108, 101]) [(.var 1)])) (.val (.cmp .Gt (.call (tx [95, 108, 97, 119, 95, 100, 114, 97, 119]) [(.var 0), (.cst (.int (6)))]) (.cst (.int (0)))))) [.ret (.bin .Add (.var 1) (.idx (.lst [(.cst (.int (1))), (.neg (.cst (.int (1)))), (.cst (.int (2))), (.neg (.cst (.int (2)))), (.cst (.int (9))), (.cst (.int (1000)))]) (.call (tx [95, 108, 97, 119, 95, 100, 114, 97, 119]) [(.var 0), (.cst (.int (6)))])))] [], .ite (.and (.val (.isi (.var 1) [.str])) (.val (.cmp .Gt (.call (tx [95, 108, 97, 119, 95, 100, 114, 97, 119]) [(.var 0), (.cst (.int (3)))]) (.cst (.int (0)))))) [.asg (.nm 5) (.call (tx [95, 108, 97, 119, 95, 100, 114, 97, 119]) [(.var 0), (.bin .Add (.blt .len [(.var 1)]) (.cst (.int (1))))]), .ret (.bin .Add (.bin .Add (.sli (.var 1) .no (.at (.var 5))) (.idx (.lst [(.cst (.str (tx [32]))), (.cst (.str (tx [122]))), (.cst (.str (tx [65]))), (.cst (.str (tx [124]))), (.cst (.str (tx [97, 98, 99, 100, 101, 102, 103, 104]))), (.cst (.str (tx [])))]) (.call (tx [95, 108, 97, 119, 95, 100, 114, 97, 119]) [(.var 0), (.cst (.int (6)))]))) (.sli (.var 1) (.at (.var 5)) .no))] [], .ite (.and (.val (.isi (.var 1) [.tup, .lst])) (.val (.cmp .Eq (.call (tx [95, 108, 97, 119, 95, 100, 114, 97, 119]) [(.var 0), (.cst (.int (2)))]) (.cst (.int (0)))))) [.ret (.ife (.val (.isi (.var 1) [.tup])) (.blt .list [(.var 1)]) (.blt .tuple [(.var 1)]))] [], .ret (.call (tx [95, 108, 97, 119, 95, 97, 110, 121]) [(.var 0), (.cst (.int (2)))])]
mutual
/-- a drawn value: what it is, apart from the tape, texts and lists not longer than N, not deeper than k -/
inductive VD (z : List Addr) (N : Nat) (S : Sto) : Nat → D → PyData → Prop
  | non (k : Nat) : VD z N S k .non .none
  | bl (k : Nat) (b : Bool) : VD z N S k (.bl b) (.bool b)
  | int (k : Nat) (i : Int) : VD z N S k (.int i) (.int i)
  | str (k : Nat) (x : W) (h : x.length ≤ N) (hc : ∀ c ∈ x, c < 0x110000) : VD z N S k (.str (tx x)) (.str (tx x))
  | tup {k : Nat} {ds : List D} {us : List PyData} (hl : us.length ≤ N) (h : VDs z N S k ds us) : VD z N S (k + 1) (.tup ds) (.tuple us)
  | ref {k : Nat} {a : Addr} {ds : List D} {us : List PyData} (ne : a ∉ z) (e : S a = some (.lst ds)) (hl : us.length ≤ N) (h : VDs z N S k ds us) : VD z N S (k + 1) (.ref a) (.list us)
inductive VDs (z : List Addr) (N : Nat) (S : Sto) : Nat → List D → List PyData → Prop
  | nil (k : Nat) : VDs z N S k [] []
  | cons {k : Nat} {d : D} {ds : List D} {u : PyData} {us : List PyData} (h : VD z N S k d u) (r : VDs z N S k ds us) : VDs z N S k (d :: ds) (u :: us)
end
mutual
theorem VD.keep {t : Addr} {z : List Addr} [iz : In t z] {N : Nat} {S S' : Sto} (x : Keep t S S') : ∀ (u : PyData) {k : Nat} {d : D}, VD z N S k d u → VD z N S' k d u
  | .none, _, _, h => by cases h; exact .non _
  | .bool b, _, _, h => by cases h; exact .bl _ b
  | .int i, _, _, h => by cases h; exact .int _ i
  | .str y, _, _, h => by
    cases h with
    | str _ x h hc => exact .str _ x h hc
  | .tuple us, _, _, h => by
    cases h with
    | tup hl h => exact .tup hl (VDs.keep x us h)
  | .list us, _, _, h => by
    cases h with
    | ref ne e hl h => exact .ref ne (x _ _ e fun q => ne (q ▸ iz.mem)) hl (VDs.keep x us h)
  | .dict _, _, _, h => by cases h
theorem VDs.keep {t : Addr} {z : List Addr} [iz : In t z] {N : Nat} {S S' : Sto} (x : Keep t S S') : ∀ (us : List PyData) {k : Nat} {ds : List D}, VDs z N S k ds us → VDs z N S' k ds us
  | [], _, _, h => by cases h; exact .nil _
  | u :: us, _, _, h => by
    cases h with
    | cons h1 h2 => exact .cons (VD.keep x u h1) (VDs.keep x us h2)
end
mutual
theorem VD.den {z : List Addr} {N : Nat} {S : Sto} : ∀ (u : PyData) {k : Nat} {d : D}, VD z N S k d u → Den S d u
  | .none, _, _, h => by cases h; exact .non
  | .bool b, _, _, h => by cases h; exact .bl b
  | .int i, _, _, h => by cases h; exact .int i
  | .str y, _, _, h => by cases h; exact .str _
  | .tuple us, _, _, h => by
    cases h with
    | tup hl h => exact .tup (VDs.den us h)
  | .list us, _, _, h => by
    cases h with
    | ref ne e hl h => exact .ref e (VDs.den us h)
  | .dict _, _, _, h => by cases h
theorem VDs.den {z : List Addr} {N : Nat} {S : Sto} : ∀ (us : List PyData) {k : Nat} {ds : List D}, VDs z N S k ds us → Dens S ds us
  | [], _, _, h => by cases h; exact .nil
  | u :: us, _, _, h => by
    cases h with
    | cons h1 h2 => exact .cons (VD.den u h1) (VDs.den us h2)
end
mutual
theorem VD.mono {z : List Addr} {N N' : Nat} {S : Sto} (hN : N ≤ N') : ∀ (u : PyData) {k k' : Nat} {d : D}, k ≤ k' → VD z N S k d u → VD z N' S k' d u
  | .none, _, _, _, _, h => by cases h; exact .non _
  | .bool b, _, _, _, _, h => by cases h; exact .bl _ b
  | .int i, _, _, _, _, h => by cases h; exact .int _ i
  | .str y, _, _, _, _, h => by
    cases h with
    | str _ x h hc => exact .str _ x (Nat.le_trans h hN) hc
  | .tuple us, _, k', _, hk, h => by
    cases h with
    | @tup k _ _ hl h =>
      obtain ⟨j, rfl⟩ : ∃ j, k' = j + 1 := ⟨k' - 1, by omega⟩
      exact .tup (Nat.le_trans hl hN) (VDs.mono hN us (by omega) h)
  | .list us, _, k', _, hk, h => by
    cases h with
    | @ref k _ _ _ ne e hl h =>
      obtain ⟨j, rfl⟩ : ∃ j, k' = j + 1 := ⟨k' - 1, by omega⟩
      exact .ref ne e (Nat.le_trans hl hN) (VDs.mono hN us (by omega) h)
  | .dict _, _, _, _, _, h => by cases h
theorem VDs.mono {z : List Addr} {N N' : Nat} {S : Sto} (hN : N ≤ N') : ∀ (us : List PyData) {k k' : Nat} {ds : List D}, k ≤ k' → VDs z N S k ds us → VDs z N' S k' ds us
  | [], _, _, _, _, h => by cases h; exact .nil _
  | u :: us, _, _, _, hk, h => by
    cases h with
    | cons h1 h2 => exact .cons (VD.mono hN u hk h1) (VDs.mono hN us hk h2)
end
mutual
theorem VD.size {z : List Addr} {N : Nat} {S : Sto} (hN : N ≤ 5000) : ∀ (u : PyData) {k : Nat} {d : D}, VD z N S k d u → sm u = true ∧ u.depth ≤ k
  | .none, _, _, h => ⟨by simp [sm], by rw [PyData.depth]; omega⟩
  | .bool b, _, _, h => ⟨by simp [sm], by rw [PyData.depth]; omega⟩
  | .int i, _, _, h => ⟨by simp [sm], by rw [PyData.depth]; omega⟩
  | .str y, _, _, h => by
    cases h with
    | str _ x h hc => exact ⟨(WOk.ok ⟨Nat.le_trans h hN, hc⟩).s, by rw [PyData.depth]; omega⟩
  | .tuple us, _, _, h => by
    cases h with
    | tup hl h =>
      have := VDs.size hN us h
      exact ⟨by rw [sm, decide_eq_true (Nat.le_trans hl hN), this.1]; rfl, by rw [PyData.depth]; omega⟩
  | .list us, _, _, h => by
    cases h with
    | ref ne e hl h =>
      have := VDs.size hN us h
      exact ⟨by rw [sm, decide_eq_true (Nat.le_trans hl hN), this.1]; rfl, by rw [PyData.depth]; omega⟩
  | .dict _, _, _, h => by cases h
theorem VDs.size {z : List Addr} {N : Nat} {S : Sto} (hN : N ≤ 5000) : ∀ (us : List PyData) {k : Nat} {ds : List D}, VDs z N S k ds us → sms us = true ∧ PyData.depthAll us ≤ k
  | [], _, _, h => ⟨by rw [sms], by rw [PyData.depthAll]; omega⟩
  | u :: us, _, _, h => by
    cases h with
    | cons h1 h2 =>
      have a := VD.size hN u h1
      have b := VDs.size hN us h2
      exact ⟨by rw [sms, a.1, b.1]; rfl, by rw [PyData.depthAll]; omega⟩
end
theorem VD.ok {z : List Addr} {N k : Nat} {S : Sto} {d : D} {u : PyData} (h : VD z N S k d u) (hN : N ≤ 5000) (hk : k ≤ 40) : Ok u :=
  let s := h.size hN u
  ⟨s.1, Nat.le_trans s.2 hk⟩
theorem VDs.length {z : List Addr} {N k : Nat} {S : Sto} {ds : List D} {us : List PyData} (h : VDs z N S k ds us) : ds.length = us.length := (h.den us).length
/-- a value, whatever it is -/
def Vl (z : List Addr) (N : Nat) (S : Sto) (k : Nat) (d : D) : Prop := ∃ u, VD z N S k d u
theorem Vl.keep {t : Addr} {z : List Addr} [iz : In t z] {N k : Nat} {S S' : Sto} {d : D} (h : Vl z N S k d) (x : Keep t S S') : Vl z N S' k d := let ⟨u, h⟩ := h; ⟨u, h.keep x u⟩
theorem Vl.mono {z : List Addr} {N N' k k' : Nat} {S : Sto} {d : D} (h : Vl z N S k d) (hN : N ≤ N') (hk : k ≤ k') : Vl z N' S k' d := let ⟨u, h⟩ := h; ⟨u, h.mono hN u hk⟩
theorem vds_of {z : List Addr} {N k : Nat} {S : Sto} : ∀ {ds : List D}, (∀ d ∈ ds, Vl z N S k d) → ∃ us, VDs z N S k ds us
  | [], _ => ⟨[], .nil _⟩
  | d :: ds, h => by
    obtain ⟨u, hu⟩ := h d List.mem_cons_self
    obtain ⟨us, hus⟩ := vds_of fun e he => h e (List.mem_cons_of_mem _ he)
    exact ⟨u :: us, .cons hu hus⟩
theorem vds_mem {z : List Addr} {N k : Nat} {S : Sto} : ∀ {ds : List D} {us : List PyData}, VDs z N S k ds us → ∀ d ∈ ds, Vl z N S k d
  | _, _, .cons h r, d, hd => by
    rcases List.mem_cons.mp hd with rfl | hd
    · exact ⟨_, h⟩
    · exact vds_mem r d hd
theorem vl_tup {z : List Addr} {N k : Nat} {S : Sto} {ds : List D} (hl : ds.length ≤ N) (h : ∀ d ∈ ds, Vl z N S k d) : Vl z N S (k + 1) (.tup ds) := by
  obtain ⟨us, hus⟩ := vds_of h
  exact ⟨_, .tup (by rw [← hus.length]; exact hl) hus⟩
theorem vl_ref {z : List Addr} {N k : Nat} {S : Sto} {a : Addr} {ds : List D} (ne : a ∉ z) (e : S a = some (.lst ds)) (hl : ds.length ≤ N) (h : ∀ d ∈ ds, Vl z N S k d) : Vl z N S (k + 1) (.ref a) := by
  obtain ⟨us, hus⟩ := vds_of h
  exact ⟨_, .ref ne e (by rw [← hus.length]; exact hl) hus⟩
theorem vl_str {z : List Addr} {N k : Nat} {S : Sto} {x : W} (h : (x.all fun c => decide (c < 128)) = true) (hl : x.length ≤ N) : Vl z N S k (.str (tx x)) := ⟨_, .str _ x hl fun c hc => by have := of_decide_eq_true (List.all_eq_true.mp h c hc); omega⟩
theorem vl_int {z : List Addr} {N k : Nat} {S : Sto} {i : Int} : Vl z N S k (.int i) := ⟨_, .int _ i⟩
theorem vl_bl {z : List Addr} {N k : Nat} {S : Sto} {b : Bool} : Vl z N S k (.bl b) := ⟨_, .bl _ b⟩
theorem vl_non {z : List Addr} {N k : Nat} {S : Sto} : Vl z N S k .non := ⟨_, .non _⟩
theorem Ext.keep {t : Addr} {S S' : Sto} (x : Ext S S') : Keep t S S' := fun a c e _ => x a c e
theorem Keep.ext {t : Addr} {S S1 S2 : Sto} (k : Keep t S S1) (x : Ext S1 S2) : Keep t S S2 := k.trans x.keep
abbrev nAny : Str := tx [95, 108, 97, 119, 95, 97, 110, 121]
abbrev nSpoilt : Str := tx [95, 108, 97, 119, 95, 115, 112, 111, 105, 108, 116]
abbrev nLike : Str := tx [95, 108, 97, 119, 95, 108, 105, 107, 101]
theorem any_tail {s0 t : Addr} {z : List Addr} [iz : In t z] {Φ : Nat → Str → Option SpD} {Γ : Str → Option D} (hD : ∀ n, Φ (n + 1) nDraw = some (wDf (Φ n) Γ ⟨n__law_draw, 2, c__law_draw⟩)) {m N j : Nat} (hN : 10 ≤ N) {S S0 : Sto} {k : Nat} {R : MK} {y1 y3 y4 y5 : Option D} {i : Int} (i0 : 0 ≤ i) (i13 : i < 13) (h : TapeZ s0 z S t k) (hk : k + 100 < 2 ^ 60) (kp : Keep t S0 S) (hR : ∀ v S', Vl z N S' (j + 1) v → TapeZ s0 z S' t (k + 5) → Keep t S0 S' → R v S') :
    wSs (Φ (m + 1)) Γ [nth c__law_any 2, nth c__law_any 3, nth c__law_any 4] ⟨fun _ S' => R .non S', R, fun _ _ => False, fun _ _ => False⟩ [some (.ref t), y1, some (.int i), y3, y4, y5] S := by
  have sz : (16000000 : Nat) ≤ sizeLine := by decide
  simp only [c__law_any, nth, List.getD_cons_succ, List.getD_cons_zero]
  rw [w_cons, w_ite, k_val, v_cmp]
  simp only [v_var, v_cst, List.getD_cons_succ, List.getD_cons_zero]
  rw [c_lt, t_bl]
  by_cases c8 : i < 8
  · rw [decide_eq_true c8, if_pos rfl, w_cons, w_ret, v_idx, v_lst]
    simp only [wEs, v_bin, v_call]
    simp only [v_var, v_cst, List.getD_cons_succ, List.getD_cons_zero]
    refine ⟨_, hD m, draw_z _ h (by omega) (by decide) (by decide) fun a S1 a0 a1 h1 k1 => ?_⟩
    rw [b_subi, b_powi]
    refine ⟨by decide, by decide, by decide, ?_⟩
    have e12 : (10 : Int) ^ (12 : Int).toNat = 1000000000000 := by decide
    rw [e12]
    refine ⟨_, hD m, draw_z _ h1 (by omega) (by decide) (by decide) fun b S2 b0 b1 h2 k2 => ?_⟩
    simp only [List.length_cons, List.length_nil, Nat.reduceAdd]
    refine ⟨show 4 ≤ sizeLine by decide, fun q hq => ?_⟩
    have kq := ((kp.trans k1).trans k2).ext (Ext.new (c := .lst [.int (a - 2), .int b, .int 0, .int 3]) hq)
    have hq3 := h2.ext (Ext.new (c := .lst [.int (a - 2), .int b, .int 0, .int 3]) hq)
    have eq := up_same (S := S2) (a := q) (c := .lst [.int (a - 2), .int b, .int 0, .int 3])
    generalize up S2 q (.lst [.int (a - 2), .int b, .int 0, .int 3]) = S3 at kq hq3 eq
    simp only [v_blt, wEs, v_bin]
    simp only [v_var, v_cst, List.getD_cons_succ, List.getD_cons_zero]
    rw [b_subi]
    obtain ⟨j, ej, j0, j1⟩ : ∃ j : Int, (if i - 4 > 0 then i - 4 else 0) = j ∧ 0 ≤ j ∧ j < 4 := ⟨_, rfl, by split <;> omega, by split <;> omega⟩
    show idxD (.ref q) (.int (if i - 4 > 0 then i - 4 else 0)) S3 R
    rw [ej, i_ref, lstAt_of eq]
    obtain ⟨v, hv, hm⟩ := atI_some (xs := [D.int (a - 2), .int b, .int 0, .int 3]) j0 j1
    refine ⟨v, hv, hR v S3 ?_ (hq3.more (by omega)) kq⟩
    simp only [List.mem_cons, List.not_mem_nil, or_false] at hm
    rcases hm with rfl | rfl | rfl | rfl <;> exact vl_int
  · rw [decide_eq_false c8, if_neg Bool.false_ne_true, w_nil]
    try dsimp only
    rw [w_cons, w_asg, v_lst]
    simp only [wEs, v_cst, List.length_cons, List.length_nil, Nat.reduceAdd]
    refine ⟨show 7 ≤ sizeLine by decide, fun q hq => ⟨_, w_nm, ?_⟩⟩
    simp only [List.set_cons_succ, List.set_cons_zero]
    have kq := kp.ext (Ext.new (c := .lst [.str (tx []), .str (tx [48]), .str (tx [97]), .str (tx [108, 105, 110, 101]), .str (tx [112, 108, 97, 110]), .str (tx [102, 105, 114, 115, 116]), .str (tx [49, 50])]) hq)
    have h1 := h.ext (Ext.new (c := .lst [.str (tx []), .str (tx [48]), .str (tx [97]), .str (tx [108, 105, 110, 101]), .str (tx [112, 108, 97, 110]), .str (tx [102, 105, 114, 115, 116]), .str (tx [49, 50])]) hq)
    have eq := up_same (S := S) (a := q) (c := .lst [.str (tx []), .str (tx [48]), .str (tx [97]), .str (tx [108, 105, 110, 101]), .str (tx [112, 108, 97, 110]), .str (tx [102, 105, 114, 115, 116]), .str (tx [49, 50])])
    have qt : q ≠ t := tape_nt h hq
    generalize up S q (.lst [.str (tx []), .str (tx [48]), .str (tx [97]), .str (tx [108, 105, 110, 101]), .str (tx [112, 108, 97, 110]), .str (tx [102, 105, 114, 115, 116]), .str (tx [49, 50])]) = S1 at kq h1 eq
    rw [w_cons, w_ret, v_idx, v_lst]
    simp only [wEs, v_cst, v_idx, v_call, v_tup]
    simp only [v_var, v_cst, List.length_cons, List.length_nil, Nat.reduceAdd, List.getD_cons_succ, List.getD_cons_zero]
    refine ⟨_, hD m, draw_z _ h1 (by omega) (by decide) (by decide) fun a S2 a0 a1 h2 k2 => ?_⟩
    rw [i_ref, lstAt_of (k2 _ _ eq qt)]
    obtain ⟨v, hv, hm⟩ := atI_some (xs := [D.str (tx []), .str (tx [48]), .str (tx [97]), .str (tx [108, 105, 110, 101]), .str (tx [112, 108, 97, 110]), .str (tx [102, 105, 114, 115, 116]), .str (tx [49, 50])]) a0 a1
    refine ⟨v, hv, show 2 ≤ sizeLine by decide, show 5 ≤ sizeLine by decide, fun q2 hq2 => ?_⟩
    have thv : ∀ S', Vl z N S' (j + 1) v := fun S' => by
      simp only [List.mem_cons, List.not_mem_nil, or_false] at hm
      rcases hm with rfl | rfl | rfl | rfl | rfl | rfl | rfl <;> exact vl_str (by decide) (by simp only [List.length_cons, List.length_nil, Nat.reduceAdd]; omega)
    have k3 := (kq.trans k2).ext (Ext.new (c := .lst [.bl true, .bl false, .non, v, .tup [.int 1, .int 2]]) hq2)
    have h3 := h2.ext (Ext.new (c := .lst [.bl true, .bl false, .non, v, .tup [.int 1, .int 2]]) hq2)
    have e3 := up_same (S := S2) (a := q2) (c := .lst [.bl true, .bl false, .non, v, .tup [.int 1, .int 2]])
    generalize up S2 q2 (.lst [.bl true, .bl false, .non, v, .tup [.int 1, .int 2]]) = S3 at k3 h3 e3
    simp only [v_bin]
    simp only [v_var, v_cst, List.getD_cons_succ, List.getD_cons_zero]
    rw [b_subi, i_ref, lstAt_of e3]
    obtain ⟨u, hu, hum⟩ := atI_some (xs := [D.bl true, .bl false, .non, v, .tup [.int 1, .int 2]]) (i := i - 8) (by omega) (by show i - 8 < 5; omega)
    refine ⟨u, hu, hR u S3 ?_ (h3.more (by omega)) k3⟩
    simp only [List.mem_cons, List.not_mem_nil, or_false] at hum
    rcases hum with rfl | rfl | rfl | rfl | rfl
    · exact vl_bl
    · exact vl_bl
    · exact vl_non
    · exact thv S3
    · exact vl_tup (by simp only [List.length_cons, List.length_nil, Nat.reduceAdd]; omega) fun d hd => by
        simp only [List.mem_cons, List.not_mem_nil, or_false] at hd
        rcases hd with rfl | rfl <;> exact vl_int
theorem any_ok {s0 t : Addr} {z : List Addr} [iz : In t z] {Φ : Nat → Str → Option SpD} {Γ : Str → Option D} (hA : ∀ n, Φ (n + 1) nAny = some (wDf (Φ n) Γ ⟨n__law_any, 2, c__law_any⟩)) (hD : ∀ n, Φ (n + 1) nDraw = some (wDf (Φ n) Γ ⟨n__law_draw, 2, c__law_draw⟩)) {N : Nat} (hN : 10 ≤ N) : ∀ (d m : Nat), d ≤ 3 → ∀ {S : Sto} {k : Nat} {R : MK}, TapeZ s0 z S t k → k + 10000 * (d + 1) < 2 ^ 60 → (∀ v S', Vl z N S' (d + 1) v → TapeZ s0 z S' t (k + 10 * 5 ^ d) → Keep t S S' → R v S') → wDf (Φ (m + d + 1)) Γ ⟨n__law_any, 2, c__law_any⟩ [.ref t, .int (d : Nat)] S R := by
  intro d
  induction d with
  | zero =>
    intro m hd2 S k R h hk hR
    refine ⟨rfl, ?_⟩
    show wSs _ _ c__law_any _ [some (.ref t), some (.int ((0 : Nat) : Int)), none, none, none, none] _
    have ec : c__law_any = [nth c__law_any 0, nth c__law_any 1, nth c__law_any 2, nth c__law_any 3, nth c__law_any 4] := rfl
    rw [ec, w_cons]
    have e0 : nth c__law_any 0 = .asg (.nm 2) (.call nDraw [.var 0, .cst (.int 13)]) := rfl
    rw [e0, w_asg, v_call]
    simp only [wEs, v_var, v_cst, List.getD_cons_succ, List.getD_cons_zero]
    refine ⟨_, hD m, draw_z _ h (by omega) (by decide) (by decide) fun i S1 i0 i13 h1 k1 => ⟨_, w_nm, ?_⟩⟩
    simp only [List.set_cons_succ, List.set_cons_zero]
    rw [w_cons]
    have tl := any_tail (j := 0) (hN := hN) (S0 := S) (R := R) (m := m) (y1 := some (.int ((0 : Nat) : Int))) (y3 := none) (y4 := none) (y5 := none) hD i0 i13 h1 (by omega) k1 fun v S' th h2 k2 => hR v S' th (h2.more (by omega)) k2
    show wS _ _ (.ite (.and (.val (.cmp .Lt (.var 2) (.cst (.int 4)))) (.val (.cmp .Gt (.var 1) (.cst (.int 0))))) _ []) _ _ _
    rw [w_ite, k_and, k_val, v_cmp]
    simp only [v_var, v_cst, List.getD_cons_succ, List.getD_cons_zero]
    rw [c_lt, t_bl]
    by_cases c4 : i < 4
    · rw [decide_eq_true c4, if_pos rfl, k_val, v_cmp]
      simp only [v_var, v_cst, List.getD_cons_succ, List.getD_cons_zero]
      rw [c_gt, t_bl]
      have : decide ((0 : Int) < ((0 : Nat) : Int)) = false := by decide
      rw [this, if_neg Bool.false_ne_true, w_nil]
      exact tl
    · rw [decide_eq_false c4, if_neg Bool.false_ne_true]
      simp only [Bool.false_eq_true, if_false, w_nil]
      exact tl
  | succ d ih =>
    intro m hd2 S k R h hk hR
    have sz : (16000000 : Nat) ≤ sizeLine := by decide
    have p5 : 5 ^ d ≤ 25 := by
      have : d = 0 ∨ d = 1 ∨ d = 2 := by omega
      rcases this with rfl | rfl | rfl <;> decide
    have p51 : 1 ≤ 5 ^ d := Nat.one_le_pow _ _ (by decide)
    have p5s : 5 ^ (d + 1) = 5 ^ d * 5 := Nat.pow_succ ..
    obtain ⟨c, hc⟩ : ∃ c, c = 10 * 5 ^ d := ⟨_, rfl⟩
    have c50 : c ≤ 250 := by omega
    have c10 : 10 ≤ c := by omega
    rw [show 10 * 5 ^ (d + 1) = 5 * c by omega] at hR
    rw [← hc] at ih
    refine ⟨rfl, ?_⟩
    show wSs _ _ c__law_any _ [some (.ref t), some (.int ((d + 1 : Nat) : Int)), none, none, none, none] _
    have ec : c__law_any = [nth c__law_any 0, nth c__law_any 1, nth c__law_any 2, nth c__law_any 3, nth c__law_any 4] := rfl
    rw [ec, w_cons]
    have e0 : nth c__law_any 0 = .asg (.nm 2) (.call nDraw [.var 0, .cst (.int 13)]) := rfl
    rw [e0, w_asg, v_call]
    simp only [wEs, v_var, v_cst, List.getD_cons_succ, List.getD_cons_zero]
    refine ⟨_, hD (m + d + 1), draw_z _ h (by omega) (by decide) (by decide) fun i S1 i0 i13 h1 k1 => ⟨_, w_nm, ?_⟩⟩
    simp only [List.set_cons_succ, List.set_cons_zero]
    rw [w_cons]
    have tl := any_tail (j := d + 1) (hN := hN) (S0 := S) (R := R) (m := m + d + 1) (y1 := some (.int ((d + 1 : Nat) : Int))) (y3 := none) (y4 := none) (y5 := none) hD i0 i13 h1 (by omega) k1 fun v S' th h2 k2 => hR v S' th (h2.more (by omega)) k2
    have e1 : nth c__law_any 1 = .ite (.and (.val (.cmp .Lt (.var 2) (.cst (.int 4)))) (.val (.cmp .Gt (.var 1) (.cst (.int 0))))) (nth c__law_any 1).b1 [] := rfl
    rw [e1, w_ite, k_and, k_val, v_cmp]
    simp only [v_var, v_cst, List.getD_cons_succ, List.getD_cons_zero]
    rw [c_lt, t_bl]
    by_cases c4 : i < 4
    case neg =>
      rw [decide_eq_false c4, if_neg Bool.false_ne_true]
      simp only [Bool.false_eq_true, if_false, w_nil]
      exact tl
    clear tl
    rw [decide_eq_true c4, if_pos rfl, k_val, v_cmp]
    simp only [v_var, v_cst, List.getD_cons_succ, List.getD_cons_zero]
    rw [c_gt, t_bl]
    have : decide ((0 : Int) < ((d + 1 : Nat) : Int)) = true := decide_eq_true (by omega)
    rw [this, if_pos rfl]
    simp only [c__law_any, nth, Sd.b1, List.getD_cons_succ, List.getD_cons_zero]
    rw [w_cons, w_asg, v_lc, sr_rng, v_call]
    simp only [wEs, v_var, v_cst, List.getD_cons_succ, List.getD_cons_zero]
    refine ⟨_, hD (m + d + 1), draw_z _ h1 (by omega) (by decide) (by decide) fun n S2 n0 n4 h2 k2 => ⟨by omega, by omega, ?_⟩⟩
    have hlen : ((List.range n.toNat).map fun (k : Nat) => D.int k).length = n.toNat := by simp
    rw [t_yes]
    refine lc_yes (fun j acc S' => (acc.length = j ∧ ∀ x ∈ acc, Vl z N S' (d + 1) x) ∧ TapeZ s0 z S' t (k + 2 + j * c) ∧ Keep t S S') (by rw [hlen]; omega) (fun j acc S' h => by rw [h.1.1]; exact Nat.le_refl _) (fun _ _ _ _ => trivial) (fun j hj acc S' hI => ?_) (fun acc S' hI => ?_) _ 0 [] S2 rfl (Nat.zero_le _) ⟨⟨rfl, fun x hx => nomatch hx⟩, h2.more (by omega), k1.trans k2⟩
    · obtain ⟨⟨hl, hv⟩, h3, k3⟩ := hI
      rw [hlen] at hj
      have hj3 : j ≤ 3 := by omega
      have hm : j * c ≤ 3 * 250 := Nat.mul_le_mul hj3 (by omega)
      refine ⟨_, w_nm, fun K hK => ?_⟩
      simp only [wipeD]
      simp only [List.set_cons_succ, List.set_cons_zero, v_call, wEs, v_var, v_bin, v_cst, List.getD_cons_succ, List.getD_cons_zero]
      rw [b_subi, show ((d + 1 : Nat) : Int) - 1 = ((d : Nat) : Int) by omega]
      refine ⟨_, hA (m + d + 1), ih m (by omega) h3 (by omega) fun v S4 th h4 k4 => ?_⟩
      refine hK _ _ ⟨⟨by rw [List.length_append, hl]; rfl, fun x hx => by
        rcases List.mem_append.mp hx with hx | hx
        · exact (hv x hx).keep k4
        · rw [List.mem_singleton.mp hx]; exact th⟩, h4.more (by rw [Nat.succ_mul]; omega), k3.trans k4⟩
    · obtain ⟨⟨hl, hv⟩, h3, k3⟩ := hI
      rw [hlen] at hl h3
      have hj3 : n.toNat ≤ 3 := by omega
      have hm : n.toNat * c ≤ 3 * c := Nat.mul_le_mul_right _ hj3
      intro p3 hp3
      refine ⟨_, w_nm, ?_⟩
      simp only [List.set_cons_succ, List.set_cons_zero]
      have p3t : p3 ≠ t := tape_nt h3 hp3
      have p3z : p3 ∉ z := tape_nz h3 hp3
      have v4 := fun x hx => (hv x hx).keep (Ext.keep (t := t) (Ext.new (c := .lst acc) hp3))
      have h4 := h3.ext (Ext.new (c := .lst acc) hp3)
      have k4 := k3.ext (Ext.new (c := .lst acc) hp3)
      have e4 := up_same (S := S') (a := p3) (c := .lst acc)
      generalize up S' p3 (.lst acc) = S4 at h4 k4 e4 v4
      rw [w_cons, w_ret, v_idx, v_lst]
      simp only [wEs, v_blt]
      simp only [v_var, List.getD_cons_succ, List.getD_cons_zero]
      show lstAt _ _ _
      rw [lstAt_of e4]
      show lstAt _ _ _
      rw [lstAt_of e4]
      show lstAt _ _ _
      rw [lstAt_of e4]
      refine ⟨show 4 ≤ sizeLine by decide, fun q hq => ?_⟩
      have x5 := Ext.new (c := .lst [.ref p3, .tup acc, .tup acc, .tup acc]) hq
      have e5 := up_same (S := S4) (a := q) (c := .lst [.ref p3, .tup acc, .tup acc, .tup acc])
      have e45 := x5 _ _ e4
      have h5 := h4.ext x5
      have v5 := fun x hx => (v4 x hx).keep (Ext.keep (t := t) x5)
      have k5 := k4.ext x5
      generalize up S4 q (.lst [.ref p3, .tup acc, .tup acc, .tup acc]) = S5 at e5 e45 h5 k5 v5
      dsimp only
      rw [i_ref, lstAt_of e5]
      obtain ⟨u, hu, hum⟩ := atI_some (xs := [D.ref p3, .tup acc, .tup acc, .tup acc]) i0 c4
      refine ⟨u, hu, hR u S5 ?_ (h5.more (by omega)) k5⟩
      simp only [List.mem_cons, List.not_mem_nil, or_false] at hum
      rcases hum with rfl | rfl | rfl | rfl
      · exact vl_ref p3z e45 (by omega) v5
      · exact vl_tup (by omega) v5
      · exact vl_tup (by omega) v5
      · exact vl_tup (by omega) v5
end Mn

namespace Mn
open PySem PySem.Spec L2
def Sq (S : Sto) (d : D) (ds : List D) : Prop := d = .tup ds ∨ ∃ a, d = .ref a ∧ S a = some (.lst ds)
theorem sq_len {S : Sto} {d : D} {ds : List D} {R : MK} (h : Sq S d ds) (hR : R (.int (ds.length : Nat)) S) : bltD .len [d] S R := by
  rcases h with rfl | ⟨a, rfl, e⟩
  · exact hR
  · rw [l_ref, lstAt_of e]; exact hR
theorem sq_list {S : Sto} {d : D} {ds : List D} {R : MK} (h : Sq S d ds) (hR : newL S ds R) : bltD .list [d] S R := by
  rcases h with rfl | ⟨a, rfl, e⟩
  · exact hR
  · exact .inl ⟨_, e, hR⟩
theorem sq_tuple {S : Sto} {d : D} {ds : List D} {R : MK} (h : Sq S d ds) (hR : R (.tup ds) S) : bltD .tuple [d] S R := by
  rcases h with rfl | ⟨a, rfl, e⟩
  · exact hR
  · exact ⟨_, e, hR⟩
theorem Sq.keep {t : Addr} {S S' : Sto} {d : D} {ds : List D} (h : Sq S d ds) (x : Keep t S S') (hv : ∀ a, d = .ref a → a ≠ t) : Sq S' d ds := by
  rcases h with rfl | ⟨a, rfl, e⟩
  · exact .inl rfl
  · exact .inr ⟨a, rfl, x _ _ e (hv a rfl)⟩
theorem isi_den2 {S : Sto} {d : D} {u : PyData} (h : Den S d u) {k : Bool → Prop} (hk : k (isK .tup u || isK .lst u)) : isiD d S [.tup, .lst] k := by
  cases h with
  | ref e _ => exact ⟨_, e, _, e, hk⟩
  | _ => exact hk
theorem tx_app (a b : W) : tx a ++ tx b = tx (a ++ b) := by
  refine str_eq ?_
  show (tx a ++ tx b).cps.toList = a ++ b
  have : (tx a ++ tx b).cps = (tx a).cps ++ (tx b).cps := rfl
  rw [this, Array.toList_append]
theorem cutS_to (x : W) (k : Nat) : cutS (tx x) none (some (k : Int)) = tx (x.take k) := by
  refine str_eq ?_
  unfold cutS
  have e : (tx x).cps.toList = x := tl_tx x
  have e2 : (tx x).length = x.length := tx_len x
  show ((tx x).cps.toList.drop _).take _ = _
  rw [e, e2, HT.sIx_nat]
  show (x.drop 0).take (min k x.length - 0) = x.take k
  rw [List.drop_zero, Nat.sub_zero]
  by_cases h : k ≤ x.length
  · rw [Nat.min_eq_left h]
  · rw [Nat.min_eq_right (by omega), List.take_length, List.take_of_length_le (by omega)]
theorem big {i : Int} (h : i ≤ 5000) : i < 2 ^ 60 := Int.lt_of_le_of_lt h (by decide)
theorem v_ngE {Φ : Str → Option SpD} {Γ : Str → Option D} {i : Int} {env : Env} {S : Sto} {R : MK} : wE Φ Γ (.neg (.cst (.int i))) env S R = R (.int (-i)) S := rfl
structure FamD (Φ : Nat → Str → Option SpD) (Γ : Str → Option D) : Prop where
  draw : ∀ n, Φ (n + 1) nDraw = some (wDf (Φ n) Γ ⟨n__law_draw, 2, c__law_draw⟩)
  any : ∀ n, Φ (n + 1) nAny = some (wDf (Φ n) Γ ⟨n__law_any, 2, c__law_any⟩)
  spoilt : ∀ n, Φ (n + 1) nSpoilt = some (wDf (Φ n) Γ ⟨n__law_spoilt, 2, c__law_spoilt⟩)
  whole : ∀ n, Φ (n + 1) nWhole = some (wDf (Φ n) Γ ⟨n__law_whole, 1, c__law_whole⟩)
theorem lwholeW {Φ : Str → Option SpD} {Γ : Str → Option D} {d : D} {u : PyData} {S : Sto} (hd : Den S d u) {R : MK} (hR : R (.bl (isIntB u)) S) : wDf Φ Γ ⟨n__law_whole, 1, c__law_whole⟩ [d] S R := by
  refine ⟨rfl, ?_⟩
  simp only [c__law_whole, n__law_whole, List.map_cons, List.map_nil, List.length_cons, List.length_nil, List.replicate, List.cons_append, List.nil_append, Nat.reduceAdd, Nat.reduceSub]
  rw [w_cons, w_ret, v_and, v_isi]
  simp only [v_var, List.getD_cons_succ, List.getD_cons_zero]
  refine isi_den hd ?_
  rw [t_bl]
  cases hi : isK .int u with
  | false =>
    have : isIntB u = false := by cases u <;> first | rfl | (simp [isK] at hi)
    rw [this] at hR
    rw [if_neg Bool.false_ne_true]
    exact hR
  | true =>
    rw [if_pos rfl]
    show isiD _ _ _ _
    refine isi_den hd ?_
    show R (.bl (!(isK .bool u))) S
    have : isIntB u = !isK .bool u := by cases u <;> first | rfl | (simp [isK] at hi)
    rw [← this]
    exact hR
section
variable {Φ : Nat → Str → Option SpD} {Γ : Str → Option D} (fd : FamD Φ Γ)
include fd
abbrev EndR (R : MK) : EndsD := ⟨fun _ S' => R .non S', R, fun _ _ => False, fun _ _ => False⟩
/-- an arbitrary value instead -/
theorem sp5 {s0 t : Addr} {z : List Addr} [iz : In t z] {m N k q : Nat} {S S1 : Sto} {R : MK} {d : Option D} {y2 y3 y4 y5 : Option D} (hN : 10 ≤ N) (h : TapeZ s0 z S1 t (q + 20)) (hq : q + 100000 < 2 ^ 60) (kp : Keep t S S1) (hR : ∀ v S', Vl z (N + 8) S' (k + 3) v → TapeZ s0 z S' t (q + 400) → Keep t S S' → R v S') :
    wSs (Φ (m + 4)) Γ [nth c__law_spoilt 4] (EndR R) [some (.ref t), d, y2, y3, y4, y5] S1 := by
  simp only [c__law_spoilt, nth, List.getD_cons_succ, List.getD_cons_zero]
  rw [w_cons, w_ret, v_call]
  simp only [wEs, v_var, v_cst, List.getD_cons_succ, List.getD_cons_zero]
  refine ⟨_, fd.any (m + 3), any_ok fd.any fd.draw hN 2 m (by decide) h (by omega) fun v S2 hv h2 k2 => ?_⟩
  exact hR v S2 (hv.mono (by omega) (by omega)) (h2.more (by omega)) (kp.trans k2)
/-- a list for a tuple, a tuple for a list -/
theorem sp4 {s0 t : Addr} {z : List Addr} [iz : In t z] {m N k q : Nat} {S S1 : Sto} {R : MK} {d : D} {y2 y3 y4 y5 : Option D} (hN : 10 ≤ N) (hv : Vl z N S1 k d) (h : TapeZ s0 z S1 t (q + 15)) (hq : q + 100000 < 2 ^ 60) (kp : Keep t S S1) (hR : ∀ v S', Vl z (N + 8) S' (k + 3) v → TapeZ s0 z S' t (q + 400) → Keep t S S' → R v S') :
    wSs (Φ (m + 4)) Γ [nth c__law_spoilt 3, nth c__law_spoilt 4] (EndR R) [some (.ref t), some d, y2, y3, y4, y5] S1 := by
  obtain ⟨u, hu⟩ := hv
  have t5 := fun (S2 : Sto) (h2 : TapeZ s0 z S2 t (q + 20)) (k2 : Keep t S S2) => sp5 fd (m := m) (d := some d) (y2 := y2) (y3 := y3) (y4 := y4) (y5 := y5) hN h2 hq k2 hR
  simp only [c__law_spoilt, nth, List.getD_cons_succ, List.getD_cons_zero] at t5 ⊢
  rw [w_cons, w_ite, k_and, k_val, v_isi]
  simp only [v_var, List.getD_cons_succ, List.getD_cons_zero]
  refine isi_den2 (hu.den u) ?_
  rw [t_bl]
  cases hk : (isK .tup u || isK .lst u) with
  | false =>
    rw [if_neg Bool.false_ne_true]
    refine ifB rfl ?_
    rw [w_nil]
    exact t5 S1 (h.more (by omega)) kp
  | true =>
    rw [if_pos rfl, k_val, v_cmp, v_call]
    simp only [wEs, v_var, v_cst, List.getD_cons_succ, List.getD_cons_zero]
    refine ⟨_, fd.draw (m + 3), draw_z _ h (by omega) (by decide) (by decide) fun a S2 a0 a2 h2 k2 => ?_⟩
    rw [c_eqi, t_bl]
    by_cases qa : a = 0
    case neg =>
      rw [decide_eq_false qa, if_neg Bool.false_ne_true, w_nil]
      exact t5 S2 (h2.more (by omega)) (kp.trans k2)
    rw [decide_eq_true qa, if_pos rfl, w_cons, w_ret, v_ife, k_val, v_isi]
    simp only [v_var, List.getD_cons_succ, List.getD_cons_zero]
    have hu2 := hu.keep k2 u
    refine isi_den (hu2.den u) ?_
    rw [t_bl]
    cases hu2 with
    | @tup k ds us hl hs =>
      rw [show isK .tup (.tuple us) = true from rfl, if_pos rfl]
      simp only [v_blt, wEs, v_var, List.getD_cons_succ, List.getD_cons_zero]
      intro p hp
      have x := Ext.new (c := .lst ds) hp
      refine hR _ _ (vl_ref (k := k + 3) (tape_nz h2 hp) up_same (by have := hs.length; omega) fun e he => ((vds_mem hs e he).mono (by omega) (by omega)).keep (Ext.keep (t := t) x)) ((h2.ext x).more (by omega)) ((kp.trans k2).ext x)
    | @ref k a ds us ne e hl hs =>
      rw [show isK .tup (.list us) = false from rfl, if_neg Bool.false_ne_true]
      simp only [v_blt, wEs, v_var, List.getD_cons_succ, List.getD_cons_zero]
      show lstAt _ _ _
      rw [lstAt_of e]
      exact hR _ _ (vl_tup (k := k + 3) (by have := hs.length; omega) fun e he => (vds_mem hs e he).mono (by omega) (by omega)) (h2.more (by omega)) (kp.trans k2)
    | _ => simp [isK] at hk
/-- a text with something in it -/
theorem sp3 {s0 t : Addr} {z : List Addr} [iz : In t z] {m N k q : Nat} {S S1 : Sto} {R : MK} {d : D} {y2 y3 y4 y5 : Option D} (hN : 10 ≤ N) (hN2 : N ≤ 4000) (hv : Vl z N S1 k d) (h : TapeZ s0 z S1 t (q + 10)) (hq : q + 100000 < 2 ^ 60) (kp : Keep t S S1) (hR : ∀ v S', Vl z (N + 8) S' (k + 3) v → TapeZ s0 z S' t (q + 400) → Keep t S S' → R v S') :
    wSs (Φ (m + 4)) Γ [nth c__law_spoilt 2, nth c__law_spoilt 3, nth c__law_spoilt 4] (EndR R) [some (.ref t), some d, y2, y3, y4, y5] S1 := by
  have sz : (16000000 : Nat) ≤ sizeLine := by decide
  have t4 := fun (S2 : Sto) (h2 : TapeZ s0 z S2 t (q + 15)) (k1 : Keep t S1 S2) => sp4 fd (m := m) (y2 := y2) (y3 := y3) (y4 := y4) (y5 := y5) hN (hv.keep k1) h2 hq (kp.trans k1) hR
  obtain ⟨u, hu⟩ := hv
  simp only [c__law_spoilt, nth, List.getD_cons_succ, List.getD_cons_zero] at t4 ⊢
  rw [w_cons, w_ite, k_and, k_val, v_isi]
  simp only [v_var, List.getD_cons_succ, List.getD_cons_zero]
  refine isi_den (hu.den u) ?_
  rw [isk_str, t_bl]
  cases hk : isStrB u with
  | false =>
    rw [if_neg Bool.false_ne_true]
    refine ifB rfl ?_
    rw [w_nil]
    exact t4 S1 (h.more (by omega)) (Keep.refl _ _)
  | true =>
    rw [if_pos rfl, k_val, v_cmp, v_call]
    simp only [wEs, v_var, v_cst, List.getD_cons_succ, List.getD_cons_zero]
    refine ⟨_, fd.draw (m + 3), draw_z _ h (by omega) (by decide) (by decide) fun a S2 a0 a2 h2 k2 => ?_⟩
    rw [c_gt, t_bl]
    by_cases qa : 0 < a
    case neg =>
      rw [decide_eq_false qa, if_neg Bool.false_ne_true, w_nil]
      exact t4 S2 (h2.more (by omega)) k2
    rw [decide_eq_true qa, if_pos rfl, w_cons, w_asg, v_call]
    cases hu with
    | str _ x hl hc =>
      simp only [wEs, v_bin, v_blt]
      simp only [v_var, v_cst, List.getD_cons_succ, List.getD_cons_zero]
      refine ⟨by rw [tx_len]; omega, ?_⟩
      rw [tx_len]
      try dsimp only
      rw [b_addi]
      refine ⟨_, fd.draw (m + 3), draw_z _ h2 (by omega) (by omega) (big (show ((x.length : Nat) : Int) + 1 ≤ 5000 by omega)) fun b S3 b0 b2 h3 k3 => ⟨_, w_nm, ?_⟩⟩
      simp only [List.set_cons_succ, List.set_cons_zero]
      obtain ⟨j, rfl⟩ : ∃ j : Nat, b = j := ⟨b.toNat, by omega⟩
      rw [w_cons, w_ret, v_bin]
      simp only [v_bin, v_sli, v_idx, v_lst, v_call, wEs]
      simp only [v_var, v_cst, p_no, p_at, List.length_cons, List.length_nil, Nat.reduceAdd, List.getD_cons_succ, List.getD_cons_zero]
      refine ⟨by rw [tx_len]; omega, show 6 ≤ sizeLine by decide, fun p hp => ?_⟩
      have x4 := Ext.new (c := .lst [.str (tx [32]), .str (tx [122]), .str (tx [65]), .str (tx [124]), .str (tx [97, 98, 99, 100, 101, 102, 103, 104]), .str (tx [])]) hp
      have e4 := up_same (S := S3) (a := p) (c := .lst [.str (tx [32]), .str (tx [122]), .str (tx [65]), .str (tx [124]), .str (tx [97, 98, 99, 100, 101, 102, 103, 104]), .str (tx [])])
      have pt := tape_nt h3 hp
      have h4 := h3.ext x4
      generalize up S3 p _ = S4 at x4 e4 h4
      refine ⟨_, fd.draw (m + 3), draw_z _ h4 (by omega) (by decide) (by decide) fun c S5 c0 c6 h5 k5 => ?_⟩
      rw [i_ref, lstAt_of (k5 _ _ e4 pt)]
      obtain ⟨v, hv, hm⟩ := atI_some (xs := [D.str (tx [32]), .str (tx [122]), .str (tx [65]), .str (tx [124]), .str (tx [97, 98, 99, 100, 101, 102, 103, 104]), .str (tx [])]) c0 c6
      obtain ⟨y, rfl, ly, cy⟩ : ∃ y : W, v = .str (tx y) ∧ y.length ≤ 8 ∧ ∀ c ∈ y, c < 0x110000 := by
        simp only [List.mem_cons, List.not_mem_nil, or_false] at hm
        rcases hm with rfl | rfl | rfl | rfl | rfl | rfl <;> exact ⟨_, rfl, by decide, by decide⟩
      refine ⟨_, hv, ?_⟩
      rw [cutS_to, b_adds]
      have lt : (x.take j).length ≤ x.length := by rw [List.length_take]; omega
      refine ⟨by rw [tx_len, tx_len]; omega, by rw [tx_len]; omega, ?_⟩
      rw [cutS_from, tx_app]
      try dsimp only
      rw [b_adds]
      refine ⟨by rw [tx_len, tx_len, List.length_append, List.length_drop]; omega, ?_⟩
      rw [tx_app]
      refine hR _ S5 ⟨_, .str _ (x.take j ++ y ++ x.drop j) ?_ fun c hcm => ?_⟩ (h5.more (by omega)) (((kp.trans k2).trans k3).ext x4 |>.trans k5)
      · rw [List.length_append, List.length_append, List.length_take, List.length_drop]; omega
      · rcases List.mem_append.mp hcm with hcm | hcm
        · rcases List.mem_append.mp hcm with hcm | hcm
          · exact hc c (List.mem_of_mem_take hcm)
          · exact cy c hcm
        · exact hc c (List.mem_of_mem_drop hcm)
    | _ => simp [isStrB] at hk
/-- a number changed -/
theorem sp2 {s0 t : Addr} {z : List Addr} [iz : In t z] {m N k q : Nat} {S S1 : Sto} {R : MK} {d : D} {y2 y3 y4 y5 : Option D} (hN : 10 ≤ N) (hN2 : N ≤ 4000) (hv : Vl z N S1 k d) (h : TapeZ s0 z S1 t (q + 5)) (hq : q + 100000 < 2 ^ 60) (kp : Keep t S S1) (hR : ∀ v S', Vl z (N + 8) S' (k + 3) v → TapeZ s0 z S' t (q + 400) → Keep t S S' → R v S') :
    wSs (Φ (m + 4)) Γ [nth c__law_spoilt 1, nth c__law_spoilt 2, nth c__law_spoilt 3, nth c__law_spoilt 4] (EndR R) [some (.ref t), some d, y2, y3, y4, y5] S1 := by
  have sz : (16000000 : Nat) ≤ sizeLine := by decide
  have t3 := fun (S2 : Sto) (h2 : TapeZ s0 z S2 t (q + 10)) (k1 : Keep t S1 S2) => sp3 fd (m := m) (y2 := y2) (y3 := y3) (y4 := y4) (y5 := y5) hN hN2 (hv.keep k1) h2 hq (kp.trans k1) hR
  obtain ⟨u, hu⟩ := hv
  simp only [c__law_spoilt, nth, List.getD_cons_succ, List.getD_cons_zero] at t3 ⊢
  rw [w_cons, w_ite, k_and, k_val, v_call]
  simp only [wEs, v_var, List.getD_cons_succ, List.getD_cons_zero]
  refine ⟨_, fd.whole (m + 3), lwholeW (hu.den u) ?_⟩
  rw [t_bl]
  cases hk : isIntB u with
  | false =>
    rw [if_neg Bool.false_ne_true]
    refine ifB rfl ?_
    rw [w_nil]
    exact t3 S1 (h.more (by omega)) (Keep.refl _ _)
  | true =>
    rw [if_pos rfl, k_val, v_cmp, v_call]
    simp only [wEs, v_var, v_cst, List.getD_cons_succ, List.getD_cons_zero]
    refine ⟨_, fd.draw (m + 3), draw_z _ h (by omega) (by decide) (by decide) fun a S2 a0 a2 h2 k2 => ?_⟩
    rw [c_gt, t_bl]
    by_cases qa : 0 < a
    case neg =>
      rw [decide_eq_false qa, if_neg Bool.false_ne_true, w_nil]
      exact t3 S2 (h2.more (by omega)) k2
    rw [decide_eq_true qa, if_pos rfl, w_cons, w_ret, v_bin]
    cases hu with
    | int _ i =>
      simp only [v_idx, v_lst, v_call, wEs, v_ngE]
      simp only [v_var, v_cst, List.length_cons, List.length_nil, Nat.reduceAdd, n_int, List.getD_cons_succ, List.getD_cons_zero]
      refine ⟨show 6 ≤ sizeLine by decide, fun p hp => ?_⟩
      have x4 := Ext.new (c := .lst [.int 1, .int (-1), .int 2, .int (-2), .int 9, .int 1000]) hp
      have e4 := up_same (S := S2) (a := p) (c := .lst [.int 1, .int (-1), .int 2, .int (-2), .int 9, .int 1000])
      have pt := tape_nt h2 hp
      have h4 := h2.ext x4
      generalize up S2 p _ = S4 at x4 e4 h4
      refine ⟨_, fd.draw (m + 3), draw_z _ h4 (by omega) (by decide) (by decide) fun c S5 c0 c6 h5 k5 => ?_⟩
      rw [i_ref, lstAt_of (k5 _ _ e4 pt)]
      obtain ⟨v, hv, hm⟩ := atI_some (xs := [D.int 1, .int (-1), .int 2, .int (-2), .int 9, .int 1000]) c0 c6
      obtain ⟨y, rfl⟩ : ∃ y : Int, v = .int y := by
        simp only [List.mem_cons, List.not_mem_nil, or_false] at hm
        rcases hm with rfl | rfl | rfl | rfl | rfl | rfl <;> exact ⟨_, rfl⟩
      refine ⟨_, hv, ?_⟩
      rw [b_addi]
      exact hR _ S5 vl_int (h5.more (by omega)) ((kp.trans k2).ext x4 |>.trans k5)
    | _ => simp [isIntB] at hk
end
end Mn

namespace Mn
open PySem PySem.Spec L2
/-! values, other cells hidden -/
mutual
theorem VD.push {z : List Addr} {N : Nat} {S : Sto} {p : Addr} (hp : S p = none) : ∀ (u : PyData) {k : Nat} {d : D}, VD z N S k d u → VD (p :: z) N S k d u
  | .none, _, _, h => by cases h; exact .non _
  | .bool b, _, _, h => by cases h; exact .bl _ b
  | .int i, _, _, h => by cases h; exact .int _ i
  | .str y, _, _, h => by
    cases h with
    | str _ x h hc => exact .str _ x h hc
  | .tuple us, _, _, h => by
    cases h with
    | tup hl h => exact .tup hl (VDs.push hp us h)
  | .list us, _, _, h => by
    cases h with
    | ref ne e hl h => exact .ref (fun q => (List.mem_cons.mp q).elim (fun q => by rw [q, hp] at e; cases e) ne) e hl (VDs.push hp us h)
  | .dict _, _, _, h => by cases h
theorem VDs.push {z : List Addr} {N : Nat} {S : Sto} {p : Addr} (hp : S p = none) : ∀ (us : List PyData) {k : Nat} {ds : List D}, VDs z N S k ds us → VDs (p :: z) N S k ds us
  | [], _, _, h => by cases h; exact .nil _
  | u :: us, _, _, h => by
    cases h with
    | cons h1 h2 => exact .cons (VD.push hp u h1) (VDs.push hp us h2)
end
mutual
theorem VD.sub {z z' : List Addr} {N : Nat} {S : Sto} (hz : ∀ a ∈ z', a ∈ z) : ∀ (u : PyData) {k : Nat} {d : D}, VD z N S k d u → VD z' N S k d u
  | .none, _, _, h => by cases h; exact .non _
  | .bool b, _, _, h => by cases h; exact .bl _ b
  | .int i, _, _, h => by cases h; exact .int _ i
  | .str y, _, _, h => by
    cases h with
    | str _ x h hc => exact .str _ x h hc
  | .tuple us, _, _, h => by
    cases h with
    | tup hl h => exact .tup hl (VDs.sub hz us h)
  | .list us, _, _, h => by
    cases h with
    | ref ne e hl h => exact .ref (fun q => ne (hz _ q)) e hl (VDs.sub hz us h)
  | .dict _, _, _, h => by cases h
theorem VDs.sub {z z' : List Addr} {N : Nat} {S : Sto} (hz : ∀ a ∈ z', a ∈ z) : ∀ (us : List PyData) {k : Nat} {ds : List D}, VDs z N S k ds us → VDs z' N S k ds us
  | [], _, _, h => by cases h; exact .nil _
  | u :: us, _, _, h => by
    cases h with
    | cons h1 h2 => exact .cons (VD.sub hz u h1) (VDs.sub hz us h2)
end
mutual
theorem VD.putz {z : List Addr} {N : Nat} {S : Sto} {p : Addr} {c : Cell} (hp : p ∈ z) : ∀ (u : PyData) {k : Nat} {d : D}, VD z N S k d u → VD z N (up S p c) k d u
  | .none, _, _, h => by cases h; exact .non _
  | .bool b, _, _, h => by cases h; exact .bl _ b
  | .int i, _, _, h => by cases h; exact .int _ i
  | .str y, _, _, h => by
    cases h with
    | str _ x h hc => exact .str _ x h hc
  | .tuple us, _, _, h => by
    cases h with
    | tup hl h => exact .tup hl (VDs.putz hp us h)
  | .list us, _, _, h => by
    cases h with
    | ref ne e hl h => exact .ref ne (by rw [up_ne (by rintro rfl; exact ne hp)]; exact e) hl (VDs.putz hp us h)
  | .dict _, _, _, h => by cases h
theorem VDs.putz {z : List Addr} {N : Nat} {S : Sto} {p : Addr} {c : Cell} (hp : p ∈ z) : ∀ (us : List PyData) {k : Nat} {ds : List D}, VDs z N S k ds us → VDs z N (up S p c) k ds us
  | [], _, _, h => by cases h; exact .nil _
  | u :: us, _, _, h => by
    cases h with
    | cons h1 h2 => exact .cons (VD.putz hp u h1) (VDs.putz hp us h2)
end
theorem Vl.push {z : List Addr} {N k : Nat} {S : Sto} {p : Addr} {d : D} (h : Vl z N S k d) (hp : S p = none) : Vl (p :: z) N S k d := let ⟨u, h⟩ := h; ⟨u, h.push hp u⟩
theorem Vl.set {z : List Addr} {N k : Nat} {S : Sto} {p : Addr} {c : Cell} {d : D} (h : Vl (p :: z) N S k d) : Vl z N (up S p c) k d := let ⟨u, h⟩ := h; ⟨u, VD.sub (fun _ q => List.mem_cons_of_mem _ q) u (h.putz List.mem_cons_self u)⟩
theorem v_revE {Φ : Str → Option SpD} {Γ : Str → Option D} {a : Cd} {env : Env} {S : Sto} {R : MK} : wE Φ Γ (.rev a) env S R = wE Φ Γ a env S fun d S1 => revD d S1 R := rfl
section
variable {Φ : Nat → Str → Option SpD} {Γ : Str → Option D} (fd : FamD Φ Γ)
include fd
theorem vl_den {z : List Addr} {N k : Nat} {S : Sto} {d : D} (h : Vl z N S k d) : ∃ u, Den S d u := let ⟨u, h⟩ := h; ⟨u, h.den u⟩
/-- what is handed back -/
theorem sp_end {m N k : Nat} {S1 : Sto} {t p : Addr} {R : MK} {d : D} {ds' : List D} {y2 y4 y5 : Option D} {b : Bool} (hb : ∀ {k' : Bool → Prop}, k' b → isiD d S1 [.tup] k') (hp : S1 p = some (.lst ds')) (ne : p ∉ z) (hl : ds'.length ≤ N + 8) (hv : ∀ x ∈ ds', Vl z (N + 8) S1 (k + 3) x) (hR : ∀ v, Vl z (N + 8) S1 (k + 4) v → R v S1) :
    wS (Φ m) Γ (.ret (.ife (.val (.isi (.var 1) [.tup])) (.blt .tuple [(.var 3)]) (.var 3))) (EndR R) [some (.ref t), some d, y2, some (.ref p), y4, y5] S1 := by
  rw [w_ret, v_ife, k_val, v_isi]
  simp only [v_var, List.getD_cons_succ, List.getD_cons_zero]
  refine hb ?_
  rw [t_bl]
  cases b with
  | true =>
    rw [if_pos rfl, v_blt]
    simp only [wEs, v_var, List.getD_cons_succ, List.getD_cons_zero]
    show seqD (.ref p) S1 _
    refine ⟨_, hp, ?_⟩
    exact hR _ (vl_tup hl hv)
  | false =>
    rw [if_neg Bool.false_ne_true]
    exact hR _ (vl_ref ne hp hl hv)
/-- one thing changed in a list or a tuple, or the whole -/
theorem spoilt_ok {s0 t : Addr} {N : Nat} (hN : 10 ≤ N) (hN2 : N ≤ 4000) : ∀ (k m : Nat) {z : List Addr} [iz : In t z] {q : Nat} {S : Sto} {R : MK} {d : D}, k ≤ 10 → Vl z N S k d → TapeZ s0 z S t q → q + 200000 + 1000 * k < 2 ^ 60 → (∀ v S', Vl z (N + 8) S' (k + 3) v → TapeZ s0 z S' t (q + 500 + 1000 * k) → Keep t S S' → R v S') →
    wDf (Φ (m + k + 4)) Γ ⟨n__law_spoilt, 2, c__law_spoilt⟩ [.ref t, d] S R := by
  intro k
  induction k with
  | zero =>
    intro m z iz q S R d hk hv h hq hR
    refine ⟨rfl, ?_⟩
    have e0 : c__law_spoilt = [nth c__law_spoilt 0, nth c__law_spoilt 1, nth c__law_spoilt 2, nth c__law_spoilt 3, nth c__law_spoilt 4] := rfl
    have t2 := sp2 fd (m := m) (k := 0) (q := q) (y2 := none) (y3 := none) (y4 := none) (y5 := none) hN hN2 hv (h.more (by omega)) (by omega) (Keep.refl t S) fun v S' a b c => hR v S' a (b.more (by omega)) c
    show wSs (Φ (m + 0 + 4)) Γ c__law_spoilt _ _ _
    rw [e0, w_cons]
    obtain ⟨u, hu⟩ := hv
    have nk : (isK .tup u || isK .lst u) = false := by cases hu <;> rfl
    simp only [nth, c__law_spoilt, List.getD_cons_succ, List.getD_cons_zero] at t2 ⊢
    rw [w_ite, k_and, k_val, v_isi]
    simp only [n__law_spoilt, List.map_cons, List.map_nil, List.length_cons, List.length_nil, List.replicate, List.cons_append, List.nil_append, Nat.reduceAdd, Nat.reduceSub]
    simp only [v_var, List.getD_cons_succ, List.getD_cons_zero]
    refine isi_den2 (hu.den u) ?_
    rw [t_bl, nk, if_neg Bool.false_ne_true]
    refine ifB rfl ?_
    rw [w_nil]
    exact t2
  | succ k ih =>
    intro m z iz q S R d hk hv h hq hR
    refine ⟨rfl, ?_⟩
    have sz : (16000000 : Nat) ≤ sizeLine := by decide
    have e0 : c__law_spoilt = [nth c__law_spoilt 0, nth c__law_spoilt 1, nth c__law_spoilt 2, nth c__law_spoilt 3, nth c__law_spoilt 4] := rfl
    have t2 := fun (S2 : Sto) (h2 : TapeZ s0 z S2 t (q + 5)) (k1 : Keep t S S2) => sp2 fd (m := m + (k + 1)) (k := k + 1) (q := q) (y2 := none) (y3 := none) (y4 := none) (y5 := none) hN hN2 (hv.keep k1) h2 (by omega) k1 fun v S' a b c => hR v S' a (b.more (by omega)) c
    show wSs (Φ (m + (k + 1) + 4)) Γ c__law_spoilt _ _ _
    rw [e0, w_cons]
    obtain ⟨u, hu⟩ := id hv
    simp only [nth, c__law_spoilt, List.getD_cons_succ, List.getD_cons_zero] at t2 ⊢
    rw [w_ite, k_and, k_val, v_isi]
    simp only [n__law_spoilt, List.map_cons, List.map_nil, List.length_cons, List.length_nil, List.replicate, List.cons_append, List.nil_append, Nat.reduceAdd, Nat.reduceSub]
    simp only [v_var, List.getD_cons_succ, List.getD_cons_zero]
    refine isi_den2 (hu.den u) ?_
    rw [t_bl]
    cases hkk : (isK .tup u || isK .lst u) with
    | false =>
      rw [if_neg Bool.false_ne_true]
      refine ifB rfl ?_
      rw [w_nil]
      exact t2 S (h.more (by omega)) (Keep.refl t S)
    | true =>
      obtain ⟨ds, b, hsq, hdl, hdv, hne, hb⟩ : ∃ ds b, Sq S d ds ∧ ds.length ≤ N ∧ (∀ x ∈ ds, Vl z N S k x) ∧ (∀ a, d = .ref a → a ≠ t) ∧ ∀ (S' : Sto), Keep t S S' → ∀ {k' : Bool → Prop}, k' b → isiD d S' [.tup] k' := by
        cases hu with
        | @tup _ ds us hl hs => exact ⟨ds, true, .inl rfl, by have := hs.length; omega, vds_mem hs, (fun a e => nomatch e), fun S' _ k' hk' => hk'⟩
        | @ref _ a ds us ne e hl hs => exact ⟨ds, false, .inr ⟨a, rfl, e⟩, by have := hs.length; omega, vds_mem hs, (fun a e => by cases e; exact fun q => ne (q ▸ iz.mem)), fun S' x k' hk' => ⟨_, x _ _ e (fun q => ne (q ▸ iz.mem)), hk'⟩⟩
        | _ => simp [isK] at hkk
      rw [if_pos rfl, k_and, k_val, v_cmp, v_blt]
      simp only [wEs, v_var, v_cst, List.getD_cons_succ, List.getD_cons_zero]
      refine sq_len hsq ?_
      rw [c_gt, t_bl]
      by_cases hpos : (0 : Int) < (ds.length : Nat)
      case neg =>
        rw [decide_eq_false hpos, if_neg Bool.false_ne_true]
        refine ifB rfl ?_
        rw [w_nil]
        exact t2 S (h.more (by omega)) (Keep.refl t S)
      rw [decide_eq_true hpos, if_pos rfl, k_val, v_cmp, v_call]
      simp only [wEs, v_var, v_cst, List.getD_cons_succ, List.getD_cons_zero]
      refine ⟨_, fd.draw (m + (k + 1) + 3), draw_z _ h (by omega) (by decide) (by decide) fun a S1 a0 a7 h1 k1 => ?_⟩
      rw [c_gt, t_bl]
      by_cases qa : 0 < a
      case neg =>
        rw [decide_eq_false qa, if_neg Bool.false_ne_true, w_nil]
        exact t2 S1 (h1.more (by omega)) k1
      rw [decide_eq_true qa, if_pos rfl]
      have s1 := hsq.keep k1 hne
      -- which one
      rw [w_cons, w_asg, v_call]
      simp only [wEs, v_blt]
      simp only [v_var, List.getD_cons_succ, List.getD_cons_zero]
      refine sq_len s1 ?_
      refine ⟨_, fd.draw (m + (k + 1) + 3), draw_z _ h1 (by omega) (by omega) (big (by omega)) fun c S2 c0 cl h2 k2 => ⟨_, w_nm, ?_⟩⟩
      simp only [List.set_cons_succ, List.set_cons_zero]
      obtain ⟨j, rfl⟩ := Int.eq_ofNat_of_zero_le c0
      have hj : j < ds.length := by omega
      have s2 := s1.keep k2 hne
      rw [w_cons, w_asg, v_blt]
      simp only [wEs, v_var, List.getD_cons_succ, List.getD_cons_zero]
      refine sq_list s2 fun p hp => ⟨_, w_nm, ?_⟩
      simp only [List.set_cons_succ, List.set_cons_zero]
      have x3 := Ext.new (c := .lst ds) hp
      have e3 := up_same (S := S2) (a := p) (c := .lst ds)
      have pt := tape_nt h2 hp
      have ps := tape_ns h2 hp
      have pz := tape_nz h2 hp
      have h3 := h2.ext x3
      have kk3 := (k1.trans k2).ext x3
      generalize up S2 p _ = S3 at x3 e3 h3 kk3
      rw [w_cons, w_asg, v_call]
      simp only [wEs, v_var, v_cst, List.getD_cons_succ, List.getD_cons_zero]
      refine ⟨_, fd.draw (m + (k + 1) + 3), draw_z _ h3 (by omega) (by decide) (by decide) fun w S4 w0 w12 h4 k4 => ⟨_, w_nm, ?_⟩⟩
      simp only [List.set_cons_succ, List.set_cons_zero]
      have e4 := k4 _ _ e3 pt
      have kk4 := kk3.trans k4
      -- the end, whatever was done
      have fin : ∀ (S5 : Sto) (p5 : Addr) (ds5 : List D) (y4 : Option D), S5 p5 = some (.lst ds5) → p5 ∉ z → ds5.length ≤ N + 8 → (∀ x ∈ ds5, Vl z (N + 8) S5 (k + 3) x) → TapeZ s0 z S5 t (q + 500 + 1000 * (k + 1)) → Keep t S S5 →
          wSs (Φ (m + (k + 1) + 4)) Γ [.ret (.ife (.val (.isi (.var 1) [.tup])) (.blt .tuple [(.var 3)]) (.var 3))] (EndR R) [some (.ref t), some d, some (.int (j : Nat)), some (.ref p5), y4, none] S5 := by
        intro S5 p5 ds5 y4 a1 a2 a3 a4 a5 a6
        rw [w_cons]
        exact sp_end fd (fun {k'} => hb S5 a6 (k' := k')) a1 a2 a3 a4 fun v hv => hR v S5 hv a5 a6
      rw [w_cons, w_ite, k_val, v_cmp]
      simp only [v_var, v_cst, List.getD_cons_succ, List.getD_cons_zero]
      rw [c_lt, t_bl]
      have mn : m + (k + 1) + 4 = m + k + 4 + 1 := by omega
      have hpS : S p = none := by
        cases e : S p with
        | none => rfl
        | some c0 => rw [(k1.trans k2) _ _ e pt] at hp; cases hp
      have dv4 : ∀ x ∈ ds, Vl (p :: z) N S4 k x := fun x hx => (((hdv x hx).keep (k1.trans k2)).push hp).keep (t := t) ((Ext.keep x3).trans k4)
      have up4 : ∀ x ∈ ds, Vl (p :: z) (N + 8) S4 (k + 3) x := fun x hx => (dv4 x hx).mono (by omega) (by omega)
      have gj : atI ds ((j : Nat) : Int) = some ds[j] := atI_nat j hj
      have h4p : TapeZ s0 (p :: z) S4 t (q + 1 + 1 + 1) := h4.push e4
      by_cases w8 : w < 8
      · rw [decide_eq_true w8, if_pos rfl, w_cons, w_put, v_call]
        simp only [wEs, v_idx]
        simp only [v_var, List.getD_cons_succ, List.getD_cons_zero]
        rw [i_ref, lstAt_of e4]
        refine ⟨_, gj, ?_⟩
        rw [mn]
        refine ⟨_, fd.spoilt (m + k + 4), ih m (z := p :: z) (by omega) (dv4 _ (List.getElem_mem hj)) h4p (by omega) fun v S5 hv5 h5 k5 => ?_⟩
        rw [← mn]
        have e5 := k5 _ _ e4 pt
        rw [u_ref, lstAt_of e5]
        refine ⟨j, ixN_nat hj, ?_⟩
        rw [w_nil]
        refine fin _ p _ _ up_same pz (by rw [List.length_set]; omega) (fun x hx => ?_) ((h5.pop.put pt ps).more (by omega)) ((kk4.trans k5).step hpS _)
        rcases List.mem_or_eq_of_mem_set hx with hx | rfl
        · exact ((up4 x hx).keep (t := t) k5).set
        · exact hv5.set
      rw [decide_eq_false w8, if_neg Bool.false_ne_true, w_cons, w_ite, k_val, v_cmp]
      simp only [v_var, v_cst, List.getD_cons_succ, List.getD_cons_zero]
      rw [c_eqi, t_bl]
      by_cases w9 : w = 8
      · rw [decide_eq_true w9, if_pos rfl, w_cons, w_exp, v_mth]
        simp only [wEs, v_var, List.getD_cons_succ, List.getD_cons_zero]
        refine ⟨⟨_, e4, trivial⟩, _, e4, by omega, by omega, j, ds[j], ixN_nat hj, List.getElem?_eq_getElem hj, ?_⟩
        exact fin _ p _ _ up_same pz (by rw [List.length_eraseIdx]; split <;> omega) (fun x hx => (up4 x (List.mem_of_mem_eraseIdx hx)).set) ((h4.put pt ps).more (by omega)) (kk4.step hpS _)
      rw [decide_eq_false w9, if_neg Bool.false_ne_true, w_cons, w_ite, k_val, v_cmp]
      simp only [v_var, v_cst, List.getD_cons_succ, List.getD_cons_zero]
      rw [c_eqi, t_bl]
      have ins : ∀ (S5 : Sto) (y : D) (y4 : Option D), S5 p = some (.lst ds) → Vl (p :: z) (N + 8) S5 (k + 3) y → (∀ x ∈ ds, Vl (p :: z) (N + 8) S5 (k + 3) x) → TapeZ s0 z S5 t (q + 400) → Keep t S S5 →
          mthD .insert (.ref p) [.int (j : Nat), y] S5 fun _ S6 => wSs (Φ (m + (k + 1) + 4)) Γ [.ret (.ife (.val (.isi (.var 1) [.tup])) (.blt .tuple [(.var 3)]) (.var 3))] (EndR R) [some (.ref t), some d, some (.int (j : Nat)), some (.ref p), y4, none] S6 := by
        intro S5 y y4 e5 hy hds h5 k5
        refine ⟨_, e5, by omega, by omega, by omega, ?_⟩
        refine fin _ p _ _ up_same pz ?_ (fun x hx => ?_) ((h5.put pt ps).more (by omega)) (k5.step hpS _)
        · rw [List.length_append, List.length_append, List.length_take, List.length_drop]
          show _ + 1 + _ ≤ _
          omega
        · rcases List.mem_append.mp hx with hx | hx
          · rcases List.mem_append.mp hx with hx | hx
            · exact (hds x (List.mem_of_mem_take hx)).set
            · rw [List.mem_singleton.mp hx]; exact hy.set
          · exact (hds x (List.mem_of_mem_drop hx)).set
      by_cases w10 : w = 9
      · rw [decide_eq_true w10, if_pos rfl, w_cons, w_exp, v_mth]
        simp only [wEs, v_idx, v_call, v_blt]
        simp only [v_var, List.getD_cons_succ, List.getD_cons_zero]
        refine ⟨⟨_, e4, trivial⟩, ?_⟩
        rw [l_ref, lstAt_of e4]
        refine ⟨_, fd.draw (m + (k + 1) + 3), draw_z _ h4 (by omega) (by omega) (big (by omega)) fun c2 S5 g0 gl h5 k5 => ?_⟩
        have e5 := k5 _ _ e4 pt
        rw [i_ref, lstAt_of e5]
        obtain ⟨y, hy, hym⟩ := atI_some (xs := ds) g0 (by omega)
        refine ⟨y, hy, ?_⟩
        exact ins S5 y _ e5 ((up4 y hym).keep (t := t) k5) (fun x hx => (up4 x hx).keep (t := t) k5) (h5.more (by omega)) (kk4.trans k5)
      rw [decide_eq_false w10, if_neg Bool.false_ne_true, w_cons, w_ite, k_val, v_cmp]
      simp only [v_var, v_cst, List.getD_cons_succ, List.getD_cons_zero]
      rw [c_eqi, t_bl]
      by_cases w11 : w = 10
      · rw [decide_eq_true w11, if_pos rfl, w_cons, w_asg, v_revE]
        simp only [v_var, List.getD_cons_succ, List.getD_cons_zero]
        refine ⟨_, e4, fun p2 hp2 => ⟨_, w_nm, ?_⟩⟩
        simp only [List.set_cons_succ, List.set_cons_zero]
        rw [w_nil]
        have x5 := Ext.new (c := .lst ds.reverse) hp2
        refine fin _ p2 _ _ up_same (tape_nz h4 hp2) (by rw [List.length_reverse]; omega) (fun x hx => ?_) ((h4.ext x5).more (by omega)) (kk4.ext x5)
        obtain ⟨u, hu⟩ := (up4 x (List.mem_reverse.mp hx)).keep (Ext.keep (t := t) x5)
        exact ⟨u, VD.sub (fun _ q => List.mem_cons_of_mem _ q) u hu⟩
      · rw [decide_eq_false w11, if_neg Bool.false_ne_true, w_cons, w_exp, v_mth]
        simp only [wEs, v_call]
        simp only [v_var, v_cst, List.getD_cons_succ, List.getD_cons_zero]
        refine ⟨⟨_, e4, trivial⟩, ?_⟩
        refine ⟨_, fd.any (m + (k + 1) + 3), any_ok (z := p :: z) fd.any fd.draw hN 1 (m + (k + 1) + 1) (by decide) h4p (by omega) fun v S5 hv5 h5 k5 => ?_⟩
        have e5 := k5 _ _ e4 pt
        exact ins S5 v _ e5 (hv5.mono (by omega) (by omega)) (fun x hx => (up4 x hx).keep (t := t) k5) (h5.pop.more (by omega)) (kk4.trans k5)
end
end Mn

namespace Mn
open PySem PySem.Spec L2
/-! the codes of the defs -/
def top (i : Nat) : Stmt := PySem.Challenge.pw_dialplans_k01_exchanges_recognized.main.body.getD i (.Pass ⟨0, 0, 0, 0⟩)
def T0 : Tab := ⟨[(tx [105, 115, 95, 119, 111, 114, 100]), (tx [105, 115, 95, 110, 117, 109, 98, 101, 114]), (tx [105, 115, 95, 104, 101, 97, 100]), (tx [105, 115, 95, 103, 111, 97, 108]), (tx [105, 115, 95, 114, 117, 108, 101]), (tx [105, 115, 95, 112, 108, 97, 110]), (tx [105, 115, 95, 101, 120, 99, 104, 97, 110, 103, 101]), (tx [95, 108, 97, 119, 95, 100, 114, 97, 119]), (tx [95, 108, 97, 119, 95, 119, 104, 111, 108, 101]), (tx [95, 108, 97, 119, 95, 119, 105, 116, 104, 105, 110]), (tx [95, 108, 97, 119, 95, 108, 105, 107, 101]), (tx [95, 108, 97, 119, 95, 115, 112, 111, 105, 108, 116]), (tx [95, 108, 97, 119, 95, 97, 110, 121]), (tx [95, 108, 97, 119, 95, 104, 101, 97, 100]), (tx [95, 108, 97, 119, 95, 100, 105, 103, 105, 116, 115]), (tx [95, 108, 97, 119, 95, 103, 111, 97, 108]), (tx [95, 108, 97, 119, 95, 110, 101, 119, 95, 114, 117, 108, 101]), (tx [95, 108, 97, 119, 95, 101, 120, 99, 104, 97, 110, 103, 101]), (tx [95, 108, 97, 119, 95, 105, 115, 95, 100, 105, 103, 105, 116, 115]), (tx [95, 108, 97, 119, 95, 105, 115, 95, 110, 97, 109, 101]), (tx [95, 108, 97, 119, 95, 105, 115, 95, 104, 101, 97, 100]), (tx [95, 108, 97, 119, 95, 105, 115, 95, 103, 111, 97, 108]), (tx [95, 108, 97, 119, 95, 105, 115, 95, 111, 110, 101, 95, 114, 117, 108, 101]), (tx [95, 108, 97, 119, 95, 105, 115, 95, 101, 120, 99, 104, 97, 110, 103, 101]), (tx [108, 97, 119])], [(tx [76, 69, 84, 84, 69, 82, 83]), (tx [68, 73, 71, 73, 84, 83]), (tx [79, 82, 68, 69, 82, 83]), (tx [78, 79, 66, 79, 68, 89]), (tx [77, 79, 83, 84, 95, 82, 85, 76, 69, 83])]⟩
theorem k_is_word : codeIs T0 n_is_word (top 6) c_is_word = true := by decide +kernel
theorem k_is_number : codeIs T0 n_is_number (top 7) c_is_number = true := by decide +kernel
theorem k_is_head : codeIs T0 n_is_head (top 8) c_is_head = true := by decide +kernel
theorem k_is_goal : codeIs T0 n_is_goal (top 9) c_is_goal = true := by decide +kernel
theorem k_is_rule : codeIs T0 n_is_rule (top 10) c_is_rule = true := by decide +kernel
theorem k_is_plan : codeIs T0 n_is_plan (top 11) c_is_plan = true := by decide +kernel
theorem k_is_exchange : codeIs T0 n_is_exchange (top 12) c_is_exchange = true := by decide +kernel
theorem k__law_draw : codeIs T0 n__law_draw (top 14) c__law_draw = true := by decide +kernel
theorem k__law_whole : codeIs T0 n__law_whole (top 15) c__law_whole = true := by decide +kernel
theorem k__law_within : codeIs T0 n__law_within (top 16) c__law_within = true := by decide +kernel
theorem k__law_like : codeIs T0 n__law_like (top 17) c__law_like = true := by decide +kernel
theorem k__law_spoilt : codeIs T0 n__law_spoilt (top 18) c__law_spoilt = true := by decide +kernel
theorem k__law_any : codeIs T0 n__law_any (top 19) c__law_any = true := by decide +kernel
theorem k__law_head : codeIs T0 n__law_head (top 20) c__law_head = true := by decide +kernel
theorem k__law_digits : codeIs T0 n__law_digits (top 21) c__law_digits = true := by decide +kernel
theorem k__law_goal : codeIs T0 n__law_goal (top 22) c__law_goal = true := by decide +kernel
theorem k__law_new_rule : codeIs T0 n__law_new_rule (top 23) c__law_new_rule = true := by decide +kernel
theorem k__law_exchange : codeIs T0 n__law_exchange (top 24) c__law_exchange = true := by decide +kernel
theorem k__law_is_digits : codeIs T0 n__law_is_digits (top 25) c__law_is_digits = true := by decide +kernel
theorem k__law_is_name : codeIs T0 n__law_is_name (top 26) c__law_is_name = true := by decide +kernel
theorem k__law_is_head : codeIs T0 n__law_is_head (top 27) c__law_is_head = true := by decide +kernel
theorem k__law_is_goal : codeIs T0 n__law_is_goal (top 28) c__law_is_goal = true := by decide +kernel
theorem k__law_is_one_rule : codeIs T0 n__law_is_one_rule (top 29) c__law_is_one_rule = true := by decide +kernel
theorem k__law_is_exchange : codeIs T0 n__law_is_exchange (top 30) c__law_is_exchange = true := by decide +kernel
def n_law : List Str := [(tx [95, 108, 97, 119, 95, 115, 99, 114, 105, 112, 116]), (tx [95, 108, 97, 119, 95, 116, 97, 112, 101]), (tx [95, 108, 97, 119, 95, 116, 117, 114, 110]), (tx [95, 108, 97, 119, 95, 101, 120, 99, 104, 97, 110, 103, 101, 95, 104, 101, 114, 101]), (tx [95, 108, 97, 119, 95, 105, 116, 101, 109]), (tx [95, 108, 97, 119, 95, 104, 101, 97, 100, 115]), (tx [95, 108, 97, 119, 95, 109, 111, 114, 101]), (tx [95, 108, 97, 119, 95, 100, 114, 111, 112]), (tx [95, 108, 97, 119, 95, 112, 117, 116]), (tx [95, 108, 97, 119, 95, 103, 111, 97, 108, 95, 104, 101, 114, 101]), (tx [95, 108, 97, 119, 95, 116, 104, 105, 110, 103, 115]), (tx [95, 108, 97, 119, 95, 111, 100, 100]), (tx [95, 108, 97, 119, 95, 116, 104, 105, 110, 103]), (tx [46, 48]), (tx [95, 108, 97, 119, 95, 107])]
def c_law : List Sd :=
  [.asg (.nm 1) (.lst [(.blt .list [(.var 0)]), (.cst (.int (0))), (.cst (.int (0)))]), .fr (.nm 2) (.rng (.cst (.int (12)))) [.asg (.nm 3) (.call (tx [95, 108, 97, 119, 95, 101, 120, 99, 104, 97, 110, 103, 101]) [(.var 1), (.cst (.int (3))), (.cst (.int (6)))]), .asg (.nm 4) (.call (tx [95, 108, 97, 119, 95, 110, 101, 119, 95, 114, 117, 108, 101]) [(.var 1), (.lst [(.cst (.str (tx [97])))])]), .asg (.tp [(.nm 5), (.nm 6), (.nm 7), (.nm 8), (.nm 9)]) (.var 4), .asg (.nm 10) (.lst [(.var 3), (.blt .list [(.var 3)]), (.bin .Add (.var 3) (.var 3)), (.tup []), (.cst .non), (.idx (.var 3) (.cst (.int (0))))]), .asg (.nm 11) (.lst [(.var 4), (.blt .list [(.var 4)]), (.tup [(.bin .Mult (.tup [(.cst (.str (tx [48, 49])))]) (.cst (.int (3)))), (.var 6), (.var 7), (.var 8), (.var 9)]), (.tup [(.tup [(.cst (.str (tx [])))]), (.var 6), (.cst (.int (0))), (.var 8), (.var 9)])]), .asg (.nm 11) (.bin .Add (.var 11) (.lst [(.tup [(.tup [(.cst (.str (tx [49, 48])))]), (.var 6), (.cst (.int (0))), (.var 8), (.var 9)])])), .asg (.nm 11) (.bin .Add (.var 11) (.lst [(.tup [(.tup [(.cst (.str (tx [49, 49])))]), (.var 6), (.cst (.int (0))), (.var 8), (.var 9)]), (.tup [(.var 5), (.cst (.int (1))), (.var 7), (.var 8), (.var 9)])])), .asg (.nm 11) (.bin .Add (.var 11) (.lst [(.tup [(.var 5), (.var 6), (.cst (.int (3))), (.var 8), (.var 9)]), (.tup [(.var 5), (.var 6), (.var 7), (.var 8)])])), .asg (.nm 11) (.bin .Add (.var 11) (.lst [(.tup [(.var 5), (.var 6), (.neg (.cst (.int (1)))), (.var 8), (.var 9)]), (.tup [(.var 5), (.var 6), (.cst (.bl true)), (.var 8), (.var 9)])])), .asg (.nm 11) (.bin .Add (.var 11) (.lst [(.tup [(.var 5), (.var 6), (.var 7), (.cst (.str (tx [48, 49, 50, 51]))), (.var 9)])])), .asg (.nm 11) (.bin .Add (.var 11) (.lst [(.tup [(.var 5), (.var 6), (.var 7), (.cst (.str (tx [120]))), (.var 9)]), (.tup [(.var 5), (.var 6), (.var 7), (.var 8), (.tup [(.cst (.str (tx [112, 108, 97, 110]))), (.cst (.str (tx [122, 122])))])])])), .asg (.nm 11) (.bin .Add (.var 11) (.lst [(.tup [(.var 5), (.var 6), (.var 7), (.var 8), (.tup [(.cst (.str (tx [108, 105, 110, 101])))])])])), .asg (.nm 11) (.bin .Add (.var 11) (.lst [(.tup [(.var 5), (.var 6), (.var 7), (.var 8), (.tup [(.cst (.str (tx [110, 111, 98, 111, 100, 121]))), (.cst (.str (tx [97])))])]), (.tup [(.var 5), (.var 6), (.var 7), (.var 8), (.tup [(.cst (.str (tx [108, 105, 110, 101]))), (.cst (.str (tx [65])))])])])), .asg (.nm 11) (.bin .Add (.var 11) (.lst [(.tup [(.var 5), (.var 6), (.var 7), (.var 8), (.cst (.str (tx [110, 111, 98, 111, 100, 121])))])])), .fr (.nm 12) (.it (.var 11)) [.exp (.mth .append (.var 10) [(.tup [(.tup [(.cst (.str (tx [97]))), (.cst (.str (tx [102, 105, 114, 115, 116]))), (.tup [(.var 12)])])])])], .asg (.nm 10) (.bin .Add (.var 10) (.lst [(.tup [(.tup [(.cst (.str (tx [97]))), (.cst (.str (tx [97, 110, 121]))), (.tup [])])]), (.tup [(.tup [(.cst (.str (tx [97]))), (.cst (.str (tx [102, 105, 114, 115, 116]))), (.bin .Mult (.tup [(.var 4)]) (.cst (.int (6))))])])])), .asg (.nm 10) (.bin .Add (.var 10) (.lst [(.tup [(.tup [(.cst (.str (tx [97]))), (.cst (.str (tx [102, 105, 114, 115, 116]))), (.bin .Mult (.tup [(.var 4)]) (.cst (.int (7))))])]), (.bin .Mult (.tup [(.tup [(.cst (.str (tx [97]))), (.cst (.str (tx [102, 105, 114, 115, 116]))), (.tup [])])]) (.cst (.int (2))))])), .fr (.nm 12) (.it (.bin .Add (.bin .Add (.var 10) (.lc [13, 14] (.call (tx [95, 108, 97, 119, 95, 115, 112, 111, 105, 108, 116]) [(.var 1), (.var 3)]) (.nm 14) (.rng (.cst (.int (10)))) .yes)) (.lst [(.call (tx [95, 108, 97, 119, 95, 97, 110, 121]) [(.var 1), (.cst (.int (3)))])]))) [.ite (.not (.val (.call (tx [95, 108, 97, 119, 95, 108, 105, 107, 101]) [(.call (tx [105, 115, 95, 101, 120, 99, 104, 97, 110, 103, 101]) [(.var 12)]), (.call (tx [95, 108, 97, 119, 95, 105, 115, 95, 101, 120, 99, 104, 97, 110, 103, 101]) [(.var 12)])]))) [.ret (.cst (.bl false))] []]], .ret (.cmp .Is (.call (tx [105, 115, 95, 101, 120, 99, 104, 97, 110, 103, 101]) [(.tup [(.tup [(.cst (.str (tx [97]))), (.cst (.str (tx [108, 111, 110, 103, 101, 115, 116]))), (.tup [])])])]) (.cst (.bl true)))]
theorem k_law : codeIs T0 n_law (top 31) c_law = true := by decide +kernel

def tab0 : List (Str × Df) := [(("is_word" : Str), (⟨n_is_word, 1, c_is_word⟩ : Df)), (("is_number" : Str), (⟨n_is_number, 2, c_is_number⟩ : Df)), (("is_head" : Str), (⟨n_is_head, 1, c_is_head⟩ : Df)), (("is_goal" : Str), (⟨n_is_goal, 1, c_is_goal⟩ : Df)), (("is_rule" : Str), (⟨n_is_rule, 1, c_is_rule⟩ : Df)), (("is_plan" : Str), (⟨n_is_plan, 1, c_is_plan⟩ : Df)), (("is_exchange" : Str), (⟨n_is_exchange, 1, c_is_exchange⟩ : Df)), (("_law_draw" : Str), (⟨n__law_draw, 2, c__law_draw⟩ : Df)), (("_law_whole" : Str), (⟨n__law_whole, 1, c__law_whole⟩ : Df)), (("_law_within" : Str), (⟨n__law_within, 3, c__law_within⟩ : Df)), (("_law_like" : Str), (⟨n__law_like, 2, c__law_like⟩ : Df)), (("_law_spoilt" : Str), (⟨n__law_spoilt, 2, c__law_spoilt⟩ : Df)), (("_law_any" : Str), (⟨n__law_any, 2, c__law_any⟩ : Df)), (("_law_head" : Str), (⟨n__law_head, 1, c__law_head⟩ : Df)), (("_law_digits" : Str), (⟨n__law_digits, 2, c__law_digits⟩ : Df)), (("_law_goal" : Str), (⟨n__law_goal, 2, c__law_goal⟩ : Df)), (("_law_new_rule" : Str), (⟨n__law_new_rule, 2, c__law_new_rule⟩ : Df)), (("_law_exchange" : Str), (⟨n__law_exchange, 3, c__law_exchange⟩ : Df)), (("_law_is_digits" : Str), (⟨n__law_is_digits, 2, c__law_is_digits⟩ : Df)), (("_law_is_name" : Str), (⟨n__law_is_name, 1, c__law_is_name⟩ : Df)), (("_law_is_head" : Str), (⟨n__law_is_head, 1, c__law_is_head⟩ : Df)), (("_law_is_goal" : Str), (⟨n__law_is_goal, 2, c__law_is_goal⟩ : Df)), (("_law_is_one_rule" : Str), (⟨n__law_is_one_rule, 2, c__law_is_one_rule⟩ : Df)), (("_law_is_exchange" : Str), (⟨n__law_is_exchange, 1, c__law_is_exchange⟩ : Df)), (("law" : Str), (⟨n_law, 1, c_law⟩ : Df))]
theorem s_is_word : FnScope n_is_word (n_is_word.take 1) (defScope (top 6)) := ⟨by decide +kernel, by decide +kernel, by decide +kernel, by decide +kernel, by decide +kernel, by decide +kernel, by decide +kernel⟩
theorem s_is_number : FnScope n_is_number (n_is_number.take 2) (defScope (top 7)) := ⟨by decide +kernel, by decide +kernel, by decide +kernel, by decide +kernel, by decide +kernel, by decide +kernel, by decide +kernel⟩
theorem s_is_head : FnScope n_is_head (n_is_head.take 1) (defScope (top 8)) := ⟨by decide +kernel, by decide +kernel, by decide +kernel, by decide +kernel, by decide +kernel, by decide +kernel, by decide +kernel⟩
theorem s_is_goal : FnScope n_is_goal (n_is_goal.take 1) (defScope (top 9)) := ⟨by decide +kernel, by decide +kernel, by decide +kernel, by decide +kernel, by decide +kernel, by decide +kernel, by decide +kernel⟩
theorem s_is_rule : FnScope n_is_rule (n_is_rule.take 1) (defScope (top 10)) := ⟨by decide +kernel, by decide +kernel, by decide +kernel, by decide +kernel, by decide +kernel, by decide +kernel, by decide +kernel⟩
theorem s_is_plan : FnScope n_is_plan (n_is_plan.take 1) (defScope (top 11)) := ⟨by decide +kernel, by decide +kernel, by decide +kernel, by decide +kernel, by decide +kernel, by decide +kernel, by decide +kernel⟩
theorem s_is_exchange : FnScope n_is_exchange (n_is_exchange.take 1) (defScope (top 12)) := ⟨by decide +kernel, by decide +kernel, by decide +kernel, by decide +kernel, by decide +kernel, by decide +kernel, by decide +kernel⟩
theorem s__law_draw : FnScope n__law_draw (n__law_draw.take 2) (defScope (top 14)) := ⟨by decide +kernel, by decide +kernel, by decide +kernel, by decide +kernel, by decide +kernel, by decide +kernel, by decide +kernel⟩
theorem s__law_whole : FnScope n__law_whole (n__law_whole.take 1) (defScope (top 15)) := ⟨by decide +kernel, by decide +kernel, by decide +kernel, by decide +kernel, by decide +kernel, by decide +kernel, by decide +kernel⟩
theorem s__law_within : FnScope n__law_within (n__law_within.take 3) (defScope (top 16)) := ⟨by decide +kernel, by decide +kernel, by decide +kernel, by decide +kernel, by decide +kernel, by decide +kernel, by decide +kernel⟩
theorem s__law_like : FnScope n__law_like (n__law_like.take 2) (defScope (top 17)) := ⟨by decide +kernel, by decide +kernel, by decide +kernel, by decide +kernel, by decide +kernel, by decide +kernel, by decide +kernel⟩
theorem s__law_spoilt : FnScope n__law_spoilt (n__law_spoilt.take 2) (defScope (top 18)) := ⟨by decide +kernel, by decide +kernel, by decide +kernel, by decide +kernel, by decide +kernel, by decide +kernel, by decide +kernel⟩
theorem s__law_any : FnScope n__law_any (n__law_any.take 2) (defScope (top 19)) := ⟨by decide +kernel, by decide +kernel, by decide +kernel, by decide +kernel, by decide +kernel, by decide +kernel, by decide +kernel⟩
theorem s__law_head : FnScope n__law_head (n__law_head.take 1) (defScope (top 20)) := ⟨by decide +kernel, by decide +kernel, by decide +kernel, by decide +kernel, by decide +kernel, by decide +kernel, by decide +kernel⟩
theorem s__law_digits : FnScope n__law_digits (n__law_digits.take 2) (defScope (top 21)) := ⟨by decide +kernel, by decide +kernel, by decide +kernel, by decide +kernel, by decide +kernel, by decide +kernel, by decide +kernel⟩
theorem s__law_goal : FnScope n__law_goal (n__law_goal.take 2) (defScope (top 22)) := ⟨by decide +kernel, by decide +kernel, by decide +kernel, by decide +kernel, by decide +kernel, by decide +kernel, by decide +kernel⟩
theorem s__law_new_rule : FnScope n__law_new_rule (n__law_new_rule.take 2) (defScope (top 23)) := ⟨by decide +kernel, by decide +kernel, by decide +kernel, by decide +kernel, by decide +kernel, by decide +kernel, by decide +kernel⟩
theorem s__law_exchange : FnScope n__law_exchange (n__law_exchange.take 3) (defScope (top 24)) := ⟨by decide +kernel, by decide +kernel, by decide +kernel, by decide +kernel, by decide +kernel, by decide +kernel, by decide +kernel⟩
theorem s__law_is_digits : FnScope n__law_is_digits (n__law_is_digits.take 2) (defScope (top 25)) := ⟨by decide +kernel, by decide +kernel, by decide +kernel, by decide +kernel, by decide +kernel, by decide +kernel, by decide +kernel⟩
theorem s__law_is_name : FnScope n__law_is_name (n__law_is_name.take 1) (defScope (top 26)) := ⟨by decide +kernel, by decide +kernel, by decide +kernel, by decide +kernel, by decide +kernel, by decide +kernel, by decide +kernel⟩
theorem s__law_is_head : FnScope n__law_is_head (n__law_is_head.take 1) (defScope (top 27)) := ⟨by decide +kernel, by decide +kernel, by decide +kernel, by decide +kernel, by decide +kernel, by decide +kernel, by decide +kernel⟩
theorem s__law_is_goal : FnScope n__law_is_goal (n__law_is_goal.take 2) (defScope (top 28)) := ⟨by decide +kernel, by decide +kernel, by decide +kernel, by decide +kernel, by decide +kernel, by decide +kernel, by decide +kernel⟩
theorem s__law_is_one_rule : FnScope n__law_is_one_rule (n__law_is_one_rule.take 2) (defScope (top 29)) := ⟨by decide +kernel, by decide +kernel, by decide +kernel, by decide +kernel, by decide +kernel, by decide +kernel, by decide +kernel⟩
theorem s__law_is_exchange : FnScope n__law_is_exchange (n__law_is_exchange.take 1) (defScope (top 30)) := ⟨by decide +kernel, by decide +kernel, by decide +kernel, by decide +kernel, by decide +kernel, by decide +kernel, by decide +kernel⟩
theorem s_law : FnScope n_law (n_law.take 1) (defScope (top 31)) := ⟨by decide +kernel, by decide +kernel, by decide +kernel, by decide +kernel, by decide +kernel, by decide +kernel, by decide +kernel⟩

def glo : Str → Option D := fun x => if x = (tx [76, 69, 84, 84, 69, 82, 83]) then some (.str (tx [97, 98, 99, 100, 101, 102, 103, 104, 105, 106, 107, 108, 109, 110, 111, 112, 113, 114, 115, 116, 117, 118, 119, 120, 121, 122])) else if x = (tx [68, 73, 71, 73, 84, 83]) then some (.str (tx [48, 49, 50, 51, 52, 53, 54, 55, 56, 57])) else if x = (tx [79, 82, 68, 69, 82, 83]) then some (.tup [.str (tx [102, 105, 114, 115, 116]), .str (tx [108, 111, 110, 103, 101, 115, 116])]) else if x = (tx [78, 79, 66, 79, 68, 89]) then some (.tup [.str (tx [110, 111, 98, 111, 100, 121])]) else if x = (tx [77, 79, 83, 84, 95, 82, 85, 76, 69, 83]) then some (.int 6) else none
theorem glo_LETTERS : glo (tx [76, 69, 84, 84, 69, 82, 83]) = some (.str (tx [97, 98, 99, 100, 101, 102, 103, 104, 105, 106, 107, 108, 109, 110, 111, 112, 113, 114, 115, 116, 117, 118, 119, 120, 121, 122])) := by
  unfold glo
  rw [if_pos rfl]
theorem glo_DIGITS : glo (tx [68, 73, 71, 73, 84, 83]) = some (.str (tx [48, 49, 50, 51, 52, 53, 54, 55, 56, 57])) := by
  unfold glo
  rw [if_neg (by decide), if_pos rfl]
theorem glo_ORDERS : glo (tx [79, 82, 68, 69, 82, 83]) = some (.tup [.str (tx [102, 105, 114, 115, 116]), .str (tx [108, 111, 110, 103, 101, 115, 116])]) := by
  unfold glo
  rw [if_neg (by decide), if_neg (by decide), if_pos rfl]
theorem glo_NOBODY : glo (tx [78, 79, 66, 79, 68, 89]) = some (.tup [.str (tx [110, 111, 98, 111, 100, 121])]) := by
  unfold glo
  rw [if_neg (by decide), if_neg (by decide), if_neg (by decide), if_pos rfl]
theorem glo_MOST_RULES : glo (tx [77, 79, 83, 84, 95, 82, 85, 76, 69, 83]) = some (.int 6) := by
  unfold glo
  rw [if_neg (by decide), if_neg (by decide), if_neg (by decide), if_neg (by decide), if_pos rfl]
theorem h_is_word (n : Nat) : phi tab0 glo (n + 1) (tx [105, 115, 95, 119, 111, 114, 100]) = some (wDf (phi tab0 glo n) glo ⟨n_is_word, 1, c_is_word⟩) := phi_at (i := 0) (by decide +kernel) rfl
theorem h_is_number (n : Nat) : phi tab0 glo (n + 1) (tx [105, 115, 95, 110, 117, 109, 98, 101, 114]) = some (wDf (phi tab0 glo n) glo ⟨n_is_number, 2, c_is_number⟩) := phi_at (i := 1) (by decide +kernel) rfl
theorem h_is_head (n : Nat) : phi tab0 glo (n + 1) (tx [105, 115, 95, 104, 101, 97, 100]) = some (wDf (phi tab0 glo n) glo ⟨n_is_head, 1, c_is_head⟩) := phi_at (i := 2) (by decide +kernel) rfl
theorem h_is_goal (n : Nat) : phi tab0 glo (n + 1) (tx [105, 115, 95, 103, 111, 97, 108]) = some (wDf (phi tab0 glo n) glo ⟨n_is_goal, 1, c_is_goal⟩) := phi_at (i := 3) (by decide +kernel) rfl
theorem h_is_rule (n : Nat) : phi tab0 glo (n + 1) (tx [105, 115, 95, 114, 117, 108, 101]) = some (wDf (phi tab0 glo n) glo ⟨n_is_rule, 1, c_is_rule⟩) := phi_at (i := 4) (by decide +kernel) rfl
theorem h_is_plan (n : Nat) : phi tab0 glo (n + 1) (tx [105, 115, 95, 112, 108, 97, 110]) = some (wDf (phi tab0 glo n) glo ⟨n_is_plan, 1, c_is_plan⟩) := phi_at (i := 5) (by decide +kernel) rfl
theorem h_is_exchange (n : Nat) : phi tab0 glo (n + 1) (tx [105, 115, 95, 101, 120, 99, 104, 97, 110, 103, 101]) = some (wDf (phi tab0 glo n) glo ⟨n_is_exchange, 1, c_is_exchange⟩) := phi_at (i := 6) (by decide +kernel) rfl
theorem h__law_draw (n : Nat) : phi tab0 glo (n + 1) (tx [95, 108, 97, 119, 95, 100, 114, 97, 119]) = some (wDf (phi tab0 glo n) glo ⟨n__law_draw, 2, c__law_draw⟩) := phi_at (i := 7) (by decide +kernel) rfl
theorem h__law_whole (n : Nat) : phi tab0 glo (n + 1) (tx [95, 108, 97, 119, 95, 119, 104, 111, 108, 101]) = some (wDf (phi tab0 glo n) glo ⟨n__law_whole, 1, c__law_whole⟩) := phi_at (i := 8) (by decide +kernel) rfl
theorem h__law_within (n : Nat) : phi tab0 glo (n + 1) (tx [95, 108, 97, 119, 95, 119, 105, 116, 104, 105, 110]) = some (wDf (phi tab0 glo n) glo ⟨n__law_within, 3, c__law_within⟩) := phi_at (i := 9) (by decide +kernel) rfl
theorem h__law_like (n : Nat) : phi tab0 glo (n + 1) (tx [95, 108, 97, 119, 95, 108, 105, 107, 101]) = some (wDf (phi tab0 glo n) glo ⟨n__law_like, 2, c__law_like⟩) := phi_at (i := 10) (by decide +kernel) rfl
theorem h__law_spoilt (n : Nat) : phi tab0 glo (n + 1) (tx [95, 108, 97, 119, 95, 115, 112, 111, 105, 108, 116]) = some (wDf (phi tab0 glo n) glo ⟨n__law_spoilt, 2, c__law_spoilt⟩) := phi_at (i := 11) (by decide +kernel) rfl
theorem h__law_any (n : Nat) : phi tab0 glo (n + 1) (tx [95, 108, 97, 119, 95, 97, 110, 121]) = some (wDf (phi tab0 glo n) glo ⟨n__law_any, 2, c__law_any⟩) := phi_at (i := 12) (by decide +kernel) rfl
theorem h__law_head (n : Nat) : phi tab0 glo (n + 1) (tx [95, 108, 97, 119, 95, 104, 101, 97, 100]) = some (wDf (phi tab0 glo n) glo ⟨n__law_head, 1, c__law_head⟩) := phi_at (i := 13) (by decide +kernel) rfl
theorem h__law_digits (n : Nat) : phi tab0 glo (n + 1) (tx [95, 108, 97, 119, 95, 100, 105, 103, 105, 116, 115]) = some (wDf (phi tab0 glo n) glo ⟨n__law_digits, 2, c__law_digits⟩) := phi_at (i := 14) (by decide +kernel) rfl
theorem h__law_goal (n : Nat) : phi tab0 glo (n + 1) (tx [95, 108, 97, 119, 95, 103, 111, 97, 108]) = some (wDf (phi tab0 glo n) glo ⟨n__law_goal, 2, c__law_goal⟩) := phi_at (i := 15) (by decide +kernel) rfl
theorem h__law_new_rule (n : Nat) : phi tab0 glo (n + 1) (tx [95, 108, 97, 119, 95, 110, 101, 119, 95, 114, 117, 108, 101]) = some (wDf (phi tab0 glo n) glo ⟨n__law_new_rule, 2, c__law_new_rule⟩) := phi_at (i := 16) (by decide +kernel) rfl
theorem h__law_exchange (n : Nat) : phi tab0 glo (n + 1) (tx [95, 108, 97, 119, 95, 101, 120, 99, 104, 97, 110, 103, 101]) = some (wDf (phi tab0 glo n) glo ⟨n__law_exchange, 3, c__law_exchange⟩) := phi_at (i := 17) (by decide +kernel) rfl
theorem h__law_is_digits (n : Nat) : phi tab0 glo (n + 1) (tx [95, 108, 97, 119, 95, 105, 115, 95, 100, 105, 103, 105, 116, 115]) = some (wDf (phi tab0 glo n) glo ⟨n__law_is_digits, 2, c__law_is_digits⟩) := phi_at (i := 18) (by decide +kernel) rfl
theorem h__law_is_name (n : Nat) : phi tab0 glo (n + 1) (tx [95, 108, 97, 119, 95, 105, 115, 95, 110, 97, 109, 101]) = some (wDf (phi tab0 glo n) glo ⟨n__law_is_name, 1, c__law_is_name⟩) := phi_at (i := 19) (by decide +kernel) rfl
theorem h__law_is_head (n : Nat) : phi tab0 glo (n + 1) (tx [95, 108, 97, 119, 95, 105, 115, 95, 104, 101, 97, 100]) = some (wDf (phi tab0 glo n) glo ⟨n__law_is_head, 1, c__law_is_head⟩) := phi_at (i := 20) (by decide +kernel) rfl
theorem h__law_is_goal (n : Nat) : phi tab0 glo (n + 1) (tx [95, 108, 97, 119, 95, 105, 115, 95, 103, 111, 97, 108]) = some (wDf (phi tab0 glo n) glo ⟨n__law_is_goal, 2, c__law_is_goal⟩) := phi_at (i := 21) (by decide +kernel) rfl
theorem h__law_is_one_rule (n : Nat) : phi tab0 glo (n + 1) (tx [95, 108, 97, 119, 95, 105, 115, 95, 111, 110, 101, 95, 114, 117, 108, 101]) = some (wDf (phi tab0 glo n) glo ⟨n__law_is_one_rule, 2, c__law_is_one_rule⟩) := phi_at (i := 22) (by decide +kernel) rfl
theorem h__law_is_exchange (n : Nat) : phi tab0 glo (n + 1) (tx [95, 108, 97, 119, 95, 105, 115, 95, 101, 120, 99, 104, 97, 110, 103, 101]) = some (wDf (phi tab0 glo n) glo ⟨n__law_is_exchange, 1, c__law_is_exchange⟩) := phi_at (i := 23) (by decide +kernel) rfl
theorem h_law (n : Nat) : phi tab0 glo (n + 1) (tx [108, 97, 119]) = some (wDf (phi tab0 glo n) glo ⟨n_law, 1, c_law⟩) := phi_at (i := 24) (by decide +kernel) rfl
theorem gen : Gen (phi tab0 glo) glo := ⟨h__law_draw, h__law_head, h__law_digits, h__law_goal, h__law_new_rule, h__law_exchange⟩
theorem famV : FamV (phi tab0 glo) glo := ⟨h_is_word, h_is_number, h_is_head, h_is_goal, h_is_rule, h_is_plan, h_is_exchange, glo_LETTERS, glo_DIGITS, glo_ORDERS, glo_MOST_RULES, glo_NOBODY⟩
theorem famL : FamL (phi tab0 glo) glo := ⟨h__law_whole, h__law_within, h__law_is_digits, h__law_is_name, h__law_is_head, h__law_is_goal, h__law_is_one_rule, h__law_is_exchange⟩
theorem famD : FamD (phi tab0 glo) glo := ⟨h__law_draw, h__law_any, h__law_spoilt, h__law_whole⟩
end Mn

namespace Mn
open PySem PySem.Spec L2
theorem vl_tx {z : List Addr} {N k : Nat} {S : Sto} {x : Str} (hl : (tl x).length ≤ N) (hc : ∀ c ∈ tl x, c < 128) : Vl z N S k (.str x) := by
  have := vl_str (z := z) (N := N) (k := k) (S := S) (x := tl x) (List.all_eq_true.mpr fun c h => decide_eq_true (hc c h)) hl
  rw [tx_tl] at this
  exact this
theorem up_len : ∀ (l : List Nat) (b : Nat), l.Pairwise (· < ·) → (∀ c ∈ l, b ≤ c ∧ c ≤ 57) → l.length ≤ 58 - b
  | [], _, _, _ => Nat.zero_le _
  | c :: l, b, h, hc => by
    obtain ⟨h1, h2⟩ := List.pairwise_cons.mp h
    have := up_len l (c + 1) h2 fun d hd => ⟨h1 d hd, (hc d (List.mem_cons_of_mem _ hd)).2⟩
    have := hc c List.mem_cons_self
    rw [List.length_cons]
    omega
section
variable {z : List Addr} {S : Sto}
theorem vl_dig {N k : Nat} {x : Str} (h : IsDig x) (hl : (tl x).length ≤ N) : Vl z N S k (.str x) := vl_tx hl fun c hc => by have := (h c hc).2; omega
theorem vl_head {k : Nat} {x : Str} (h : HeadOk x) : Vl z 20 S k (.str x) := vl_dig h.dg (by have := up_len _ 48 h.up h.dg; omega)
theorem vl_abc {k : Nat} {x : Str} (h : x ∈ abc) : Vl z 20 S k (.str x) := by
  simp only [abc, List.mem_cons, List.not_mem_nil, or_false] at h
  rcases h with rfl | rfl | rfl <;> exact vl_str (by decide) (by simp only [List.length_cons, List.length_nil, Nat.reduceAdd]; omega)
theorem vl_line {k : Nat} {x : Str} (h : x ∈ lineNames) : Vl z 20 S k (.str x) := by
  simp only [lineNames, List.mem_cons, List.not_mem_nil, or_false] at h
  rcases h with rfl | rfl | rfl | rfl <;> exact vl_str (by decide) (by simp only [List.length_cons, List.length_nil, Nat.reduceAdd]; omega)
theorem vl_encG {g : Goal} {names : List Str} (h : GoalOk names g) (hn : ∀ n ∈ names, n ∈ abc) : Vl z 20 S 1 (encG g) := by
  cases g with
  | line x =>
    refine vl_tup (by simp only [List.length_cons, List.length_nil, Nat.reduceAdd]; omega) fun d hd => ?_
    simp only [List.mem_cons, List.not_mem_nil, or_false] at hd
    rcases hd with rfl | rfl
    · exact vl_str (by decide) (by simp only [List.length_cons, List.length_nil, Nat.reduceAdd]; omega)
    · exact vl_line h
  | nobody =>
    refine vl_tup (by simp only [List.length_cons, List.length_nil, Nat.reduceAdd]; omega) fun d hd => ?_
    simp only [List.mem_cons, List.not_mem_nil, or_false] at hd
    subst hd
    exact vl_str (by decide) (by simp only [List.length_cons, List.length_nil, Nat.reduceAdd]; omega)
  | plan x =>
    refine vl_tup (by simp only [List.length_cons, List.length_nil, Nat.reduceAdd]; omega) fun d hd => ?_
    simp only [List.mem_cons, List.not_mem_nil, or_false] at hd
    rcases hd with rfl | rfl
    · exact vl_str (by decide) (by simp only [List.length_cons, List.length_nil, Nat.reduceAdd]; omega)
    · exact vl_abc (hn _ h)
theorem vl_heads {l : List Str} (h : ∀ x ∈ l, HeadOk x) (hl : l.length ≤ 2) : Vl z 20 S 1 (.tup (l.map D.str)) := vl_tup (by rw [List.length_map]; omega) fun d hd => by
  obtain ⟨x, hx, rfl⟩ := List.mem_map.mp hd
  exact vl_head (h x hx)
theorem vl_encR {r : Rule} {names : List Str} (h : RuleOk names r) (hn : ∀ n ∈ names, n ∈ abc) : Vl z 20 S 2 (encR r) := vl_tup (by simp only [List.length_cons, List.length_nil, Nat.reduceAdd]; omega) fun d hd => by
  simp only [List.mem_cons, List.not_mem_nil, or_false] at hd
  rcases hd with rfl | rfl | rfl | rfl | rfl
  · exact vl_heads h.heads h.few
  · exact vl_bl
  · exact vl_int
  · exact vl_dig h.put (by have := h.short; omega)
  · exact vl_encG h.goal hn
theorem vl_encP {p : Plan} {names : List Str} {many : Nat} (hm : many ≤ 20) (h : PlanOk names many p) (hn : ∀ n ∈ names, n ∈ abc) : Vl z 20 S 4 (encP p) := vl_tup (by simp only [List.length_cons, List.length_nil, Nat.reduceAdd]; omega) fun d hd => by
  simp only [List.mem_cons, List.not_mem_nil, or_false] at hd
  rcases hd with rfl | rfl | rfl
  · exact vl_abc (hn _ h.name)
  · rcases h.order with e | e <;> (rw [e]; exact vl_str (by decide) (by simp only [List.length_cons, List.length_nil, Nat.reduceAdd]; omega))
  · refine vl_tup (by rw [List.length_map]; have := h.few; omega) fun d hd => ?_
    obtain ⟨r, hr, rfl⟩ := List.mem_map.mp hd
    exact vl_encR (h.rules r hr) hn
theorem ex_names {x : List Plan} {many : Nat} (h : ExOk many x) : ∀ n ∈ x.map Plan.name, n ∈ abc := fun n hn => by
  obtain ⟨j, _, _, e⟩ := h.names
  rw [e] at hn
  exact List.mem_of_mem_take hn
theorem ex_len {x : List Plan} {many : Nat} (h : ExOk many x) : 1 ≤ x.length ∧ x.length ≤ 3 := by
  obtain ⟨j, j1, j3, e⟩ := h.names
  have := congrArg List.length e
  rw [List.length_map, List.length_take] at this
  have : abc.length = 3 := rfl
  omega
theorem vl_plans {x : List Plan} {many : Nat} (hm : many ≤ 20) (h : ExOk many x) : ∀ d ∈ x.map encP, Vl z 20 S 4 d := fun d hd => by
  obtain ⟨p, hp, rfl⟩ := List.mem_map.mp hd
  exact vl_encP hm (h.plans p hp) (ex_names h)
theorem vl_encX {x : List Plan} {many : Nat} (hm : many ≤ 20) (h : ExOk many x) : Vl z 20 S 5 (encX x) := vl_tup (by rw [List.length_map]; have := (ex_len h).2; omega) (vl_plans hm h)
/-- small tuples -/
theorem vl_t {N k : Nat} {ds : List D} (hl : ds.length ≤ N) (h : ∀ d ∈ ds, Vl z N S k d) : Vl z N S (k + 1) (.tup ds) := vl_tup hl h
end
/-- a list made longer -/
theorem grow_ok {Φ : Str → Option SpD} {Γ : Str → Option D} {i : Nat} {es : List Cd} {vs ds : List D} {p : Addr} {E : EndsD} {env : Env} {S : Sto} (he : env.getD i none = some (.ref p)) (hp : S p = some (.lst ds)) (hl : ds.length + vs.length ≤ 1000) (hev : ∀ {R : List D → Sto → Prop}, R vs S → wEs Φ Γ es env S R)
    (hN : ∀ S' p', Ext S S' → S' p' = some (.lst (ds ++ vs)) → S p' = none → E.nx (env.set i (some (.ref p'))) S') : wS Φ Γ (.asg (.nm i) (.bin .Add (.var i) (.lst es))) E env S := by
  have sz : (16000000 : Nat) ≤ sizeLine := by decide
  rw [w_asg, v_bin, v_var, he]
  show wE Φ Γ (.lst es) env S _
  rw [v_lst]
  refine hev ⟨by omega, fun q hq => ?_⟩
  have x1 := Ext.new (c := .lst vs) hq
  refine ⟨_, _, x1 _ _ hp, up_same, by omega, fun p' hp' => ⟨_, w_nm, ?_⟩⟩
  refine hN _ _ (x1.trans (Ext.new hp')) up_same ?_
  cases e : S p' with
  | none => rfl
  | some c => rw [x1 _ _ e] at hp'; cases hp'
end Mn

namespace Mn
open PySem PySem.Spec L2
def Pv (k : Nat) (d : D) : Prop := ∀ (z : List Addr) (S : Sto), Vl z 100 S k d
theorem Pv.mono {k k' : Nat} {d : D} (h : Pv k d) (hk : k ≤ k') : Pv k' d := fun z S => (h z S).mono (Nat.le_refl _) hk
theorem pv_tup {k : Nat} {ds : List D} (hl : ds.length ≤ 100) (h : ∀ d ∈ ds, Pv k d) : Pv (k + 1) (.tup ds) := fun z S => vl_tup hl fun d hd => h d hd z S
theorem pv_int {k : Nat} {i : Int} : Pv k (.int i) := fun _ _ => vl_int
theorem pv_bl {k : Nat} {b : Bool} : Pv k (.bl b) := fun _ _ => vl_bl
theorem pv_str {k : Nat} {x : W} (h : (x.all fun c => decide (c < 128)) = true) (hl : x.length ≤ 100) : Pv k (.str (tx x)) := fun _ _ => vl_str h hl
theorem pv_1 {k : Nat} {a : D} (ha : Pv k a) : Pv (k + 1) (.tup [a]) := pv_tup (by simp only [List.length_cons, List.length_nil, Nat.reduceAdd]; omega) fun d hd => by
  rw [List.mem_singleton.mp hd]; exact ha
theorem pv_2 {k : Nat} {a b : D} (ha : Pv k a) (hb : Pv k b) : Pv (k + 1) (.tup [a, b]) := pv_tup (by simp only [List.length_cons, List.length_nil, Nat.reduceAdd]; omega) fun d hd => by
  simp only [List.mem_cons, List.not_mem_nil, or_false] at hd
  rcases hd with rfl | rfl
  · exact ha
  · exact hb
theorem pv_3 {k : Nat} {a b c : D} (ha : Pv k a) (hb : Pv k b) (hc : Pv k c) : Pv (k + 1) (.tup [a, b, c]) := pv_tup (by simp only [List.length_cons, List.length_nil, Nat.reduceAdd]; omega) fun d hd => by
  simp only [List.mem_cons, List.not_mem_nil, or_false] at hd
  rcases hd with rfl | rfl | rfl
  · exact ha
  · exact hb
  · exact hc
theorem pv_4 {k : Nat} {a b c e : D} (ha : Pv k a) (hb : Pv k b) (hc : Pv k c) (he : Pv k e) : Pv (k + 1) (.tup [a, b, c, e]) := pv_tup (by simp only [List.length_cons, List.length_nil, Nat.reduceAdd]; omega) fun d hd => by
  simp only [List.mem_cons, List.not_mem_nil, or_false] at hd
  rcases hd with rfl | rfl | rfl | rfl
  · exact ha
  · exact hb
  · exact hc
  · exact he
theorem pv_5 {k : Nat} {a b c e f : D} (ha : Pv k a) (hb : Pv k b) (hc : Pv k c) (he : Pv k e) (hf : Pv k f) : Pv (k + 1) (.tup [a, b, c, e, f]) := pv_tup (by simp only [List.length_cons, List.length_nil, Nat.reduceAdd]; omega) fun d hd => by
  simp only [List.mem_cons, List.not_mem_nil, or_false] at hd
  rcases hd with rfl | rfl | rfl | rfl | rfl
  · exact ha
  · exact hb
  · exact hc
  · exact he
  · exact hf
theorem pv_nil {k : Nat} : Pv (k + 1) (.tup []) := pv_tup (Nat.zero_le _) fun d hd => nomatch hd
mutual
theorem VD.xt {z : List Addr} {N : Nat} {S S' : Sto} (x : Ext S S') : ∀ (u : PyData) {k : Nat} {d : D}, VD z N S k d u → VD z N S' k d u
  | .none, _, _, h => by cases h; exact .non _
  | .bool b, _, _, h => by cases h; exact .bl _ b
  | .int i, _, _, h => by cases h; exact .int _ i
  | .str y, _, _, h => by
    cases h with
    | str _ x h hc => exact .str _ x h hc
  | .tuple us, _, _, h => by
    cases h with
    | tup hl h => exact .tup hl (VDs.xt x us h)
  | .list us, _, _, h => by
    cases h with
    | ref ne e hl h => exact .ref ne (x _ _ e) hl (VDs.xt x us h)
  | .dict _, _, _, h => by cases h
theorem VDs.xt {z : List Addr} {N : Nat} {S S' : Sto} (x : Ext S S') : ∀ (us : List PyData) {k : Nat} {ds : List D}, VDs z N S k ds us → VDs z N S' k ds us
  | [], _, _, h => by cases h; exact .nil _
  | u :: us, _, _, h => by
    cases h with
    | cons h1 h2 => exact .cons (VD.xt x u h1) (VDs.xt x us h2)
end
theorem Vl.xt {z : List Addr} {N k : Nat} {S S' : Sto} {d : D} (h : Vl z N S k d) (x : Ext S S') : Vl z N S' k d := let ⟨u, h⟩ := h; ⟨u, h.xt x u⟩
/-- a list of such values that stands at p -/
def Hs (L : Nat) (z : List Addr) (S : Sto) (p : Addr) (m : Nat) : Prop := ∃ ds, S p = some (.lst ds) ∧ ds.length ≤ m ∧ ∀ x ∈ ds, Vl z 100 S L x
theorem hs_grow {L : Nat} {z : List Addr} {Φ : Str → Option SpD} {Γ : Str → Option D} {i n m : Nat} {es : List Cd} {vs : List D} {p : Addr} {E : EndsD} {env : Env} {S : Sto} (he : env.getD i none = some (.ref p)) (h : Hs L z S p m) (hm : m + n ≤ 900) (hn : vs.length = n) (hev : ∀ {R : List D → Sto → Prop}, R vs S → wEs Φ Γ es env S R)
    (hv : ∀ x ∈ vs, Pv L x) (hN : ∀ S' p', Ext S S' → S p' = none → Hs L z S' p' (m + n) → E.nx (env.set i (some (.ref p'))) S') : wS Φ Γ (.asg (.nm i) (.bin .Add (.var i) (.lst es))) E env S := by
  obtain ⟨ds, e, hl, hd⟩ := h
  refine grow_ok he e (by omega) hev fun S' p' x e' fr => hN S' p' x fr ⟨_, e', by rw [List.length_append]; omega, fun y hy => ?_⟩
  rcases List.mem_append.mp hy with hy | hy
  · exact (hd y hy).xt x
  · exact hv y hy _ _
theorem m_rep {xs : List D} {k : Int} {S : Sto} {R : MK} (h : xs ≠ []) (h1 : 2 ≤ k) (h2 : k ≤ 1000) (h3 : xs.length ≤ 1000) (hR : R (.tup (List.replicate k.toNat xs).flatten) S) : binD .Mult (.tup xs) (.int k) S R := ⟨h, h1, h2, h3, hR⟩
/-- the odd rules -/
theorem odd_ok {t : Addr} {z : List Addr} {E : EndsD} {S : Sto} {p : Addr} {dh dg : D} {b : Bool} {dr : Int} {pt : Str} {y0 y2 y3 y4 y10 y12 y13 y14 : Option D} (hh : Pv 1 dh) (hg : Pv 1 dg) (hp : Pv 0 (.str pt)) (h : Hs 10 z S p 4)
    (hN : ∀ S' p', Ext S S' → S p' = none → Hs 10 z S' p' 18 → E.nx [y0, some (.ref t), y2, y3, y4, some dh, some (.bl b), some (.int dr), some (.str pt), some dg, y10, some (.ref p'), y12, y13, y14] S') :
    wSs (phi tab0 glo 40) glo [nth (nth c_law 1).b1 5, nth (nth c_law 1).b1 6, nth (nth c_law 1).b1 7, nth (nth c_law 1).b1 8, nth (nth c_law 1).b1 9, nth (nth c_law 1).b1 10, nth (nth c_law 1).b1 11, nth (nth c_law 1).b1 12, nth (nth c_law 1).b1 13] E [y0, some (.ref t), y2, y3, y4, some dh, some (.bl b), some (.int dr), some (.str pt), some dg, y10, some (.ref p), y12, y13, y14] S := by
  have z0 : (0 : Nat) ≤ sizeLine := Nat.zero_le _
  have z1 : (1 : Nat) ≤ sizeLine := by decide
  have z2 : (2 : Nat) ≤ sizeLine := by decide
  have z4 : (4 : Nat) ≤ sizeLine := by decide
  have z5 : (5 : Nat) ≤ sizeLine := by decide
  have hg3 := hg.mono (show 1 ≤ 3 by decide)
  have hh3 := hh.mono (show 1 ≤ 3 by decide)
  have hp3 : Pv 3 (.str pt) := hp.mono (by decide)
  have up : ∀ {d : D}, Pv 4 d → Pv 10 d := fun h => h.mono (by decide)
  simp only [nth, c_law, Sd.b1, List.getD_cons_succ, List.getD_cons_zero]
  rw [w_cons]
  refine hs_grow (n := 1) (vs := [.tup [.tup [.str (tx [49, 48])], .bl b, .int 0, .str pt, dg]]) rfl h (by decide) rfl (fun h => by
    simp only [wEs, v_tup, v_cst]; simp only [v_var, List.length_cons, List.length_nil, Nat.reduceAdd, z1, z5, true_and, List.getD_cons_succ, List.getD_cons_zero]; exact h) (fun x hx => by
    rw [List.mem_singleton.mp hx]; exact up (pv_5 (pv_1 (pv_str (k := 2) (by decide) (by decide))) pv_bl pv_int hp3 hg3)) fun S1 p1 x1 _ h1 => ?_
  simp only [List.set_cons_succ, List.set_cons_zero]
  rw [w_cons]
  refine hs_grow (n := 2) (vs := [.tup [.tup [.str (tx [49, 49])], .bl b, .int 0, .str pt, dg], .tup [dh, .int 1, .int dr, .str pt, dg]]) rfl h1 (by decide) rfl (fun h => by
    simp only [wEs, v_tup, v_cst]; simp only [v_var, List.length_cons, List.length_nil, Nat.reduceAdd, z1, z5, true_and, List.getD_cons_succ, List.getD_cons_zero]; exact h) (fun x hx => by
    simp only [List.mem_cons, List.not_mem_nil, or_false] at hx
    rcases hx with rfl | rfl
    · exact up (pv_5 (pv_1 (pv_str (k := 2) (by decide) (by decide))) pv_bl pv_int hp3 hg3)
    · exact up (pv_5 hh3 pv_int pv_int hp3 hg3)) fun S2 p2 x2 _ h2 => ?_
  simp only [List.set_cons_succ, List.set_cons_zero]
  rw [w_cons]
  refine hs_grow (n := 2) (vs := [.tup [dh, .bl b, .int 3, .str pt, dg], .tup [dh, .bl b, .int dr, .str pt]]) rfl h2 (by decide) rfl (fun h => by
    simp only [wEs, v_tup, v_cst]; simp only [v_var, List.length_cons, List.length_nil, Nat.reduceAdd, z4, z5, true_and, List.getD_cons_succ, List.getD_cons_zero]; exact h) (fun x hx => by
    simp only [List.mem_cons, List.not_mem_nil, or_false] at hx
    rcases hx with rfl | rfl
    · exact up (pv_5 hh3 pv_bl pv_int hp3 hg3)
    · exact up (pv_4 hh3 pv_bl pv_int hp3)) fun S3 p3 x3 _ h3 => ?_
  simp only [List.set_cons_succ, List.set_cons_zero]
  rw [w_cons]
  refine hs_grow (n := 2) (vs := [.tup [dh, .bl b, .int (-1), .str pt, dg], .tup [dh, .bl b, .bl true, .str pt, dg]]) rfl h3 (by decide) rfl (fun h => by
    simp only [wEs, v_tup, v_cst, v_ngE]; simp only [v_var, List.length_cons, List.length_nil, Nat.reduceAdd, z5, true_and, List.getD_cons_succ, List.getD_cons_zero]; exact h) (fun x hx => by
    simp only [List.mem_cons, List.not_mem_nil, or_false] at hx
    rcases hx with rfl | rfl
    · exact up (pv_5 hh3 pv_bl pv_int hp3 hg3)
    · exact up (pv_5 hh3 pv_bl pv_bl hp3 hg3)) fun S4 p4 x4 _ h4 => ?_
  simp only [List.set_cons_succ, List.set_cons_zero]
  rw [w_cons]
  refine hs_grow (n := 1) (vs := [.tup [dh, .bl b, .int dr, .str (tx [48, 49, 50, 51]), dg]]) rfl h4 (by decide) rfl (fun h => by
    simp only [wEs, v_tup, v_cst]; simp only [v_var, List.length_cons, List.length_nil, Nat.reduceAdd, z5, true_and, List.getD_cons_succ, List.getD_cons_zero]; exact h) (fun x hx => by
    rw [List.mem_singleton.mp hx]; exact up (pv_5 hh3 pv_bl pv_int (pv_str (by decide) (by decide)) hg3)) fun S5 p5 x5 _ h5 => ?_
  simp only [List.set_cons_succ, List.set_cons_zero]
  rw [w_cons]
  refine hs_grow (n := 2) (vs := [.tup [dh, .bl b, .int dr, .str (tx [120]), dg], .tup [dh, .bl b, .int dr, .str pt, .tup [.str (tx [112, 108, 97, 110]), .str (tx [122, 122])]]]) rfl h5 (by decide) rfl (fun h => by
    simp only [wEs, v_tup, v_cst]; simp only [v_var, List.length_cons, List.length_nil, Nat.reduceAdd, z2, z5, true_and, List.getD_cons_succ, List.getD_cons_zero]; exact h) (fun x hx => by
    simp only [List.mem_cons, List.not_mem_nil, or_false] at hx
    rcases hx with rfl | rfl
    · exact up (pv_5 hh3 pv_bl pv_int (pv_str (by decide) (by decide)) hg3)
    · exact up (pv_5 hh3 pv_bl pv_int hp3 (pv_2 (k := 2) (pv_str (by decide) (by decide)) (pv_str (by decide) (by decide))))) fun S6 p6 x6 _ h6 => ?_
  simp only [List.set_cons_succ, List.set_cons_zero]
  rw [w_cons]
  refine hs_grow (n := 1) (vs := [.tup [dh, .bl b, .int dr, .str pt, .tup [.str (tx [108, 105, 110, 101])]]]) rfl h6 (by decide) rfl (fun h => by
    simp only [wEs, v_tup, v_cst]; simp only [v_var, List.length_cons, List.length_nil, Nat.reduceAdd, z1, z5, true_and, List.getD_cons_succ, List.getD_cons_zero]; exact h) (fun x hx => by
    rw [List.mem_singleton.mp hx]; exact up (pv_5 hh3 pv_bl pv_int hp3 (pv_1 (k := 2) (pv_str (by decide) (by decide))))) fun S7 p7 x7 _ h7 => ?_
  simp only [List.set_cons_succ, List.set_cons_zero]
  rw [w_cons]
  refine hs_grow (n := 2) (vs := [.tup [dh, .bl b, .int dr, .str pt, .tup [.str (tx [110, 111, 98, 111, 100, 121]), .str (tx [97])]], .tup [dh, .bl b, .int dr, .str pt, .tup [.str (tx [108, 105, 110, 101]), .str (tx [65])]]]) rfl h7 (by decide) rfl (fun h => by
    simp only [wEs, v_tup, v_cst]; simp only [v_var, List.length_cons, List.length_nil, Nat.reduceAdd, z2, z5, true_and, List.getD_cons_succ, List.getD_cons_zero]; exact h) (fun x hx => by
    simp only [List.mem_cons, List.not_mem_nil, or_false] at hx
    rcases hx with rfl | rfl <;> exact up (pv_5 hh3 pv_bl pv_int hp3 (pv_2 (k := 2) (pv_str (by decide) (by decide)) (pv_str (by decide) (by decide))))) fun S8 p8 x8 _ h8 => ?_
  simp only [List.set_cons_succ, List.set_cons_zero]
  rw [w_cons]
  refine hs_grow (n := 1) (vs := [.tup [dh, .bl b, .int dr, .str pt, .str (tx [110, 111, 98, 111, 100, 121])]]) rfl h8 (by decide) rfl (fun h => by
    simp only [wEs, v_tup, v_cst]; simp only [v_var, List.length_cons, List.length_nil, Nat.reduceAdd, z5, true_and, List.getD_cons_succ, List.getD_cons_zero]; exact h) (fun x hx => by
    rw [List.mem_singleton.mp hx]; exact up (pv_5 hh3 pv_bl pv_int hp3 (pv_str (by decide) (by decide)))) fun S9 p9 x9 f9 h9 => ?_
  simp only [List.set_cons_succ, List.set_cons_zero]
  rw [w_nil]
  have x18 := x1.trans (x2.trans (x3.trans (x4.trans (x5.trans (x6.trans (x7.trans x8))))))
  refine hN S9 p9 (x18.trans x9) ?_ h9
  cases e : S p9 with
  | none => rfl
  | some c => rw [x18 _ _ e] at f9; cases f9
end Mn

namespace Mn
open PySem PySem.Spec L2
/-- one wrapped rule more -/
theorem Hs.ext {L : Nat} {z : List Addr} {p : Addr} {S S' : Sto} {m : Nat} (h : Hs L z S p m) (x : Ext S S') : Hs L z S' p m := by
  obtain ⟨ds, e, hl, hd⟩ := h
  exact ⟨ds, x _ _ e, hl, fun y hy => (hd y hy).xt x⟩
theorem Hs.keep {L : Nat} {z : List Addr} {t p : Addr} [iz : In t z] {S S' : Sto} {m : Nat} (h : Hs L z S p m) (ne : p ≠ t) (x : Keep t S S') : Hs L z S' p m := by
  obtain ⟨ds, e, hl, hd⟩ := h
  exact ⟨ds, x _ _ e ne, hl, fun y hy => (hd y hy).keep (t := t) x⟩
/-- the things asked, so far -/
structure Th (t p : Addr) (S : Sto) (m : Nat) : Prop where
  at_ : ∃ ds, S p = some (.lst ds) ∧ ds.length ≤ m ∧ ∀ x ∈ ds, Vl [p, t] 100 S 14 x
theorem wrap_ok {s0 t p q : Addr} {k : Nat} {S : Sto} {N : Env → Sto → Prop} {RT : D → Sto → Prop} {B CC : Env → Sto → Prop} {y0 y2 y3 y4 y5 y6 y7 y8 y9 y12 y13 y14 : Option D} {os : List D} (hq : S q = some (.lst os)) (ho : ∀ x ∈ os, Vl [p, t] 100 S 10 x) (hl : os.length ≤ 18)
    (h : TapeZ s0 [t] S t k) (pt : p ≠ t) (ps : p ≠ s0) (pq : p ≠ q) (th : Th t p S 6)
    (hN : ∀ S' y12, TapeZ s0 [t] S' t k → Th t p S' 24 → N [y0, some (.ref t), y2, y3, y4, y5, y6, y7, y8, y9, some (.ref p), some (.ref q), y12, y13, y14] S') :
    wS (phi tab0 glo 40) glo (nth (nth c_law 1).b1 14) ⟨N, RT, B, CC⟩ [y0, some (.ref t), y2, y3, y4, y5, y6, y7, y8, y9, some (.ref p), some (.ref q), y12, y13, y14] S := by
  have sz : (16000000 : Nat) ≤ sizeLine := by decide
  have z1 : (1 : Nat) ≤ sizeLine := by decide
  have z3 : (3 : Nat) ≤ sizeLine := by decide
  have e14 : nth (nth c_law 1).b1 14 = .fr (.nm 12) (.it (.var 11)) (nth (nth c_law 1).b1 14).b1 := rfl
  rw [e14, w_fr, sr_it]
  simp only [v_var, List.getD_cons_succ, List.getD_cons_zero]
  refine ⟨_, hq, ?_⟩
  refine fr_inv (fun i env S' => ∃ y12 ds, env = [y0, some (.ref t), y2, y3, y4, y5, y6, y7, y8, y9, some (.ref p), some (.ref q), y12, y13, y14] ∧ S' q = some (.lst os) ∧ TapeZ s0 [t] S' t k ∧ S' p = some (.lst ds) ∧ ds.length ≤ 6 + i ∧ (∀ x ∈ ds, Vl [p, t] 100 S' 14 x) ∧ (∀ x ∈ os, Vl [p, t] 100 S' 10 x)) (fun _ _ _ ⟨_, _, _, e, _⟩ => e) (fun i hi env S' hI => ?_) (fun env S' hI => ?_) _ 0 _ _ rfl (Nat.zero_le _) (by
    obtain ⟨ds, e, hl, hd⟩ := th.at_
    exact ⟨_, ds, rfl, hq, h, e, hl, hd, ho⟩)
  · obtain ⟨y12, ds, rfl, eq, hz, ep, hl2, hd, hos⟩ := hI
    refine ⟨_, w_nm, fun N' hN' => ?_⟩
    simp only [List.set_cons_succ, List.set_cons_zero]
    simp only [nth, c_law, Sd.b1, List.getD_cons_succ, List.getD_cons_zero]
    rw [w_cons, w_exp, v_mth]
    simp only [v_var, List.getD_cons_succ, List.getD_cons_zero]
    refine ⟨⟨_, ep, trivial⟩, ?_⟩
    simp only [wEs, v_tup, v_cst]
    simp only [v_var, List.length_cons, List.length_nil, Nat.reduceAdd, z1, z3, true_and, List.getD_cons_succ, List.getD_cons_zero]
    refine ⟨_, ep, by omega, ?_⟩
    have ho1 := hos _ (List.getElem_mem hi)
    have nv : Vl [p, t] 100 S' 14 (.tup [.tup [.str (tx [97]), .str (tx [102, 105, 114, 115, 116]), .tup [os[i]]]]) := by
      have a : Vl [p, t] 100 S' 11 (.tup [os[i]]) := vl_tup (by simp only [List.length_cons, List.length_nil, Nat.reduceAdd]; omega) fun d hd => by
        rw [List.mem_singleton.mp hd]; exact ho1
      have b : Vl [p, t] 100 S' 12 (.tup [.str (tx [97]), .str (tx [102, 105, 114, 115, 116]), .tup [os[i]]]) := vl_tup (by simp only [List.length_cons, List.length_nil, Nat.reduceAdd]; omega) fun d hd => by
        simp only [List.mem_cons, List.not_mem_nil, or_false] at hd
        rcases hd with rfl | rfl | rfl
        · exact vl_str (by decide) (by simp only [List.length_cons, List.length_nil, Nat.reduceAdd]; omega)
        · exact vl_str (by decide) (by simp only [List.length_cons, List.length_nil, Nat.reduceAdd]; omega)
        · exact a
      exact vl_tup (k := 13) (by simp only [List.length_cons, List.length_nil, Nat.reduceAdd]; omega) fun d hd => by
        rw [List.mem_singleton.mp hd]; exact b.mono (Nat.le_refl _) (by omega)
    have keepV : ∀ {k' : Nat} {x : D} {c : Cell}, Vl [p, t] 100 S' k' x → Vl [p, t] 100 (up S' p c) k' x := fun {k' x c} hx => by
      obtain ⟨u, hu⟩ := hx
      exact ⟨u, hu.putz List.mem_cons_self u⟩
    refine hN' _ _ ⟨_, _, rfl, by rw [up_ne fun e => pq e.symm]; exact eq, hz.put pt ps, up_same, by rw [List.length_append]; show _ + 1 ≤ _; omega, fun x hx => ?_, fun x hx => keepV (hos x hx)⟩
    rcases List.mem_append.mp hx with hx | hx
    · exact keepV (hd x hx)
    · rw [List.mem_singleton.mp hx]
      exact keepV nv
  · obtain ⟨y12, ds, rfl, eq, hz, ep, hl2, hd, hos⟩ := hI
    exact hN _ _ hz ⟨ds, ep, by omega, hd⟩
/-- the questions -/
theorem asks_ok {s0 t p : Addr} {k : Nat} {S : Sto} {N : Env → Sto → Prop} {RT : D → Sto → Prop} {B CC : Env → Sto → Prop} {X : List Plan} {y0 y2 y4 y5 y6 y7 y8 y9 y11 y12 y13 y14 : Option D} (hx : ExOk 6 X) (h : TapeZ s0 [t] S t k) (hk : k + 400000 < 2 ^ 60) (pt : p ≠ t) (hs : Hs 14 [t] S p 28)
    (hN : ∀ S' y12, TapeZ s0 [t] S' t (k + 110000) → N [y0, some (.ref t), y2, some (encX X), y4, y5, y6, y7, y8, y9, some (.ref p), y11, y12, y13, y14] S') :
    wS (phi tab0 glo 40) glo (nth (nth c_law 1).b1 17) ⟨N, RT, B, CC⟩ [y0, some (.ref t), y2, some (encX X), y4, y5, y6, y7, y8, y9, some (.ref p), y11, y12, y13, y14] S := by
  have sz : (16000000 : Nat) ≤ sizeLine := by decide
  have e17 : nth (nth c_law 1).b1 17 = .fr (.nm 12) (.it (.bin .Add (.bin .Add (.var 10) (.lc [13, 14] (.call nSpoilt [(.var 1), (.var 3)]) (.nm 14) (.rng (.cst (.int (10)))) .yes)) (.lst [(.call nAny [(.var 1), (.cst (.int (3)))])]))) (nth (nth c_law 1).b1 17).b1 := rfl
  rw [e17, w_fr, sr_it, v_bin, v_bin]
  simp only [v_var, List.getD_cons_succ, List.getD_cons_zero]
  rw [v_lc, sr_rng, v_cst]
  refine ⟨by decide, by decide, ?_⟩
  have hlen : ((List.range (10 : Int).toNat).map fun (k : Nat) => D.int k).length = 10 := by simp
  rw [t_yes]
  refine lc_yes (xs := (List.range (10 : Int).toNat).map fun (k : Nat) => D.int k) (fun j acc S' => (acc.length = j ∧ ∀ x ∈ acc, Vl [t] 100 S' 14 x) ∧ TapeZ s0 [t] S' t (k + j * 10000) ∧ Keep t S S') (by rw [hlen]; omega) (fun j acc S' h => by rw [h.1.1]; exact Nat.le_refl _) (fun _ _ _ _ => trivial) (fun j hj acc S' hI => ?_) (fun acc S' hI => ?_) _ 0 [] S rfl (Nat.zero_le _) ⟨⟨rfl, fun x hx => nomatch hx⟩, h.more (by omega), Keep.refl t S⟩
  · obtain ⟨⟨hl, hv⟩, h3, k3⟩ := hI
    rw [hlen] at hj
    refine ⟨_, w_nm, fun K hK => ?_⟩
    simp only [wipeD]
    simp only [List.set_cons_succ, List.set_cons_zero, v_call, wEs, v_var, List.getD_cons_succ, List.getD_cons_zero]
    refine ⟨_, h__law_spoilt 39, spoilt_ok famD (N := 20) (by decide) (by decide) 5 30 (z := [t]) (by decide) (vl_encX (by decide) hx) h3 (by omega) fun v S4 hv4 h4 k4 => ?_⟩
    refine hK _ _ ⟨⟨by rw [List.length_append, hl]; rfl, fun x hx => ?_⟩, h4.more (by omega), k3.trans k4⟩
    rcases List.mem_append.mp hx with hx | hx
    · exact (hv x hx).keep (t := t) k4
    · rw [List.mem_singleton.mp hx]
      exact hv4.mono (by decide) (by decide)
  · obtain ⟨⟨hl, hv⟩, h3, k3⟩ := hI
    rw [hlen] at hl h3
    obtain ⟨ds, ep, hl2, hd⟩ := hs
    have ep3 := k3 _ _ ep pt
    intro q hq
    have x4 := Ext.new (c := .lst acc) hq
    refine ⟨_, _, x4 _ _ ep3, up_same, by omega, fun p' hp' => ?_⟩
    have x5 := x4.trans (Ext.new (c := .lst (ds ++ acc)) hp')
    have e5 := up_same (S := up S' q (.lst acc)) (a := p') (c := .lst (ds ++ acc))
    have pt' : p' ≠ t := tape_nt (h3.ext x4) hp'
    generalize up (up S' q (.lst acc)) p' (.lst (ds ++ acc)) = S5 at x5 e5
    have v5 : ∀ x ∈ ds ++ acc, Vl [t] 100 S5 14 x := fun x hx => by
      rcases List.mem_append.mp hx with hx | hx
      · exact ((hd x hx).keep (t := t) k3).keep (Ext.keep (t := t) x5)
      · exact (hv x hx).keep (Ext.keep (t := t) x5)
    have h5 := h3.ext x5
    have l5 : (ds ++ acc).length ≤ 38 := by rw [List.length_append]; omega
    generalize ds ++ acc = ds5 at e5 v5 l5
    show wE _ _ (.lst _) _ S5 _
    rw [v_lst]
    simp only [wEs, v_call, v_var, v_cst, List.getD_cons_succ, List.getD_cons_zero]
    refine ⟨_, h__law_any 39, any_ok (z := [t]) (N := 100) (t := t) (s0 := s0) h__law_any h__law_draw (by decide) 3 35 (by decide) h5 (by omega) fun v S6 hv6 h6 k6 => ?_⟩
    simp only [List.length_cons, List.length_nil, Nat.reduceAdd]
    refine ⟨show 1 ≤ sizeLine by decide, fun q2 hq2 => ?_⟩
    have x7 := Ext.new (c := .lst [v]) hq2
    have e6 := k6 _ _ e5 pt'
    refine ⟨_, _, x7 _ _ e6, up_same, by simp only [List.length_cons, List.length_nil, Nat.reduceAdd]; omega, fun p4 hp4 => ?_⟩
    have x8 := x7.trans (Ext.new (c := .lst (ds5 ++ [v])) hp4)
    have e8 := up_same (S := up S6 q2 (.lst [v])) (a := p4) (c := .lst (ds5 ++ [v]))
    generalize up (up S6 q2 (.lst [v])) p4 (.lst (ds5 ++ [v])) = S8 at x8 e8
    have v8 : ∀ x ∈ ds5 ++ [v], Vl [t] 100 S8 14 x := fun x hx => by
      rcases List.mem_append.mp hx with hx | hx
      · exact ((v5 x hx).keep (t := t) k6).keep (Ext.keep (t := t) x8)
      · rw [List.mem_singleton.mp hx]
        exact (hv6.mono (Nat.le_refl _) (by decide)).keep (Ext.keep (t := t) x8)
    have h8 := (h6.ext x8).more (m := k + 110000) (by have : 10 * 5 ^ 3 = 1250 := by decide
                                                      omega)
    generalize ds5 ++ [v] = ds8 at e8 v8
    refine ⟨_, e8, ?_⟩
    refine fr_inv (fun i env S' => ∃ y12, env = [y0, some (.ref t), y2, some (encX X), y4, y5, y6, y7, y8, y9, some (.ref p), y11, y12, y13, y14] ∧ Ext S8 S') (fun _ _ S' ⟨_, _, x⟩ => x _ _ e8) (fun i hi env S' hI => ?_) (fun env S' hI => ?_) _ 0 _ _ rfl (Nat.zero_le _) ⟨_, rfl, fun _ _ e => e⟩
    · obtain ⟨y12, rfl, x9⟩ := hI
      refine ⟨_, w_nm, fun N' hN' => ?_⟩
      simp only [List.set_cons_succ, List.set_cons_zero]
      obtain ⟨u, hu⟩ := (v8 _ (List.getElem_mem hi)).keep (Ext.keep (t := t) x9)
      have ok := hu.ok (by decide) (by decide)
      simp only [nth, c_law, Sd.b1, List.getD_cons_succ, List.getD_cons_zero]
      rw [w_cons, w_ite]
      simp only [k_not, k_val, v_call, wEs, v_var, List.getD_cons_succ, List.getD_cons_zero]
      refine ⟨_, h_is_exchange 39, is_exchV famV (m := 35) (hu.den u) ok fun S10 x10 => ?_⟩
      refine ⟨_, h__law_is_exchange 39, lexchV famL (m := 36) ((hu.den u).ext x10) ok fun S11 x11 => ?_⟩
      refine ⟨_, h__law_like 39, like_ok (Φ := phi tab0 glo) h__law_like 1 39 _ _ _ _ (by decide) (.bl _ _) fun S12 x12 => ?_⟩
      simp only [t_bl, Bool.not_true, Bool.not_false, Bool.false_eq_true, if_false, if_true, w_nil]
      exact hN' _ _ ⟨_, rfl, x9.trans (x10.trans (x11.trans x12))⟩
    · obtain ⟨y12, rfl, x9⟩ := hI
      exact hN _ _ (h8.ext x9)
end Mn

namespace Mn
open PySem PySem.Spec L2
theorem pv20 {k : Nat} {d : D} (h : ∀ (z : List Addr) (S : Sto), Vl z 20 S k d) : Pv k d := fun z S => (h z S).mono (by decide) (Nat.le_refl _)
theorem rep3 (d : D) : (List.replicate (3 : Int).toNat [d]).flatten = [d, d, d] := rfl
theorem rep6 (d : D) : (List.replicate (6 : Int).toNat [d]).flatten = [d, d, d, d, d, d] := rfl
theorem rep7 (d : D) : (List.replicate (7 : Int).toNat [d]).flatten = [d, d, d, d, d, d, d] := rfl
theorem rep2 (d : D) : (List.replicate (2 : Int).toNat [d]).flatten = [d, d] := rfl
theorem pv_all {k : Nat} {d : D} {ds : List D} (h : Pv k d) (hl : ds.length ≤ 100) (he : ∀ x ∈ ds, x = d) : Pv (k + 1) (.tup ds) := pv_tup hl fun x hx => by rw [he x hx]; exact h
theorem w_app {Φ : Str → Option SpD} {Γ : Str → Option D} {E : EndsD} {env : Env} {S : Sto} : ∀ (a b : List Sd), wSs Φ Γ (a ++ b) E env S = wSs Φ Γ a ⟨wSs Φ Γ b E, E.rt, E.bk, E.ct⟩ env S
  | [], b => rfl
  | s :: a, b => by
    rw [List.cons_append, w_cons, w_cons]
    congr 1
    rw [show (wSs Φ Γ (a ++ b) E) = wSs Φ Γ a ⟨wSs Φ Γ b E, E.rt, E.bk, E.ct⟩ from by
      funext env S
      exact w_app a b]
theorem turn1_ok {S : Sto} {t : Addr} {k : Nat} {y0 y2 y3 y4 y5 y6 y7 y8 y9 y10 y11 y12 y13 y14 : Option D} {N : Env → Sto → Prop} {RT : D → Sto → Prop} {B : Env → Sto → Prop} (h : TapeOk S t k) (hk : k + 1000000 < 2 ^ 60)
    (hN : ∀ S' y3 y4 y5 y6 y7 y8 y9 y10 y11 y12 y13 y14, TapeOk S' t (k + 1000000) → N [y0, some (.ref t), y2, y3, y4, y5, y6, y7, y8, y9, y10, y11, y12, y13, y14] S') :
    wSs (phi tab0 glo 40) glo (nth c_law 1).b1 ⟨N, RT, B, N⟩ [y0, some (.ref t), y2, y3, y4, y5, y6, y7, y8, y9, y10, y11, y12, y13, y14] S := by
  have sz : (16000000 : Nat) ≤ sizeLine := by decide
  have z0 : (0 : Nat) ≤ sizeLine := Nat.zero_le _
  have z1 : (1 : Nat) ≤ sizeLine := by decide
  have z3 : (3 : Nat) ≤ sizeLine := by decide
  have z4 : (4 : Nat) ≤ sizeLine := by decide
  have z5 : (5 : Nat) ≤ sizeLine := by decide
  have z6 : (6 : Nat) ≤ sizeLine := by decide
  have e1 : (nth c_law 1).b1 = nth (nth c_law 1).b1 0 :: nth (nth c_law 1).b1 1 :: nth (nth c_law 1).b1 2 :: nth (nth c_law 1).b1 3 :: nth (nth c_law 1).b1 4 :: ([nth (nth c_law 1).b1 5, nth (nth c_law 1).b1 6, nth (nth c_law 1).b1 7, nth (nth c_law 1).b1 8, nth (nth c_law 1).b1 9, nth (nth c_law 1).b1 10, nth (nth c_law 1).b1 11, nth (nth c_law 1).b1 12, nth (nth c_law 1).b1 13] ++ [nth (nth c_law 1).b1 14, nth (nth c_law 1).b1 15, nth (nth c_law 1).b1 16, nth (nth c_law 1).b1 17]) := rfl
  obtain ⟨rest, hrest⟩ : ∃ rest, rest = ([nth (nth c_law 1).b1 5, nth (nth c_law 1).b1 6, nth (nth c_law 1).b1 7, nth (nth c_law 1).b1 8, nth (nth c_law 1).b1 9, nth (nth c_law 1).b1 10, nth (nth c_law 1).b1 11, nth (nth c_law 1).b1 12, nth (nth c_law 1).b1 13] ++ [nth (nth c_law 1).b1 14, nth (nth c_law 1).b1 15, nth (nth c_law 1).b1 16, nth (nth c_law 1).b1 17]) := ⟨_, rfl⟩
  rw [e1, ← hrest]
  simp only [nth, c_law, Sd.b1, List.getD_cons_succ, List.getD_cons_zero]
  rw [w_cons, w_asg]
  simp only [v_call, wEs, v_var, v_cst, List.getD_cons_succ, List.getD_cons_zero]
  refine ⟨_, gen.exch 39, exch_ok (m := 36) (many := 6) gen h (by omega) (by decide) fun X S1 hx h1 k1 => ⟨_, w_nm, ?_⟩⟩
  simp only [List.set_cons_succ, List.set_cons_zero]
  have hxl := ex_len hx
  rw [w_cons, w_asg, v_call]
  simp only [wEs, v_var, v_lst, v_cst, List.length_cons, List.length_nil, Nat.reduceAdd, List.getD_cons_succ, List.getD_cons_zero]
  refine ⟨z1, fun q hq => ?_⟩
  have x2 := Ext.new (c := .lst [D.str (tx [97])]) hq
  have e2 := up_same (S := S1) (a := q) (c := .lst [D.str (tx [97])])
  have h2 := TapeOk.new (c := .lst [D.str (tx [97])]) h1 hq
  have qt := tape_ne h1 hq
  generalize up S1 q _ = S2 at x2 e2 h2
  refine ⟨_, gen.rule 39, rule_ok gen (m := 37) (names := [tx [97]]) h2 (by omega) e2 qt (by simp) (by decide) fun r S3 hr h3 k3 => ⟨_, w_nm, ?_⟩⟩
  simp only [List.set_cons_succ, List.set_cons_zero]
  have pr : Pv 2 (encR r) := pv20 fun z S => vl_encR hr (by simp [abc])
  have prh : Pv 1 (.tup (r.heads.map D.str)) := pv20 fun z S => vl_heads hr.heads hr.few
  have prg : Pv 1 (encG r.goal) := pv20 fun z S => vl_encG hr.goal (by simp [abc])
  have prp : Pv 0 (.str r.put) := pv20 fun z S => vl_dig hr.put (by have := hr.short; omega)
  have pX : Pv 5 (encX X) := pv20 fun z S => vl_encX (by decide) hx
  have pP : ∀ d ∈ X.map encP, Pv 4 d := fun d hd => pv20 fun z S => vl_plans (by decide) hx d hd
  rw [w_cons, w_asg, v_var]
  simp only [List.getD_cons_succ, List.getD_cons_zero]
  refine ⟨_, w_tp5, ?_⟩
  simp only [List.set_cons_succ, List.set_cons_zero]
  obtain ⟨s0, h3⟩ := h3
  have h3 : TapeAt s0 S3 t (k + 10000 + 24) := h3
  have hz : TapeZ s0 [t] S3 t (k + 10024) := ⟨h3.more (by omega), fun a ha => by
    rw [List.mem_singleton.mp ha]
    obtain ⟨_, _, _, e, _⟩ := h3
    exact ⟨_, e⟩⟩
  clear h h1 h2 h3 k1 k3 x2 e2 hq
  -- the things
  rw [w_cons, w_asg, v_lst]
  simp only [wEs, v_blt, v_bin, v_idx, v_tup, v_cst]
  simp only [v_var, List.getD_cons_succ, List.getD_cons_zero]
  rw [show encX X = .tup (X.map encP) from rfl]
  refine sq_list (.inl rfl) fun q1 hq1 => ?_
  have x4 := Ext.new (c := .lst (X.map encP)) hq1
  have e4 := up_same (S := S3) (a := q1) (c := .lst (X.map encP))
  have q1z := tape_nz hz hq1
  have hz4 := hz.ext x4
  generalize up S3 q1 _ = S4 at x4 e4 hz4
  obtain ⟨p0, Y, hX⟩ : ∃ p0 Y, X = p0 :: Y := by
    cases X with
    | nil => simp at hxl
    | cons p0 Y => exact ⟨p0, Y, rfl⟩
  show binD .Add (.tup (X.map encP)) (.tup (X.map encP)) S4 _
  rw [b_addt]
  refine ⟨by rw [List.length_map]; omega, z0, encP p0, by rw [hX]; exact atI_0, ?_⟩
  simp only [List.length_cons, List.length_nil, Nat.reduceAdd]
  refine ⟨z6, fun p hp => ⟨_, w_nm, ?_⟩⟩
  simp only [List.set_cons_succ, List.set_cons_zero]
  have vth : ∀ x ∈ [D.tup (X.map encP), .ref q1, .tup (X.map encP ++ X.map encP), .tup [], .non, encP p0], Vl [t] 100 S4 14 x := fun x hx' => by
    simp only [List.mem_cons, List.not_mem_nil, or_false] at hx'
    rcases hx' with rfl | rfl | rfl | rfl | rfl | rfl
    · exact (pX.mono (by decide)) _ _
    · exact (vl_ref (k := 4) q1z e4 (by rw [List.length_map]; omega) fun d hd => pP d hd _ _).mono (Nat.le_refl _) (by decide)
    · exact (vl_tup (k := 4) (by rw [List.length_append, List.length_map]; omega) fun d hd => pP d ((List.mem_append.mp hd).elim id id) _ _).mono (Nat.le_refl _) (by decide)
    · exact (pv_nil (k := 13)) _ _
    · exact vl_non
    · exact ((pP _ (by rw [hX]; exact List.mem_cons_self)).mono (by decide)) _ _
  generalize hth : [D.tup (X.map encP), .ref q1, .tup (X.map encP ++ X.map encP), .tup [], .non, encP p0] = things at vth
  have lth : things.length ≤ 6 := by rw [← hth]; exact Nat.le_refl _
  have x5 := Ext.new (c := .lst things) hp
  have e5 := up_same (S := S4) (a := p) (c := .lst things)
  have pt := tape_nt hz4 hp
  have ps := tape_ns hz4 hp
  have hz5 := hz4.ext x5
  have vth5 : ∀ x ∈ things, Vl [p, t] 100 (up S4 p (.lst things)) 14 x := fun x hx' => ((vth x hx').push hp).keep (Ext.keep (t := t) x5)
  clear x4 e4 q1z hq1 hz hz4 vth hth
  generalize up S4 p _ = S5 at x5 e5 hz5 vth5
  -- the odd ones
  rw [w_cons, w_asg, v_lst]
  simp only [wEs, v_blt, v_bin, v_tup, v_cst]
  simp only [v_var, List.getD_cons_succ, List.getD_cons_zero]
  rw [show encR r = .tup [.tup (r.heads.map D.str), .bl r.more, .int r.drop, .str r.put, encG r.goal] from rfl]
  refine sq_list (.inl rfl) fun q2 hq2 => ?_
  have x6 := Ext.new (c := .lst [.tup (r.heads.map D.str), .bl r.more, .int r.drop, .str r.put, encG r.goal]) hq2
  have e6 := up_same (S := S5) (a := q2) (c := .lst [.tup (r.heads.map D.str), .bl r.more, .int r.drop, .str r.put, encG r.goal])
  have q2t := tape_nt hz5 hq2
  have q2p : q2 ≠ p := by rintro rfl; rw [e5] at hq2; cases hq2
  have hz6 := hz5.ext x6
  have vth6 : ∀ x ∈ things, Vl [p, t] 100 (up S5 q2 (.lst [.tup (r.heads.map D.str), .bl r.more, .int r.drop, .str r.put, encG r.goal])) 14 x := fun x hx' => (vth5 x hx').keep (Ext.keep (t := t) x6)
  have e56 := x6 _ _ e5
  generalize up S5 q2 _ = S6 at x6 e6 hz6 vth6 e56
  simp only [List.length_cons, List.length_nil, Nat.reduceAdd]
  refine ⟨z1, m_rep (by simp) (by decide) (by decide) (by simp) ?_⟩
  rw [rep3]
  refine ⟨z5, z1, z5, z4, fun p2 hp2 => ⟨_, w_nm, ?_⟩⟩
  simp only [List.set_cons_succ, List.set_cons_zero]
  have vodd : ∀ x ∈ [D.tup [.tup (r.heads.map D.str), .bl r.more, .int r.drop, .str r.put, encG r.goal], .ref q2, .tup [.tup [.str (tx [48, 49]), .str (tx [48, 49]), .str (tx [48, 49])], .bl r.more, .int r.drop, .str r.put, encG r.goal], .tup [.tup [.str (tx [])], .bl r.more, .int 0, .str r.put, encG r.goal]], Vl [p, t] 100 S6 10 x := fun x hx' => by
    have hp3 : Pv 3 (.str r.put) := prp.mono (by decide)
    have hg3 := prg.mono (show 1 ≤ 3 by decide)
    have up : ∀ {d : D}, Pv 4 d → Pv 10 d := fun h => h.mono (by decide)
    simp only [List.mem_cons, List.not_mem_nil, or_false] at hx'
    rcases hx' with rfl | rfl | rfl | rfl
    · exact (pr.mono (by decide)) _ _
    · refine (vl_ref (k := 3) (fun q => ?_) e6 (by simp only [List.length_cons, List.length_nil, Nat.reduceAdd]; omega) fun d hd => ?_).mono (Nat.le_refl _) (by decide)
      · rcases List.mem_cons.mp q with q | q
        · exact q2p q
        · exact q2t (List.mem_singleton.mp q)
      · simp only [List.mem_cons, List.not_mem_nil, or_false] at hd
        rcases hd with rfl | rfl | rfl | rfl | rfl
        · exact (prh.mono (by decide)) _ _
        · exact vl_bl
        · exact vl_int
        · exact hp3 _ _
        · exact hg3 _ _
    · exact up (pv_5 (pv_3 (k := 2) (pv_str (by decide) (by decide)) (pv_str (by decide) (by decide)) (pv_str (by decide) (by decide))) pv_bl pv_int hp3 hg3) _ _
    · exact up (pv_5 (pv_1 (k := 2) (pv_str (by decide) (by decide))) pv_bl pv_int hp3 hg3) _ _
  have x7 := Ext.new (c := .lst [D.tup [.tup (r.heads.map D.str), .bl r.more, .int r.drop, .str r.put, encG r.goal], .ref q2, .tup [.tup [.str (tx [48, 49]), .str (tx [48, 49]), .str (tx [48, 49])], .bl r.more, .int r.drop, .str r.put, encG r.goal], .tup [.tup [.str (tx [])], .bl r.more, .int 0, .str r.put, encG r.goal]]) hp2
  have o7 : Hs 10 [p, t] (up S6 p2 (.lst [D.tup [.tup (r.heads.map D.str), .bl r.more, .int r.drop, .str r.put, encG r.goal], .ref q2, .tup [.tup [.str (tx [48, 49]), .str (tx [48, 49]), .str (tx [48, 49])], .bl r.more, .int r.drop, .str r.put, encG r.goal], .tup [.tup [.str (tx [])], .bl r.more, .int 0, .str r.put, encG r.goal]])) p2 4 := ⟨_, up_same, Nat.le_refl _, fun x hx' => (vodd x hx').xt x7⟩
  have hz7 := hz6.ext x7
  have e57 := x7 _ _ e56
  have vth7 := fun x hx' => (vth6 x hx').xt x7
  clear x5 x6 x7 e6 e56 hp2 vodd vth5 vth6 hz5 hz6 hp hq2 q2t q2p
  generalize up S6 p2 _ = S7 at o7 hz7 e57 vth7
  subst hrest
  rw [w_app]
  refine odd_ok (z := [p, t]) prh prg prp o7 fun S8 p8 x8 f8 o8 => ?_
  have hz8 := hz7.ext x8
  have e8 := x8 _ _ e57
  have th8 : Th t p S8 6 := ⟨⟨things, e8, lth, fun x hx' => (vth7 x hx').xt x8⟩⟩
  obtain ⟨os, eo, ol, ov⟩ := o8
  have pp8 : p ≠ p8 := by rintro rfl; rw [e57] at f8; cases f8
  show wSs _ _ (_ :: _) _ _ S8
  rw [w_cons]
  refine wrap_ok (s0 := s0) eo ov ol hz8 pt ps pp8 th8 fun S9 y12 hz9 th9 => ?_
  have hs9 : Hs 14 [t] S9 p 24 := by
    obtain ⟨ds, e, l, v⟩ := th9.at_
    exact ⟨ds, e, l, fun x hx' => let ⟨u, hu⟩ := v x hx'; ⟨u, VD.sub (fun _ q => List.mem_cons_of_mem _ q) u hu⟩⟩
  show wSs _ _ (_ :: _) _ _ S9
  have pr3 : Pv 3 (.tup [.tup (r.heads.map D.str), .bl r.more, .int r.drop, .str r.put, encG r.goal]) := Pv.mono (k := 2) pr (by decide)
  generalize D.tup [.tup (r.heads.map D.str), .bl r.more, .int r.drop, .str r.put, encG r.goal] = it at pr3
  have up : ∀ {d : D}, Pv 6 d → Pv 14 d := fun h => h.mono (by decide)
  rw [w_cons, show nth (nth c_law 1).b1 15 = .asg (.nm 10) (.bin .Add (.var 10) (.lst [(.tup [(.tup [(.cst (.str (tx [97]))), (.cst (.str (tx [97, 110, 121]))), (.tup [])])]), (.tup [(.tup [(.cst (.str (tx [97]))), (.cst (.str (tx [102, 105, 114, 115, 116]))), (.bin .Mult (.tup [(.var 4)]) (.cst (.int (6))))])])])) from rfl]
  refine hs_grow (L := 14) (n := 2) (vs := [.tup [.tup [.str (tx [97]), .str (tx [97, 110, 121]), .tup []]], .tup [.tup [.str (tx [97]), .str (tx [102, 105, 114, 115, 116]), .tup [it, it, it, it, it, it]]]]) rfl hs9 (by decide) rfl (fun h => ?_) (fun x hx' => ?_) fun S10 p10 x10 f10 h10 => ?_
  · simp only [wEs, v_tup, v_cst, v_bin]
    simp only [v_var, List.length_cons, List.length_nil, Nat.reduceAdd, z0, z1, z3, true_and, List.getD_cons_succ, List.getD_cons_zero]
    refine m_rep (by simp) (by decide) (by decide) (by simp) ?_
    rw [rep6]
    exact h
  · simp only [List.mem_cons, List.not_mem_nil, or_false] at hx'
    rcases hx' with rfl | rfl
    · exact up ((pv_1 (pv_3 (k := 1) (pv_str (by decide) (by decide)) (pv_str (by decide) (by decide)) pv_nil)).mono (by decide))
    · exact up (pv_1 (pv_3 (k := 4) (pv_str (by decide) (by decide)) (pv_str (by decide) (by decide)) (pv_all pr3 (by simp only [List.length_cons, List.length_nil, Nat.reduceAdd]; omega) fun x hx => by simpa using hx)))
  simp only [List.set_cons_succ, List.set_cons_zero]
  have hz10 := hz9.ext x10
  have pt10 := tape_nt hz9 f10
  show wSs _ _ (_ :: _) _ _ S10
  rw [w_cons, show nth (nth c_law 1).b1 16 = .asg (.nm 10) (.bin .Add (.var 10) (.lst [(.tup [(.tup [(.cst (.str (tx [97]))), (.cst (.str (tx [102, 105, 114, 115, 116]))), (.bin .Mult (.tup [(.var 4)]) (.cst (.int (7))))])]), (.bin .Mult (.tup [(.tup [(.cst (.str (tx [97]))), (.cst (.str (tx [102, 105, 114, 115, 116]))), (.tup [])])]) (.cst (.int (2))))])) from rfl]
  refine hs_grow (L := 14) (n := 2) (vs := [.tup [.tup [.str (tx [97]), .str (tx [102, 105, 114, 115, 116]), .tup [it, it, it, it, it, it, it]]], .tup [.tup [.str (tx [97]), .str (tx [102, 105, 114, 115, 116]), .tup []], .tup [.str (tx [97]), .str (tx [102, 105, 114, 115, 116]), .tup []]]]) rfl h10 (by decide) rfl (fun h => ?_) (fun x hx' => ?_) fun S11 p11 x11 f11 h11 => ?_
  · simp only [wEs, v_tup, v_cst, v_bin]
    simp only [v_var, List.length_cons, List.length_nil, Nat.reduceAdd, z0, z1, z3, true_and, List.getD_cons_succ, List.getD_cons_zero]
    refine m_rep (by simp) (by decide) (by decide) (by simp) ?_
    rw [rep7]
    refine m_rep (by simp) (by decide) (by decide) (by simp) ?_
    rw [rep2]
    exact h
  · simp only [List.mem_cons, List.not_mem_nil, or_false] at hx'
    rcases hx' with rfl | rfl
    · exact up (pv_1 (pv_3 (k := 4) (pv_str (by decide) (by decide)) (pv_str (by decide) (by decide)) (pv_all pr3 (by simp only [List.length_cons, List.length_nil, Nat.reduceAdd]; omega) fun x hx => by simpa using hx)))
    · have a : Pv 5 (.tup [.str (tx [97]), .str (tx [102, 105, 114, 115, 116]), .tup []]) := pv_3 (k := 4) (pv_str (by decide) (by decide)) (pv_str (by decide) (by decide)) pv_nil
      exact up (pv_2 a a)
  simp only [List.set_cons_succ, List.set_cons_zero]
  have hz11 := hz10.ext x11
  have pt11 := tape_nt hz10 f11
  show wSs _ _ (_ :: _) _ _ S11
  rw [w_cons]
  refine asks_ok (X := X) (s0 := s0) hx hz11 (by omega) pt11 h11 fun S12 y12 hz12 => ?_
  show wSs _ _ [] _ _ S12
  rw [w_nil]
  exact hN S12 _ _ _ _ _ _ _ _ _ _ _ _ ⟨s0, hz12.1.more (by omega)⟩
theorem good : ∀ ns : List Int, ns.length ≤ 63 → wDf (phi tab0 glo 40) glo ⟨n_law, 1, c_law⟩ [.rol (ns.map D.int)] (fun _ => none) fun d _ => d = .bl true := by
  refine law_frame (L := 12) (T := 12) (body := (nth c_law 1).b1) (rest := [nth c_law 2]) rfl rfl (by decide) (fun S t k y0 y2 e Nx RT B he h hk hN => ?_) (fun S e he => ?_)
  · obtain ⟨y3, y4, y5, y6, y7, y8, y9, y10, y11, y12, y13, y14, rfl⟩ : ∃ y3 y4 y5 y6 y7 y8 y9 y10 y11 y12 y13 y14, e = [y3, y4, y5, y6, y7, y8, y9, y10, y11, y12, y13, y14] := by
      match e, he with | [y3, y4, y5, y6, y7, y8, y9, y10, y11, y12, y13, y14], _ => exact ⟨_, _, _, _, _, _, _, _, _, _, _, _, rfl⟩
    exact turn1_ok h (by omega) fun S' y3 y4 y5 y6 y7 y8 y9 y10 y11 y12 y13 y14 h' => hN S' _ rfl h'
  · simp only [nth, c_law, List.getD_cons_succ, List.getD_cons_zero]
    rw [w_cons, w_ret, v_cmp, v_call]
    simp only [wEs, v_tup, v_cst, List.length_cons, List.length_nil, Nat.reduceAdd]
    have z0 : (0 : Nat) ≤ sizeLine := Nat.zero_le _
    have z1 : (1 : Nat) ≤ sizeLine := by decide
    have z3 : (3 : Nat) ≤ sizeLine := by decide
    refine ⟨z0, z3, z1, _, h_is_exchange 39, is_exchV famV (m := 35) (u := .tuple [.tuple [.str (tx [97]), .str (tx [108, 111, 110, 103, 101, 115, 116]), .tuple []]]) (.tup (.cons (.tup (.cons (.str _) (.cons (.str _) (.cons (.tup .nil) .nil)))) .nil)) ⟨by decide +kernel, by decide +kernel⟩ fun S' x => ?_⟩
    have e : pX (.tuple [.tuple [.str (tx [97]), .str (tx [108, 111, 110, 103, 101, 115, 116]), .tuple []]]) = true := by decide +kernel
    rw [e]
    rfl
end Mn

open PySem PySem.W PyProof.Rows
set_option maxRecDepth 100000 in
set_option maxHeartbeats 0 in
theorem PySem.Challenge.cw_dialplans_k01_exchanges_recognized_holds : PySem.Challenge.rw_dialplans_k01_exchanges_recognized.Holds := by
  w_on; o_law; k_head; (case hw => w_witness2)
  k_fill
  refine Mn.walk (l := PySem.Challenge.rw_dialplans_k01_exchanges_recognized) (T := Mn.T0) (tab := Mn.tab0) (Γ := Mn.glo) (n := 40) rfl rfl (fun w h Y => PySem.W.kIn_of Y) ⟨by decide, by decide, by decide⟩ rfl (by decide +kernel) rfl rfl Mn.good ?F
  case F =>
    intro w mg h KX G
    refine' Mn.mod_ok rfl (.cons (Mn.def_mk KX G (x := "is_word") (df := ⟨Mn.n_is_word, 1, Mn.c_is_word⟩) (Mn.top 6) (Mn.n_is_word.take 1) Mn.k_is_word Mn.s_is_word rfl (fun _ _ _ _ _ _ us hl => match us, hl with | [_], _ => rfl) ?a6 ?l6 ?c6 ?k6) (.cons (Mn.def_mk KX G (x := "is_number") (df := ⟨Mn.n_is_number, 2, Mn.c_is_number⟩) (Mn.top 7) (Mn.n_is_number.take 2) Mn.k_is_number Mn.s_is_number rfl (fun _ _ _ _ _ _ us hl => match us, hl with | [_, _], _ => rfl) ?a7 ?l7 ?c7 ?k7) (.cons (Mn.def_mk KX G (x := "is_head") (df := ⟨Mn.n_is_head, 1, Mn.c_is_head⟩) (Mn.top 8) (Mn.n_is_head.take 1) Mn.k_is_head Mn.s_is_head rfl (fun _ _ _ _ _ _ us hl => match us, hl with | [_], _ => rfl) ?a8 ?l8 ?c8 ?k8) (.cons (Mn.def_mk KX G (x := "is_goal") (df := ⟨Mn.n_is_goal, 1, Mn.c_is_goal⟩) (Mn.top 9) (Mn.n_is_goal.take 1) Mn.k_is_goal Mn.s_is_goal rfl (fun _ _ _ _ _ _ us hl => match us, hl with | [_], _ => rfl) ?a9 ?l9 ?c9 ?k9) (.cons (Mn.def_mk KX G (x := "is_rule") (df := ⟨Mn.n_is_rule, 1, Mn.c_is_rule⟩) (Mn.top 10) (Mn.n_is_rule.take 1) Mn.k_is_rule Mn.s_is_rule rfl (fun _ _ _ _ _ _ us hl => match us, hl with | [_], _ => rfl) ?a10 ?l10 ?c10 ?k10) (.cons (Mn.def_mk KX G (x := "is_plan") (df := ⟨Mn.n_is_plan, 1, Mn.c_is_plan⟩) (Mn.top 11) (Mn.n_is_plan.take 1) Mn.k_is_plan Mn.s_is_plan rfl (fun _ _ _ _ _ _ us hl => match us, hl with | [_], _ => rfl) ?a11 ?l11 ?c11 ?k11) (.cons (Mn.def_mk KX G (x := "is_exchange") (df := ⟨Mn.n_is_exchange, 1, Mn.c_is_exchange⟩) (Mn.top 12) (Mn.n_is_exchange.take 1) Mn.k_is_exchange Mn.s_is_exchange rfl (fun _ _ _ _ _ _ us hl => match us, hl with | [_], _ => rfl) ?a12 ?l12 ?c12 ?k12) (.cons (Mn.def_mk KX G (x := "_law_draw") (df := ⟨Mn.n__law_draw, 2, Mn.c__law_draw⟩) (Mn.top 14) (Mn.n__law_draw.take 2) Mn.k__law_draw Mn.s__law_draw rfl (fun _ _ _ _ _ _ us hl => match us, hl with | [_, _], _ => rfl) ?a14 ?l14 ?c14 ?k14) (.cons (Mn.def_mk KX G (x := "_law_whole") (df := ⟨Mn.n__law_whole, 1, Mn.c__law_whole⟩) (Mn.top 15) (Mn.n__law_whole.take 1) Mn.k__law_whole Mn.s__law_whole rfl (fun _ _ _ _ _ _ us hl => match us, hl with | [_], _ => rfl) ?a15 ?l15 ?c15 ?k15) (.cons (Mn.def_mk KX G (x := "_law_within") (df := ⟨Mn.n__law_within, 3, Mn.c__law_within⟩) (Mn.top 16) (Mn.n__law_within.take 3) Mn.k__law_within Mn.s__law_within rfl (fun _ _ _ _ _ _ us hl => match us, hl with | [_, _, _], _ => rfl) ?a16 ?l16 ?c16 ?k16) (.cons (Mn.def_mk KX G (x := "_law_like") (df := ⟨Mn.n__law_like, 2, Mn.c__law_like⟩) (Mn.top 17) (Mn.n__law_like.take 2) Mn.k__law_like Mn.s__law_like rfl (fun _ _ _ _ _ _ us hl => match us, hl with | [_, _], _ => rfl) ?a17 ?l17 ?c17 ?k17) (.cons (Mn.def_mk KX G (x := "_law_spoilt") (df := ⟨Mn.n__law_spoilt, 2, Mn.c__law_spoilt⟩) (Mn.top 18) (Mn.n__law_spoilt.take 2) Mn.k__law_spoilt Mn.s__law_spoilt rfl (fun _ _ _ _ _ _ us hl => match us, hl with | [_, _], _ => rfl) ?a18 ?l18 ?c18 ?k18) (.cons (Mn.def_mk KX G (x := "_law_any") (df := ⟨Mn.n__law_any, 2, Mn.c__law_any⟩) (Mn.top 19) (Mn.n__law_any.take 2) Mn.k__law_any Mn.s__law_any rfl (fun _ _ _ _ _ _ us hl => match us, hl with | [_, _], _ => rfl) ?a19 ?l19 ?c19 ?k19) (.cons (Mn.def_mk KX G (x := "_law_head") (df := ⟨Mn.n__law_head, 1, Mn.c__law_head⟩) (Mn.top 20) (Mn.n__law_head.take 1) Mn.k__law_head Mn.s__law_head rfl (fun _ _ _ _ _ _ us hl => match us, hl with | [_], _ => rfl) ?a20 ?l20 ?c20 ?k20) (.cons (Mn.def_mk KX G (x := "_law_digits") (df := ⟨Mn.n__law_digits, 2, Mn.c__law_digits⟩) (Mn.top 21) (Mn.n__law_digits.take 2) Mn.k__law_digits Mn.s__law_digits rfl (fun _ _ _ _ _ _ us hl => match us, hl with | [_, _], _ => rfl) ?a21 ?l21 ?c21 ?k21) (.cons (Mn.def_mk KX G (x := "_law_goal") (df := ⟨Mn.n__law_goal, 2, Mn.c__law_goal⟩) (Mn.top 22) (Mn.n__law_goal.take 2) Mn.k__law_goal Mn.s__law_goal rfl (fun _ _ _ _ _ _ us hl => match us, hl with | [_, _], _ => rfl) ?a22 ?l22 ?c22 ?k22) (.cons (Mn.def_mk KX G (x := "_law_new_rule") (df := ⟨Mn.n__law_new_rule, 2, Mn.c__law_new_rule⟩) (Mn.top 23) (Mn.n__law_new_rule.take 2) Mn.k__law_new_rule Mn.s__law_new_rule rfl (fun _ _ _ _ _ _ us hl => match us, hl with | [_, _], _ => rfl) ?a23 ?l23 ?c23 ?k23) (.cons (Mn.def_mk KX G (x := "_law_exchange") (df := ⟨Mn.n__law_exchange, 3, Mn.c__law_exchange⟩) (Mn.top 24) (Mn.n__law_exchange.take 3) Mn.k__law_exchange Mn.s__law_exchange rfl (fun _ _ _ _ _ _ us hl => match us, hl with | [_, _, _], _ => rfl) ?a24 ?l24 ?c24 ?k24) (.cons (Mn.def_mk KX G (x := "_law_is_digits") (df := ⟨Mn.n__law_is_digits, 2, Mn.c__law_is_digits⟩) (Mn.top 25) (Mn.n__law_is_digits.take 2) Mn.k__law_is_digits Mn.s__law_is_digits rfl (fun _ _ _ _ _ _ us hl => match us, hl with | [_, _], _ => rfl) ?a25 ?l25 ?c25 ?k25) (.cons (Mn.def_mk KX G (x := "_law_is_name") (df := ⟨Mn.n__law_is_name, 1, Mn.c__law_is_name⟩) (Mn.top 26) (Mn.n__law_is_name.take 1) Mn.k__law_is_name Mn.s__law_is_name rfl (fun _ _ _ _ _ _ us hl => match us, hl with | [_], _ => rfl) ?a26 ?l26 ?c26 ?k26) (.cons (Mn.def_mk KX G (x := "_law_is_head") (df := ⟨Mn.n__law_is_head, 1, Mn.c__law_is_head⟩) (Mn.top 27) (Mn.n__law_is_head.take 1) Mn.k__law_is_head Mn.s__law_is_head rfl (fun _ _ _ _ _ _ us hl => match us, hl with | [_], _ => rfl) ?a27 ?l27 ?c27 ?k27) (.cons (Mn.def_mk KX G (x := "_law_is_goal") (df := ⟨Mn.n__law_is_goal, 2, Mn.c__law_is_goal⟩) (Mn.top 28) (Mn.n__law_is_goal.take 2) Mn.k__law_is_goal Mn.s__law_is_goal rfl (fun _ _ _ _ _ _ us hl => match us, hl with | [_, _], _ => rfl) ?a28 ?l28 ?c28 ?k28) (.cons (Mn.def_mk KX G (x := "_law_is_one_rule") (df := ⟨Mn.n__law_is_one_rule, 2, Mn.c__law_is_one_rule⟩) (Mn.top 29) (Mn.n__law_is_one_rule.take 2) Mn.k__law_is_one_rule Mn.s__law_is_one_rule rfl (fun _ _ _ _ _ _ us hl => match us, hl with | [_, _], _ => rfl) ?a29 ?l29 ?c29 ?k29) (.cons (Mn.def_mk KX G (x := "_law_is_exchange") (df := ⟨Mn.n__law_is_exchange, 1, Mn.c__law_is_exchange⟩) (Mn.top 30) (Mn.n__law_is_exchange.take 1) Mn.k__law_is_exchange Mn.s__law_is_exchange rfl (fun _ _ _ _ _ _ us hl => match us, hl with | [_], _ => rfl) ?a30 ?l30 ?c30 ?k30) (.cons (Mn.def_mk KX G (x := "law") (df := ⟨Mn.n_law, 1, Mn.c_law⟩) (Mn.top 31) (Mn.n_law.take 1) Mn.k_law Mn.s_law rfl (fun _ _ _ _ _ _ us hl => match us, hl with | [_], _ => rfl) ?a31 ?l31 ?c31 ?k31) (.nil)))))))))))))))))))))))))) (Mn.no_mk KX G (x := "len") ?z0 (Mn.no_mk KX G (x := "int") ?z1 (Mn.no_mk KX G (x := "str") ?z2 (Mn.no_mk KX G (x := "bool") ?z3 (Mn.no_mk KX G (x := "all") ?z4 (Mn.no_mk KX G (x := "any") ?z5 (Mn.no_mk KX G (x := "sum") ?z6 (Mn.no_mk KX G (x := "max") ?z7 (Mn.no_mk KX G (x := "min") ?z8 (Mn.no_mk KX G (x := "list") ?z9 (Mn.no_mk KX G (x := "tuple") ?z10 (Mn.no_mk KX G (x := "sorted") ?z11 (Mn.no_mk KX G (x := "set") ?z12 (Mn.no_mk KX G (x := "isinstance") ?z13 (Mn.no_mk KX G (x := "range") ?z14 (Mn.no_mk KX G (x := "enumerate") ?z15 (Mn.no_mk KX G (x := "zip") ?z16 (Mn.no_mk KX G (x := "reversed") ?z17 (.nil))))))))))))))))))) ?gl
    (case a6 => k_is); (case l6 => k_is); (case c6 => k_is); (case k6 => k_is)
    (case a7 => k_is); (case l7 => k_is); (case c7 => k_is); (case k7 => k_is)
    (case a8 => k_is); (case l8 => k_is); (case c8 => k_is); (case k8 => k_is)
    (case a9 => k_is); (case l9 => k_is); (case c9 => k_is); (case k9 => k_is)
    (case a10 => k_is); (case l10 => k_is); (case c10 => k_is); (case k10 => k_is)
    (case a11 => k_is); (case l11 => k_is); (case c11 => k_is); (case k11 => k_is)
    (case a12 => k_is); (case l12 => k_is); (case c12 => k_is); (case k12 => k_is)
    (case a14 => k_is); (case l14 => k_is); (case c14 => k_is); (case k14 => k_is)
    (case a15 => k_is); (case l15 => k_is); (case c15 => k_is); (case k15 => k_is)
    (case a16 => k_is); (case l16 => k_is); (case c16 => k_is); (case k16 => k_is)
    (case a17 => k_is); (case l17 => k_is); (case c17 => k_is); (case k17 => k_is)
    (case a18 => k_is); (case l18 => k_is); (case c18 => k_is); (case k18 => k_is)
    (case a19 => k_is); (case l19 => k_is); (case c19 => k_is); (case k19 => k_is)
    (case a20 => k_is); (case l20 => k_is); (case c20 => k_is); (case k20 => k_is)
    (case a21 => k_is); (case l21 => k_is); (case c21 => k_is); (case k21 => k_is)
    (case a22 => k_is); (case l22 => k_is); (case c22 => k_is); (case k22 => k_is)
    (case a23 => k_is); (case l23 => k_is); (case c23 => k_is); (case k23 => k_is)
    (case a24 => k_is); (case l24 => k_is); (case c24 => k_is); (case k24 => k_is)
    (case a25 => k_is); (case l25 => k_is); (case c25 => k_is); (case k25 => k_is)
    (case a26 => k_is); (case l26 => k_is); (case c26 => k_is); (case k26 => k_is)
    (case a27 => k_is); (case l27 => k_is); (case c27 => k_is); (case k27 => k_is)
    (case a28 => k_is); (case l28 => k_is); (case c28 => k_is); (case k28 => k_is)
    (case a29 => k_is); (case l29 => k_is); (case c29 => k_is); (case k29 => k_is)
    (case a30 => k_is); (case l30 => k_is); (case c30 => k_is); (case k30 => k_is)
    (case a31 => k_is); (case l31 => k_is); (case c31 => k_is); (case k31 => k_is)
    (case z0 => k_is)
    (case z1 => k_is)
    (case z2 => k_is)
    (case z3 => k_is)
    (case z4 => k_is)
    (case z5 => k_is)
    (case z6 => k_is)
    (case z7 => k_is)
    (case z8 => k_is)
    (case z9 => k_is)
    (case z10 => k_is)
    (case z11 => k_is)
    (case z12 => k_is)
    (case z13 => k_is)
    (case z14 => k_is)
    (case z15 => k_is)
    (case z16 => k_is)
    (case z17 => k_is)
    (case gl => refine' .cons (Mn.gl_str KX G Mn.glo_LETTERS ?ga0) (.cons (Mn.gl_str KX G Mn.glo_DIGITS ?ga1) (.cons (Mn.gl_tup2 KX G Mn.glo_ORDERS ?ga2 ?gb2) (.cons (Mn.gl_tup1 KX G Mn.glo_NOBODY ?ga3 ?gb3) (.cons (Mn.gl_int KX G Mn.glo_MOST_RULES ?ga4) (.nil))))); (case ga0 => k_is); (case ga1 => k_is); (case ga2 => k_is); (case gb2 => k_is); (case ga3 => k_is); (case gb3 => k_is); (case ga4 => k_is))
