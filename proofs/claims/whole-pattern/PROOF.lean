import PyProof.Rows.All
import Wide.All
import OpenK.AllK
import Wide.FinOn
import HandS.ForMost
import HandS.TupMul
import HandS.TupAny
import HandS.SortInts
import HandS.IsInst
import HandS.Conv
import HandS.More
import HandS.Style
import HandS.Walk
import PySem.Challenge.RW_bytebridge_k17_whole_pattern
import KE.OsArith
import KE.BitLaws
import KE.KBits
set_option Elab.async false
set_option linter.all false
set_option maxRecDepth 100000
set_option pp.maxSteps 800
set_option maxHeartbeats 4000000
/-! ### own rules at the machine's level: t[::-1] of a tuple, t * k for k from 1 -/
namespace Wp
open PySem PySem.Spec PyProof.Rows L2

theorem pick_rev (xs : Array Value) : ((List.range xs.size).filterMap fun (m : Nat) => xs[(((xs.size : Int) - 1) + (m : Int) * (-1)).toNat]?).toArray = xs.toList.reverse.toArray := by
  have e : (List.range xs.size).filterMap (fun (m : Nat) => xs[(((xs.size : Int) - 1) + (m : Int) * (-1)).toNat]?) = ((List.range xs.size).map fun k => xs.size - 1 - k).filterMap (fun k => xs[k]?) := by
    rw [List.filterMap_map]
    congr 1
    funext m
    show xs[(((xs.size : Int) - 1) + (m : Int) * (-1)).toNat]? = xs[xs.size - 1 - m]?
    have : (((xs.size : Int) - 1) + (m : Int) * (-1)).toNat = xs.size - 1 - m := by omega
    rw [this]
  rw [e, PySem.W.krv_range, List.filterMap_reverse]
  have := PySem.W.krv_all xs
  rw [this]

section
variable {prog : Program} {w : World} {A : Around} {E : Value → Shared → Prop} {s : Shared}
theorem sliceApplied_rev {sl : Addr} {vk : Value} {n : Nat} {Q : Int × Int × Nat → Shared → Prop} {vl vu : Value} (hs : s.heap.IsSliceOf sl vl vu vk) (pl : IsPart vl none) (pu : IsPart vu none) (pk : IsPart vk (some (-1)))
    (h : Q ((n : Int) - 1, -1, n) s) : wpAny (model prog w) A (Builtin.Slice.sliceApplied (.ref sl) (pure (n : Int))) Q E s := by
  obtain ⟨os, hos, hcs, hds⟩ := id hs
  unfold Builtin.Slice.sliceApplied Builtin.Slice.sliceFields
  refine wpAny_bind (wpAny_bind (wpAny_field hos hds (x := vl) rfl (wpAny_bind (wpAny_field hos hds (x := vu) rfl (wpAny_bind (wpAny_field hos hds (x := vk) rfl (wpAny_pure ?_)))))))
  refine wpAny_bind (HT.slicePart_ pk ?_)
  show wpAny _ _ (if ((-1 : Int) == 0) = true then _ else _) _ _ s
  rw [if_neg (by decide)]
  refine wpAny_bind (HT.slicePart_ pl (wpAny_bind (HT.slicePart_ pu (wpAny_bind (wpAny_pure ?_)))))
  have e1 : Builtin.Slice.sliceAdjust none none (-1) (n : Int) = ((n : Int) - 1, -1) := by
    unfold Builtin.Slice.sliceAdjust
    simp
  have e2 : Builtin.Slice.slicePlaces ((n : Int) - 1) (-1) (-1) = n := by
    unfold Builtin.Slice.slicePlaces
    have h1 : ¬ ((-1 : Int) > 0) := by omega
    simp only [h1, if_false]
    by_cases h2 : (n : Int) - 1 > -1
    · simp only [h2, if_true]
      rw [show (- -1 : Int) = 1 by decide, Int.ediv_one]
      omega
    · simp only [h2, if_false]
      omega
  show wpAny _ _ (match Builtin.Slice.sliceAdjust none none (-1) (n : Int) with | (lo, hi) => pure (lo, (-1 : Int), Builtin.Slice.slicePlaces lo hi (-1))) _ _ s
  rw [e1]
  show wpAny _ _ (pure ((n : Int) - 1, (-1 : Int), Builtin.Slice.slicePlaces ((n : Int) - 1) (-1) (-1))) _ _ s
  rw [e2]
  exact wpAny_pure h
theorem getItem_tuple_rev {t sl : Addr} {items : Array Value} {vl vu vk : Value} {Q : Value → Shared → Prop} (ht : IsTup s.heap t items) (hs : s.heap.IsSliceOf sl vl vu vk) (pl : IsPart vl none) (pu : IsPart vu none) (pk : IsPart vk (some (-1)))
    (h : Q (.ref s.heap.objs.size) { s with heap := s.heap.push { cls := .type "tuple", data := .seq items.toList.reverse.toArray } })
    (hsz : items.size ≤ sizeLine) : wpAny (model prog w) A (getItem (.ref t) (.ref sl)) Q E s := by
  have htake : sizeOk (.seq items.toList.reverse.toArray) := by
    show items.toList.reverse.toArray.size ≤ sizeLine
    rw [List.size_toArray, List.length_reverse, Array.length_toList]
    exact hsz
  obtain ⟨os, hos, hcs, hds⟩ := id hs
  have hTs : s.TypeIs (.ref sl) "slice" := ⟨os, hos, hcs⟩
  unfold getItem
  try with_reducible refine wpAny_holding ?_
  first | refine wpAny_bind (wpAny_pure ?_) | skip
  refine wpAny_bind (wpAny_sequenceKey ht.typeIs (by decide) ?_)
  refine wpAny_bind (wpAny_callSpecial?_slot (name := Str.ofString "__getitem__") ht.typeIs PyProof.Rows.slot_tuple_getitem
    (wpAny_call_entry PyProof.Rows.slot_tuple_getitem ht.typeIs PyProof.Rows.entry_tuple_getitem ?_ (PyProof.Rows.args_tuple_getitem _ _)))
  show wpAny _ _ (Builtin.Tuple.tupleItemsOf (.ref t) >>= _) _ _ s
  refine wpAny_bind (PyProof.Rows.tupleItemsOf_ ht ?_)
  refine wpAny_bind (wpAny_typeOf hTs ?_)
  rw [if_pos (by decide)]
  refine wpAny_bind (sliceApplied_rev hs pl pu pk ?_)
  have hno : ¬ ((((items.size : Int) - 1) == 0 && (-1 : Int) == 1 && items.size == items.size) = true) := by
    intro q
    rw [Bool.and_eq_true, Bool.and_eq_true] at q
    exact absurd q.1.2 (by decide)
  show wpAny _ _ (if (((items.size : Int) - 1) == 0 && (-1 : Int) == 1 && items.size == items.size) = true then _ else _) _ _ s
  rw [if_neg hno, pick_rev]
  first
    | exact wpAny_bind (m := Builtin.Tuple.tupleExact _) (wpAny_newObj_type (wpAny_pure ⟨_, rfl, wpAny_pure h⟩) htake)
    | exact wpAny_bind (m := Builtin.Tuple.tupleExact _) (wpAny_newObj_type (wpAny_bind (wpAny_pure (wpAny_pure ⟨_, rfl, wpAny_pure h⟩))) htake)
    | exact wpAny_bind (wpAny_bind (m := Builtin.Tuple.tupleExact _) (wpAny_newObj_type (wpAny_pure (wpAny_pure ⟨_, rfl, wpAny_pure h⟩)) htake))
    | exact wpAny_bind (wpAny_bind (m := Builtin.Tuple.tupleExact _) (wpAny_newObj_type (wpAny_pure ⟨_, rfl, wpAny_pure h⟩) htake))
end
section
variable {X : Cx} {pos : Pos}
/-- t[::-1] -/
def tRevT (K : PySem.W.Frag) (te : TE) : TE := fun σ H Q => te σ H fun x H1 => ∃ a xs, x = .ref a ∧ SqT K H1 a xs ∧ ∀ p, H1 p = none → Q (.ref p) (upd H1 p (.tup xs.reverse))
theorem pe_revT {e : Expr} {te : TE} {k : Nat} {p1 p2 p3 pos : Pos} (he : PE X e te) : PE X (.Subscript e (.Slice none none (some (.UnaryOp .USub (.Constant (.int 1) k p1) p2)) p3) pos) (tRevT X.K te) := by
  refine ⟨fun pins s σ H Q I h => ?_⟩
  refine Subscript_ (thn (he.run pins s σ H _ I h) fun v s1 ⟨x, H1, I1, r1, q1⟩ => ?_)
  obtain ⟨a, xs, ex, hx, q⟩ := q1
  subst ex
  cases r1
  have hst : PO X (some (.UnaryOp .USub (.Constant (.int 1) k p1) p2)) (tPart (tUn (rU fun i => .int (-i)) (tC (.int 1)))) := po_some (pe_un un_neg pe_int)
  refine wpAny_Slice (thn (po_none.run pins s1 σ H1 (fun o H2 => o = none ∧ H2 = H1) I1 ⟨rfl, rfl⟩) fun vl s2 ⟨l, H2, I2, pl, el, e2⟩ => ?_)
  subst el e2
  refine thn (po_none.run pins s2 σ H2 (fun o H3 => o = none ∧ H3 = H2) I2 ⟨rfl, rfl⟩) fun vu s3 ⟨u, H3, I3, pu, eu, e3⟩ => ?_
  subst eu e3
  refine thn (hst.run pins s3 σ H3 (fun o H4 => o = some (-1) ∧ H4 = H3) I3 ⟨1, rfl, -1, rfl, rfl, rfl⟩) fun vs s4 ⟨o, H4, I4, ps, eo, e4⟩ => ?_
  subst eo e4
  have I5 : Inv X pins σ H4 { s4 with heap := s4.heap.push { cls := .type "slice", data := .fields #[vl, vu, vs] } } := I4.kept (t' := s4.toks) fun b ob q => Heap.get?_push_of_some _ q
  obtain ⟨its, r, ht, hz⟩ := I5.tuple hx
  have hlen := r.length
  show wpAny (model X.prog X.w) X.A (subscriptTail e (.Slice none none (some (.UnaryOp .USub (.Constant (.int 1) k p1) p2)) p3) (.ref a) (.ref s4.heap.objs.size)) (EP X pins σ Q) X.xe { s4 with heap := s4.heap.push { cls := .type "slice", data := .fields #[vl, vu, vs] } }
  refine tail_any (ops := [.ref a, .ref s4.heap.objs.size]) ht.typeIs (PyProof.Rows.slot_tuple_getitem.lookup) ?_ (by with_unfolding_all rfl)
  refine getItem_tuple_rev ht (Heap.IsSliceOf.new _ vl vu vs) pl pu ps ?_ (by rw [List.size_toArray]; omega)
  refine ⟨.ref _, _, I5.laid (t' := s4.toks) (o := .tup xs.reverse) (fun b ob q => Heap.get?_push_of_some _ q) (Nat.le_refl _) ?_, rfl, q _ (I5.hok.fresh (Nat.le_refl _))⟩
  exact ⟨by rw [List.length_reverse]; exact hz, _, r.reverse, IsTup.new _ _⟩
theorem tuple_mul1W (l : Addr) (items : Array Value) (n : Nat) (dd : Option Addr) (sl : Array (Option Value)) (u : Tok) :
    Meets (Builtin.«tuple.__mul__» ⟨[.ref l, .int 1 u], []⟩) (fun _ R s => s.heap.get? l = some { cls := .type "tuple", dict := dd, data := .seq items n, slots := sl } ∧ R (.ok (.ret (Value.ref l))) s) :=
  .of_wp fun prog w A R s h => by
    obtain ⟨hp, g, d, tk, os⟩ := s
    obtain ⟨hl, h⟩ := h
    have f1 := AutoSeq1.idx_int
    wp_walk using wpAny_loadPart' hl
    exact ⟨_, rfl, h⟩
/-- t * k -/
def rRepA (K : PySem.W.Frag) : R2 := fun x y H Q => ∃ l k xs, x = .ref l ∧ y = .int k ∧ SqT K H l xs ∧ xs ≠ [] ∧ 1 ≤ k ∧ k ≤ 1000 ∧ xs.length ≤ 1000 ∧ (k = 1 → Q (.ref l) H) ∧ (2 ≤ k → ∀ p, H p = none → Q (.ref p) (upd H p (.tup (List.replicate k.toNat xs).flatten)))
theorem op_repA : OpR X (binaryOp .Mult) (rRepA X.K) := by
  intro pins s σ H x y v u Q I rx ry h
  obtain ⟨l, k, xs, rfl, rfl, hT, hne, h1, h2, hz, q1, q2⟩ := h
  by_cases hk : k = 1
  · subst hk
    cases rx
    obtain ⟨t, rfl⟩ := ry
    obtain ⟨its, r, ⟨⟨cls, dd, data, sl⟩, ho, hc, n, hd⟩, hs⟩ := I.tuple hT
    simp only at hc hd
    subst hc hd
    refine wpAny_binaryOp_repeat_ref (T := "tuple") (U := "int") (by decide) ⟨_, ho, rfl⟩ (fun s' => typeIs_int s' 1 t) noFill_tuple_mul F.fills_int_mul F.slot_int_rmul repeat_tuple F.slot_int_index.lookup
      (call_meets F.slot_int_rmul (typeIs_int s 1 t) F.entry_int_rmul (F.args_int_rmul_2 _ _) (int_rmul_tuple 1 t l its.toArray n dd sl)
        ⟨ho, rfl, ⟨_, ho, rfl⟩, call_meets F.slot_tuple_mul ⟨_, ho, rfl⟩ F.entry_tuple_mul (F.args_tuple_mul_2 _ _) (tuple_mul1W l its.toArray n dd sl t) ⟨ho, ?_⟩⟩)
    exact ⟨.ref l, H, I, rfl, q1 rfl⟩
  · exact op_repT pins s σ H _ _ v u Q I rx ry ⟨l, k, xs, rfl, rfl, hT, hne, by omega, h2, hz, q2 (by omega)⟩
end
end Wp

/-! ### data as a value shows it -/
namespace Wp
open PySem PySem.Spec PyProof.Rows L2

/-- plain data: None, a bool, an int, a text, a tuple of such -/
inductive D where
  | non | bl (b : Bool) | int (i : Int) | str (s : Str) | tup (ds : List D)
mutual
/-- the heap H shows the datum at the value -/
inductive Has (H : Hp) : V → D → Prop
  | non : Has H .non .non
  | bl (b : Bool) : Has H (.bl b) (.bl b)
  | int (i : Int) : Has H (.int i) (.int i)
  | str (s : Str) : Has H (.str s) (.str s)
  | tup {a : Addr} {vs : List V} {ds : List D} : H a = some (.tup vs) → HasL H vs ds → Has H (.ref a) (.tup ds)
inductive HasL (H : Hp) : List V → List D → Prop
  | nil : HasL H [] []
  | cons {v : V} {d : D} {vs : List V} {ds : List D} : Has H v d → HasL H vs ds → HasL H (v :: vs) (d :: ds)
end
/-- tuples are kept -/
def KT (H H' : Hp) : Prop := ∀ a xs, H a = some (.tup xs) → H' a = some (.tup xs)
/-- all but what stands at ex is kept -/
def But (ex : List Addr) (H H' : Hp) : Prop := ∀ b o, b ∉ ex → H b = some o → H' b = some o
section
variable {H H' H'' : Hp}
theorem KT.refl (H : Hp) : KT H H := fun _ _ e => e
theorem KT.trans (a : KT H H') (b : KT H' H'') : KT H H'' := fun x xs e => b x xs (a x xs e)
theorem kt_same (s : Same H H') : KT H H' := fun a _ e => s a _ e
theorem same_new {p : Addr} {o : HO} (n : H p = none) : Same H (upd H p o) := fun b x e => by
  rw [upd_ne (ne_of_none e n)]
  exact e
theorem kt_new {p : Addr} {o : HO} (n : H p = none) : KT H (upd H p o) := kt_same (same_new n)
theorem kt_upd {p : Addr} {xs ys : List V} (e : H p = some (.lst xs)) : KT H (upd H p (.lst ys)) := fun a zs q => by
  rw [upd_ne (ne_of q e (by intro z; cases z))]
  exact q
theorem But.refl (ex : List Addr) (H : Hp) : But ex H H := fun _ _ _ e => e
theorem But.trans {ex : List Addr} (a : But ex H H') (b : But ex H' H'') : But ex H H'' := fun x o n e => b x o n (a x o n e)
theorem but_same {ex : List Addr} (s : Same H H') : But ex H H' := fun b o _ e => s b o e
theorem But.mono {ex ex' : List Addr} (b : But ex H H') (h : ∀ x ∈ ex, x ∈ ex') : But ex' H H' := fun a o n e => b a o (fun m => n (h a m)) e
theorem but_upd {ex : List Addr} {p : Addr} {o : HO} (hp : p ∈ ex) : But ex H (upd H p o) := fun b x n e => by
  rw [upd_ne (show b ≠ p from fun z => n (by rw [z]; exact hp))]
  exact e
/-- what a new object's change leaves -/
theorem same_mut {p : Addr} {o : HO} (s : Same H H') (n : H p = none) : Same H (upd H' p o) := fun b x e => by
  rw [upd_ne (ne_of_none e n)]
  exact s b x e
theorem but_mut {ex : List Addr} {p : Addr} {o : HO} (s : But ex H H') (n : H p = none) : But ex H (upd H' p o) := fun b x nb e => by
  rw [upd_ne (ne_of_none e n)]
  exact s b x nb e
theorem none_back (s : Same H H') {p : Addr} (n : H' p = none) : H p = none := Same.free s n
theorem none_but {ex : List Addr} (s : But ex H H') {p : Addr} (n : H' p = none) (hx : ∀ x ∈ ex, ∃ o, H' x = some o) : H p = none := by
  cases q : H p with
  | none => rfl
  | some o =>
    by_cases hp : p ∈ ex
    · obtain ⟨o', e⟩ := hx p hp
      rw [n] at e
      cases e
    · rw [s p o hp q] at n
      cases n
mutual
theorem Has.mono (k : KT H H') : ∀ {v : V} {d : D}, Has H v d → Has H' v d
  | _, _, .non => .non
  | _, _, .bl b => .bl b
  | _, _, .int i => .int i
  | _, _, .str s => .str s
  | _, _, .tup e h => .tup (k _ _ e) (HasL.mono k h)
theorem HasL.mono (k : KT H H') : ∀ {vs : List V} {ds : List D}, HasL H vs ds → HasL H' vs ds
  | _, _, .nil => .nil
  | _, _, .cons h t => .cons (Has.mono k h) (HasL.mono k t)
end
theorem Has.tupI {v : V} {ds : List D} (h : Has H v (.tup ds)) : ∃ a vs, v = .ref a ∧ H a = some (.tup vs) ∧ HasL H vs ds := by
  cases h with
  | tup e l => exact ⟨_, _, rfl, e, l⟩
theorem Has.new {p : Addr} {vs : List V} {ds : List D} (l : HasL H vs ds) (n : H p = none) : Has (upd H p (.tup vs)) (.ref p) (.tup ds) := .tup upd_same (l.mono (kt_new n))
theorem HasL.len : ∀ {vs : List V} {ds : List D}, HasL H vs ds → vs.length = ds.length
  | _, _, .nil => rfl
  | _, _, .cons _ t => by rw [List.length_cons, List.length_cons, t.len]
theorem HasL.append : ∀ {vs : List V} {ds : List D} {us : List V} {es : List D}, HasL H vs ds → HasL H us es → HasL H (vs ++ us) (ds ++ es)
  | _, _, _, _, .nil, t => t
  | _, _, _, _, .cons h r, t => .cons h (r.append t)
theorem HasL.snoc {vs : List V} {ds : List D} {v : V} {d : D} (l : HasL H vs ds) (h : Has H v d) : HasL H (vs ++ [v]) (ds ++ [d]) := l.append (.cons h .nil)
theorem HasL.get : ∀ {vs : List V} {ds : List D} {i : Nat} {d : D}, HasL H vs ds → ds[i]? = some d → ∃ v, vs[i]? = some v ∧ Has H v d
  | _, _, _, _, .nil, e => by simp at e
  | _, _, 0, _, .cons h _, e => by simp at e; subst e; exact ⟨_, rfl, h⟩
  | _, _, i + 1, d, .cons _ t, e => by
    obtain ⟨v, h1, h2⟩ := HasL.get (i := i) (d := d) t (by simpa using e)
    exact ⟨v, by simpa using h1, h2⟩
theorem HasL.getV : ∀ {vs : List V} {ds : List D} {i : Nat} {v : V}, HasL H vs ds → vs[i]? = some v → ∃ d, ds[i]? = some d ∧ Has H v d
  | _, _, _, _, .nil, e => by simp at e
  | _, _, 0, _, .cons h _, e => by simp at e; subst e; exact ⟨_, rfl, h⟩
  | _, _, i + 1, v, .cons _ t, e => by
    obtain ⟨d, h1, h2⟩ := HasL.getV (i := i) (v := v) t (by simpa using e)
    exact ⟨d, by simpa using h1, h2⟩
theorem HasL.ints : ∀ ns : List Int, HasL H (ns.map V.int) (ns.map D.int)
  | [] => .nil
  | n :: r => .cons (.int n) (HasL.ints r)
theorem HasL.rep {v : V} {d : D} (h : Has H v d) : ∀ n : Nat, HasL H (List.replicate n v) (List.replicate n d)
  | 0 => .nil
  | n + 1 => .cons h (HasL.rep h n)
theorem HasL.rev : ∀ {vs : List V} {ds : List D}, HasL H vs ds → HasL H vs.reverse ds.reverse
  | _, _, .nil => .nil
  | _, _, .cons h t => by
    rw [List.reverse_cons, List.reverse_cons]
    exact t.rev.snoc h
theorem HasL.ofInts : ∀ {vs : List V} {ns : List Int}, HasL H vs (ns.map D.int) → vs = ns.map V.int
  | _, [], h => by cases h; rfl
  | _, n :: r, h => by
    cases h with
    | cons h1 t =>
      cases h1
      rw [List.map_cons, HasL.ofInts t]
theorem SqT.has {K : PySem.W.Frag} {a : Addr} {vs : List V} (e : H a = some (.tup vs)) : SqT K H a vs := .inl (.inl e)
theorem SqL.has {K : PySem.W.Frag} {a : Addr} {vs : List V} (e : H a = some (.lst vs)) : SqL K H a vs := .inl (.inl e)
end
theorem ite_yes {c : Prop} [Decidable c] {A B : Prop} (hc : c) (h : A) : if decide c = true then A else B := by
  rw [decide_eq_true hc]
  exact iteT h
theorem ite_no {c : Prop} [Decidable c] {A B : Prop} (hc : ¬ c) (h : B) : if decide c = true then A else B := by
  rw [decide_eq_false hc]
  exact iteF h
theorem ite_by {c : Prop} [Decidable c] {A B : Prop} (h1 : c → A) (h2 : ¬ c → B) : if decide c = true then A else B := by
  by_cases hc : c
  · exact ite_yes hc (h1 hc)
  · exact ite_no hc (h2 hc)
theorem ite_nyes {c : Prop} [Decidable c] {A B : Prop} (hc : ¬ c) (h : A) : if (!decide c) = true then A else B := by
  rw [decide_eq_false hc]
  exact iteT h
theorem ite_nno {c : Prop} [Decidable c] {A B : Prop} (hc : c) (h : B) : if (!decide c) = true then A else B := iteNS hc h
theorem small_line {n : Nat} (h : n ≤ 10000000) : n ≤ sizeLine := Nat.le_trans h (by decide)
theorem small_lt {n : Nat} (h : n < 10000000) : n < sizeLine := Nat.lt_of_lt_of_le h (by decide)
theorem szl {α : Type} (xs : List α) (h : Nat.ble xs.length 1000 = true := by rfl) : xs.length ≤ sizeLine := Nat.le_trans (Nat.le_of_ble_eq_true h) (by decide)
/-- an item at a drawn place -/
theorem at_drawn {α : Type} {xs : List α} {n : Int} (h0 : 0 ≤ n) (h1 : n < (xs.length : Int)) : ∃ v, atI xs n = some v ∧ v ∈ xs := by
  have hlt : n.toNat < xs.length := by omega
  refine ⟨xs[n.toNat], ?_, List.getElem_mem hlt⟩
  have e : n = ((n.toNat : Nat) : Int) := by omega
  have h := atI_nat (xs := xs) (j := n.toNat) (v := xs[n.toNat]) (by simp [hlt])
  rw [← e] at h
  exact h
theorem at_last {α : Type} {xs : List α} (h : xs ≠ []) : atI xs (-1) = some (xs.getLast h) := by
  have e := List.dropLast_concat_getLast h
  have q := atI_last xs.dropLast (xs.getLast h)
  rw [e] at q
  exact q

theorem q_int {Q : VK} {H : Hp} {a b : Int} (e : a = b) (q : Q (.int b) H) : Q (.int a) H := by
  rw [e]
  exact q
theorem q_bl {Q : VK} {H : Hp} {a b : Bool} (e : a = b) (q : Q (.bl b) H) : Q (.bl a) H := by
  rw [e]
  exact q

theorem i0 {α : Type} {x0 : α} {r : List α} : atI (x0 :: r) 0 = some x0 := atI_nat (j := 0) rfl
theorem i1 {α : Type} {x0 x1 : α} {r : List α} : atI (x0 :: x1 :: r) 1 = some x1 := atI_nat (j := 1) rfl
theorem i2 {α : Type} {x0 x1 x2 : α} {r : List α} : atI (x0 :: x1 :: x2 :: r) 2 = some x2 := atI_nat (j := 2) rfl
theorem i3 {α : Type} {x0 x1 x2 x3 : α} {r : List α} : atI (x0 :: x1 :: x2 :: x3 :: r) 3 = some x3 := atI_nat (j := 3) rfl
theorem i4 {α : Type} {x0 x1 x2 x3 x4 : α} {r : List α} : atI (x0 :: x1 :: x2 :: x3 :: x4 :: r) 4 = some x4 := atI_nat (j := 4) rfl
theorem i5 {α : Type} {x0 x1 x2 x3 x4 x5 : α} {r : List α} : atI (x0 :: x1 :: x2 :: x3 :: x4 :: x5 :: r) 5 = some x5 := atI_nat (j := 5) rfl
theorem i6 {α : Type} {x0 x1 x2 x3 x4 x5 x6 : α} {r : List α} : atI (x0 :: x1 :: x2 :: x3 :: x4 :: x5 :: x6 :: r) 6 = some x6 := atI_nat (j := 6) rfl

/-! ### defs by their names -/
/-- a def that may be called by its name, at most k calls deep -/
structure Cal (P : Program) (w : World) (K : PySem.W.Frag) (mg : Str → Option Value) (base : Heap) (k : Nat) (x : Str) (sp : Sp) : Prop where
  ex : ∃ (f : Addr) (fd : FuncData) (ps : List Str), FnOk P w K mg base CX0 k f fd ps sp ∧ mg x = some (.ref f) ∧ PySem.W.keepIn K (.ref f) = true ∧ Binds K fd ps []
/-- a def of the module as the top leaves it -/
structure Dn (K : PySem.W.Frag) (mg : Str → Option Value) (x : Str) (st : Stmt) : Prop where
  ex : ∃ (f : Addr) (fd : FuncData), Fun K x x st f fd ∧ mg x = some (.ref f)
section
variable {P : Program} {w : World} {K : PySem.W.Frag} {mg : Str → Option Value} {base : Heap}
abbrev BindsAs (x : Str) (st : Stmt) (ps : List Str) : Prop := ∀ (kV doc pm : Value) (an : Option Addr) (cdv ct : Value) (us : List Value), us.length = ps.length →
  bindArgs (PySem.W.fnOf x x (defArgs st) (defBody st) (defScope st) .none kV doc pm an cdv ct) ⟨us, []⟩ = pure (ps.zip us)
theorem cal_mk {x : Str} {st : Stmt} {N ps : List Str} {k : Nat} {sp : Sp} (F : Dn K mg x st) (S : FnScope N ps (defScope st)) (hb : BindsAs x st ps) (len : ∀ vs H Q E, sp vs H Q E → vs.length = ps.length)
    (hbody : ∀ (f : Addr) (cdv : Value) (A : Around) (outer : List Env) (s : Shared) (H : Hp) (vs : List V) (Q : VK) (E : XK), Room k (A.deeper (envOfC x (defScope st) s.heap.objs.size f cdv)) → sp vs H Q E →
      ∃ t, PSs (cxOf CX0 P w K mg base N x (defScope st) f cdv A outer s H E).nox (defBody st) t ∧ t { nx := fun _ H' => Q .non H', rt := Q } (start N vs) H) : Cal P w K mg base (k + 1) x sp := by
  obtain ⟨f, fd, FF, hm⟩ := F.ex
  exact ⟨f, fd, ps, FF.ok S len (hbody f), hm, FF.kp, FF.binds hb⟩
theorem Cal.mono {j k : Nat} {x : Str} {sp : Sp} (c : Cal P w K mg base j x sp) (h : j ≤ k) : Cal P w K mg base k x sp := by
  obtain ⟨f, fd, ps, F, hm, kp, b⟩ := c.ex
  exact ⟨f, fd, ps, F.mono h, hm, kp, b⟩
theorem Cal.imp {k : Nat} {x : Str} {sp sp' : Sp} (c : Cal P w K mg base k x sp) (h : ∀ vs H Q E, sp' vs H Q E → sp vs H Q E) : Cal P w K mg base k x sp' := by
  obtain ⟨f, fd, ps, F, hm, kp, b⟩ := c.ex
  exact ⟨f, fd, ps, F.imp h, hm, kp, b⟩
end
/-- a call of such a def -/
def tK (sp : Sp) (t : TA) : TE := fun σ H Q => t σ H fun vs H1 => sp vs H1 Q E0
theorem pe_k {X : Cx} {k j : Nat} {x : Str} {sp : Sp} {p pos : Pos} {e : Expr} {es : List Expr} {t : TA} (c : Cal X.prog X.w X.K X.mg X.base k x sp) (hr : Room j X.A) (hk : k ≤ j) (hg : Gl X x) (ha : PA X (e :: es) t)
    (hdb : (x == ("__debug__" : Str)) = false := by decide) (he : starEach (e :: es) X.env = (false, eval e X.env) :: starEach es X.env := by rfl) (hpl : (backTo pos (starEach es X.env)).any (·.1) = false := by rfl) :
    PE X (.Call (.Name x p) (e :: es) [] pos) (tK sp t) := by
  obtain ⟨f, fd, ps, F, hm, kp, b⟩ := c.ex
  have h := pe_call (p := p) F (hr.mono hk) hg hm kp b .nil pass0 ha hdb he hpl
  have e : tCall sp [] E0 t = tK sp t := by
    funext σ H Q
    show (t σ H fun vs H1 => sp (vs ++ []) H1 Q E0) = (t σ H fun vs H1 => sp vs H1 Q E0)
    simp only [List.append_nil]
  rw [← e]
  exact h

/-! ### within a comprehension's block: the written part by its name -/
section
variable {X : Cx} {K : PySem.W.Frag}
theorem ix_tupK (e : X.K = K) : IxR X (rIxT K) := by
  subst e
  exact ix_tup
theorem ix_listK (e : X.K = K) : IxR X (rIxL K) := by
  subst e
  exact ix_list
theorem op_in_seqK (e : X.K = K) : OpR X (compareOp .In) (rIn K false) := by
  subst e
  exact op_in_seq
theorem call_tuple_ofK (e : X.K = K) : CallR X (.type "tuple") (fun xs H Q => ∃ p ys, xs = [.ref p] ∧ ((SqL K H p ys ∧ ∀ l, H l = none → Q (.ref l) (upd H l (.tup ys))) ∨ (SqT K H p ys ∧ Q (.ref p) H))) := by
  subst e
  exact call_tuple_of
theorem call_len_seqK (e : X.K = K) : CallR X (.builtin "len") (fun xs H Q => ∃ p ys, xs = [.ref p] ∧ (SqL K H p ys ∨ SqT K H p ys) ∧ Q (.int ys.length) H) := by
  subst e
  exact call_len_seq
theorem pi_listK {tg l : Expr} {tl : TE} (e : X.K = K) (h : PE X l tl) : PI X tg l (iList K tl) := by
  subst e
  exact pi_list h
end

/-! ### a tuple's shape, item by item -/
theorem inv1 {H : Hp} {vs : List V} {d : D} (h : HasL H vs [d]) : ∃ v, vs = [v] ∧ Has H v d := by
  cases h with
  | cons h t =>
    cases t
    exact ⟨_, rfl, h⟩
theorem invC {H : Hp} {vs : List V} {d : D} {ds : List D} (h : HasL H vs (d :: ds)) : ∃ v us, vs = v :: us ∧ Has H v d ∧ HasL H us ds := by
  cases h with
  | cons h t => exact ⟨_, _, rfl, h, t⟩
theorem invS {H : Hp} {vs : List V} {x : Str} {ds : List D} (h : HasL H vs (.str x :: ds)) : ∃ us, vs = .str x :: us ∧ HasL H us ds := by
  cases h with
  | cons h t =>
    cases h
    exact ⟨_, rfl, t⟩
theorem invI {H : Hp} {vs : List V} {x : Int} {ds : List D} (h : HasL H vs (.int x :: ds)) : ∃ us, vs = .int x :: us ∧ HasL H us ds := by
  cases h with
  | cons h t =>
    cases h
    exact ⟨_, rfl, t⟩
theorem invB {H : Hp} {vs : List V} {x : Bool} {ds : List D} (h : HasL H vs (.bl x :: ds)) : ∃ us, vs = .bl x :: us ∧ HasL H us ds := by
  cases h with
  | cons h t =>
    cases h
    exact ⟨_, rfl, t⟩
theorem inv0 {H : Hp} {vs : List V} (h : HasL H vs []) : vs = [] := by
  cases h
  rfl
theorem Has.strI {H : Hp} {v : V} {x : Str} (h : Has H v (.str x)) : v = .str x := by
  cases h
  rfl
theorem Has.intI {H : Hp} {v : V} {x : Int} (h : Has H v (.int x)) : v = .int x := by
  cases h
  rfl
theorem Has.blI {H : Hp} {v : V} {x : Bool} (h : Has H v (.bl x)) : v = .bl x := by
  cases h
  rfl
theorem Has.nonI {H : Hp} {v : V} (h : Has H v .non) : v = .non := by
  cases h
  rfl

/-! ### words, the top's names -/
inductive W5 where
  | u8 | u16be | u16le | u32be | u32le
def W5.str : W5 → Str
  | .u8 => "u8"
  | .u16be => "u16be"
  | .u16le => "u16le"
  | .u32be => "u32be"
  | .u32le => "u32le"
def W5.size : W5 → Nat
  | .u8 => 1
  | .u16be => 2
  | .u16le => 2
  | .u32be => 4
  | .u32le => 4
theorem W5.size_le (w : W5) : 1 ≤ w.size ∧ w.size ≤ 4 := by cases w <;> decide
/-- what the walk asks of the top -/
structure Txt (w : World) (K : PySem.W.Frag) (mg : Str → Option Value) (dW aC : Addr) : Prop where
  b_len : mg "len" = none
  b_range : mg "range" = none
  b_tuple : mg "tuple" = none
  b_list : mg "list" = none
  b_abs : mg "abs" = none
  b_int : mg "int" = none
  b_max : mg "max" = none
  b_min : mg "min" = none
  b_str : mg "str" = none
  b_bool : mg "bool" = none
  b_isinstance : mg "isinstance" = none
  b_sorted : mg "sorted" = none
  g_WORD_SIZES : mg "WORD_SIZES" = some (.ref dW)
  g_COMPOSITES : mg "COMPOSITES" = some (.ref aC)
  kd : ∀ w5 : W5, KDct K w dW w5.str (.int w5.size)
  comps : ∀ H, SqT K H aC [.str "array", .str "list", .str "choice", .str "record"]
def topS (i : Nat) : Stmt := PySem.Challenge.pw_bytebridge_k17_whole_pattern.main.body.getD i (.Pass ⟨0, 0, 0, 0⟩)

/-! ### layouts as data, and what their whole patterns are -/
structure Part where
  name : Option Str
  width : Nat
  signed : Bool
  ranges : Option (List (Int × Int))
  dflt : Option Int
def oStr : Option Str → D
  | none => .non
  | some s => .str s
def oInt : Option Int → D
  | none => .non
  | some i => .int i
def rngD : Option (List (Int × Int)) → D
  | none => .non
  | some rs => .tup (rs.map fun p => .tup [.int p.1, .int p.2])
def Part.d (p : Part) : D := .tup [oStr p.name, .int p.width, .bl p.signed, rngD p.ranges, oInt p.dflt]
/-- the integers from p.1 to p.2 -/
def runV (p : Int × Int) : List Int := (List.range (p.2 + 1 - p.1).toNat).map fun i => p.1 + (i : Nat)
def numsOf (rs : List (Int × Int)) : List Int := rs.flatMap runV
def RngOk (w : Nat) : Option (List (Int × Int)) → Prop
  | none => True
  | some rs => w ≤ 8 ∧ rs.length ≤ 1000 ∧ (∀ p ∈ rs, -300 ≤ p.1 ∧ p.1 ≤ 300 ∧ -300 ≤ p.2 ∧ p.2 ≤ 300) ∧ numsOf rs ≠ [] ∧ (numsOf rs).Pairwise (· < ·) ∧ ∀ n ∈ numsOf rs, -(2 ^ w : Int) ≤ n ∧ n < (2 ^ w : Int)
def codeOf (n : Int) (w : Nat) : Int := if n < 0 then n + 2 ^ w else n
/-- in_all, in_some as the program folds them -/
def agree (cs : List Int) : Int × Int := cs.foldl (fun p c => (Builtin.bitAnd p.1 c, Builtin.bitOr p.2 c)) (cs.headD 0, cs.headD 0)
def knownOf (cs : List Int) (w : Nat) : Int := Builtin.bitXor (Builtin.bitXor (2 ^ w - 1) (agree cs).1) (agree cs).2
def freeBits (known : Int) (w : Nat) : Nat := ((List.range w).filter fun k => decide (Builtin.bitAnd (known / 2 ^ k) 1 = 0)).length
def codesOf (ns : List Int) (w : Nat) : List Int := ns.map fun n => codeOf n w
/-- the integer set of these integers, as the program reckons it -/
def setA (ns : List Int) (w : Nat) : D :=
  if ns.length = 2 ^ freeBits (knownOf (codesOf ns w) w) w then .tup [.str "bits", .int (knownOf (codesOf ns w) w), .int (agree (codesOf ns w)).1] else .tup [.str "among", .tup (ns.map D.int)]
def setRes (w : Nat) : Option (List (Int × Int)) → D
  | none => .tup [.str "bits", .int 0, .int 0]
  | some rs => setA (numsOf rs) w
def Part.ok (p : Part) : Prop := p.width ≤ 32 ∧ RngOk p.width p.ranges
def Part.res (p : Part) : D := setRes p.width p.ranges
def wordD (w : W5) (ps : List Part) : D := .tup [.str "word", .str w.str, .tup (ps.map Part.d)]
def named (ps : List Part) : List Part := ps.filter fun p => p.name.isSome
inductive Cnt where
  | exactly (n : Nat) | counted (w : W5) (a b : Nat) | marked (n : Nat)
def Cnt.d : Cnt → D
  | .exactly n => .tup [.str "exactly", .int n]
  | .counted w a b => .tup [.str "counted", .str w.str, .int a, .int b]
  | .marked n => .tup [.str "marked", .int n]
def Cnt.lo : Cnt → Nat
  | .exactly n => n
  | .counted _ a _ => a
  | .marked _ => 0
def Cnt.hi : Cnt → Nat
  | .exactly n => n
  | .counted _ _ b => b
  | .marked n => n
def Cnt.ok (c : Cnt) : Prop := c.lo ≤ c.hi ∧ 1 ≤ c.hi ∧ c.hi ≤ 60
def Cnt.nums (c : Cnt) : List Int := runV ((c.lo : Int), (c.hi : Int))
def countsD (c : Cnt) (r : D) : D := .tup [.str "counts", .tup (c.nums.map D.int), .tup (List.replicate c.hi r)]
/-- an item that is counted, with its count -/
inductive Counted : D → Cnt → Prop where
  | array (nm ws sg rs df : D) (c : Cnt) : Counted (.tup [.str "array", nm, ws, sg, c.d, rs, df]) c
  | list (nm l : D) (c : Cnt) : Counted (.tup [.str "list", nm, c.d, l]) c
/-- the layout of an array's element -/
def cellLay (w : W5) (sg : Bool) (rs : Option (List (Int × Int))) (df : Option Int) : D := .tup [wordD w [⟨some "", 8 * w.size, sg, rs, df⟩]]
def arrayD (nm : Str) (w : W5) (sg : Bool) (c : Cnt) (rs : Option (List (Int × Int))) (df : Option Int) : D := .tup [.str "array", .str nm, .str w.str, .bl sg, c.d, rngD rs, oInt df]
def listD (nm : Str) (c : Cnt) (l : D) : D := .tup [.str "list", .str nm, c.d, l]
/-- a choice's case: its number, its name, its layout, the layout's whole pattern -/
structure Case where
  num : Int
  name : Str
  lay : D
  res : D
def Case.d (c : Case) : D := .tup [.int c.num, .str c.name, c.lay]
def Case.r (c : Case) : D := .tup [.str c.name, c.res]
section
variable (LR : D → D → Prop)
/-- an item of one member that is no word, with the member's entry; LR: the layouts within, with their whole patterns -/
inductive CRes : D → D → Prop where
  | array (nm : Str) (w : W5) (sg : Bool) (c : Cnt) (rs : Option (List (Int × Int))) (df : Option Int) : c.ok → RngOk (8 * w.size) rs →
      CRes (arrayD nm w sg c rs df) (countsD c (setRes (8 * w.size) rs))
  | list (nm : Str) (c : Cnt) (l r : D) : c.ok → LR l r → CRes (listD nm c l) (countsD c r)
  | choice (nm : Str) (w : W5) (cs : List Case) : cs.length ≤ 1000 → (∀ c ∈ cs, LR c.lay c.res) →
      CRes (.tup [.str "choice", .str nm, .str w.str, .tup (cs.map Case.d)]) (.tup [.str "cases", .tup (cs.map Case.r)])
  | record (nm : Str) (l r : D) : LR l r → CRes (.tup [.str "record", .str nm, l]) r
/-- an item without a member -/
inductive Fixed : D → Prop where
  | lit (x : D) : Fixed (.tup [.str "literal", x])
  | res (x : D) : Fixed (.tup [.str "reserved", x])
  | chk (x : D) : Fixed (.tup [.str "check", x])
/-- an item with its members' entries -/
inductive IRes : D → List D → Prop where
  | word (w : W5) (ps : List Part) : ps.length ≤ 1000 → (∀ p ∈ ps, p.ok) → IRes (wordD w ps) ((named ps).map Part.res)
  | comp (it r : D) : CRes LR it r → IRes it [r]
  | fixed (it : D) : Fixed it → IRes it []
/-- a layout with its whole pattern -/
def LStep (l r : D) : Prop := ∃ (its : List D) (rss : List (List D)), l = .tup its ∧ its.length ≤ 1000 ∧ Paired (IRes LR) its rss ∧ r = .tup rss.flatten
end
def LRes : Nat → D → D → Prop
  | 0 => LStep fun _ _ => False
  | n + 1 => LStep (LRes n)
/-- the layout of an array's element, with its whole pattern -/
def LCell (l r : D) : Prop := ∃ (w : W5) (sg : Bool) (rs : Option (List (Int × Int))) (df : Option Int), RngOk (8 * w.size) rs ∧ l = cellLay w sg rs df ∧ r = .tup [setRes (8 * w.size) rs]
end Wp

/-! ### the defs of the text -/
namespace Wp
open PySem PySem.Spec PyProof.Rows L2
abbrev st_word_size : Stmt := topS 2
abbrev N_word_size : List Str := ["word"]
theorem sc_word_size : FnScope N_word_size ["word"] (defScope st_word_size) := ⟨rfl, rfl, rfl, by decide +kernel, rfl, by decide +kernel, by decide +kernel⟩
theorem bd_word_size : BindsAs "word_size" st_word_size ["word"] := fun _ _ _ _ _ _ us hl => match us, hl with | [_], _ => rfl
abbrev st_code_of : Stmt := topS 3
abbrev N_code_of : List Str := ["number", "width"]
theorem sc_code_of : FnScope N_code_of ["number", "width"] (defScope st_code_of) := ⟨rfl, rfl, rfl, by decide +kernel, rfl, by decide +kernel, by decide +kernel⟩
theorem bd_code_of : BindsAs "code_of" st_code_of ["number", "width"] := fun _ _ _ _ _ _ us hl => match us, hl with | [_, _], _ => rfl
abbrev st_fields : Stmt := topS 6
abbrev N_fields : List Str := ["item", "found", "low", "part"]
theorem sc_fields : FnScope N_fields ["item"] (defScope st_fields) := ⟨rfl, rfl, rfl, by decide +kernel, rfl, by decide +kernel, by decide +kernel⟩
theorem bd_fields : BindsAs "fields" st_fields ["item"] := fun _ _ _ _ _ _ us hl => match us, hl with | [_], _ => rfl
abbrev st_slots : Stmt := topS 7
abbrev N_slots : List Str := ["layout", "found", "item", "_", "part"]
theorem sc_slots : FnScope N_slots ["layout"] (defScope st_slots) := ⟨rfl, rfl, rfl, by decide +kernel, rfl, by decide +kernel, by decide +kernel⟩
theorem bd_slots : BindsAs "slots" st_slots ["layout"] := fun _ _ _ _ _ _ us hl => match us, hl with | [_], _ => rfl
abbrev st_count_of : Stmt := topS 8
abbrev N_count_of : List Str := ["item"]
theorem sc_count_of : FnScope N_count_of ["item"] (defScope st_count_of) := ⟨rfl, rfl, rfl, by decide +kernel, rfl, by decide +kernel, by decide +kernel⟩
theorem bd_count_of : BindsAs "count_of" st_count_of ["item"] := fun _ _ _ _ _ _ us hl => match us, hl with | [_], _ => rfl
abbrev st_allowed_numbers : Stmt := topS 9
abbrev N_allowed_numbers : List Str := ["count"]
theorem sc_allowed_numbers : FnScope N_allowed_numbers ["count"] (defScope st_allowed_numbers) := ⟨rfl, rfl, rfl, by decide +kernel, rfl, by decide +kernel, by decide +kernel⟩
theorem bd_allowed_numbers : BindsAs "allowed_numbers" st_allowed_numbers ["count"] := fun _ _ _ _ _ _ us hl => match us, hl with | [_], _ => rfl
abbrev st_element_layout : Stmt := topS 10
abbrev N_element_layout : List Str := ["item", "part"]
theorem sc_element_layout : FnScope N_element_layout ["item"] (defScope st_element_layout) := ⟨rfl, rfl, rfl, by decide +kernel, rfl, by decide +kernel, by decide +kernel⟩
theorem bd_element_layout : BindsAs "element_layout" st_element_layout ["item"] := fun _ _ _ _ _ _ us hl => match us, hl with | [_], _ => rfl
abbrev st_unwrap : Stmt := topS 11
abbrev N_unwrap : List Str := ["item", "row"]
theorem sc_unwrap : FnScope N_unwrap ["item", "row"] (defScope st_unwrap) := ⟨rfl, rfl, rfl, by decide +kernel, rfl, by decide +kernel, by decide +kernel⟩
theorem bd_unwrap : BindsAs "unwrap" st_unwrap ["item", "row"] := fun _ _ _ _ _ _ us hl => match us, hl with | [_, _], _ => rfl
abbrev st_ones : Stmt := topS 13
abbrev N_ones : List Str := ["width"]
theorem sc_ones : FnScope N_ones ["width"] (defScope st_ones) := ⟨rfl, rfl, rfl, by decide +kernel, rfl, by decide +kernel, by decide +kernel⟩
theorem bd_ones : BindsAs "ones" st_ones ["width"] := fun _ _ _ _ _ _ us hl => match us, hl with | [_], _ => rfl
abbrev st_free_bits : Stmt := topS 14
abbrev N_free_bits : List Str := ["known", "width", "k"]
theorem sc_free_bits : FnScope N_free_bits ["known", "width"] (defScope st_free_bits) := ⟨rfl, rfl, rfl, by decide +kernel, rfl, by decide +kernel, by decide +kernel⟩
theorem bd_free_bits : BindsAs "free_bits" st_free_bits ["known", "width"] := fun _ _ _ _ _ _ us hl => match us, hl with | [_, _], _ => rfl
abbrev st_agreement : Stmt := topS 15
abbrev N_agreement : List Str := ["codes", "width", "in_all", "in_some", "code"]
theorem sc_agreement : FnScope N_agreement ["codes", "width"] (defScope st_agreement) := ⟨rfl, rfl, rfl, by decide +kernel, rfl, by decide +kernel, by decide +kernel⟩
theorem bd_agreement : BindsAs "agreement" st_agreement ["codes", "width"] := fun _ _ _ _ _ _ us hl => match us, hl with | [_, _], _ => rfl
abbrev st_set_of : Stmt := topS 16
abbrev N_set_of : List Str := ["numbers", "width", "known", "code", "number"]
theorem sc_set_of : FnScope N_set_of ["numbers", "width"] (defScope st_set_of) := ⟨rfl, rfl, rfl, by decide +kernel, rfl, by decide +kernel, by decide +kernel⟩
theorem bd_set_of : BindsAs "set_of" st_set_of ["numbers", "width"] := fun _ _ _ _ _ _ us hl => match us, hl with | [_, _], _ => rfl
abbrev st_whole_set : Stmt := topS 17
abbrev N_whole_set : List Str := ["part", "low", "high", "number"]
theorem sc_whole_set : FnScope N_whole_set ["part"] (defScope st_whole_set) := ⟨rfl, rfl, rfl, by decide +kernel, rfl, by decide +kernel, by decide +kernel⟩
theorem bd_whole_set : BindsAs "whole_set" st_whole_set ["part"] := fun _ _ _ _ _ _ us hl => match us, hl with | [_], _ => rfl
abbrev st_whole_entry : Stmt := topS 19
abbrev N_whole_entry : List Str := ["slot", "_", "item", "part", "numbers", "entry", "case"]
theorem sc_whole_entry : FnScope N_whole_entry ["slot"] (defScope st_whole_entry) := ⟨rfl, rfl, rfl, by decide +kernel, rfl, by decide +kernel, by decide +kernel⟩
theorem bd_whole_entry : BindsAs "whole_entry" st_whole_entry ["slot"] := fun _ _ _ _ _ _ us hl => match us, hl with | [_], _ => rfl
abbrev st_whole : Stmt := topS 20
abbrev N_whole : List Str := ["layout", "slot"]
theorem sc_whole : FnScope N_whole ["layout"] (defScope st_whole) := ⟨rfl, rfl, rfl, by decide +kernel, rfl, by decide +kernel, by decide +kernel⟩
theorem bd_whole : BindsAs "whole" st_whole ["layout"] := fun _ _ _ _ _ _ us hl => match us, hl with | [_], _ => rfl
abbrev st_law_tape : Stmt := topS 22
abbrev N_law_tape : List Str := ["_law_script", "_law_total", "_law_cell"]
theorem sc_l_tape : FnScope N_law_tape ["_law_script"] (defScope st_law_tape) := ⟨rfl, rfl, rfl, by decide +kernel, rfl, by decide +kernel, by decide +kernel⟩
theorem bd_law_tape : BindsAs "_law_tape" st_law_tape ["_law_script"] := fun _ _ _ _ _ _ us hl => match us, hl with | [_], _ => rfl
abbrev st_law_draw : Stmt := topS 23
abbrev N_law_draw : List Str := ["_law_tape_here", "_law_many", "_law_place", "_law_number"]
theorem sc_l_draw : FnScope N_law_draw ["_law_tape_here", "_law_many"] (defScope st_law_draw) := ⟨rfl, rfl, rfl, by decide +kernel, rfl, by decide +kernel, by decide +kernel⟩
theorem bd_law_draw : BindsAs "_law_draw" st_law_draw ["_law_tape_here", "_law_many"] := fun _ _ _ _ _ _ us hl => match us, hl with | [_, _], _ => rfl
abbrev st_law_name : Stmt := topS 24
abbrev N_law_name : List Str := ["_law_tape_here", "_law_used", "_law_signs", "_law_words", "_law_name_here", "_law_k", "_law_fresh"]
theorem sc_l_name : FnScope N_law_name ["_law_tape_here", "_law_used"] (defScope st_law_name) := ⟨rfl, rfl, rfl, by decide +kernel, rfl, by decide +kernel, by decide +kernel⟩
theorem bd_law_name : BindsAs "_law_name" st_law_name ["_law_tape_here", "_law_used"] := fun _ _ _ _ _ _ us hl => match us, hl with | [_, _], _ => rfl
abbrev st_law_runs : Stmt := topS 25
abbrev N_law_runs : List Str := ["_law_numbers", "_law_rows", "_law_number"]
theorem sc_l_runs : FnScope N_law_runs ["_law_numbers"] (defScope st_law_runs) := ⟨rfl, rfl, rfl, by decide +kernel, rfl, by decide +kernel, by decide +kernel⟩
theorem bd_law_runs : BindsAs "_law_runs" st_law_runs ["_law_numbers"] := fun _ _ _ _ _ _ us hl => match us, hl with | [_], _ => rfl
abbrev st_law_listed : Stmt := topS 26
abbrev N_law_listed : List Str := ["_law_signed", "_law_width", "_law_ranges_here", "_law_lowest", "_law_found", "_law_pair"]
theorem sc_l_listed : FnScope N_law_listed ["_law_signed", "_law_width", "_law_ranges_here"] (defScope st_law_listed) := ⟨rfl, rfl, rfl, by decide +kernel, rfl, by decide +kernel, by decide +kernel⟩
theorem bd_law_listed : BindsAs "_law_listed" st_law_listed ["_law_signed", "_law_width", "_law_ranges_here"] := fun _ _ _ _ _ _ us hl => match us, hl with | [_, _, _], _ => rfl
abbrev st_law_same : Stmt := topS 27
abbrev N_law_same : List Str := ["_law_told", "_law_due", "_law_k"]
theorem sc_l_same : FnScope N_law_same ["_law_told", "_law_due"] (defScope st_law_same) := ⟨rfl, rfl, rfl, by decide +kernel, rfl, by decide +kernel, by decide +kernel⟩
theorem bd_law_same : BindsAs "_law_same" st_law_same ["_law_told", "_law_due"] := fun _ _ _ _ _ _ us hl => match us, hl with | [_, _], _ => rfl
abbrev st_law_size : Stmt := topS 28
abbrev N_law_size : List Str := ["_law_word"]
theorem sc_l_size : FnScope N_law_size ["_law_word"] (defScope st_law_size) := ⟨rfl, rfl, rfl, by decide +kernel, rfl, by decide +kernel, by decide +kernel⟩
theorem bd_law_size : BindsAs "_law_size" st_law_size ["_law_word"] := fun _ _ _ _ _ _ us hl => match us, hl with | [_], _ => rfl
abbrev st_law_any_word : Stmt := topS 29
abbrev N_law_any_word : List Str := ["_law_tape_here"]
theorem sc_l_any_word : FnScope N_law_any_word ["_law_tape_here"] (defScope st_law_any_word) := ⟨rfl, rfl, rfl, by decide +kernel, rfl, by decide +kernel, by decide +kernel⟩
theorem bd_law_any_word : BindsAs "_law_any_word" st_law_any_word ["_law_tape_here"] := fun _ _ _ _ _ _ us hl => match us, hl with | [_], _ => rfl
abbrev st_law_a_count : Stmt := topS 30
abbrev N_law_a_count : List Str := ["_law_tape_here", "_law_least", "_law_greatest", "_law_share"]
theorem sc_l_a_count : FnScope N_law_a_count ["_law_tape_here", "_law_least", "_law_greatest"] (defScope st_law_a_count) := ⟨rfl, rfl, rfl, by decide +kernel, rfl, by decide +kernel, by decide +kernel⟩
theorem bd_law_a_count : BindsAs "_law_a_count" st_law_a_count ["_law_tape_here", "_law_least", "_law_greatest"] := fun _ _ _ _ _ _ us hl => match us, hl with | [_, _, _], _ => rfl
abbrev st_law_bounds : Stmt := topS 31
abbrev N_law_bounds : List Str := ["_law_count"]
theorem sc_l_bounds : FnScope N_law_bounds ["_law_count"] (defScope st_law_bounds) := ⟨rfl, rfl, rfl, by decide +kernel, rfl, by decide +kernel, by decide +kernel⟩
theorem bd_law_bounds : BindsAs "_law_bounds" st_law_bounds ["_law_count"] := fun _ _ _ _ _ _ us hl => match us, hl with | [_], _ => rfl
abbrev st_law_a_field : Stmt := topS 32
abbrev N_law_a_field : List Str := ["_law_tape_here", "_law_widths", "_law_most", "_law_width", "_law_signed"]
theorem sc_l_a_field : FnScope N_law_a_field ["_law_tape_here", "_law_widths", "_law_most"] (defScope st_law_a_field) := ⟨rfl, rfl, rfl, by decide +kernel, rfl, by decide +kernel, by decide +kernel⟩
theorem bd_law_a_field : BindsAs "_law_a_field" st_law_a_field ["_law_tape_here", "_law_widths", "_law_most"] := fun _ _ _ _ _ _ us hl => match us, hl with | [_, _, _], _ => rfl
abbrev st_law_ranges : Stmt := topS 33
abbrev N_law_ranges : List Str := ["_law_tape_here", "_law_width", "_law_signed", "_law_most", "_law_span", "_law_at", "_law_numbers", "_law_k", "_law_lowest", "_law_number"]
theorem sc_l_ranges : FnScope N_law_ranges ["_law_tape_here", "_law_width", "_law_signed", "_law_most"] (defScope st_law_ranges) := ⟨rfl, rfl, rfl, by decide +kernel, rfl, by decide +kernel, by decide +kernel⟩
theorem bd_law_ranges : BindsAs "_law_ranges" st_law_ranges ["_law_tape_here", "_law_width", "_law_signed", "_law_most"] := fun _ _ _ _ _ _ us hl => match us, hl with | [_, _, _, _], _ => rfl
abbrev st_law_a_number : Stmt := topS 34
abbrev N_law_a_number : List Str := ["_law_tape_here", "_law_width", "_law_signed", "_law_ranges_here", "_law_pair", "_law_code"]
theorem sc_l_a_number : FnScope N_law_a_number ["_law_tape_here", "_law_width", "_law_signed", "_law_ranges_here"] (defScope st_law_a_number) := ⟨rfl, rfl, rfl, by decide +kernel, rfl, by decide +kernel, by decide +kernel⟩
theorem bd_law_a_number : BindsAs "_law_a_number" st_law_a_number ["_law_tape_here", "_law_width", "_law_signed", "_law_ranges_here"] := fun _ _ _ _ _ _ us hl => match us, hl with | [_, _, _, _], _ => rfl
abbrev st_law_part : Stmt := topS 35
abbrev N_law_part : List Str := ["_law_tape_here", "_law_used", "_law_field", "_law_default"]
theorem sc_l_part : FnScope N_law_part ["_law_tape_here", "_law_used", "_law_field"] (defScope st_law_part) := ⟨rfl, rfl, rfl, by decide +kernel, rfl, by decide +kernel, by decide +kernel⟩
theorem bd_law_part : BindsAs "_law_part" st_law_part ["_law_tape_here", "_law_used", "_law_field"] := fun _ _ _ _ _ _ us hl => match us, hl with | [_, _, _], _ => rfl
abbrev st_law_case_numbers : Stmt := topS 36
abbrev N_law_case_numbers : List Str := ["_law_tape_here", "_law_word", "_law_many", "_law_size_here", "_law_steps", "_law_step", "_law_base", "_law_k"]
theorem sc_l_case_numbers : FnScope N_law_case_numbers ["_law_tape_here", "_law_word", "_law_many"] (defScope st_law_case_numbers) := ⟨rfl, rfl, rfl, by decide +kernel, rfl, by decide +kernel, by decide +kernel⟩
theorem bd_law_case_numbers : BindsAs "_law_case_numbers" st_law_case_numbers ["_law_tape_here", "_law_word", "_law_many"] := fun _ _ _ _ _ _ us hl => match us, hl with | [_, _, _], _ => rfl
abbrev st_law_not_empty : Stmt := topS 37
abbrev N_law_not_empty : List Str := ["_law_tape_here", "_law_items", "_law_item"]
theorem sc_l_not_empty : FnScope N_law_not_empty ["_law_tape_here", "_law_items"] (defScope st_law_not_empty) := ⟨rfl, rfl, rfl, by decide +kernel, rfl, by decide +kernel, by decide +kernel⟩
theorem bd_law_not_empty : BindsAs "_law_not_empty" st_law_not_empty ["_law_tape_here", "_law_items"] := fun _ _ _ _ _ _ us hl => match us, hl with | [_, _], _ => rfl
abbrev st_law_rich : Stmt := topS 38
abbrev N_law_rich : List Str := ["_law_tape_here", "_law_depth", "_law_room", "_law_items", "_law_spent", "_law_used", "_law_k", "_law_told"]
theorem sc_l_rich : FnScope N_law_rich ["_law_tape_here", "_law_depth", "_law_room"] (defScope st_law_rich) := ⟨rfl, rfl, rfl, by decide +kernel, rfl, by decide +kernel, by decide +kernel⟩
theorem bd_law_rich : BindsAs "_law_rich" st_law_rich ["_law_tape_here", "_law_depth", "_law_room"] := fun _ _ _ _ _ _ us hl => match us, hl with | [_, _, _], _ => rfl
abbrev st_law_rich_item : Stmt := topS 39
abbrev N_law_rich_item : List Str := ["_law_tape_here", "_law_used", "_law_depth", "_law_room", "_law_sort", "_law_told", "_law_greatest", "_law_count", "_law_field", "_law_word", "_law_default"]
theorem sc_l_rich_item : FnScope N_law_rich_item ["_law_tape_here", "_law_used", "_law_depth", "_law_room"] (defScope st_law_rich_item) := ⟨rfl, rfl, rfl, by decide +kernel, rfl, by decide +kernel, by decide +kernel⟩
theorem bd_law_rich_item : BindsAs "_law_rich_item" st_law_rich_item ["_law_tape_here", "_law_used", "_law_depth", "_law_room"] := fun _ _ _ _ _ _ us hl => match us, hl with | [_, _, _, _], _ => rfl
abbrev st_law_fixed : Stmt := topS 40
abbrev N_law_fixed : List Str := ["_law_tape_here", "_law_share", "_law_many", "_law_k"]
theorem sc_l_fixed : FnScope N_law_fixed ["_law_tape_here"] (defScope st_law_fixed) := ⟨rfl, rfl, rfl, by decide +kernel, rfl, by decide +kernel, by decide +kernel⟩
theorem bd_law_fixed : BindsAs "_law_fixed" st_law_fixed ["_law_tape_here"] := fun _ _ _ _ _ _ us hl => match us, hl with | [_], _ => rfl
abbrev st_law_rich_word : Stmt := topS 41
abbrev N_law_rich_word : List Str := ["_law_tape_here", "_law_used", "_law_word", "_law_left", "_law_parts", "_law_k", "_law_widths", "_law_width"]
theorem sc_l_rich_word : FnScope N_law_rich_word ["_law_tape_here", "_law_used"] (defScope st_law_rich_word) := ⟨rfl, rfl, rfl, by decide +kernel, rfl, by decide +kernel, by decide +kernel⟩
theorem bd_law_rich_word : BindsAs "_law_rich_word" st_law_rich_word ["_law_tape_here", "_law_used"] := fun _ _ _ _ _ _ us hl => match us, hl with | [_, _], _ => rfl
abbrev st_law_rich_choice : Stmt := topS 42
abbrev N_law_rich_choice : List Str := ["_law_tape_here", "_law_name_here", "_law_depth", "_law_room", "_law_word", "_law_many", "_law_alike", "_law_told", "_law_cases", "_law_names", "_law_spent", "_law_number"]
theorem sc_l_rich_choice : FnScope N_law_rich_choice ["_law_tape_here", "_law_name_here", "_law_depth", "_law_room"] (defScope st_law_rich_choice) := ⟨rfl, rfl, rfl, by decide +kernel, rfl, by decide +kernel, by decide +kernel⟩
theorem bd_law_rich_choice : BindsAs "_law_rich_choice" st_law_rich_choice ["_law_tape_here", "_law_name_here", "_law_depth", "_law_room"] := fun _ _ _ _ _ _ us hl => match us, hl with | [_, _, _, _], _ => rfl
abbrev st_law_kinds : Stmt := topS 43
abbrev N_law_kinds : List Str := ["_law_items", "_law_kinds_here", "_law_item", "_law_part_here"]
theorem sc_l_kinds : FnScope N_law_kinds ["_law_items"] (defScope st_law_kinds) := ⟨rfl, rfl, rfl, by decide +kernel, rfl, by decide +kernel, by decide +kernel⟩
theorem bd_law_kinds : BindsAs "_law_kinds" st_law_kinds ["_law_items"] := fun _ _ _ _ _ _ us hl => match us, hl with | [_], _ => rfl
abbrev st_law_set : Stmt := topS 44
abbrev N_law_set : List Str := ["_law_numbers", "_law_width", "_law_power", "_law_both", "_law_some", "_law_number", "_law_code", "_law_free", "_law_many", "_law_k"]
theorem sc_l_set : FnScope N_law_set ["_law_numbers", "_law_width"] (defScope st_law_set) := ⟨rfl, rfl, rfl, by decide +kernel, rfl, by decide +kernel, by decide +kernel⟩
theorem bd_law_set : BindsAs "_law_set" st_law_set ["_law_numbers", "_law_width"] := fun _ _ _ _ _ _ us hl => match us, hl with | [_, _], _ => rfl
abbrev st_law_every : Stmt := topS 45
abbrev N_law_every : List Str := ["_law_width", "_law_signed", "_law_ranges_here"]
theorem sc_l_every : FnScope N_law_every ["_law_width", "_law_signed", "_law_ranges_here"] (defScope st_law_every) := ⟨rfl, rfl, rfl, by decide +kernel, rfl, by decide +kernel, by decide +kernel⟩
theorem bd_law_every : BindsAs "_law_every" st_law_every ["_law_width", "_law_signed", "_law_ranges_here"] := fun _ _ _ _ _ _ us hl => match us, hl with | [_, _, _], _ => rfl
abbrev st_law_full : Stmt := topS 46
abbrev N_law_full : List Str := ["_law_items", "_law_kind"]
theorem sc_l_full : FnScope N_law_full ["_law_items"] (defScope st_law_full) := ⟨rfl, rfl, rfl, by decide +kernel, rfl, by decide +kernel, by decide +kernel⟩
theorem bd_law_full : BindsAs "_law_full" st_law_full ["_law_items"] := fun _ _ _ _ _ _ us hl => match us, hl with | [_], _ => rfl
abbrev st_law_full_of : Stmt := topS 47
abbrev N_law_full_of : List Str := ["_law_kind", "_law_entry", "_law_ends", "_law_case", "_law_k"]
theorem sc_l_full_of : FnScope N_law_full_of ["_law_kind"] (defScope st_law_full_of) := ⟨rfl, rfl, rfl, by decide +kernel, rfl, by decide +kernel, by decide +kernel⟩
theorem bd_law_full_of : BindsAs "_law_full_of" st_law_full_of ["_law_kind"] := fun _ _ _ _ _ _ us hl => match us, hl with | [_], _ => rfl
abbrev st_law : Stmt := topS 48
abbrev N_law : List Str := ["_law_script", "_law_tape_here", "_law_layout"]
theorem sc_law : FnScope N_law ["_law_script"] (defScope st_law) := ⟨rfl, rfl, rfl, by decide +kernel, rfl, by decide +kernel, by decide +kernel⟩
theorem bd_law : BindsAs "law" st_law ["_law_script"] := fun _ _ _ _ _ _ us hl => match us, hl with | [_], _ => rfl
end Wp

namespace Wp
open PySem PySem.Spec PyProof.Rows L2
section
variable {P : Program} {w : World} {K : PySem.W.Frag} {mg : Str → Option Value} {base : Heap} {dW aC : Addr}

/-! ### word_size, code_of, count_of, allowed_numbers, element_layout, unwrap, ones -/
def sp_word_size : Sp := fun vs H Q _ => ∃ w5 : W5, vs = [.str w5.str] ∧ Q (.int w5.size) H
theorem ok_word_size (T : Txt w K mg dW aC) (F : Dn K mg "word_size" st_word_size) : Cal P w K mg base 1 "word_size" sp_word_size := by
  refine cal_mk F sc_word_size bd_word_size (fun vs H Q E h => ?_) (fun f cdv A outer s H vs Q E hr h => ?_)
  · obtain ⟨w5, rfl, _⟩ := h
    rfl
  obtain ⟨w5, rfl, q⟩ := h
  refine ⟨_, (pss_one (ps_ret (pe_ix ix_kdict (pe_glob (v := .ref _) rfl T.g_WORD_SIZES rfl) (pv 0) (fun _ _ => rfl)))), ?_⟩
  exact ⟨_, rfl, dW, w5.str, _, rfl, rfl, T.kd w5, q⟩
def sp_code_of : Sp := fun vs H Q _ => ∃ (n : Int) (k : Nat), vs = [.int n, .int k] ∧ k ≤ 100 ∧ Q (.int (codeOf n k)) H
theorem ok_code_of (F : Dn K mg "code_of" st_code_of) : Cal P w K mg base 1 "code_of" sp_code_of := by
  refine cal_mk F sc_code_of bd_code_of (fun vs H Q E h => ?_) (fun f cdv A outer s H vs Q E hr h => ?_)
  · obtain ⟨n, k, rfl, _⟩ := h
    rfl
  obtain ⟨n, k, rfl, hk, q⟩ := h
  refine ⟨_, (pss_cons (ps_if (pt_cmpR op_lt (pv 0) pe_int (nomark _))
      (pss_one (ps_ret (pe_op op_add (pv 0) (pe_op op_shl pe_int (pv 1)))))
      pss_nil)
    (pss_one (ps_ret (pv 0)))), ?_⟩
  refine ⟨_, rfl, _, _, rfl, rfl, _, rfl, ite_by (fun c => ?_) (fun c => ?_)⟩
  · refine ⟨_, rfl, _, rfl, _, _, rfl, rfl, ⟨by omega, by omega, by decide⟩, _, _, rfl, rfl, ?_⟩
    have e : codeOf n k = n + 1 * 2 ^ (k : Int).toNat := by
      unfold codeOf
      rw [if_pos c, Int.one_mul, Int.toNat_natCast]
    exact q_int (Q := Q) (H := H) e.symm q
  · refine ⟨_, rfl, ?_⟩
    have e : codeOf n k = n := by
      unfold codeOf
      rw [if_neg c]
    exact q_int (Q := Q) (H := H) e.symm q
def sp_ones : Sp := fun vs H Q _ => ∃ k : Nat, vs = [.int k] ∧ k ≤ 100 ∧ Q (.int (2 ^ k - 1)) H
theorem ok_ones (F : Dn K mg "ones" st_ones) : Cal P w K mg base 1 "ones" sp_ones := by
  refine cal_mk F sc_ones bd_ones (fun vs H Q E h => ?_) (fun f cdv A outer s H vs Q E hr h => ?_)
  · obtain ⟨k, rfl, _⟩ := h
    rfl
  obtain ⟨k, rfl, hk, q⟩ := h
  refine ⟨_, (pss_one (ps_ret (pe_op op_sub (pe_op op_shl pe_int (pv 0)) pe_int))), ?_⟩
  refine ⟨_, rfl, _, _, rfl, rfl, ⟨by omega, by omega, by decide⟩, _, _, rfl, rfl, ?_⟩
  have e : (1 : Int) * 2 ^ (k : Int).toNat - 1 = 2 ^ k - 1 := by rw [Int.one_mul, Int.toNat_natCast]
  exact q_int (Q := Q) (H := H) e q
end
end Wp

namespace Wp
open PySem PySem.Spec PyProof.Rows L2
section
variable {P : Program} {w : World} {K : PySem.W.Frag} {mg : Str → Option Value} {base : Heap} {dW aC : Addr}

/-! ### count_of, allowed_numbers, element_layout, unwrap -/
def sp_count_of : Sp := fun vs H Q _ => ∃ (v : V) (it : D) (c : Cnt), vs = [v] ∧ Has H v it ∧ Counted it c ∧ ∀ u, Has H u c.d → Q u H
theorem ok_count_of (F : Dn K mg "count_of" st_count_of) : Cal P w K mg base 1 "count_of" sp_count_of := by
  refine cal_mk F sc_count_of bd_count_of (fun vs H Q E h => ?_) (fun f cdv A outer s H vs Q E hr h => ?_)
  · obtain ⟨v, it, c, rfl, _⟩ := h
    rfl
  obtain ⟨v, it, c, rfl, hv, hc, q⟩ := h
  refine ⟨_, (pss_cons (ps_if (pt_cmpR op_eq (pe_ix ix_tup (pv 0) pe_int (fun _ _ => rfl)) pe_str (nomark _))
      (pss_one (ps_ret (pe_ix ix_tup (pv 0) pe_int (fun _ _ => rfl))))
      pss_nil)
    (pss_one (ps_ret (pe_ix ix_tup (pv 0) pe_int (fun _ _ => rfl))))), ?_⟩
  cases hc with
  | array nm ws sg rs df =>
    obtain ⟨a, us, rfl, ha, l⟩ := hv.tupI
    obtain _ | ⟨⟨⟩, _ | ⟨h1, _ | ⟨h2, _ | ⟨h3, _ | ⟨h4, l⟩⟩⟩⟩⟩ := l
    refine ⟨_, rfl, a, _, 0, _, rfl, rfl, SqT.has ha, i0, rfl, _, rfl, ite_yes rfl ?_⟩
    exact ⟨_, rfl, a, _, 4, _, rfl, rfl, SqT.has ha, i4, q _ h4⟩
  | list nm l0 =>
    obtain ⟨a, us, rfl, ha, l⟩ := hv.tupI
    obtain _ | ⟨⟨⟩, _ | ⟨h1, _ | ⟨h2, l⟩⟩⟩ := l
    refine ⟨_, rfl, a, _, 0, _, rfl, rfl, SqT.has ha, i0, rfl, _, rfl, ite_no (by decide +kernel) ?_⟩
    exact ⟨_, rfl, a, _, 2, _, rfl, rfl, SqT.has ha, i2, q _ h2⟩
theorem rg_run (lo hi : Nat) : rgV (lo : Int) ((hi : Int) + 1) = (runV ((lo : Int), (hi : Int))).map V.int := by
  unfold rgV runV
  rw [List.map_map]
  rfl
def sp_allowed_numbers : Sp := fun vs H Q _ => ∃ (v : V) (c : Cnt), vs = [v] ∧ Has H v c.d ∧ c.ok ∧ ∀ p H', Same H H' → H p = none → H' p = some (.lst (c.nums.map V.int)) → Q (.ref p) H'
theorem ok_allowed_numbers (T : Txt w K mg dW aC) (F : Dn K mg "allowed_numbers" st_allowed_numbers) : Cal P w K mg base 1 "allowed_numbers" sp_allowed_numbers := by
  refine cal_mk F sc_allowed_numbers bd_allowed_numbers (fun vs H Q E h => ?_) (fun f cdv A outer s H vs Q E hr h => ?_)
  · obtain ⟨v, c, rfl, _⟩ := h
    rfl
  obtain ⟨v, c, rfl, hv, ⟨k1, k2, k3⟩, q⟩ := h
  refine ⟨_, (pss_cons (ps_if (pt_cmpR op_eq (pe_ix ix_tup (pv 0) pe_int (fun _ _ => rfl)) pe_str (nomark _))
      (pss_one (ps_ret (pe_lst (pa_cons (pe_ix ix_tup (pv 0) pe_int (fun _ _ => rfl)) pa_nil))))
      pss_nil)
    (pss_cons (ps_if (pt_cmpR op_eq (pe_ix ix_tup (pv 0) pe_int (fun _ _ => rfl)) pe_str (nomark _))
      (pss_one (ps_ret (pe_listRg rfl (by rfl) T.b_list (prg_2 (by rfl) T.b_range (pe_ix ix_tup (pv 0) pe_int (fun _ _ => rfl)) (pe_op op_add (pe_ix ix_tup (pv 0) pe_int (fun _ _ => rfl)) pe_int)))))
      pss_nil)
    (pss_one (ps_ret (pe_listRg rfl (by rfl) T.b_list (prg_1 (by rfl) T.b_range (pe_op op_add (pe_ix ix_tup (pv 0) pe_int (fun _ _ => rfl)) pe_int))))))), ?_⟩
  cases c with
  | exactly n =>
    obtain ⟨a, us, rfl, ha, l⟩ := hv.tupI
    obtain _ | ⟨⟨⟩, _ | ⟨⟨⟩, l⟩⟩ := l
    refine ⟨_, rfl, a, _, 0, _, rfl, rfl, SqT.has ha, i0, rfl, _, rfl, ite_yes rfl ?_⟩
    refine ⟨_, rfl, a, _, 1, _, rfl, rfl, SqT.has ha, i1, szl _, fun p hp => ?_⟩
    refine q p _ (same_new hp) hp ?_
    rw [upd_same]
    have e : (Cnt.exactly n).nums = [(n : Int)] := by
      show runV ((n : Int), (n : Int)) = [(n : Int)]
      unfold runV
      rw [show ((n : Int) + 1 - (n : Int)).toNat = 1 by omega]
      simp
    rw [e]
    rfl
  | counted w5 b c =>
    obtain ⟨a, us, rfl, ha, l⟩ := hv.tupI
    obtain _ | ⟨⟨⟩, _ | ⟨⟨⟩, _ | ⟨⟨⟩, _ | ⟨⟨⟩, l⟩⟩⟩⟩ := l
    have k1 : b ≤ c := k1
    have k3 : c ≤ 60 := k3
    refine ⟨_, rfl, a, _, 0, _, rfl, rfl, SqT.has ha, i0, rfl, _, rfl, ite_no (by decide +kernel) ?_⟩
    refine ⟨_, rfl, a, _, 0, _, rfl, rfl, SqT.has ha, i0, rfl, _, rfl, ite_yes rfl ?_⟩
    refine ⟨_, rfl, a, _, 2, _, rfl, rfl, SqT.has ha, i2, _, rfl, a, _, 3, _, rfl, rfl, SqT.has ha, i3, _, _, rfl, rfl, _, _, rfl, rfl, ?_⟩
    refine ⟨RgOk.of_le (by omega) (by omega) (by omega) (by omega), fun p hp => ?_⟩
    refine q p _ (same_new hp) hp ?_
    rw [upd_same, rg_run]
    rfl
  | marked n =>
    obtain ⟨a, us, rfl, ha, l⟩ := hv.tupI
    obtain _ | ⟨⟨⟩, _ | ⟨⟨⟩, l⟩⟩ := l
    have k3 : n ≤ 60 := k3
    refine ⟨_, rfl, a, _, 0, _, rfl, rfl, SqT.has ha, i0, rfl, _, rfl, ite_no (by decide +kernel) ?_⟩
    refine ⟨_, rfl, a, _, 0, _, rfl, rfl, SqT.has ha, i0, rfl, _, rfl, ite_no (by decide +kernel) ?_⟩
    refine ⟨_, rfl, a, _, 1, _, rfl, rfl, SqT.has ha, i1, _, _, rfl, rfl, _, rfl, ?_⟩
    refine ⟨RgOk.of_le (by omega) (by omega) (by omega) (by omega), fun p hp => ?_⟩
    refine q p _ (same_new hp) hp ?_
    rw [upd_same]
    have e := rg_run 0 n
    rw [show ((0 : Nat) : Int) = 0 from rfl] at e
    rw [e]
    rfl
def sp_element_layout : Sp := fun vs H Q _ => (∃ (v : V) (nm : Str) (w5 : W5) (sg : Bool) (c : Cnt) (rs : Option (List (Int × Int))) (df : Option Int), vs = [v] ∧ Has H v (arrayD nm w5 sg c rs df) ∧ ∀ u H', Same H H' → Has H' u (cellLay w5 sg rs df) → Q u H') ∨
  (∃ (v : V) (nm : Str) (c : Cnt) (l : D), vs = [v] ∧ Has H v (listD nm c l) ∧ ∀ u, Has H u l → Q u H)
theorem ok_element_layout (F : Dn K mg "element_layout" st_element_layout) (C_word_size : Cal P w K mg base 1 "word_size" sp_word_size) : Cal P w K mg base 2 "element_layout" sp_element_layout := by
  refine cal_mk F sc_element_layout bd_element_layout (fun vs H Q E h => ?_) (fun f cdv A outer s H vs Q E hr h => ?_)
  · rcases h with ⟨v, _, _, _, _, _, _, rfl, _⟩ | ⟨v, _, _, _, rfl, _⟩ <;> rfl
  refine ⟨_, (pss_cons (ps_if (pt_cmpR op_eq (pe_ix ix_tup (pv 0) pe_int (fun _ _ => rfl)) pe_str (nomark _))
      (pss_cons (ps_set (i := 1) sc_element_layout.nd rfl (Or.inl rfl) (pe_tup (pa_cons pe_str (pa_cons (pe_op op_mul pe_int (pe_k C_word_size hr (by decide) (by rfl) (pa_cons (pe_ix ix_tup (pv 0) pe_int (fun _ _ => rfl)) pa_nil))) (pa_cons (pe_ix ix_tup (pv 0) pe_int (fun _ _ => rfl)) (pa_cons (pe_ix ix_tup (pv 0) pe_int (fun _ _ => rfl)) (pa_cons (pe_ix ix_tup (pv 0) pe_int (fun _ _ => rfl)) pa_nil)))))))
      (pss_one (ps_ret (pe_tup (pa_cons (pe_tup (pa_cons pe_str (pa_cons (pe_ix ix_tup (pv 0) pe_int (fun _ _ => rfl)) (pa_cons (pe_tup (pa_cons (pv 1) pa_nil)) pa_nil)))) pa_nil)))))
      pss_nil)
    (pss_one (ps_ret (pe_ix ix_tup (pv 0) pe_int (fun _ _ => rfl))))), ?_⟩
  rcases h with ⟨v, nm, w5, sg, c, rs, df, rfl, hv, q⟩ | ⟨v, nm, c, l0, rfl, hv, q⟩
  · obtain ⟨a, us, rfl, ha, l⟩ := hv.tupI
    obtain _ | ⟨⟨⟩, _ | ⟨⟨⟩, _ | ⟨⟨⟩, _ | ⟨⟨⟩, _ | ⟨h4, _ | ⟨h5, _ | ⟨h6, l⟩⟩⟩⟩⟩⟩⟩ := l
    refine ⟨_, rfl, a, _, 0, _, rfl, rfl, SqT.has ha, i0, rfl, _, rfl, ite_yes rfl ?_⟩
    refine ⟨_, rfl, a, _, 2, _, rfl, rfl, SqT.has ha, i2, w5, rfl, _, _, rfl, rfl, .inl ⟨by decide, by decide⟩, ?_⟩
    refine ⟨_, rfl, a, _, 3, _, rfl, rfl, SqT.has ha, i3, ?_⟩
    refine ⟨_, rfl, a, _, 5, _, rfl, rfl, SqT.has ha, i5, ?_⟩
    refine ⟨_, rfl, a, _, 6, _, rfl, rfl, SqT.has ha, i6, szl _, fun p1 n1 => ?_⟩
    have e : ((8 * w5.size : Nat) : Int) = 8 * (w5.size : Int) := by omega
    refine ⟨_, rfl, a, _, 2, _, rfl, rfl, SqT.has (same_new n1 _ _ ha), i2, ?_⟩
    refine ⟨_, rfl, szl _, fun p2 n2 => ⟨szl _, fun p3 n3 => ⟨szl _, fun p4 n4 => ?_⟩⟩⟩
    refine q _ _ ((((same_new n1).trans (same_new n2)).trans (same_new n3)).trans (same_new n4)) ?_
    refine Has.new (.cons (Has.new (.cons (.str _) (.cons (.str _) (.cons (Has.new (.cons ?_ .nil) n2) .nil))) n3) .nil) n4
    show Has _ _ (.tup [.str "", .int ((8 * w5.size : Nat) : Int), .bl sg, rngD rs, oInt df])
    rw [e]
    exact Has.new (.cons (.str _) (.cons (.int _) (.cons (.bl _) (.cons h5 (.cons h6 .nil))))) n1
  · obtain ⟨a, us, rfl, ha, l⟩ := hv.tupI
    obtain _ | ⟨⟨⟩, _ | ⟨⟨⟩, _ | ⟨h2, _ | ⟨h3, l⟩⟩⟩⟩ := l
    refine ⟨_, rfl, a, _, 0, _, rfl, rfl, SqT.has ha, i0, rfl, _, rfl, ite_no (by decide +kernel) ?_⟩
    exact ⟨_, rfl, a, _, 3, _, rfl, rfl, SqT.has ha, i3, q _ h3⟩
def sp_unwrap : Sp := fun vs H Q _ => (∃ (v u : V) (ds : List D) (r : D), vs = [v, u] ∧ Has H v (.tup (.str "array" :: ds)) ∧ Has H u (.tup [r]) ∧ ∀ x, Has H x r → Q x H) ∨
  (∃ (v u : V) (ds : List D), vs = [v, u] ∧ Has H v (.tup (.str "list" :: ds)) ∧ Q u H)
theorem ok_unwrap (F : Dn K mg "unwrap" st_unwrap) : Cal P w K mg base 1 "unwrap" sp_unwrap := by
  refine cal_mk F sc_unwrap bd_unwrap (fun vs H Q E h => ?_) (fun f cdv A outer s H vs Q E hr h => ?_)
  · rcases h with ⟨v, _, _, _, rfl, _⟩ | ⟨v, _, _, rfl, _⟩ <;> rfl
  refine ⟨_, (pss_cons (ps_if (pt_cmpR op_eq (pe_ix ix_tup (pv 0) pe_int (fun _ _ => rfl)) pe_str (nomark _))
      (pss_one (ps_ret (pe_ix ix_tup (pv 1) pe_int (fun _ _ => rfl))))
      pss_nil)
    (pss_one (ps_ret (pv 1)))), ?_⟩
  rcases h with ⟨v, u, ds, r, rfl, hv, hu, q⟩ | ⟨v, u, ds, rfl, hv, q⟩
  · obtain ⟨a, us, rfl, ha, l⟩ := hv.tupI
    obtain _ | ⟨⟨⟩, l⟩ := l
    obtain ⟨b, ws, rfl, hb, l2⟩ := hu.tupI
    obtain ⟨x, rfl, hx⟩ := inv1 l2
    refine ⟨_, rfl, a, _, 0, _, rfl, rfl, SqT.has ha, i0, rfl, _, rfl, ite_yes rfl ?_⟩
    exact ⟨_, rfl, b, _, 0, _, rfl, rfl, SqT.has hb, i0, q _ hx⟩
  · obtain ⟨a, us, rfl, ha, l⟩ := hv.tupI
    obtain _ | ⟨⟨⟩, l⟩ := l
    refine ⟨_, rfl, a, _, 0, _, rfl, rfl, SqT.has ha, i0, rfl, _, rfl, ite_no (by decide +kernel) ?_⟩
    exact ⟨_, rfl, q⟩
end
end Wp

namespace Wp
open PySem PySem.Spec PyProof.Rows L2
section
variable {P : Program} {w : World} {K : PySem.W.Frag} {mg : Str → Option Value} {base : Heap} {dW aC : Addr}

/-! ### fields, slots -/
def FldR (d : D) (q : Part) : Prop := ∃ low : Int, d = .tup [.int low, q.d]
def sp_fields : Sp := fun vs H Q _ => ∃ (v : V) (w5 : W5) (ps : List Part), vs = [v] ∧ Has H v (wordD w5 ps) ∧ ps.length ≤ 1000 ∧
  ∀ p us ds H', Same H H' → H p = none → H' p = some (.lst us) → HasL H' us ds → Paired FldR ds (named ps) → Q (.ref p) H'
theorem named_snoc (ps : List Part) (i : Nat) (q : Part) (h : ps[i]? = some q) : named (ps.take (i + 1)) = named (ps.take i) ++ (if q.name.isSome = true then [q] else []) := by
  unfold named
  rw [List.take_add_one, h, List.filter_append]
  congr 1
  cases hq : q.name <;> simp [hq]
theorem paired_len {α β : Type} {R : α → β → Prop} {xs : List α} {ys : List β} (h : Paired R xs ys) : xs.length = ys.length := Paired.length h
theorem named_le (ps : List Part) : (named ps).length ≤ ps.length := List.length_filter_le _ _
theorem ok_fields (F : Dn K mg "fields" st_fields) (C_word_size : Cal P w K mg base 1 "word_size" sp_word_size) : Cal P w K mg base 2 "fields" sp_fields := by
  refine cal_mk F sc_fields bd_fields (fun vs H Q E h => ?_) (fun f cdv A outer s H vs Q E hr h => ?_)
  · obtain ⟨v, w5, ps, rfl, _⟩ := h
    rfl
  obtain ⟨v, w5, ps, rfl, hv, hps, q⟩ := h
  refine ⟨_, (pss_cons (ps_set (i := 1) sc_fields.nd rfl (Or.inl rfl) (pe_lst pa_nil))
    (pss_cons (ps_set (i := 2) sc_fields.nd rfl (Or.inl rfl) (pe_op op_mul pe_int (pe_k C_word_size hr (by decide) (by rfl) (pa_cons (pe_ix ix_tup (pv 0) pe_int (fun _ _ => rfl)) pa_nil))))
    (pss_cons (ps_for PassesOwn.never rfl (pi_tup (pe_ix ix_tup (pv 0) pe_int (fun _ _ => rfl))) (pg_name (i := 3) sc_fields.nd rfl (Or.inl rfl))
      (pss_cons (ps_set (i := 2) sc_fields.nd rfl (Or.inl rfl) (pe_op op_sub (pv 2) (pe_ix ix_tup (pv 3) pe_int (fun _ _ => rfl))))
      (pss_one (ps_if (pt_cmpR op_notN (pe_ix ix_tup (pv 3) pe_int (fun _ _ => rfl)) pe_non (nomark _))
        (pss_one (ps_expr (pe_bm PySem.F.plainAttrs_list PySem.F.slot_list_append PySem.F.type_list_append mt_append (pv 1) (pa_cons (pe_tup (pa_cons (pv 2) (pa_cons (pv 3) pa_nil))) pa_nil))))
        pss_nil))))
    (pss_one (ps_ret (pv 1)))))), ?_⟩
  obtain ⟨a, us, rfl, ha, l⟩ := hv.tupI
  obtain _ | ⟨⟨⟩, _ | ⟨⟨⟩, _ | ⟨h2, _ | _⟩⟩⟩ := l
  obtain ⟨b, pvs, rfl, hb, lp⟩ := h2.tupI
  -- found = []; low = 8 * word_size(item[1])
  refine ⟨szl _, fun p np => ?_⟩
  have s0 := same_new (o := .lst []) np
  refine ⟨_, rfl, a, _, 1, _, rfl, rfl, SqT.has (s0 _ _ ha), i1, w5, rfl, _, _, rfl, rfl, .inl ⟨by decide, by decide⟩, ?_⟩
  -- for part in item[2]
  refine ⟨_, rfl, a, _, 2, _, rfl, rfl, SqT.has (s0 _ _ ha), i2, b, rfl, ⟨_, SqT.has (s0 _ _ hb)⟩, ?_⟩
  have hlen : pvs.length = ps.length := by rw [lp.len, List.length_map]
  refine for_tup (xs := pvs) (fun i σ H' => ∃ (low : Int) (y : Option V) (us : List V) (ds : List D), σ = [some (.ref a), some (.ref p), some (.int low), y] ∧ Same H H' ∧ H' p = some (.lst us) ∧ HasL H' us ds ∧ Paired FldR ds (named (ps.take i)))
    ⟨_, none, [], [], rfl, s0, upd_same, .nil, .nil⟩ (fun i σ H' _ hw => ?_) (fun i x σ H' hx hw => ?_) (fun σ H' hw => ?_)
  · obtain ⟨_, _, _, _, _, s1, _⟩ := hw
    exact SqT.has (s1 _ _ hb)
  · obtain ⟨low, y, us, ds, rfl, s1, hp, hl, hP⟩ := hw
    obtain ⟨d, hd, hxd⟩ := lp.getV hx
    rw [List.getElem?_map] at hd
    obtain ⟨pt, hpt, rfl⟩ := Option.map_eq_some_iff.mp hd
    obtain ⟨nm, wd, sg, rs, df⟩ := pt
    obtain ⟨c, cvs, rfl, hc, lc⟩ := (hxd.mono (kt_same s1)).tupI
    obtain _ | ⟨h0, _ | ⟨⟨⟩, _ | ⟨⟨⟩, _ | ⟨h3, _ | ⟨h4, _ | _⟩⟩⟩⟩⟩ := lc
    have hul : us.length ≤ 1000 := by
      rw [hl.len, paired_len hP]
      refine Nat.le_trans (named_le _) ?_
      rw [List.length_take]
      omega
    -- low = low - part[1]
    refine ⟨_, rfl, _, rfl, c, _, 1, _, rfl, rfl, SqT.has hc, i1, _, _, rfl, rfl, ?_⟩
    -- if part[0] is not None
    refine ⟨_, rfl, c, _, 0, _, rfl, rfl, SqT.has hc, i0, rfl, _, rfl, ?_⟩
    have hs := named_snoc ps i _ hpt
    cases nm with
    | none =>
      cases h0
      refine ite_nno rfl ?_
      refine ⟨_, _, us, ds, rfl, s1, hp, hl, ?_⟩
      rw [hs, show (named (ps.take i) ++ if (none : Option Str).isSome = true then [(⟨none, wd, sg, rs, df⟩ : Part)] else []) = named (ps.take i) by simp]
      exact hP
    | some z =>
      cases h0
      refine ite_nyes (fun e => by cases e) ?_
      -- found.append((low, part))
      refine ⟨_, rfl, .inl ⟨rfl, _, SqL.has hp⟩, _, rfl, _, rfl, szl _, fun t nt => ?_⟩
      have npt : p ≠ t := ne_of_none hp nt
      refine ⟨p, us, _, rfl, rfl, (by rw [upd_ne npt]; exact hp), small_lt (by omega), ?_⟩
      refine ⟨_, _, us ++ [.ref t], ds ++ [.tup [.int (low - (wd : Int)), Part.d ⟨some z, wd, sg, rs, df⟩]], rfl, same_mut (s1.trans (same_new nt)) np, upd_same, ?_, ?_⟩
      · have hpt2 : Has (upd H' t (.tup [.int (low - (wd : Int)), .ref c])) (.ref t) (.tup [.int (low - (wd : Int)), Part.d ⟨some z, wd, sg, rs, df⟩]) :=
          Has.new (.cons (.int _) (.cons (.tup hc (.cons (.str _) (.cons (.int _) (.cons (.bl _) (.cons h3 (.cons h4 .nil)))))) .nil)) nt
        have k2 : KT (upd H' t (.tup [.int (low - (wd : Int)), .ref c])) (upd (upd H' t (.tup [.int (low - (wd : Int)), .ref c])) p (.lst (us ++ [.ref t]))) := kt_upd (xs := us) (by rw [upd_ne npt]; exact hp)
        exact ((hl.mono (kt_new nt)).mono k2).snoc (hpt2.mono k2)
      · rw [hs]
        exact hP.snoc ⟨_, rfl⟩
  · obtain ⟨low, y, us, ds, rfl, s1, hp, hl, hP⟩ := hw
    have e : ps.take pvs.length = ps := by rw [hlen, List.take_length]
    rw [e] at hP
    exact ⟨_, rfl, q p us ds H' s1 np hp hl hP⟩
end
end Wp

namespace Wp
open PySem PySem.Spec PyProof.Rows L2
section
variable {P : Program} {w : World} {K : PySem.W.Frag} {mg : Str → Option Value} {base : Heap} {dW aC : Addr}

/-! ### slots -/
def slotD (it : D) (p : Part) : D := .tup [oStr p.name, it, p.d]
/-- an item with its members as slots tell them -/
inductive ISl : D → List D → Prop where
  | word (w5 : W5) (ps : List Part) : ps.length ≤ 1000 → ISl (wordD w5 ps) ((named ps).map (slotD (wordD w5 ps)))
  | comp (k nm : Str) (ds : List D) : k = "array" ∨ k = "list" ∨ k = "choice" ∨ k = "record" → ISl (.tup (.str k :: .str nm :: ds)) [.tup [.str nm, .tup (.str k :: .str nm :: ds), .non]]
  | fixed (k : Str) (ds : List D) : k = "literal" ∨ k = "reserved" ∨ k = "check" → ISl (.tup (.str k :: ds)) []
theorem ISl.le {it : D} {ss : List D} (h : ISl it ss) : ss.length ≤ 1000 := by
  cases h with
  | word w5 ps hp =>
    rw [List.length_map]
    exact Nat.le_trans (named_le ps) hp
  | comp => exact Nat.le_of_ble_eq_true rfl
  | fixed => exact Nat.zero_le _
theorem flat_le {R : D → List D → Prop} (hR : ∀ it ss, R it ss → ss.length ≤ 1000) : ∀ {its : List D} {sss : List (List D)}, Paired R its sss → sss.flatten.length ≤ its.length * 1000
  | _, _, .nil => by simp
  | _, _, .cons h t => by
    have h1 := hR _ _ h
    have h2 := flat_le hR t
    rw [List.flatten_cons, List.length_append, List.length_cons]
    omega
theorem paired_take {α β : Type} {R : α → β → Prop} : ∀ {xs : List α} {ys : List β} (n : Nat), Paired R xs ys → Paired R (xs.take n) (ys.take n)
  | _, _, 0, _ => .nil
  | _, _, _ + 1, .nil => .nil
  | _, _, n + 1, .cons h t => .cons h (paired_take n t)
theorem paired_get {α β : Type} {R : α → β → Prop} : ∀ {xs : List α} {ys : List β} {i : Nat} {x : α}, Paired R xs ys → xs[i]? = some x → ∃ y, ys[i]? = some y ∧ R x y
  | _, _, _, _, .nil, e => by simp at e
  | _, _, 0, _, .cons h _, e => by simp at e; subst e; exact ⟨_, rfl, h⟩
  | _, _, i + 1, x, .cons _ t, e => by
    obtain ⟨y, h1, h2⟩ := paired_get (i := i) (x := x) t (by simpa using e)
    exact ⟨y, by simpa using h1, h2⟩
theorem paired_getR {α β : Type} {R : α → β → Prop} : ∀ {xs : List α} {ys : List β} {i : Nat} {y : β}, Paired R xs ys → ys[i]? = some y → ∃ x, xs[i]? = some x ∧ R x y
  | _, _, _, _, .nil, e => by simp at e
  | _, _, 0, _, .cons h _, e => by simp at e; subst e; exact ⟨_, rfl, h⟩
  | _, _, i + 1, y, .cons _ t, e => by
    obtain ⟨x, h1, h2⟩ := paired_getR (i := i) (y := y) t (by simpa using e)
    exact ⟨x, by simpa using h1, h2⟩
theorem flat_snoc (sss : List (List D)) (i : Nat) (ss : List D) (h : sss[i]? = some ss) : (sss.take (i + 1)).flatten = (sss.take i).flatten ++ ss := by
  rw [List.take_add_one, h, List.flatten_append]
  simp
def sp_slots : Sp := fun vs H Q _ => ∃ (v : V) (its : List D) (sss : List (List D)), vs = [v] ∧ Has H v (.tup its) ∧ its.length ≤ 1000 ∧ Paired ISl its sss ∧
  ∀ p us H', Same H H' → H p = none → H' p = some (.lst us) → HasL H' us sss.flatten → Q (.ref p) H'
theorem ok_slots (T : Txt w K mg dW aC) (F : Dn K mg "slots" st_slots) (C_fields : Cal P w K mg base 2 "fields" sp_fields) : Cal P w K mg base 3 "slots" sp_slots := by
  refine cal_mk F sc_slots bd_slots (fun vs H Q E h => ?_) (fun f cdv A outer s H vs Q E hr h => ?_)
  · obtain ⟨v, its, sss, rfl, _⟩ := h
    rfl
  obtain ⟨v, its, sss, rfl, hv, hn, hP, q⟩ := h
  refine ⟨_, (pss_cons (ps_set (i := 1) sc_slots.nd rfl (Or.inl rfl) (pe_lst pa_nil))
    (pss_cons (ps_for PassesOwn.never rfl (pi_tup (pv 0)) (pg_name (i := 2) sc_slots.nd rfl (Or.inr rfl))
      (pss_one (ps_if (pt_cmpR op_eq (pe_ix ix_tup (pv 2) pe_int (fun _ _ => rfl)) pe_str (nomark _))
        (pss_one (ps_expr (pe_bm PySem.F.plainAttrs_list PySem.F.slot_list_extend PySem.F.type_list_extend mt_extend (pv 1) (pa_cons (pe_lc (own := [("_", 3), ("part", 4)]) (g := (gTup K 2 (gCons (gName 3) (gCons (gName 4) gNil)))) (tt := tYes) rfl sc_slots.nd (pi_list (pe_k C_fields hr (by decide) (by rfl) (pa_cons (pv 2) pa_nil))) (blkOk_by (own := [("_", 3), ("part", 4)]) (N := N_slots) (sc := defScope st_slots) (by decide +kernel)) (fun _ _ _ _ _ => (pg_tup rfl (pgs_cons (pg_name (i := 3) sc_slots.nd rfl (Or.inl rfl)) (pgs_cons (pg_name (i := 4) sc_slots.nd rfl (Or.inl rfl)) pgs_nil)))) (fun _ _ _ _ _ => pts_nil) (fun _ _ _ _ _ => (pe_tup (pa_cons (pe_ix (ix_tupK (K := K) rfl) (pv 4) pe_int (fun _ _ => rfl)) (pa_cons (pv 2) (pa_cons (pv 4) pa_nil)))))) pa_nil))))
        (pss_one (ps_if (pt_cmpR op_in_seq (pe_ix ix_tup (pv 2) pe_int (fun _ _ => rfl)) (pe_glob (v := .ref _) rfl T.g_COMPOSITES rfl) (by rfl))
          (pss_one (ps_expr (pe_bm PySem.F.plainAttrs_list PySem.F.slot_list_append PySem.F.type_list_append mt_append (pv 1) (pa_cons (pe_tup (pa_cons (pe_ix ix_tup (pv 2) pe_int (fun _ _ => rfl)) (pa_cons (pv 2) (pa_cons pe_non pa_nil)))) pa_nil))))
          pss_nil)))))
    (pss_one (ps_ret (pv 1))))), ?_⟩
  obtain ⟨a, ivs, rfl, ha, li⟩ := hv.tupI
  refine ⟨szl _, fun p np => ?_⟩
  have s0 := same_new (o := .lst []) np
  refine ⟨_, rfl, a, rfl, ⟨_, SqT.has (s0 _ _ ha)⟩, ?_⟩
  have hlen : ivs.length = sss.length := by rw [li.len, paired_len hP]
  refine for_tup (xs := ivs) (fun i σ H' => ∃ (y2 y3 y4 : Option V) (us : List V), σ = [some (.ref a), some (.ref p), y2, y3, y4] ∧ Same H H' ∧ H' p = some (.lst us) ∧ HasL H' us (sss.take i).flatten)
    ⟨none, none, none, [], rfl, s0, upd_same, .nil⟩ (fun i σ H' _ hw => ?_) (fun i x σ H' hx hw => ?_) (fun σ H' hw => ?_)
  · obtain ⟨_, _, _, _, _, s1, _⟩ := hw
    exact SqT.has (s1 _ _ ha)
  · obtain ⟨y2, y3, y4, us, rfl, s1, hp, hl⟩ := hw
    obtain ⟨it, hit, hxd⟩ := li.getV hx
    obtain ⟨ss, hss, hI⟩ := paired_get hP hit
    have hul : us.length ≤ 1000000 := by
      rw [hl.len]
      have h1 := flat_le (R := ISl) (fun _ _ h => h.le) (paired_take i hP)
      rw [List.length_take] at h1
      have h2 : min i its.length * 1000 ≤ 1000 * 1000 := Nat.mul_le_mul (by omega) (Nat.le_refl _)
      omega
    have hfs := flat_snoc sss i ss hss
    have hx1 := hxd.mono (kt_same s1)
    cases hI with
    | word w5 ps hps =>
      obtain ⟨b, bvs, rfl, hb, lb⟩ := hx1.tupI
      obtain _ | ⟨⟨⟩, lb2⟩ := lb
      refine ⟨_, rfl, b, _, 0, _, rfl, rfl, SqT.has hb, i0, rfl, _, rfl, ite_yes rfl ?_⟩
      -- found.extend([(part[0], item, part) for _, part in fields(item)])
      refine ⟨_, rfl, .inl ⟨rfl, _, SqL.has hp⟩, _, rfl, _, w5, ps, rfl, hx1, hps, fun g gs ds H2 s2 ng hg lg hR => ?_⟩
      refine ⟨g, rfl, ⟨_, SqL.has hg⟩, fun Dd nD => ?_⟩
      have nDp : p ≠ Dd := ne_of_none (s2 _ _ hp) nD
      have nDg : g ≠ Dd := ne_of_none hg nD
      have hglen : gs.length = (named ps).length := by rw [lg.len, paired_len hR]
      have hnl := named_le ps
      refine lc_list (xs := gs) (fun i H3 => ∃ acc, Same H2 H3 ∧ H3 Dd = some (.lst acc) ∧ HasL H3 acc (((named ps).take i).map (slotD (wordD w5 ps))))
        ⟨[], same_new nD, upd_same, .nil⟩ (fun i H3 _ hw => ?_) (fun i x H3 hx hw => ?_) (fun H3 hw => ?_)
      · obtain ⟨acc, s3, _⟩ := hw
        exact SqL.has (s3 _ _ hg)
      · obtain ⟨acc, s3, hD, hla⟩ := hw
        obtain ⟨d, hd, hdx⟩ := lg.getV hx
        obtain ⟨pt, hpt, low, rfl⟩ := paired_get hR hd
        obtain ⟨c, cvs, rfl, hc, lc⟩ := (hdx.mono (kt_same s3)).tupI
        obtain _ | ⟨⟨⟩, _ | ⟨hq, _ | _⟩⟩ := lc
        obtain ⟨e, evs, rfl, he, le⟩ := hq.tupI
        obtain _ | ⟨h0, _ | ⟨h1, _ | ⟨h2, _ | ⟨h3, _ | ⟨h4, _ | _⟩⟩⟩⟩⟩ := le
        refine ⟨c, _, rfl, SqT.has hc, rfl, _, _, rfl, _, _, rfl, rfl, ?_⟩
        refine ⟨rfl, _, rfl, e, _, 0, _, rfl, rfl, SqT.has he, i0, _, rfl, _, rfl, szl _, fun t nt => ?_⟩
        have nDt : Dd ≠ t := ne_of_none hD nt
        refine ⟨acc, (by rw [upd_ne nDt]; exact hD), small_lt ?_, acc ++ [.ref t], same_mut (s3.trans (same_new nt)) nD, upd_same, ?_⟩
        · rw [hla.len, List.length_map, List.length_take]
          omega
        · have hb3 : Has H3 (.ref b) (wordD w5 ps) := hx1.mono (kt_same (s2.trans s3))
          have ht : Has _ (.ref t) (slotD (wordD w5 ps) pt) := Has.new (.cons h0 (.cons hb3 (.cons (Has.tup he (.cons h0 (.cons h1 (.cons h2 (.cons h3 (.cons h4 .nil)))))) .nil))) nt
          have e2 : ((named ps).take (i + 1)).map (slotD (wordD w5 ps)) = ((named ps).take i).map (slotD (wordD w5 ps)) ++ [slotD (wordD w5 ps) pt] := by
            rw [List.take_add_one, hpt, List.map_append]
            rfl
          rw [e2]
          exact ((hla.mono (kt_new nt)).snoc ht).mono (kt_upd (xs := acc) (by rw [upd_ne nDt]; exact hD))
      · obtain ⟨acc, s3, hD, hla⟩ := hw
        rw [hglen, List.take_length] at hla
        have hp3 : H3 p = some (.lst us) := s3 _ _ (s2 _ _ hp)
        refine ⟨p, Dd, us, acc, rfl, rfl, hp3, hD, small_line ?_, ?_⟩
        · rw [hla.len, List.length_map]
          omega
        · refine ⟨_, y3, y4, us ++ acc, rfl, same_mut (s1.trans (s2.trans s3)) np, upd_same, ?_⟩
          rw [hfs]
          exact ((hl.mono (kt_same (s2.trans s3))).append hla).mono (kt_upd hp3)
    | comp k nm ds hk =>
      obtain ⟨b, bvs, rfl, hb, lb⟩ := hx1.tupI
      obtain _ | ⟨⟨⟩, _ | ⟨⟨⟩, lb2⟩⟩ := lb
      have hk1 : ¬ V.str k = V.str "word" := by rcases hk with rfl | rfl | rfl | rfl <;> decide +kernel
      have hk2 : inV (.str k) [.str "array", .str "list", .str "choice", .str "record"] = true := by rcases hk with rfl | rfl | rfl | rfl <;> decide +kernel
      refine ⟨_, rfl, b, _, 0, _, rfl, rfl, SqT.has hb, i0, rfl, _, rfl, ite_no hk1 ?_⟩
      refine ⟨_, rfl, b, _, 0, _, rfl, rfl, SqT.has hb, i0, aC, _, rfl, .inr (T.comps _), rfl, rfl, _, rfl, ?_⟩
      show (if (if false = true then !inV (.str k) _ else inV (.str k) _) = true then _ else _)
      rw [if_neg Bool.false_ne_true, hk2]
      refine iteT ?_
      refine ⟨_, rfl, .inl ⟨rfl, _, SqL.has hp⟩, _, rfl, b, _, 1, _, rfl, rfl, SqT.has hb, i1, _, rfl, szl _, fun t nt => ?_⟩
      have npt : p ≠ t := ne_of_none hp nt
      refine ⟨p, us, _, rfl, rfl, (by rw [upd_ne npt]; exact hp), small_lt (by omega), ?_⟩
      refine ⟨_, y3, y4, us ++ [.ref t], rfl, same_mut (s1.trans (same_new nt)) np, upd_same, ?_⟩
      rw [hfs]
      exact ((hl.mono (kt_new nt)).snoc (Has.new (.cons (.str nm) (.cons hx1 (.cons .non .nil))) nt)).mono (kt_upd (xs := us) (by rw [upd_ne npt]; exact hp))
    | fixed k ds hk =>
      obtain ⟨b, bvs, rfl, hb, lb⟩ := hx1.tupI
      obtain _ | ⟨⟨⟩, lb2⟩ := lb
      have hk1 : ¬ V.str k = V.str "word" := by rcases hk with rfl | rfl | rfl <;> decide +kernel
      have hk2 : inV (.str k) [.str "array", .str "list", .str "choice", .str "record"] = false := by rcases hk with rfl | rfl | rfl <;> decide +kernel
      refine ⟨_, rfl, b, _, 0, _, rfl, rfl, SqT.has hb, i0, rfl, _, rfl, ite_no hk1 ?_⟩
      refine ⟨_, rfl, b, _, 0, _, rfl, rfl, SqT.has hb, i0, aC, _, rfl, .inr (T.comps _), rfl, rfl, _, rfl, ?_⟩
      show (if (if false = true then !inV (.str k) _ else inV (.str k) _) = true then _ else _)
      rw [if_neg Bool.false_ne_true, hk2]
      refine iteF ?_
      refine ⟨_, y3, y4, us, rfl, s1, hp, ?_⟩
      rw [hfs, List.append_nil]
      exact hl
  · obtain ⟨y2, y3, y4, us, rfl, s1, hp, hl⟩ := hw
    rw [hlen, List.take_length] at hl
    exact ⟨_, rfl, q p us H' s1 np hp hl⟩
end
end Wp

namespace Wp
open PySem PySem.Spec PyProof.Rows L2
section
variable {P : Program} {w : World} {K : PySem.W.Frag} {mg : Str → Option Value} {base : Heap} {dW aC : Addr}

/-! ### free_bits, agreement, set_of, whole_set -/
theorem dec_int (a b : Int) : decide (V.int a = V.int b) = decide (a = b) := by
  by_cases e : a = b
  · rw [e, decide_eq_true rfl, decide_eq_true rfl]
  · rw [decide_eq_false e, decide_eq_false (fun z => e (V.int.inj z))]
/-- a walk with a word of the turn and the heap, whatever stands in its turns -/
theorem walk_any {J : It} {n : Nat} {G : Hp → Prop} {Y : Nat → Hp → V → Hp → Prop} (w : Walk J n G Y) {B : V → Hp → (Hp → Prop) → Prop} {H : Hp} {Qd : Hp → Prop} (Pv : Nat → Hp → Prop) (h0 : Pv 0 H) (hG : ∀ i H, i ≤ n → Pv i H → G H)
    (hs : ∀ i x H H', i < n → Pv i H → Y i H x H' → B x H' (Pv (i + 1))) (hd : ∀ H, Pv n H → Qd H) :
    ∃ W : Nat → Nat → Hp → Prop, (∃ m, W 0 m H) ∧ ∀ i m H, W i m H → (J.stop i H ∧ Qd H) ∨ (J.go i H ∧ ∃ Nx : Hp → Prop, (∀ H', Nx H' → ∃ m', m' < m ∧ W (i + 1) m' H') ∧ ∀ x H', J.yld i H x H' → B x H' Nx) := by
  refine ⟨fun i m H => m = n - i ∧ i ≤ n ∧ Pv i H, ⟨n, by simp, Nat.zero_le _, h0⟩, ?_⟩
  rintro i m H ⟨rfl, hi, p⟩
  have q := hG i H hi p
  by_cases hlt : i < n
  · exact .inr ⟨w.goes i H hlt q, Pv (i + 1), fun H' p' => ⟨n - (i + 1), by omega, rfl, hlt, p'⟩, fun x H' y => hs i x H H' hlt p (w.yields i H x H' hlt q y)⟩
  · have e : i = n := by omega
    subst e
    exact .inl ⟨w.stops H q, hd H p⟩
theorem freeBits_le (kn : Int) (k : Nat) : freeBits kn k ≤ k := by
  unfold freeBits
  refine Nat.le_trans (List.length_filter_le _ _) ?_
  rw [List.length_range]
  exact Nat.le_refl _
def sp_free_bits : Sp := fun vs H Q _ => ∃ (kn : Int) (k : Nat), vs = [.int kn, .int k] ∧ k ≤ 100 ∧ ∀ H', Same H H' → Q (.int (freeBits kn k)) H'
theorem ok_free_bits (T : Txt w K mg dW aC) (F : Dn K mg "free_bits" st_free_bits) : Cal P w K mg base 1 "free_bits" sp_free_bits := by
  refine cal_mk F sc_free_bits bd_free_bits (fun vs H Q E h => ?_) (fun f cdv A outer s H vs Q E hr h => ?_)
  · obtain ⟨kn, k, rfl, _⟩ := h
    rfl
  obtain ⟨kn, k, rfl, hk, q⟩ := h
  refine ⟨_, (pss_one (ps_ret (pe_callB call_len_seq (by rfl) T.b_len (by decide +kernel) (pa_cons (pe_lc (own := [("k", 2)]) (g := (gName 2)) rfl sc_free_bits.nd (pi_range1 (by rfl) T.b_range (pa_cons (pv 1) pa_nil)) (blkOk_by (own := [("k", 2)]) (N := N_free_bits) (sc := defScope st_free_bits) (by decide +kernel)) (fun _ _ _ _ _ => (pg_name (i := 2) sc_free_bits.nd rfl (Or.inl rfl))) (fun _ _ _ _ _ => pts_one (pt_cmpR op_eq (pe_op op_and (pe_op op_shr (pv 0) (pv 2)) pe_int) pe_int (nomark _))) (fun _ _ _ _ _ => (pv 2))) pa_nil)))), ?_⟩
  refine ⟨_, rfl, _, rfl, by omega, by omega, fun D nD => ?_⟩
  refine lc_range (lo := 0) (n := (k : Int).toNat) (fun i H3 => ∃ acc, Same H H3 ∧ H3 D = some (.lst acc) ∧ acc.length = freeBits kn i ∧ i ≤ k)
    ⟨[], same_new nD, upd_same, rfl, Nat.zero_le _⟩ (fun i H3 hi hw => ?_) (fun H3 hw => ?_)
  · obtain ⟨acc, s3, hD, hla, _⟩ := hw
    have hf := freeBits_le kn i
    refine ⟨rfl, _, rfl, _, rfl, _, _, rfl, rfl, by omega, _, _, rfl, rfl, rfl, _, rfl, ?_⟩
    have e0 : ((0 : Int) + (i : Int)).toNat = i := by omega
    have es : freeBits kn (i + 1) = freeBits kn i + (if Builtin.bitAnd (kn / 2 ^ i) 1 = 0 then 1 else 0) := by
      unfold freeBits
      rw [List.range_succ, List.filter_append, List.length_append]
      by_cases c : Builtin.bitAnd (kn / 2 ^ i) 1 = 0 <;> simp [c]
    rw [dec_int, e0]
    refine ite_by (fun c => ?_) (fun c => ?_)
    · refine ⟨_, rfl, acc, hD, small_lt (by omega), acc ++ [.int (0 + (i : Int))], same_mut s3 nD, upd_same, ?_, by omega⟩
      rw [List.length_append, es, if_pos c, hla]
      rfl
    · refine ⟨acc, s3, hD, ?_, by omega⟩
      rw [es, if_neg c, hla]
      rfl
  · obtain ⟨acc, s3, hD, hla, _⟩ := hw
    rw [Int.toNat_natCast] at hla
    refine ⟨D, acc, rfl, .inl (SqL.has hD), ?_⟩
    exact q_int (Q := Q) (H := H3) (by rw [hla]) (q H3 s3)
theorem fold_snoc {α β : Type} (f : β → α → β) (b : β) (xs : List α) (i : Nat) (x : α) (h : xs[i]? = some x) : (xs.take (i + 1)).foldl f b = f ((xs.take i).foldl f b) x := by
  rw [List.take_add_one, h, List.foldl_append]
  rfl
def sp_agreement : Sp := fun vs H Q _ => ∃ (p : Addr) (cs : List Int) (k : Nat), vs = [.ref p, .int k] ∧ H p = some (.lst (cs.map V.int)) ∧ cs ≠ [] ∧ k ≤ 100 ∧
  ∀ t H', Same H H' → H' t = some (.tup [.int (knownOf cs k), .int (agree cs).1]) → Q (.ref t) H'
theorem ok_agreement (F : Dn K mg "agreement" st_agreement) (C_ones : Cal P w K mg base 1 "ones" sp_ones) : Cal P w K mg base 2 "agreement" sp_agreement := by
  refine cal_mk F sc_agreement bd_agreement (fun vs H Q E h => ?_) (fun f cdv A outer s H vs Q E hr h => ?_)
  · obtain ⟨p, cs, k, rfl, _⟩ := h
    rfl
  obtain ⟨p, cs, k, rfl, hp, hne, hk, q⟩ := h
  refine ⟨_, (pss_cons (ps_set (i := 2) sc_agreement.nd rfl (Or.inl rfl) (pe_ix ix_list (pv 0) pe_int (fun _ _ => rfl)))
    (pss_cons (ps_set (i := 3) sc_agreement.nd rfl (Or.inl rfl) (pe_ix ix_list (pv 0) pe_int (fun _ _ => rfl)))
    (pss_cons (ps_for PassesOwn.never rfl (pi_list (pv 0)) (pg_name (i := 4) sc_agreement.nd rfl (Or.inl rfl))
      (pss_cons (ps_set (i := 2) sc_agreement.nd rfl (Or.inl rfl) (pe_op op_and (pv 2) (pv 4)))
      (pss_one (ps_set (i := 3) sc_agreement.nd rfl (Or.inl rfl) (pe_op op_or (pv 3) (pv 4))))))
    (pss_one (ps_ret (pe_tup (pa_cons (pe_op op_xor (pe_op op_xor (pe_k C_ones hr (by decide) (by rfl) (pa_cons (pv 1) pa_nil)) (pv 2)) (pv 3)) (pa_cons (pv 2) pa_nil)))))))), ?_⟩
  obtain ⟨c0, cr, rfl⟩ : ∃ c r, cs = c :: r := by
    cases cs with
    | nil => exact absurd rfl hne
    | cons c r => exact ⟨c, r, rfl⟩
  refine ⟨_, rfl, p, _, 0, _, rfl, rfl, SqL.has hp, i0, ?_⟩
  refine ⟨_, rfl, p, _, 0, _, rfl, rfl, SqL.has hp, i0, ?_⟩
  refine ⟨_, rfl, p, rfl, ⟨_, SqL.has hp⟩, ?_⟩
  let g : Int × Int → Int → Int × Int := fun p c => (Builtin.bitAnd p.1 c, Builtin.bitOr p.2 c)
  refine for_list (xs := (c0 :: cr).map V.int) (fun i σ H' => ∃ y, σ = [some (.ref p), some (.int k), some (.int (((c0 :: cr).take i).foldl g (c0, c0)).1), some (.int (((c0 :: cr).take i).foldl g (c0, c0)).2), y] ∧ H' = H)
    ⟨none, rfl, rfl⟩ (fun i σ H' _ hw => ?_) (fun i x σ H' hx hw => ?_) (fun σ H' hw => ?_)
  · obtain ⟨_, _, rfl⟩ := hw
    exact SqL.has hp
  · obtain ⟨y, rfl, rfl⟩ := hw
    rw [List.getElem?_map] at hx
    obtain ⟨c, hc, rfl⟩ := Option.map_eq_some_iff.mp hx
    refine ⟨_, rfl, _, rfl, _, _, rfl, rfl, _, rfl, _, rfl, _, _, rfl, rfl, some (.int c), ?_, rfl⟩
    rw [fold_snoc g (c0, c0) (c0 :: cr) i c hc]
    rfl
  · obtain ⟨y, rfl, rfl⟩ := hw
    have e : ((c0 :: cr).take ((c0 :: cr).map V.int).length).foldl g (c0, c0) = agree (c0 :: cr) := by
      rw [List.length_map, List.take_length]
      rfl
    rw [e]
    refine ⟨_, rfl, k, rfl, hk, _, rfl, _, _, rfl, rfl, _, rfl, _, _, rfl, rfl, _, rfl, szl _, fun t nt => ?_⟩
    exact q t _ (same_new nt) upd_same
def sp_set_of : Sp := fun vs H Q _ => ∃ (p : Addr) (ns : List Int) (k : Nat), vs = [.ref p, .int k] ∧ H p = some (.lst (ns.map V.int)) ∧ ns ≠ [] ∧ ns.length ≤ 1000000 ∧ k ≤ 100 ∧
  ∀ r H', Same H H' → Has H' r (setA ns k) → Q r H'
theorem ok_set_of (T : Txt w K mg dW aC) (F : Dn K mg "set_of" st_set_of) (C_code_of : Cal P w K mg base 1 "code_of" sp_code_of) (C_agreement : Cal P w K mg base 2 "agreement" sp_agreement) (C_free_bits : Cal P w K mg base 1 "free_bits" sp_free_bits) :
    Cal P w K mg base 3 "set_of" sp_set_of := by
  refine cal_mk F sc_set_of bd_set_of (fun vs H Q E h => ?_) (fun f cdv A outer s H vs Q E hr h => ?_)
  · obtain ⟨p, cs, k, rfl, _⟩ := h
    rfl
  obtain ⟨p, ns, k, rfl, hp, hne, hlen, hk, q⟩ := h
  refine ⟨_, (pss_cons (ps_asg (pe_k C_agreement hr (by decide) (by rfl) (pa_cons (pe_lc (own := [("number", 4)]) (g := (gName 4)) (tt := tYes) rfl sc_set_of.nd (pi_list (pv 0)) (blkOk_by (own := [("number", 4)]) (N := N_set_of) (sc := defScope st_set_of) (by decide +kernel)) (fun _ _ _ _ _ => (pg_name (i := 4) sc_set_of.nd rfl (Or.inl rfl))) (fun _ _ _ _ _ => pts_nil) (fun _ _ _ _ _ => (pe_k C_code_of hr (by decide) (by rfl) (pa_cons (pv 4) (pa_cons (pv 1) pa_nil))))) (pa_cons (pv 1) pa_nil))) (pg_tup rfl (pgs_cons (pg_name (i := 2) sc_set_of.nd rfl (Or.inl rfl)) (pgs_cons (pg_name (i := 3) sc_set_of.nd rfl (Or.inl rfl)) pgs_nil))))
    (pss_cons (ps_if (pt_cmpR op_eq (pe_callB call_len_seq (by rfl) T.b_len (by decide +kernel) (pa_cons (pv 0) pa_nil)) (pe_op op_shl pe_int (pe_k C_free_bits hr (by decide) (by rfl) (pa_cons (pv 2) (pa_cons (pv 1) pa_nil)))) (nomark _))
      (pss_one (ps_ret (pe_tup (pa_cons pe_str (pa_cons (pv 2) (pa_cons (pv 3) pa_nil))))))
      pss_nil)
    (pss_one (ps_ret (pe_tup (pa_cons pe_str (pa_cons (pe_callTy call_tuple_of (by rfl) T.b_tuple (by decide +kernel) (pa_cons (pv 0) pa_nil)) pa_nil))))))), ?_⟩
  -- known, code = agreement([code_of(number, width) for number in numbers], width)
  refine ⟨_, rfl, p, rfl, ⟨_, SqL.has hp⟩, fun D nD => ?_⟩
  refine lc_list (xs := ns.map V.int) (fun i H3 => Same H H3 ∧ H3 D = some (.lst ((codesOf (ns.take i) k).map V.int)))
    ⟨same_new nD, upd_same⟩ (fun i H3 _ hw => SqL.has (hw.1 _ _ hp)) (fun i x H3 hx hw => ?_) (fun H3 hw => ?_)
  · obtain ⟨s3, hD⟩ := hw
    rw [List.getElem?_map] at hx
    obtain ⟨n, hn, rfl⟩ := Option.map_eq_some_iff.mp hx
    refine ⟨rfl, _, rfl, _, rfl, n, k, rfl, hk, _, hD, small_lt ?_, same_mut s3 nD, ?_⟩
    · rw [List.length_map]
      unfold codesOf
      rw [List.length_map, List.length_take]
      omega
    · rw [upd_same]
      unfold codesOf
      rw [List.take_add_one, hn, List.map_append, List.map_append]
      rfl
  · obtain ⟨s3, hD⟩ := hw
    rw [List.length_map, List.take_length] at hD
    have hcn : codesOf ns k ≠ [] := by
      unfold codesOf
      intro z
      exact hne (List.map_eq_nil_iff.mp z)
    refine ⟨_, rfl, D, codesOf ns k, k, rfl, hD, hcn, hk, fun t H4 s4 ht => ?_⟩
    refine ⟨t, _, rfl, SqT.has ht, rfl, _, _, rfl, _, _, rfl, rfl, ?_⟩
    have hp4 := s4 _ _ (s3 _ _ hp)
    -- if len(numbers) == 1 << free_bits(known, width)
    refine ⟨_, rfl, p, _, rfl, .inl (SqL.has hp4), _, rfl, _, rfl, knownOf (codesOf ns k) k, k, rfl, hk, fun H5 s5 => ?_⟩
    have hfb := freeBits_le (knownOf (codesOf ns k) k) k
    refine ⟨_, _, rfl, rfl, ⟨by omega, by omega, by decide⟩, rfl, _, rfl, ?_⟩
    rw [dec_int, List.length_map]
    have e1 : ((ns.length : Int) = 1 * 2 ^ ((freeBits (knownOf (codesOf ns k) k) k : Nat) : Int).toNat) ↔ ns.length = 2 ^ freeBits (knownOf (codesOf ns k) k) k := by
      rw [Int.one_mul, Int.toNat_natCast]
      constructor
      · intro z
        have z2 : ((ns.length : Nat) : Int) = ((2 ^ freeBits (knownOf (codesOf ns k) k) k : Nat) : Int) := by
          rw [z]
          simp
        exact Int.ofNat.inj z2
      · intro z
        rw [z]
        simp
    have s45 := s3.trans (s4.trans s5)
    refine ite_by (fun c => ?_) (fun c => ?_)
    · refine ⟨_, rfl, _, rfl, szl _, fun t2 nt2 => ?_⟩
      refine q _ _ (s45.trans (same_new nt2)) ?_
      unfold setA
      rw [if_pos (e1.mp c)]
      exact Has.new (.cons (.str _) (.cons (.int _) (.cons (.int _) .nil))) nt2
    · refine ⟨_, rfl, p, _, rfl, .inl ⟨SqL.has (s5 _ _ hp4), fun t2 nt2 => ?_⟩⟩
      refine ⟨szl _, fun t3 nt3 => ?_⟩
      refine q _ _ ((s45.trans (same_new nt2)).trans (same_new nt3)) ?_
      unfold setA
      rw [if_neg (fun z => c (e1.mpr z))]
      exact Has.new (.cons (.str _) (.cons (Has.new (HasL.ints ns) nt2) .nil)) nt3
end
end Wp

namespace Wp
open PySem PySem.Spec PyProof.Rows L2
section
variable {P : Program} {w : World} {K : PySem.W.Frag} {mg : Str → Option Value} {base : Heap} {dW aC : Addr}

/-! ### whole_set -/
theorem runV_len (p : Int × Int) : (runV p).length = (p.2 + 1 - p.1).toNat := by
  unfold runV
  rw [List.length_map, List.length_range]
theorem runV_get (p : Int × Int) (j : Nat) (h : j < (p.2 + 1 - p.1).toNat) : (runV p)[j]? = some (p.1 + (j : Int)) := by
  unfold runV
  rw [List.getElem?_map, List.getElem?_range h]
  rfl
theorem nums_len : ∀ {rs : List (Int × Int)}, (∀ p ∈ rs, -300 ≤ p.1 ∧ p.1 ≤ 300 ∧ -300 ≤ p.2 ∧ p.2 ≤ 300) → (numsOf rs).length ≤ rs.length * 601
  | [], _ => Nat.zero_le _
  | p :: r, h => by
    have h1 := h p (List.mem_cons_self ..)
    have h2 := nums_len (rs := r) fun q hq => h q (List.mem_cons_of_mem _ hq)
    show (runV p ++ numsOf r).length ≤ (r.length + 1) * 601
    rw [List.length_append, runV_len]
    omega
theorem nums_snoc (rs : List (Int × Int)) (i : Nat) (p : Int × Int) (h : rs[i]? = some p) : numsOf (rs.take (i + 1)) = numsOf (rs.take i) ++ runV p := by
  unfold numsOf
  rw [List.take_add_one, h, List.flatMap_append]
  simp
def sp_whole_set : Sp := fun vs H Q _ => ∃ (v : V) (p : Part), vs = [v] ∧ Has H v p.d ∧ p.ok ∧ ∀ r H', Same H H' → Has H' r p.res → Q r H'
theorem ok_whole_set (T : Txt w K mg dW aC) (F : Dn K mg "whole_set" st_whole_set) (C_set_of : Cal P w K mg base 3 "set_of" sp_set_of) : Cal P w K mg base 4 "whole_set" sp_whole_set := by
  refine cal_mk F sc_whole_set bd_whole_set (fun vs H Q E h => ?_) (fun f cdv A outer s H vs Q E hr h => ?_)
  · obtain ⟨v, p, rfl, _⟩ := h
    rfl
  obtain ⟨v, p, rfl, hv, hok, q⟩ := h
  refine ⟨_, (pss_cons (ps_if (pt_cmpR op_isN (pe_ix ix_tup (pv 0) pe_int (fun _ _ => rfl)) pe_non (nomark _))
      (pss_one (ps_ret (pe_tup (pa_cons pe_str (pa_cons pe_int (pa_cons pe_int pa_nil))))))
      pss_nil)
    (pss_one (ps_ret (pe_k C_set_of hr (by decide) (by rfl) (pa_cons (pe_lc2 (own := [("low", 1), ("high", 2), ("number", 3)]) (vs1 := [3]) (g := (gTup K 2 (gCons (gName 1) (gCons (gName 2) gNil)))) (tt := tYes) (g1 := (gName 3)) (tt1 := tYes) rfl sc_whole_set.nd (pi_tup (pe_ix ix_tup (pv 0) pe_int (fun _ _ => rfl))) (blkOk_by (own := [("low", 1), ("high", 2), ("number", 3)]) (N := N_whole_set) (sc := defScope st_whole_set) (by decide +kernel)) (by decide) (fun _ _ _ _ _ => (pg_tup rfl (pgs_cons (pg_name (i := 1) sc_whole_set.nd rfl (Or.inl rfl)) (pgs_cons (pg_name (i := 2) sc_whole_set.nd rfl (Or.inl rfl)) pgs_nil)))) (fun _ _ _ _ _ => pts_nil) (fun _ _ _ _ _ => (pi_range2 (by rfl) T.b_range (pa_cons (pv 1) (pa_cons (pe_op op_add (pv 2) pe_int) pa_nil)))) (fun _ _ _ _ _ => (pg_name (i := 3) sc_whole_set.nd rfl (Or.inl rfl))) (fun _ _ _ _ _ => pts_nil) (fun _ _ _ _ _ => (pv 3))) (pa_cons (pe_ix ix_tup (pv 0) pe_int (fun _ _ => rfl)) pa_nil)))))), ?_⟩
  obtain ⟨nm, wd, sg, rs, df⟩ := p
  obtain ⟨a, us, rfl, ha, l⟩ := hv.tupI
  obtain _ | ⟨h0, _ | ⟨⟨⟩, _ | ⟨⟨⟩, _ | ⟨h3, _ | ⟨h4, _ | _⟩⟩⟩⟩⟩ := l
  refine ⟨_, rfl, a, _, 3, _, rfl, rfl, SqT.has ha, i3, rfl, _, rfl, ?_⟩
  cases rs with
  | none =>
    cases h3
    refine ite_yes rfl ⟨szl _, fun t nt => ?_⟩
    exact q _ _ (same_new nt) (Has.new (.cons (.str _) (.cons (.int _) (.cons (.int _) .nil))) nt)
  | some rs =>
    obtain ⟨hw32, hw8, hrl, hrb, hne, hpw, hin⟩ := hok
    obtain ⟨b, bvs, rfl, hb, lb⟩ := h3.tupI
    refine ite_no (fun e => by cases e) ?_
    have hblen : bvs.length = rs.length := by rw [lb.len, List.length_map]
    refine ⟨_, rfl, a, _, 3, _, rfl, rfl, SqT.has ha, i3, b, rfl, ⟨_, SqT.has hb⟩, fun D nD => ?_⟩
    refine walk_any (walk_tup (xs := bvs)) (fun i H3 => Same H H3 ∧ H3 D = some (.lst ((numsOf (rs.take i)).map V.int)))
      ⟨same_new nD, upd_same⟩ (fun i H3 _ hw => SqT.has (hw.1 _ _ hb)) (fun i x H3 H3' hi hw hy => ?_) (fun H3 hw => ?_)
    · obtain ⟨s3, hD⟩ := hw
      obtain ⟨rfl, hx⟩ := hy
      obtain ⟨d, hd, hdx⟩ := lb.getV hx
      rw [List.getElem?_map] at hd
      obtain ⟨pr, hpr, rfl⟩ := Option.map_eq_some_iff.mp hd
      obtain ⟨lo, hi2⟩ := pr
      obtain ⟨c, cvs, rfl, hc, lc⟩ := (hdx.mono (kt_same s3)).tupI
      obtain _ | ⟨⟨⟩, _ | ⟨⟨⟩, _ | _⟩⟩ := lc
      obtain ⟨b1, b2, b3, b4⟩ := hrb _ (List.mem_of_getElem? hpr)
      simp only at b1 b2 b3 b4
      have hl0 : (numsOf (rs.take i)).length ≤ 1000 * 601 := by
        refine Nat.le_trans (nums_len fun p hp => hrb p (List.mem_of_mem_take hp)) ?_
        rw [List.length_take]
        exact Nat.mul_le_mul (by omega) (Nat.le_refl _)
      refine ⟨c, _, rfl, SqT.has hc, rfl, _, _, rfl, _, _, rfl, rfl, ?_⟩
      refine ⟨rfl, _, rfl, _, rfl, _, _, rfl, rfl, lo, hi2 + 1, rfl, ⟨by omega, by omega, by omega, by omega⟩, ?_⟩
      refine walk_any walk_range (fun j H4 => Same H H4 ∧ H4 D = some (.lst ((numsOf (rs.take i) ++ (runV (lo, hi2)).take j).map V.int)))
        ⟨s3, by rw [List.take_zero, List.append_nil]; exact hD⟩ (fun _ _ _ _ => trivial) (fun j y H4 H4' hj hw4 hy4 => ?_) (fun H4 hw4 => ?_)
      · obtain ⟨s4, hD4⟩ := hw4
        obtain ⟨rfl, rfl⟩ := hy4
        refine ⟨rfl, _, rfl, _, hD4, small_lt ?_, same_mut s4 nD, ?_⟩
        · have hrun := runV_len (lo, hi2)
          simp only at hrun
          rw [List.length_map, List.length_append, List.length_take]
          omega
        · have e := runV_get (lo, hi2) j hj
          rw [upd_same, List.take_add_one, e, ← List.append_assoc, List.map_append (l₁ := numsOf (rs.take i) ++ (runV (lo, hi2)).take j)]
          rfl
      · obtain ⟨s4, hD4⟩ := hw4
        refine ⟨s4, ?_⟩
        have ht : (runV (lo, hi2)).take (hi2 + 1 - lo).toNat = runV (lo, hi2) := List.take_of_length_le (by rw [runV_len]; exact Nat.le_refl _)
        rw [hD4, nums_snoc rs i _ hpr, ht]
    · obtain ⟨s3, hD⟩ := hw
      rw [hblen, List.take_length] at hD
      refine ⟨_, rfl, a, _, 1, _, rfl, rfl, SqT.has (s3 _ _ ha), i1, D, numsOf rs, wd, rfl, hD, hne, ?_, ?_, fun r H4 s4 h4 => ?_⟩
      · have := nums_len hrb
        have h2 : rs.length * 601 ≤ 1000 * 601 := Nat.mul_le_mul hrl (Nat.le_refl _)
        omega
      · have hw32 : wd ≤ 32 := hw32
        omega
      · exact q _ _ (s3.trans s4) h4
end
end Wp

namespace Wp
open PySem PySem.Spec PyProof.Rows L2
section
variable {P : Program} {w : World} {K : PySem.W.Frag} {mg : Str → Option Value} {base : Heap} {dW aC : Addr}

/-! ### whole_entry, whole -/
/-- a slot with its entry -/
inductive SInt : D → D → Prop where
  | int (nm it : D) (p : Part) : p.ok → SInt (.tup [nm, it, p.d]) p.res
inductive SRes (LR : D → D → Prop) : D → D → Prop where
  | int (nm it : D) (p : Part) : p.ok → SRes LR (.tup [nm, it, p.d]) p.res
  | comp (nm it r : D) : CRes LR it r → SRes LR (.tup [nm, it, .non]) r
def sp_whole_entry (S : D → D → Prop) : Sp := fun vs H Q _ => ∃ (v : V) (s r : D), vs = [v] ∧ Has H v s ∧ S s r ∧ ∀ u H', Same H H' → Has H' u r → Q u H'
def sp_whole (L : D → D → Prop) : Sp := fun vs H Q _ => ∃ (v : V) (l r : D), vs = [v] ∧ Has H v l ∧ L l r ∧ ∀ u H', Same H H' → Has H' u r → Q u H'
theorem whole_len {L : D → D → Prop} {vs : List V} {H : Hp} {Q : VK} {E : XK} (h : sp_whole L vs H Q E) : vs.length = 1 := by
  obtain ⟨v, l, r, rfl, _⟩ := h
  rfl
/-- a layout by its slots -/
def BySlots (S L : D → D → Prop) : Prop := ∀ l r, L l r → ∃ (its : List D) (sss : List (List D)) (rs : List D), l = .tup its ∧ its.length ≤ 1000 ∧ Paired ISl its sss ∧ r = .tup rs ∧ Paired S sss.flatten rs
theorem ok_whole {S L : D → D → Prop} {k : Nat} (hk : 3 ≤ k) (hL : BySlots S L) (T : Txt w K mg dW aC) (F : Dn K mg "whole" st_whole) (C_slots : Cal P w K mg base 3 "slots" sp_slots) (C_whole_entry : Cal P w K mg base k "whole_entry" (sp_whole_entry S)) :
    Cal P w K mg base (k + 1) "whole" (sp_whole L) := by
  refine cal_mk F sc_whole bd_whole (fun vs H Q E h => whole_len h) (fun f cdv A outer s H vs Q E hr h => ?_)
  obtain ⟨v, l, r, rfl, hv, hl, q⟩ := h
  refine ⟨_, (pss_one (ps_ret (pe_callTy call_tuple_of (by rfl) T.b_tuple (by decide +kernel) (pa_cons (pe_lc (own := [("slot", 1)]) (g := (gName 1)) (tt := tYes) rfl sc_whole.nd (pi_list (pe_k C_slots hr (by omega) (by rfl) (pa_cons (pv 0) pa_nil))) (blkOk_by (own := [("slot", 1)]) (N := N_whole) (sc := defScope st_whole) (by decide +kernel)) (fun _ _ _ _ _ => (pg_name (i := 1) sc_whole.nd rfl (Or.inl rfl))) (fun _ _ _ _ _ => pts_nil) (fun _ _ _ _ _ => (pe_k C_whole_entry hr (by omega) (by rfl) (pa_cons (pv 1) pa_nil)))) pa_nil)))), ?_⟩
  obtain ⟨its, sss, rs, rfl, hn, hI, rfl, hS⟩ := hL _ _ hl
  refine ⟨_, rfl, v, its, sss, rfl, hv, hn, hI, fun p us H1 s1 np hp hus => ?_⟩
  refine ⟨p, rfl, ⟨_, SqL.has hp⟩, fun D nD => ?_⟩
  have hfl := flat_le (R := ISl) (fun _ _ h => h.le) hI
  have hfl2 : its.length * 1000 ≤ 1000 * 1000 := Nat.mul_le_mul hn (Nat.le_refl _)
  have hul : us.length = rs.length := by rw [hus.len, paired_len hS]
  have hrl : rs.length ≤ 1000000 := by
    rw [← paired_len hS]
    omega
  refine walk_any (walk_list (xs := us)) (fun i H3 => ∃ acc, Same H1 H3 ∧ H3 D = some (.lst acc) ∧ HasL H3 acc (rs.take i))
    ⟨[], same_new nD, upd_same, .nil⟩ (fun i H3 _ hw => by obtain ⟨_, s3, _⟩ := hw; exact SqL.has (s3 _ _ hp)) (fun i x H3 H3' hi hw hy => ?_) (fun H3 hw => ?_)
  · obtain ⟨acc, s3, hD, hla⟩ := hw
    obtain ⟨rfl, hx⟩ := hy
    obtain ⟨d, hd, hdx⟩ := hus.getV hx
    obtain ⟨rr, hrr, hSr⟩ := paired_get hS hd
    refine ⟨rfl, _, rfl, x, d, rr, rfl, hdx.mono (kt_same s3), hSr, fun u H4 s4 h4 => ?_⟩
    refine ⟨acc, s4 _ _ hD, small_lt ?_, acc ++ [u], same_mut (s3.trans s4) nD, upd_same, ?_⟩
    · rw [hla.len, List.length_take]
      omega
    · rw [List.take_add_one, hrr]
      exact ((hla.mono (kt_same s4)).snoc h4).mono (kt_upd (s4 _ _ hD))
  · obtain ⟨acc, s3, hD, hla⟩ := hw
    rw [hul, List.take_length] at hla
    refine ⟨D, acc, rfl, .inl ⟨SqL.has hD, fun t nt => ?_⟩⟩
    exact q _ _ ((s1.trans s3).trans (same_new nt)) (Has.new hla nt)
/-- whole_entry of an integer's slot -/
theorem ok_entry_int (F : Dn K mg "whole_entry" st_whole_entry) (C_whole_set : Cal P w K mg base 4 "whole_set" sp_whole_set) : Cal P w K mg base 5 "whole_entry" (sp_whole_entry SInt) := by
  refine cal_mk F sc_whole_entry bd_whole_entry (fun vs H Q E h => ?_) (fun f cdv A outer s H vs Q E hr h => ?_)
  · obtain ⟨v, s, r, rfl, _⟩ := h
    rfl
  obtain ⟨v, s, r, rfl, hv, hS, q⟩ := h
  refine ⟨_, (pss_cons (ps_asg (pv 0) (pg_tup rfl (pgs_cons (pg_name (i := 1) sc_whole_entry.nd rfl (Or.inl rfl)) (pgs_cons (pg_name (i := 2) sc_whole_entry.nd rfl (Or.inl rfl)) (pgs_cons (pg_name (i := 3) sc_whole_entry.nd rfl (Or.inl rfl)) pgs_nil)))))
    (pss_cons (ps_if (pt_cmpR op_notN (pv 3) pe_non (nomark _)) (pss_one (ps_ret (pe_k C_whole_set hr (by omega) (by rfl) (pa_cons (pv 3) pa_nil)))) pss_nil) pss_never)), ?_⟩
  cases hS with
  | int nm it p hok =>
    obtain ⟨a, us, rfl, ha, l⟩ := hv.tupI
    obtain _ | ⟨h0, _ | ⟨h1, _ | ⟨h2, _ | _⟩⟩⟩ := l
    obtain ⟨b, bvs, rfl, hb, lb⟩ := id h2.tupI
    refine ⟨_, rfl, a, _, rfl, SqT.has ha, rfl, _, _, rfl, _, _, rfl, _, _, rfl, rfl, ?_⟩
    refine ⟨_, rfl, rfl, _, rfl, ite_nyes (fun e => by cases e) ?_⟩
    exact ⟨_, rfl, _, p, rfl, h2, hok, q⟩
theorem num_last (lo hi : Nat) (h : lo ≤ hi) : atI ((runV ((lo : Int), (hi : Int))).map V.int) (-1) = some (.int hi) := by
  have e : runV ((lo : Int), (hi : Int)) = ((List.range (hi - lo)).map fun i => (lo : Int) + ((i : Nat) : Int)) ++ [(hi : Int)] := by
    unfold runV
    have e1 : ((hi : Int) + 1 - (lo : Int)).toNat = (hi - lo) + 1 := by omega
    show (List.range ((hi : Int) + 1 - (lo : Int)).toNat).map (fun i => (lo : Int) + ((i : Nat) : Int)) = _
    rw [e1, List.range_succ, List.map_append]
    congr 1
    show [(lo : Int) + ((hi - lo : Nat) : Int)] = [(hi : Int)]
    congr 1
    omega
  rw [e, List.map_append]
  exact atI_last _ _
theorem rep_one {α : Type} (n : Nat) (x : α) : (List.replicate n [x]).flatten = List.replicate n x := by
  induction n with
  | zero => rfl
  | succ n ih => rw [List.replicate_succ, List.flatten_cons, ih, List.replicate_succ]; rfl
end
end Wp

namespace Wp
open PySem PySem.Spec PyProof.Rows L2
section
variable {P : Program} {w : World} {K : PySem.W.Frag} {mg : Str → Option Value} {base : Heap} {dW aC : Addr}

/-! ### whole_entry of the other slots, whole at each depth -/
theorem ok_entry {LR : D → D → Prop} {j : Nat} (hj : 6 ≤ j) (T : Txt w K mg dW aC) (F : Dn K mg "whole_entry" st_whole_entry) (C_whole_set : Cal P w K mg base 4 "whole_set" sp_whole_set) (C_cell : Cal P w K mg base j "whole" (sp_whole LCell)) (C_lr : Cal P w K mg base j "whole" (sp_whole LR))
    (C_allowed_numbers : Cal P w K mg base 1 "allowed_numbers" sp_allowed_numbers) (C_count_of : Cal P w K mg base 1 "count_of" sp_count_of) (C_unwrap : Cal P w K mg base 1 "unwrap" sp_unwrap) (C_element_layout : Cal P w K mg base 2 "element_layout" sp_element_layout) :
    Cal P w K mg base (j + 1) "whole_entry" (sp_whole_entry (SRes LR)) := by
  refine cal_mk F sc_whole_entry bd_whole_entry (fun vs H Q E h => ?_) (fun f cdv A outer s H vs Q E hr h => ?_)
  · obtain ⟨v, s, r, rfl, _⟩ := h
    rfl
  obtain ⟨v, s, r, rfl, hv, hS, q⟩ := h
  cases hS with
  | int nm it p hok =>
    refine ⟨_, (pss_cons (ps_asg (pv 0) (pg_tup rfl (pgs_cons (pg_name (i := 1) sc_whole_entry.nd rfl (Or.inl rfl)) (pgs_cons (pg_name (i := 2) sc_whole_entry.nd rfl (Or.inl rfl)) (pgs_cons (pg_name (i := 3) sc_whole_entry.nd rfl (Or.inl rfl)) pgs_nil)))))
      (pss_cons (ps_if (pt_cmpR op_notN (pv 3) pe_non (nomark _)) (pss_one (ps_ret (pe_k C_whole_set hr (by omega) (by rfl) (pa_cons (pv 3) pa_nil)))) pss_nil) pss_never)), ?_⟩
    obtain ⟨a, us, rfl, ha, l⟩ := hv.tupI
    obtain _ | ⟨h0, _ | ⟨h1, _ | ⟨h2, _ | _⟩⟩⟩ := l
    obtain ⟨b, bvs, rfl, hb, lb⟩ := id h2.tupI
    refine ⟨_, rfl, a, _, rfl, SqT.has ha, rfl, _, _, rfl, _, _, rfl, _, _, rfl, rfl, ?_⟩
    refine ⟨_, rfl, rfl, _, rfl, ite_nyes (fun e => by cases e) ?_⟩
    exact ⟨_, rfl, _, p, rfl, h2, hok, q⟩
  | comp nm it r hC =>
    obtain ⟨a, us, rfl, ha, l⟩ := hv.tupI
    obtain _ | ⟨h0, _ | ⟨h1, _ | ⟨⟨⟩, _ | _⟩⟩⟩ := l
    cases hC with
    | record z l0 r0 hl =>
      have C_whole := C_lr
      refine ⟨_, (pss_cons (ps_asg (pv 0) (pg_tup rfl (pgs_cons (pg_name (i := 1) sc_whole_entry.nd rfl (Or.inl rfl)) (pgs_cons (pg_name (i := 2) sc_whole_entry.nd rfl (Or.inl rfl)) (pgs_cons (pg_name (i := 3) sc_whole_entry.nd rfl (Or.inl rfl)) pgs_nil)))))
    (pss_cons (ps_if (pt_cmpR op_notN (pv 3) pe_non (nomark _))
      (pss_one (ps_ret (pe_k C_whole_set hr (by omega) (by rfl) (pa_cons (pv 3) pa_nil))))
      pss_nil)
    (pss_cons (ps_if (pt_cmpR op_eq (pe_ix ix_tup (pv 2) pe_int (fun _ _ => rfl)) pe_str (nomark _))
      (pss_one (ps_ret (pe_k C_whole hr (by omega) (by rfl) (pa_cons (pe_ix ix_tup (pv 2) pe_int (fun _ _ => rfl)) pa_nil))))
      pss_nil)
    (pss_cons (ps_if (pt_cmpR op_eq (pe_ix ix_tup (pv 2) pe_int (fun _ _ => rfl)) pe_str (nomark _))
      (pss_one (ps_ret (pe_tup (pa_cons pe_str (pa_cons (pe_callTy call_tuple_of (by rfl) T.b_tuple (by decide +kernel) (pa_cons (pe_lc (own := [("case", 6)]) (g := (gName 6)) (tt := tYes) rfl sc_whole_entry.nd (pi_tup (pe_ix ix_tup (pv 2) pe_int (fun _ _ => rfl))) (blkOk_by (own := [("case", 6)]) (N := N_whole_entry) (sc := defScope st_whole_entry) (by decide +kernel)) (fun _ _ _ _ _ => (pg_name (i := 6) sc_whole_entry.nd rfl (Or.inl rfl))) (fun _ _ _ _ _ => pts_nil) (fun _ _ _ _ _ => (pe_tup (pa_cons (pe_ix (ix_tupK (K := K) rfl) (pv 6) pe_int (fun _ _ => rfl)) (pa_cons (pe_k C_whole hr (by omega) (by rfl) (pa_cons (pe_ix (ix_tupK (K := K) rfl) (pv 6) pe_int (fun _ _ => rfl)) pa_nil)) pa_nil))))) pa_nil)) pa_nil)))))
      pss_nil)
    (pss_cons (ps_set (i := 4) sc_whole_entry.nd rfl (Or.inl rfl) (pe_k C_allowed_numbers hr (by omega) (by rfl) (pa_cons (pe_k C_count_of hr (by omega) (by rfl) (pa_cons (pv 2) pa_nil)) pa_nil)))
    (pss_cons (ps_set (i := 5) sc_whole_entry.nd rfl (Or.inl rfl) (pe_k C_unwrap hr (by omega) (by rfl) (pa_cons (pv 2) (pa_cons (pe_k C_whole hr (by omega) (by rfl) (pa_cons (pe_k C_element_layout hr (by omega) (by rfl) (pa_cons (pv 2) pa_nil)) pa_nil)) pa_nil))))
    (pss_one (ps_ret (pe_tup (pa_cons pe_str (pa_cons (pe_callTy call_tuple_of (by rfl) T.b_tuple (by decide +kernel) (pa_cons (pv 4) pa_nil)) (pa_cons (pe_op op_repA (pe_tup (pa_cons (pv 5) pa_nil)) (pe_ix ix_list (pv 4) (pe_un un_neg pe_int) (fun _ _ => rfl))) pa_nil)))))))))))), ?_⟩
      obtain ⟨b, bvs, rfl, hb, lb⟩ := h1.tupI
      obtain _ | ⟨⟨⟩, _ | ⟨⟨⟩, _ | ⟨h2, _ | _⟩⟩⟩ := lb
      refine ⟨_, rfl, a, _, rfl, SqT.has ha, rfl, _, _, rfl, _, _, rfl, _, _, rfl, rfl, ?_⟩
      refine ⟨_, rfl, rfl, _, rfl, ite_nno rfl ?_⟩
      refine ⟨_, rfl, b, _, 0, _, rfl, rfl, SqT.has hb, i0, rfl, _, rfl, ite_yes rfl ?_⟩
      exact ⟨_, rfl, b, _, 2, _, rfl, rfl, SqT.has hb, i2, _, l0, r, rfl, h2, hl, q⟩
    | choice z w5 cs hcl hcs =>
      have C_whole := C_lr
      refine ⟨_, (pss_cons (ps_asg (pv 0) (pg_tup rfl (pgs_cons (pg_name (i := 1) sc_whole_entry.nd rfl (Or.inl rfl)) (pgs_cons (pg_name (i := 2) sc_whole_entry.nd rfl (Or.inl rfl)) (pgs_cons (pg_name (i := 3) sc_whole_entry.nd rfl (Or.inl rfl)) pgs_nil)))))
    (pss_cons (ps_if (pt_cmpR op_notN (pv 3) pe_non (nomark _))
      (pss_one (ps_ret (pe_k C_whole_set hr (by omega) (by rfl) (pa_cons (pv 3) pa_nil))))
      pss_nil)
    (pss_cons (ps_if (pt_cmpR op_eq (pe_ix ix_tup (pv 2) pe_int (fun _ _ => rfl)) pe_str (nomark _))
      (pss_one (ps_ret (pe_k C_whole hr (by omega) (by rfl) (pa_cons (pe_ix ix_tup (pv 2) pe_int (fun _ _ => rfl)) pa_nil))))
      pss_nil)
    (pss_cons (ps_if (pt_cmpR op_eq (pe_ix ix_tup (pv 2) pe_int (fun _ _ => rfl)) pe_str (nomark _))
      (pss_one (ps_ret (pe_tup (pa_cons pe_str (pa_cons (pe_callTy call_tuple_of (by rfl) T.b_tuple (by decide +kernel) (pa_cons (pe_lc (own := [("case", 6)]) (g := (gName 6)) (tt := tYes) rfl sc_whole_entry.nd (pi_tup (pe_ix ix_tup (pv 2) pe_int (fun _ _ => rfl))) (blkOk_by (own := [("case", 6)]) (N := N_whole_entry) (sc := defScope st_whole_entry) (by decide +kernel)) (fun _ _ _ _ _ => (pg_name (i := 6) sc_whole_entry.nd rfl (Or.inl rfl))) (fun _ _ _ _ _ => pts_nil) (fun _ _ _ _ _ => (pe_tup (pa_cons (pe_ix (ix_tupK (K := K) rfl) (pv 6) pe_int (fun _ _ => rfl)) (pa_cons (pe_k C_whole hr (by omega) (by rfl) (pa_cons (pe_ix (ix_tupK (K := K) rfl) (pv 6) pe_int (fun _ _ => rfl)) pa_nil)) pa_nil))))) pa_nil)) pa_nil)))))
      pss_nil)
    (pss_cons (ps_set (i := 4) sc_whole_entry.nd rfl (Or.inl rfl) (pe_k C_allowed_numbers hr (by omega) (by rfl) (pa_cons (pe_k C_count_of hr (by omega) (by rfl) (pa_cons (pv 2) pa_nil)) pa_nil)))
    (pss_cons (ps_set (i := 5) sc_whole_entry.nd rfl (Or.inl rfl) (pe_k C_unwrap hr (by omega) (by rfl) (pa_cons (pv 2) (pa_cons (pe_k C_whole hr (by omega) (by rfl) (pa_cons (pe_k C_element_layout hr (by omega) (by rfl) (pa_cons (pv 2) pa_nil)) pa_nil)) pa_nil))))
    (pss_one (ps_ret (pe_tup (pa_cons pe_str (pa_cons (pe_callTy call_tuple_of (by rfl) T.b_tuple (by decide +kernel) (pa_cons (pv 4) pa_nil)) (pa_cons (pe_op op_repA (pe_tup (pa_cons (pv 5) pa_nil)) (pe_ix ix_list (pv 4) (pe_un un_neg pe_int) (fun _ _ => rfl))) pa_nil)))))))))))), ?_⟩
      obtain ⟨b, bvs, rfl, hb, lb⟩ := h1.tupI
      obtain _ | ⟨⟨⟩, _ | ⟨⟨⟩, _ | ⟨⟨⟩, _ | ⟨h3, _ | _⟩⟩⟩⟩ := lb
      obtain ⟨c, cvs, rfl, hc, lc⟩ := h3.tupI
      refine ⟨_, rfl, a, _, rfl, SqT.has ha, rfl, _, _, rfl, _, _, rfl, _, _, rfl, rfl, ?_⟩
      refine ⟨_, rfl, rfl, _, rfl, ite_nno rfl ?_⟩
      refine ⟨_, rfl, b, _, 0, _, rfl, rfl, SqT.has hb, i0, rfl, _, rfl, ite_no (by decide +kernel) ?_⟩
      refine ⟨_, rfl, b, _, 0, _, rfl, rfl, SqT.has hb, i0, rfl, _, rfl, ite_yes rfl ?_⟩
      refine ⟨_, rfl, b, _, 3, _, rfl, rfl, SqT.has hb, i3, c, rfl, ⟨_, SqT.has hc⟩, fun D nD => ?_⟩
      have hcv : cvs.length = cs.length := by rw [lc.len, List.length_map]
      refine walk_any (walk_tup (xs := cvs)) (fun i H3 => ∃ acc, Same H H3 ∧ H3 D = some (.lst acc) ∧ HasL H3 acc ((cs.take i).map Case.r))
        ⟨[], same_new nD, upd_same, .nil⟩ (fun i H3 _ hw => by obtain ⟨_, s3, _⟩ := hw; exact SqT.has (s3 _ _ hc)) (fun i x H3 H3' hi hw hy => ?_) (fun H3 hw => ?_)
      · obtain ⟨acc, s3, hD, hla⟩ := hw
        obtain ⟨rfl, hx⟩ := hy
        obtain ⟨d, hd, hdx⟩ := lc.getV hx
        rw [List.getElem?_map] at hd
        obtain ⟨cc, hcc, rfl⟩ := Option.map_eq_some_iff.mp hd
        obtain ⟨e, evs, rfl, he, le⟩ := (hdx.mono (kt_same s3)).tupI
        obtain _ | ⟨⟨⟩, _ | ⟨⟨⟩, _ | ⟨g2, _ | _⟩⟩⟩ := le
        refine ⟨rfl, _, rfl, e, _, 1, _, rfl, rfl, SqT.has he, i1, ?_⟩
        refine ⟨_, rfl, e, _, 2, _, rfl, rfl, SqT.has he, i2, _, cc.lay, cc.res, rfl, g2, hcs cc (List.mem_of_getElem? hcc), fun u H4 s4 h4 => ⟨szl _, fun t nt => ?_⟩⟩
        have hD4 := s4 _ _ hD
        have nDt : D ≠ t := ne_of_none hD4 nt
        refine ⟨acc, (by rw [upd_ne nDt]; exact hD4), small_lt ?_, acc ++ [.ref t], same_mut ((s3.trans s4).trans (same_new nt)) nD, upd_same, ?_⟩
        · rw [hla.len, List.length_map, List.length_take]
          omega
        · rw [List.take_add_one, hcc, List.map_append]
          exact (((hla.mono (kt_same s4)).mono (kt_new nt)).snoc (Has.new (.cons (.str _) (.cons h4 .nil)) nt)).mono (kt_upd (xs := acc) (by rw [upd_ne nDt]; exact hD4))
      · obtain ⟨acc, s3, hD, hla⟩ := hw
        rw [hcv, List.take_length] at hla
        refine ⟨D, acc, rfl, .inl ⟨SqL.has hD, fun t nt => ⟨szl _, fun t2 nt2 => ?_⟩⟩⟩
        exact q _ _ ((s3.trans (same_new nt)).trans (same_new nt2)) (Has.new (.cons (.str _) (.cons (Has.new hla nt) .nil)) nt2)
    | array z w5 sg c rs df hc hrs =>
      have C_whole := C_cell
      refine ⟨_, (pss_cons (ps_asg (pv 0) (pg_tup rfl (pgs_cons (pg_name (i := 1) sc_whole_entry.nd rfl (Or.inl rfl)) (pgs_cons (pg_name (i := 2) sc_whole_entry.nd rfl (Or.inl rfl)) (pgs_cons (pg_name (i := 3) sc_whole_entry.nd rfl (Or.inl rfl)) pgs_nil)))))
    (pss_cons (ps_if (pt_cmpR op_notN (pv 3) pe_non (nomark _))
      (pss_one (ps_ret (pe_k C_whole_set hr (by omega) (by rfl) (pa_cons (pv 3) pa_nil))))
      pss_nil)
    (pss_cons (ps_if (pt_cmpR op_eq (pe_ix ix_tup (pv 2) pe_int (fun _ _ => rfl)) pe_str (nomark _))
      (pss_one (ps_ret (pe_k C_whole hr (by omega) (by rfl) (pa_cons (pe_ix ix_tup (pv 2) pe_int (fun _ _ => rfl)) pa_nil))))
      pss_nil)
    (pss_cons (ps_if (pt_cmpR op_eq (pe_ix ix_tup (pv 2) pe_int (fun _ _ => rfl)) pe_str (nomark _))
      (pss_one (ps_ret (pe_tup (pa_cons pe_str (pa_cons (pe_callTy call_tuple_of (by rfl) T.b_tuple (by decide +kernel) (pa_cons (pe_lc (own := [("case", 6)]) (g := (gName 6)) (tt := tYes) rfl sc_whole_entry.nd (pi_tup (pe_ix ix_tup (pv 2) pe_int (fun _ _ => rfl))) (blkOk_by (own := [("case", 6)]) (N := N_whole_entry) (sc := defScope st_whole_entry) (by decide +kernel)) (fun _ _ _ _ _ => (pg_name (i := 6) sc_whole_entry.nd rfl (Or.inl rfl))) (fun _ _ _ _ _ => pts_nil) (fun _ _ _ _ _ => (pe_tup (pa_cons (pe_ix (ix_tupK (K := K) rfl) (pv 6) pe_int (fun _ _ => rfl)) (pa_cons (pe_k C_whole hr (by omega) (by rfl) (pa_cons (pe_ix (ix_tupK (K := K) rfl) (pv 6) pe_int (fun _ _ => rfl)) pa_nil)) pa_nil))))) pa_nil)) pa_nil)))))
      pss_nil)
    (pss_cons (ps_set (i := 4) sc_whole_entry.nd rfl (Or.inl rfl) (pe_k C_allowed_numbers hr (by omega) (by rfl) (pa_cons (pe_k C_count_of hr (by omega) (by rfl) (pa_cons (pv 2) pa_nil)) pa_nil)))
    (pss_cons (ps_set (i := 5) sc_whole_entry.nd rfl (Or.inl rfl) (pe_k C_unwrap hr (by omega) (by rfl) (pa_cons (pv 2) (pa_cons (pe_k C_whole hr (by omega) (by rfl) (pa_cons (pe_k C_element_layout hr (by omega) (by rfl) (pa_cons (pv 2) pa_nil)) pa_nil)) pa_nil))))
    (pss_one (ps_ret (pe_tup (pa_cons pe_str (pa_cons (pe_callTy call_tuple_of (by rfl) T.b_tuple (by decide +kernel) (pa_cons (pv 4) pa_nil)) (pa_cons (pe_op op_repA (pe_tup (pa_cons (pv 5) pa_nil)) (pe_ix ix_list (pv 4) (pe_un un_neg pe_int) (fun _ _ => rfl))) pa_nil)))))))))))), ?_⟩
      obtain ⟨b, bvs, rfl, hb, lb⟩ := id h1.tupI
      obtain _ | ⟨⟨⟩, lb⟩ := lb
      refine ⟨_, rfl, a, _, rfl, SqT.has ha, rfl, _, _, rfl, _, _, rfl, _, _, rfl, rfl, ?_⟩
      refine ⟨_, rfl, rfl, _, rfl, ite_nno rfl ?_⟩
      refine ⟨_, rfl, b, _, 0, _, rfl, rfl, SqT.has hb, i0, rfl, _, rfl, ite_no (by decide +kernel) ?_⟩
      refine ⟨_, rfl, b, _, 0, _, rfl, rfl, SqT.has hb, i0, rfl, _, rfl, ite_no (by decide +kernel) ?_⟩
      refine ⟨_, rfl, _, _, c, rfl, h1, .array _ _ _ _ _ c, fun u hu => ⟨u, c, rfl, hu, hc, fun p H1 s1 np hp => ?_⟩⟩
      have h1b := h1.mono (kt_same s1)
      refine ⟨_, rfl, _, rfl, .inl ⟨_, z, w5, sg, c, rs, df, rfl, h1b, fun u2 H2 s2 hu2 => ?_⟩⟩
      refine ⟨u2, _, _, rfl, hu2, ⟨w5, sg, rs, df, hrs, rfl, rfl⟩, fun u3 H3 s3 hu3 => ?_⟩
      have s23 := s2.trans s3
      refine .inl ⟨_, _, _, _, rfl, h1b.mono (kt_same s23), hu3, fun x hx => ?_⟩
      obtain ⟨k1, k2, k3⟩ := hc
      have hp3 := s23 _ _ hp
      refine ⟨_, rfl, p, _, rfl, .inl ⟨SqL.has hp3, fun t nt => ?_⟩⟩
      refine ⟨_, rfl, szl _, fun t1 nt1 => ?_⟩
      refine ⟨_, rfl, 1, rfl, p, _, _, _, rfl, rfl, SqL.has (same_new nt1 _ _ (same_new nt _ _ hp3)), num_last c.lo c.hi k1, ?_⟩
      have hn : HasL (upd H3 t (.tup (c.nums.map V.int))) (c.nums.map V.int) (c.nums.map Wp.D.int) := HasL.ints _
      refine ⟨t1, c.hi, _, rfl, rfl, SqT.has upd_same, List.cons_ne_nil _ _, by omega, by omega, Nat.le_of_ble_eq_true rfl, fun e1 => ?_, fun e2 t2 nt2 => ?_⟩
      · refine ⟨szl _, fun t3 nt3 => ?_⟩
        refine q _ _ ((((s1.trans s23).trans (same_new nt)).trans (same_new nt1)).trans (same_new nt3)) ?_
        have e0 : c.hi = 1 := by omega
        unfold countsD
        rw [e0]
        exact Has.new (.cons (.str _) (.cons ((Has.new (HasL.ints _) nt).mono (kt_new nt1)) (.cons (Has.new (.cons (hx.mono (kt_new nt)) .nil) nt1) .nil))) nt3
      · refine ⟨szl _, fun t3 nt3 => ?_⟩
        refine q _ _ (((((s1.trans s23).trans (same_new nt)).trans (same_new nt1)).trans (same_new nt2)).trans (same_new nt3)) ?_
        unfold countsD
        refine Has.new (.cons (.str _) (.cons (((Has.new (HasL.ints _) nt).mono (kt_new nt1)).mono (kt_new nt2)) (.cons (Has.new ?_ nt2) .nil))) nt3
        rw [rep_one, Int.toNat_natCast]
        exact HasL.rep ((hx.mono (kt_new nt)).mono (kt_new nt1)) _
    | list z c l0 r0 hc hl =>
      have C_whole := C_lr
      refine ⟨_, (pss_cons (ps_asg (pv 0) (pg_tup rfl (pgs_cons (pg_name (i := 1) sc_whole_entry.nd rfl (Or.inl rfl)) (pgs_cons (pg_name (i := 2) sc_whole_entry.nd rfl (Or.inl rfl)) (pgs_cons (pg_name (i := 3) sc_whole_entry.nd rfl (Or.inl rfl)) pgs_nil)))))
    (pss_cons (ps_if (pt_cmpR op_notN (pv 3) pe_non (nomark _))
      (pss_one (ps_ret (pe_k C_whole_set hr (by omega) (by rfl) (pa_cons (pv 3) pa_nil))))
      pss_nil)
    (pss_cons (ps_if (pt_cmpR op_eq (pe_ix ix_tup (pv 2) pe_int (fun _ _ => rfl)) pe_str (nomark _))
      (pss_one (ps_ret (pe_k C_whole hr (by omega) (by rfl) (pa_cons (pe_ix ix_tup (pv 2) pe_int (fun _ _ => rfl)) pa_nil))))
      pss_nil)
    (pss_cons (ps_if (pt_cmpR op_eq (pe_ix ix_tup (pv 2) pe_int (fun _ _ => rfl)) pe_str (nomark _))
      (pss_one (ps_ret (pe_tup (pa_cons pe_str (pa_cons (pe_callTy call_tuple_of (by rfl) T.b_tuple (by decide +kernel) (pa_cons (pe_lc (own := [("case", 6)]) (g := (gName 6)) (tt := tYes) rfl sc_whole_entry.nd (pi_tup (pe_ix ix_tup (pv 2) pe_int (fun _ _ => rfl))) (blkOk_by (own := [("case", 6)]) (N := N_whole_entry) (sc := defScope st_whole_entry) (by decide +kernel)) (fun _ _ _ _ _ => (pg_name (i := 6) sc_whole_entry.nd rfl (Or.inl rfl))) (fun _ _ _ _ _ => pts_nil) (fun _ _ _ _ _ => (pe_tup (pa_cons (pe_ix (ix_tupK (K := K) rfl) (pv 6) pe_int (fun _ _ => rfl)) (pa_cons (pe_k C_whole hr (by omega) (by rfl) (pa_cons (pe_ix (ix_tupK (K := K) rfl) (pv 6) pe_int (fun _ _ => rfl)) pa_nil)) pa_nil))))) pa_nil)) pa_nil)))))
      pss_nil)
    (pss_cons (ps_set (i := 4) sc_whole_entry.nd rfl (Or.inl rfl) (pe_k C_allowed_numbers hr (by omega) (by rfl) (pa_cons (pe_k C_count_of hr (by omega) (by rfl) (pa_cons (pv 2) pa_nil)) pa_nil)))
    (pss_cons (ps_set (i := 5) sc_whole_entry.nd rfl (Or.inl rfl) (pe_k C_unwrap hr (by omega) (by rfl) (pa_cons (pv 2) (pa_cons (pe_k C_whole hr (by omega) (by rfl) (pa_cons (pe_k C_element_layout hr (by omega) (by rfl) (pa_cons (pv 2) pa_nil)) pa_nil)) pa_nil))))
    (pss_one (ps_ret (pe_tup (pa_cons pe_str (pa_cons (pe_callTy call_tuple_of (by rfl) T.b_tuple (by decide +kernel) (pa_cons (pv 4) pa_nil)) (pa_cons (pe_op op_repA (pe_tup (pa_cons (pv 5) pa_nil)) (pe_ix ix_list (pv 4) (pe_un un_neg pe_int) (fun _ _ => rfl))) pa_nil)))))))))))), ?_⟩
      obtain ⟨b, bvs, rfl, hb, lb⟩ := id h1.tupI
      obtain _ | ⟨⟨⟩, lb⟩ := lb
      refine ⟨_, rfl, a, _, rfl, SqT.has ha, rfl, _, _, rfl, _, _, rfl, _, _, rfl, rfl, ?_⟩
      refine ⟨_, rfl, rfl, _, rfl, ite_nno rfl ?_⟩
      refine ⟨_, rfl, b, _, 0, _, rfl, rfl, SqT.has hb, i0, rfl, _, rfl, ite_no (by decide +kernel) ?_⟩
      refine ⟨_, rfl, b, _, 0, _, rfl, rfl, SqT.has hb, i0, rfl, _, rfl, ite_no (by decide +kernel) ?_⟩
      refine ⟨_, rfl, _, _, c, rfl, h1, .list _ _ c, fun u hu => ⟨u, c, rfl, hu, hc, fun p H1 s1 np hp => ?_⟩⟩
      have h1b := h1.mono (kt_same s1)
      refine ⟨_, rfl, _, rfl, .inr ⟨_, z, c, l0, rfl, h1b, fun u2 hu2 => ?_⟩⟩
      refine ⟨u2, _, _, rfl, hu2, hl, fun u3 H3 s3 hu3 => ?_⟩
      refine .inr ⟨_, u3, _, rfl, h1b.mono (kt_same s3), ?_⟩
      obtain ⟨k1, k2, k3⟩ := hc
      have hp3 := s3 _ _ hp
      refine ⟨_, rfl, p, _, rfl, .inl ⟨SqL.has hp3, fun t nt => ?_⟩⟩
      refine ⟨_, rfl, szl _, fun t1 nt1 => ?_⟩
      refine ⟨_, rfl, 1, rfl, p, _, _, _, rfl, rfl, SqL.has (same_new nt1 _ _ (same_new nt _ _ hp3)), num_last c.lo c.hi k1, ?_⟩
      refine ⟨t1, c.hi, _, rfl, rfl, SqT.has upd_same, List.cons_ne_nil _ _, by omega, by omega, Nat.le_of_ble_eq_true rfl, fun e1 => ?_, fun e2 t2 nt2 => ?_⟩
      · refine ⟨szl _, fun t3 nt3 => ?_⟩
        refine q _ _ ((((s1.trans s3).trans (same_new nt)).trans (same_new nt1)).trans (same_new nt3)) ?_
        have e0 : c.hi = 1 := by omega
        unfold countsD
        rw [e0]
        exact Has.new (.cons (.str _) (.cons ((Has.new (HasL.ints _) nt).mono (kt_new nt1)) (.cons (Has.new (.cons (hu3.mono (kt_new nt)) .nil) nt1) .nil))) nt3
      · refine ⟨szl _, fun t3 nt3 => ?_⟩
        refine q _ _ (((((s1.trans s3).trans (same_new nt)).trans (same_new nt1)).trans (same_new nt2)).trans (same_new nt3)) ?_
        unfold countsD
        refine Has.new (.cons (.str _) (.cons (((Has.new (HasL.ints _) nt).mono (kt_new nt1)).mono (kt_new nt2)) (.cons (Has.new ?_ nt2) .nil))) nt3
        rw [rep_one, Int.toNat_natCast]
        exact HasL.rep ((hu3.mono (kt_new nt)).mono (kt_new nt1)) _
end
end Wp

namespace Wp
open PySem PySem.Spec PyProof.Rows L2
section
variable {P : Program} {w : World} {K : PySem.W.Frag} {mg : Str → Option Value} {base : Heap} {dW aC : Addr}

theorem named_mem {ps : List Part} {p : Part} (h : p ∈ named ps) : p ∈ ps ∧ p.name.isSome = true := by
  unfold named at h
  exact List.mem_filter.mp h
theorem paired_map {α β γ : Type} {R : β → γ → Prop} {f : α → β} {g : α → γ} : ∀ {xs : List α}, (∀ x ∈ xs, R (f x) (g x)) → Paired R (xs.map f) (xs.map g)
  | [], _ => .nil
  | x :: r, h => .cons (h x (List.mem_cons_self ..)) (paired_map fun y hy => h y (List.mem_cons_of_mem _ hy))
theorem paired_app {α β : Type} {R : α → β → Prop} : ∀ {xs xs' : List α} {ys ys' : List β}, Paired R xs ys → Paired R xs' ys' → Paired R (xs ++ xs') (ys ++ ys')
  | _, _, _, _, .nil, t => t
  | _, _, _, _, .cons h r, t => .cons h (paired_app r t)
/-- an item's slots with their entries -/
theorem slots_of {LR : D → D → Prop} {it : D} {rs : List D} (h : IRes LR it rs) : ∃ ss, ISl it ss ∧ Paired (SRes LR) ss rs := by
  cases h with
  | word w5 ps hp hok =>
    exact ⟨_, .word w5 ps hp, paired_map fun p hp => .int _ _ p (hok p (named_mem hp).1)⟩
  | comp it r hC =>
    cases hC with
    | array nm w5 sg c rs df h1 h2 => exact ⟨_, .comp _ nm _ (.inl rfl), .cons (.comp _ _ _ (.array nm w5 sg c rs df h1 h2)) .nil⟩
    | list nm c l r h1 h2 => exact ⟨_, .comp _ nm _ (.inr (.inl rfl)), .cons (.comp _ _ _ (.list nm c l _ h1 h2)) .nil⟩
    | choice nm w5 cs h1 h2 => exact ⟨_, .comp _ nm _ (.inr (.inr (.inl rfl))), .cons (.comp _ _ _ (.choice nm w5 cs h1 h2)) .nil⟩
    | record nm l r h1 => exact ⟨_, .comp _ nm _ (.inr (.inr (.inr rfl))), .cons (.comp _ _ _ (.record nm l _ h1)) .nil⟩
  | fixed it hF =>
    cases hF with
    | lit x => exact ⟨_, .fixed _ _ (.inl rfl), .nil⟩
    | res x => exact ⟨_, .fixed _ _ (.inr (.inl rfl)), .nil⟩
    | chk x => exact ⟨_, .fixed _ _ (.inr (.inr rfl)), .nil⟩
theorem slots_all {LR : D → D → Prop} : ∀ {its : List D} {rss : List (List D)}, Paired (IRes LR) its rss → ∃ sss, Paired ISl its sss ∧ Paired (SRes LR) sss.flatten rss.flatten
  | _, _, .nil => ⟨[], .nil, .nil⟩
  | _, _, .cons h t => by
    obtain ⟨ss, h1, h2⟩ := slots_of h
    obtain ⟨sss, h3, h4⟩ := slots_all t
    exact ⟨ss :: sss, .cons h1 h3, paired_app h2 h4⟩
theorem bySlots_step (LR : D → D → Prop) : BySlots (SRes LR) (LStep LR) := fun l r h => by
  obtain ⟨its, rss, rfl, hn, hP, rfl⟩ := h
  obtain ⟨sss, h1, h2⟩ := slots_all hP
  exact ⟨its, sss, _, rfl, hn, h1, rfl, h2⟩
theorem bySlots_cell : BySlots SInt LCell := fun l r h => by
  obtain ⟨w5, sg, rs, df, hr, rfl, rfl⟩ := h
  refine ⟨_, _, _, rfl, Nat.le_of_ble_eq_true rfl, .cons (.word w5 [⟨some "", 8 * w5.size, sg, rs, df⟩] (Nat.le_of_ble_eq_true rfl)) .nil, rfl, ?_⟩
  have hw := w5.size_le
  exact .cons (.int _ _ ⟨some "", 8 * w5.size, sg, rs, df⟩ ⟨by show 8 * w5.size ≤ 32; omega, hr⟩) .nil
/-- what stands in the module of the program -/
structure Prog (K : PySem.W.Frag) (mg : Str → Option Value) : Prop where
  word_size : Dn K mg "word_size" st_word_size
  code_of : Dn K mg "code_of" st_code_of
  fields : Dn K mg "fields" st_fields
  slots : Dn K mg "slots" st_slots
  count_of : Dn K mg "count_of" st_count_of
  allowed_numbers : Dn K mg "allowed_numbers" st_allowed_numbers
  element_layout : Dn K mg "element_layout" st_element_layout
  unwrap : Dn K mg "unwrap" st_unwrap
  ones : Dn K mg "ones" st_ones
  free_bits : Dn K mg "free_bits" st_free_bits
  agreement : Dn K mg "agreement" st_agreement
  set_of : Dn K mg "set_of" st_set_of
  whole_set : Dn K mg "whole_set" st_whole_set
  whole_entry : Dn K mg "whole_entry" st_whole_entry
  whole : Dn K mg "whole" st_whole
/-- whole, for layouts of each depth -/
theorem wholes (T : Txt w K mg dW aC) (G : Prog K mg) (n : Nat) : Cal P w K mg base (8 + 2 * n) "whole" (sp_whole (LRes n)) := by
  have c_ws : Cal P w K mg base 1 "word_size" sp_word_size := ok_word_size T G.word_size
  have c_slots : Cal P w K mg base 3 "slots" sp_slots := ok_slots T G.slots (ok_fields G.fields c_ws)
  have c_set : Cal P w K mg base 4 "whole_set" sp_whole_set := ok_whole_set T G.whole_set (ok_set_of T G.set_of (ok_code_of G.code_of) (ok_agreement G.agreement (ok_ones G.ones)) (ok_free_bits T G.free_bits))
  have c_cell : Cal P w K mg base 6 "whole" (sp_whole LCell) := ok_whole (by omega) bySlots_cell T G.whole c_slots (ok_entry_int G.whole_entry c_set)
  have entry : ∀ {LR : D → D → Prop} {j : Nat}, 6 ≤ j → Cal P w K mg base j "whole" (sp_whole LR) → Cal P w K mg base (j + 1) "whole_entry" (sp_whole_entry (SRes LR)) := fun hj c =>
    ok_entry hj T G.whole_entry c_set (c_cell.mono hj) c (ok_allowed_numbers T G.allowed_numbers) (ok_count_of G.count_of) (ok_unwrap G.unwrap) (ok_element_layout G.element_layout c_ws)
  induction n with
  | zero =>
    have c0 : Cal P w K mg base 6 "whole" (sp_whole fun _ _ => False) := c_cell.imp fun vs H Q E h => by
      obtain ⟨_, _, _, _, _, z, _⟩ := h
      exact z.elim
    exact ok_whole (by omega) (bySlots_step _) T G.whole c_slots (entry (Nat.le_refl 6) c0)
  | succ n ih => exact ok_whole (k := 8 + 2 * n + 1) (by omega) (bySlots_step _) T G.whole c_slots (entry (by omega) ih)
end
end Wp

namespace Wp
open PySem PySem.Spec PyProof.Rows L2
section
variable {P : Program} {w : World} {K : PySem.W.Frag} {mg : Str → Option Value} {base : Heap} {dW aC : Addr}

/-! ### _law_size, _law_bounds, _law_listed, _law_set, _law_every -/
def sizeKs : List (Key × V) := [(Sum.inr "u8", .int 1), (Sum.inr "u16be", .int 2), (Sum.inr "u16le", .int 2), (Sum.inr "u32be", .int 4), (Sum.inr "u32le", .int 4)]
theorem sizeKs_at (w5 : W5) : valV (mergeK [] sizeKs) (Sum.inr w5.str) = some (.int w5.size) := by
  cases w5 <;> decide +kernel
def sp_law_size : Sp := fun vs H Q _ => ∃ w5 : W5, vs = [.str w5.str] ∧ ∀ H', Same H H' → Q (.int w5.size) H'
theorem ok_law_size (F : Dn K mg "_law_size" st_law_size) : Cal P w K mg base 1 "_law_size" sp_law_size := by
  refine cal_mk F sc_l_size bd_law_size (fun vs H Q E h => ?_) (fun f cdv A outer s H vs Q E hr h => ?_)
  · obtain ⟨w5, rfl, _⟩ := h
    rfl
  obtain ⟨w5, rfl, q⟩ := h
  have hu := hu_of hr
  refine ⟨_, (pss_one (ps_ret (pe_dget hu (pe_disp (pps_cons pe_str pe_int (pps_cons pe_str pe_int (pps_cons pe_str pe_int (pps_cons pe_str pe_int (pps_cons pe_str pe_int pps_nil))))) (by rfl) (by rfl) (fun z => by cases z) (by decide)) (pv 0) (fun _ _ => rfl)))), ?_⟩
  intro p np
  refine ⟨upd_same, sizeKs, rfl, by decide, ?_⟩
  refine ⟨_, rfl, p, _, rfl, ?_, q _ (same_mut (same_new np) np)⟩
  have h := DGet.k (k := Sum.inr w5.str) (upd_same (H := upd H p (.dK [])) (a := p) (o := .dK (mergeK [] sizeKs)))
  rw [sizeKs_at w5] at h
  exact h
def sp_law_bounds : Sp := fun vs H Q _ => ∃ (v : V) (c : Cnt), vs = [v] ∧ Has H v c.d ∧ ∀ t H', Same H H' → H' t = some (.tup [.int c.lo, .int c.hi]) → Q (.ref t) H'
theorem ok_law_bounds (F : Dn K mg "_law_bounds" st_law_bounds) : Cal P w K mg base 1 "_law_bounds" sp_law_bounds := by
  refine cal_mk F sc_l_bounds bd_law_bounds (fun vs H Q E h => ?_) (fun f cdv A outer s H vs Q E hr h => ?_)
  · obtain ⟨v, c, rfl, _⟩ := h
    rfl
  obtain ⟨v, c, rfl, hv, q⟩ := h
  refine ⟨_, (pss_cons (ps_if (pt_cmpR op_eq (pe_ix ix_tup (pv 0) pe_int (fun _ _ => rfl)) pe_str (nomark _))
      (pss_one (ps_ret (pe_tup (pa_cons (pe_ix ix_tup (pv 0) pe_int (fun _ _ => rfl)) (pa_cons (pe_ix ix_tup (pv 0) pe_int (fun _ _ => rfl)) pa_nil)))))
      pss_nil)
    (pss_one (ps_ret (pe_tup (pa_cons (pe_ifExp (pt_cmpR op_eq (pe_ix ix_tup (pv 0) pe_int (fun _ _ => rfl)) pe_str (nomark _)) (pe_ix ix_tup (pv 0) pe_int (fun _ _ => rfl)) pe_int) (pa_cons (pe_ix ix_tup (pv 0) pe_int (fun _ _ => rfl)) pa_nil)))))), ?_⟩
  cases c with
  | exactly n =>
    obtain ⟨a, us, rfl, ha, l⟩ := hv.tupI
    obtain _ | ⟨⟨⟩, _ | ⟨⟨⟩, _ | _⟩⟩ := l
    refine ⟨_, rfl, a, _, 0, _, rfl, rfl, SqT.has ha, i0, rfl, _, rfl, ite_no (by decide +kernel) ?_⟩
    refine ⟨_, rfl, a, _, 0, _, rfl, rfl, SqT.has ha, i0, rfl, _, rfl, ite_yes rfl ?_⟩
    refine ⟨_, rfl, a, _, 1, _, rfl, rfl, SqT.has ha, i1, ?_⟩
    refine ⟨_, rfl, a, _, 1, _, rfl, rfl, SqT.has ha, i1, szl _, fun t nt => ?_⟩
    exact q t _ (same_new nt) upd_same
  | counted w5 b c =>
    obtain ⟨a, us, rfl, ha, l⟩ := hv.tupI
    obtain _ | ⟨⟨⟩, _ | ⟨⟨⟩, _ | ⟨⟨⟩, _ | ⟨⟨⟩, _ | _⟩⟩⟩⟩ := l
    refine ⟨_, rfl, a, _, 0, _, rfl, rfl, SqT.has ha, i0, rfl, _, rfl, ite_yes rfl ?_⟩
    refine ⟨_, rfl, a, _, 2, _, rfl, rfl, SqT.has ha, i2, ?_⟩
    refine ⟨_, rfl, a, _, 3, _, rfl, rfl, SqT.has ha, i3, szl _, fun t nt => ?_⟩
    exact q t _ (same_new nt) upd_same
  | marked n =>
    obtain ⟨a, us, rfl, ha, l⟩ := hv.tupI
    obtain _ | ⟨⟨⟩, _ | ⟨⟨⟩, _ | _⟩⟩ := l
    refine ⟨_, rfl, a, _, 0, _, rfl, rfl, SqT.has ha, i0, rfl, _, rfl, ite_no (by decide +kernel) ?_⟩
    refine ⟨_, rfl, a, _, 0, _, rfl, rfl, SqT.has ha, i0, rfl, _, rfl, ite_no (by decide +kernel) ?_⟩
    refine ⟨_, rfl, a, _, 1, _, rfl, rfl, SqT.has ha, i1, szl _, fun t nt => ?_⟩
    exact q t _ (same_new nt) upd_same
def sp_law_listed : Sp := fun vs H Q _ => ∃ (x y v : V) (rs : List (Int × Int)), vs = [x, y, v] ∧ Has H v (rngD (some rs)) ∧ rs.length ≤ 1000 ∧ (∀ p ∈ rs, -300 ≤ p.1 ∧ p.1 ≤ 300 ∧ -300 ≤ p.2 ∧ p.2 ≤ 300) ∧
  ∀ p H', Same H H' → H' p = some (.lst ((numsOf rs).map V.int)) → Q (.ref p) H'
theorem ok_law_listed (T : Txt w K mg dW aC) (F : Dn K mg "_law_listed" st_law_listed) : Cal P w K mg base 1 "_law_listed" sp_law_listed := by
  refine cal_mk F sc_l_listed bd_law_listed (fun vs H Q E h => ?_) (fun f cdv A outer s H vs Q E hr h => ?_)
  · obtain ⟨x, y, v, rs, rfl, _⟩ := h
    rfl
  obtain ⟨x, y, v, rs, rfl, hv, hrl, hrb, q⟩ := h
  refine ⟨_, (pss_cons (ps_if (pt_cmpR op_isN (pv 2) pe_non (nomark _))
      (pss_cons (ps_set (i := 3) sc_l_listed.nd rfl (Or.inl rfl) (pe_ifExp (pt_truth (pv 0) (by intro _; rfl)) (pe_un un_neg (pe_op op_shl pe_int (pe_op op_sub (pv 1) pe_int))) pe_int))
      (pss_one (ps_ret (pe_listRg rfl (by rfl) T.b_list (prg_2 (by rfl) T.b_range (pv 3) (pe_op op_add (pv 3) (pe_op op_shl pe_int (pv 1))))))))
      pss_nil)
    (pss_cons (ps_set (i := 4) sc_l_listed.nd rfl (Or.inl rfl) (pe_lst pa_nil))
    (pss_cons (ps_for PassesOwn.never rfl (pi_tup (pv 2)) (pg_name (i := 5) sc_l_listed.nd rfl (Or.inl rfl))
      (pss_one (ps_set (i := 4) sc_l_listed.nd rfl (Or.inl rfl) (pe_op op_cat (pv 4) (pe_listRg rfl (by rfl) T.b_list (prg_2 (by rfl) T.b_range (pe_ix ix_tup (pv 5) pe_int (fun _ _ => rfl)) (pe_op op_add (pe_ix ix_tup (pv 5) pe_int (fun _ _ => rfl)) pe_int)))))))
    (pss_one (ps_ret (pv 4)))))), ?_⟩
  obtain ⟨b, bvs, rfl, hb, lb⟩ := hv.tupI
  refine ⟨_, rfl, rfl, _, rfl, ite_no (fun e => by cases e) ?_⟩
  refine ⟨szl _, fun p0 np0 => ?_⟩
  refine ⟨_, rfl, b, rfl, ⟨_, SqT.has (same_new np0 _ _ hb)⟩, ?_⟩
  have hblen : bvs.length = rs.length := by rw [lb.len, List.length_map]
  refine for_tup (xs := bvs) (fun i σ H' => ∃ (p : Addr) (y5 : Option V), σ = [some x, some y, some (.ref b), none, some (.ref p), y5] ∧ Same H H' ∧ H' p = some (.lst ((numsOf (rs.take i)).map V.int)))
    ⟨p0, none, rfl, same_new np0, upd_same⟩ (fun i σ H' _ hw => ?_) (fun i z σ H' hx hw => ?_) (fun σ H' hw => ?_)
  · obtain ⟨_, _, _, s1, _⟩ := hw
    exact SqT.has (s1 _ _ hb)
  · obtain ⟨p, y5, rfl, s1, hp⟩ := hw
    obtain ⟨d, hd, hdx⟩ := lb.getV hx
    rw [List.getElem?_map] at hd
    obtain ⟨⟨lo, hi⟩, hpr, rfl⟩ := Option.map_eq_some_iff.mp hd
    obtain ⟨c, cvs, rfl, hc, lc⟩ := (hdx.mono (kt_same s1)).tupI
    obtain _ | ⟨⟨⟩, _ | ⟨⟨⟩, _ | _⟩⟩ := lc
    obtain ⟨b1, b2, b3, b4⟩ := hrb _ (List.mem_of_getElem? hpr)
    simp only at b1 b2 b3 b4
    have hl0 : (numsOf (rs.take i)).length ≤ 1000 * 601 := by
      refine Nat.le_trans (nums_len fun p hp => hrb p (List.mem_of_mem_take hp)) ?_
      rw [List.length_take]
      exact Nat.mul_le_mul (by omega) (Nat.le_refl _)
    refine ⟨_, rfl, _, rfl, c, _, 0, _, rfl, rfl, SqT.has hc, i0, _, rfl, c, _, 1, _, rfl, rfl, SqT.has hc, i1, _, _, rfl, rfl, _, _, rfl, rfl, ?_⟩
    refine ⟨⟨by omega, by omega, by omega, by omega, by omega⟩, fun g ng => ?_⟩
    have npg : p ≠ g := ne_of_none hp ng
    refine ⟨p, g, _, _, rfl, rfl, (by rw [upd_ne npg]; exact hp), upd_same, small_line ?_, fun t nt => ?_⟩
    · rw [List.length_map, rgV_length]
      omega
    · refine ⟨t, _, rfl, (s1.trans (same_new ng)).trans (same_new nt), ?_⟩
      have e : rgV lo (hi + 1) = (runV (lo, hi)).map V.int := by
        unfold rgV runV
        rw [List.map_map]
        rfl
      show upd _ t (.lst ((numsOf (rs.take i)).map V.int ++ rgV lo (hi + 1))) t = _
      rw [upd_same, nums_snoc rs i _ hpr, e, List.map_append]
  · obtain ⟨p, y5, rfl, s1, hp⟩ := hw
    rw [hblen, List.take_length] at hp
    exact ⟨_, rfl, q p _ s1 hp⟩
/-- the law's folds -/
def lagree (ns : List Int) (k : Nat) : Int × Int := ns.foldl (fun p n => (Builtin.bitAnd p.1 (n % (2 ^ k : Int)), Builtin.bitOr p.2 (n % (2 ^ k : Int)))) ((2 ^ k : Int) - 1, 0)
def lmany (free : Int) (k : Nat) : Int := (List.range k).foldl (fun m i => if Builtin.bitAnd (free / 2 ^ i) 1 = 1 then m * 2 else m) 1
def setB (ns : List Int) (k : Nat) : D :=
  if lmany ((lagree ns k).2 - (lagree ns k).1) k = (ns.length : Int) then .tup [.str "bits", .int ((2 ^ k : Int) - 1 - ((lagree ns k).2 - (lagree ns k).1)), .int (lagree ns k).1] else .tup [.str "among", .tup (ns.map D.int)]
def sp_law_set : Sp := fun vs H Q _ => ∃ (p : Addr) (ns : List Int) (k : Nat), vs = [.ref p, .int k] ∧ H p = some (.lst (ns.map V.int)) ∧ ns.Pairwise (· < ·) ∧ k ≤ 100 ∧
  ∀ r H', Same H H' → Has H' r (setB ns k) → Q r H'
theorem two_pow_pos (k : Nat) : (0 : Int) < 2 ^ k := Int.pow_pos (by decide)
theorem ok_law_set (T : Txt w K mg dW aC) (F : Dn K mg "_law_set" st_law_set) : Cal P w K mg base 1 "_law_set" sp_law_set := by
  refine cal_mk F sc_l_set bd_law_set (fun vs H Q E h => ?_) (fun f cdv A outer s H vs Q E hr h => ?_)
  · obtain ⟨p, ns, k, rfl, _⟩ := h
    rfl
  obtain ⟨p, ns, k, rfl, hp, hpw, hk, q⟩ := h
  refine ⟨_, (pss_cons (ps_set (i := 2) sc_l_set.nd rfl (Or.inl rfl) (pe_op op_shl pe_int (pv 1)))
    (pss_cons (ps_set (i := 3) sc_l_set.nd rfl (Or.inl rfl) (pe_op op_sub (pv 2) pe_int))
    (pss_cons (ps_set (i := 4) sc_l_set.nd rfl (Or.inl rfl) pe_int)
    (pss_cons (ps_for PassesOwn.never rfl (pi_list (pv 0)) (pg_name (i := 5) sc_l_set.nd rfl (Or.inl rfl))
      (pss_cons (ps_set (i := 6) sc_l_set.nd rfl (Or.inl rfl) (pe_op op_mod (pe_callTy call_int1 (by rfl) T.b_int (by decide +kernel) (pa_cons (pv 5) pa_nil)) (pv 2)))
      (pss_cons (ps_set (i := 3) sc_l_set.nd rfl (Or.inl rfl) (pe_op op_and (pv 3) (pv 6)))
      (pss_one (ps_set (i := 4) sc_l_set.nd rfl (Or.inl rfl) (pe_op op_or (pv 4) (pv 6)))))))
    (pss_cons (ps_set (i := 7) sc_l_set.nd rfl (Or.inl rfl) (pe_op op_sub (pv 4) (pv 3)))
    (pss_cons (ps_set (i := 8) sc_l_set.nd rfl (Or.inl rfl) pe_int)
    (pss_cons (ps_for PassesOwn.never rfl (pi_range1 (by rfl) T.b_range (pa_cons (pv 1) pa_nil)) (pg_name (i := 9) sc_l_set.nd rfl (Or.inl rfl))
      (pss_one (ps_if (pt_cmpR op_eq (pe_op op_and (pe_op op_shr (pv 7) (pv 9)) pe_int) pe_int (nomark _))
        (pss_one (ps_set (i := 8) sc_l_set.nd rfl (Or.inl rfl) (pe_op op_mul (pv 8) pe_int)))
        pss_nil)))
    (pss_cons (ps_if (pt_cmpR op_eq (pv 8) (pe_callB call_len_seq (by rfl) T.b_len (by decide +kernel) (pa_cons (pv 0) pa_nil)) (nomark _))
      (pss_one (ps_ret (pe_tup (pa_cons pe_str (pa_cons (pe_op op_sub (pe_op op_sub (pv 2) pe_int) (pv 7)) (pa_cons (pv 3) pa_nil))))))
      pss_nil)
    (pss_one (ps_ret (pe_tup (pa_cons pe_str (pa_cons (pe_callTy call_tuple_of (by rfl) T.b_tuple (by decide +kernel) (pa_cons (pe_callB cr_sortedI (by rfl) T.b_sorted (by decide +kernel) (pa_cons (pv 0) pa_nil)) pa_nil)) pa_nil))))))))))))), ?_⟩
  have e2 : (1 : Int) * 2 ^ (k : Int).toNat = 2 ^ k := by rw [Int.one_mul, Int.toNat_natCast]
  refine ⟨_, rfl, _, _, rfl, rfl, ⟨by omega, by omega, by decide⟩, ?_⟩
  refine ⟨_, rfl, _, _, rfl, rfl, ?_⟩
  refine ⟨_, rfl, p, rfl, ⟨_, SqL.has hp⟩, ?_⟩
  let g : Int × Int → Int → Int × Int := fun p n => (Builtin.bitAnd p.1 (n % (2 ^ k : Int)), Builtin.bitOr p.2 (n % (2 ^ k : Int)))
  let z : Int × Int := ((2 ^ k : Int) - 1, 0)
  refine for_list (xs := ns.map V.int) (fun i σ H' => ∃ y5 y6, σ = [some (.ref p), some (.int k), some (.int (2 ^ k)), some (.int ((ns.take i).foldl g z).1), some (.int ((ns.take i).foldl g z).2), y5, y6, none, none, none] ∧ H' = H)
    ⟨none, none, by
      show [some (V.ref p), some (V.int k), some (V.int (1 * 2 ^ (k : Int).toNat)), some (V.int (1 * 2 ^ (k : Int).toNat - 1)), some (V.int 0), none, none, none, none, none] = _
      rw [e2]
      rfl, rfl⟩ (fun i σ H' _ hw => ?_) (fun i x σ H' hx hw => ?_) (fun σ H' hw => ?_)
  · obtain ⟨_, _, _, rfl⟩ := hw
    exact SqL.has hp
  · obtain ⟨y5, y6, rfl, rfl⟩ := hw
    rw [List.getElem?_map] at hx
    obtain ⟨n, hn, rfl⟩ := Option.map_eq_some_iff.mp hx
    refine ⟨_, rfl, .inl ⟨_, rfl, _, rfl, _, _, rfl, rfl, two_pow_pos k, ?_⟩⟩
    refine ⟨_, rfl, _, rfl, _, _, rfl, rfl, _, rfl, _, rfl, _, _, rfl, rfl, some (.int n), some (.int (n % 2 ^ k)), ?_, rfl⟩
    rw [fold_snoc g z ns i n hn]
    rfl
  · obtain ⟨y5, y6, rfl, rfl⟩ := hw
    have e : (ns.take (ns.map V.int).length).foldl g z = lagree ns k := by
      rw [List.length_map, List.take_length]
      rfl
    rw [e]
    refine ⟨_, rfl, _, rfl, _, _, rfl, rfl, ?_⟩
    refine ⟨_, rfl, _, rfl, by omega, by omega, ?_⟩
    have et : (k : Int).toNat = k := Int.toNat_natCast k
    let m : Int → Nat → Int := fun m i => if Builtin.bitAnd (((lagree ns k).2 - (lagree ns k).1) / 2 ^ i) 1 = 1 then m * 2 else m
    refine for_range (lo := 0) (n := (k : Int).toNat) (fun i σ H'' => ∃ y9, σ = [some (.ref p), some (.int k), some (.int (2 ^ k)), some (.int (lagree ns k).1), some (.int (lagree ns k).2), y5, y6, some (.int ((lagree ns k).2 - (lagree ns k).1)), some (.int ((List.range i).foldl m 1)), y9] ∧ H'' = H')
      ⟨none, rfl, rfl⟩ (fun i σ H'' hi hw => ?_) (fun σ H'' hw => ?_)
    · obtain ⟨y9, rfl, rfl⟩ := hw
      have e0 : ((0 : Int) + (i : Int)).toNat = i := by omega
      refine ⟨_, rfl, _, rfl, _, _, rfl, rfl, by omega, _, _, rfl, rfl, rfl, _, rfl, ?_⟩
      rw [dec_int, e0]
      have er : (List.range (i + 1)).foldl m 1 = m ((List.range i).foldl m 1) i := by
        rw [List.range_succ, List.foldl_append]
        rfl
      refine ite_by (fun c => ?_) (fun c => ?_)
      · refine ⟨_, rfl, _, _, rfl, rfl, .inr ⟨by decide, by decide⟩, some (.int (0 + (i : Int))), ?_, rfl⟩
        rw [er]
        show _ = [_, _, _, _, _, _, _, _, some (V.int (if Builtin.bitAnd (((lagree ns k).2 - (lagree ns k).1) / 2 ^ i) 1 = 1 then (List.range i).foldl m 1 * 2 else (List.range i).foldl m 1)), _]
        rw [if_pos c]
        rfl
      · refine ⟨some (.int (0 + (i : Int))), ?_, rfl⟩
        rw [er]
        show _ = [_, _, _, _, _, _, _, _, some (V.int (if Builtin.bitAnd (((lagree ns k).2 - (lagree ns k).1) / 2 ^ i) 1 = 1 then (List.range i).foldl m 1 * 2 else (List.range i).foldl m 1)), _]
        rw [if_neg c]
        rfl
    · obtain ⟨y9, rfl, rfl⟩ := hw
      rw [et]
      have em : (List.range k).foldl m 1 = lmany ((lagree ns k).2 - (lagree ns k).1) k := rfl
      rw [em]
      refine ⟨_, rfl, _, rfl, p, _, rfl, .inl (SqL.has hp), rfl, _, rfl, ?_⟩
      rw [dec_int, List.length_map]
      refine ite_by (fun c => ?_) (fun c => ?_)
      · refine ⟨_, rfl, _, _, rfl, rfl, _, rfl, _, _, rfl, rfl, _, rfl, szl _, fun t nt => ?_⟩
        refine q _ _ (same_new nt) ?_
        unfold setB
        rw [if_pos c]
        exact Has.new (.cons (.str _) (.cons (.int _) (.cons (.int _) .nil))) nt
      · refine ⟨_, rfl, p, ns, rfl, SqL.has hp, fun ns' p2 hperm hs np2 => ?_⟩
        have en : ns' = ns := PySem.W.ksm_same hperm hs (hpw.imp fun h => Int.le_of_lt h)
        subst en
        refine ⟨p2, _, rfl, .inl ⟨SqL.has upd_same, fun t nt => ⟨szl _, fun t2 nt2 => ?_⟩⟩⟩
        refine q _ _ (((same_new np2).trans (same_new nt)).trans (same_new nt2)) ?_
        unfold setB
        rw [if_neg c]
        exact Has.new (.cons (.str _) (.cons (Has.new (HasL.ints _) nt) .nil)) nt2
end
end Wp

namespace Wp
open PySem PySem.Spec PyProof.Rows L2
section
variable {P : Program} {w : World} {K : PySem.W.Frag} {mg : Str → Option Value} {base : Heap} {dW aC : Addr}

end
/-! ### the law's integer set is the program's -/
theorem band_nat (a b : Nat) : Builtin.bitAnd (a : Int) (b : Int) = ((a &&& b : Nat) : Int) := by
  unfold Builtin.bitAnd
  have h1 : decide (0 ≤ (a : Int)) = true := decide_eq_true (Int.natCast_nonneg a)
  have h2 : decide (0 ≤ (b : Int)) = true := decide_eq_true (Int.natCast_nonneg b)
  rw [h1, h2]
  simp
theorem bnot_nat (a : Nat) : Builtin.bitNot (a : Int) = -((a : Int)) - 1 := by
  unfold Builtin.bitNot
  omega
theorem bor_nat (a b : Nat) : Builtin.bitOr (a : Int) (b : Int) = ((a ||| b : Nat) : Int) := by
  unfold Builtin.bitOr
  rw [bnot_nat, bnot_nat]
  unfold Builtin.bitAnd
  have h1 : decide (0 ≤ -(a : Int) - 1) = false := decide_eq_false (by omega)
  have h2 : decide (0 ≤ -(b : Int) - 1) = false := decide_eq_false (by omega)
  rw [h1, h2]
  have e1 : (Builtin.bitNot (-(a : Int) - 1)).toNat = a := by
    unfold Builtin.bitNot
    omega
  have e2 : (Builtin.bitNot (-(b : Int) - 1)).toNat = b := by
    unfold Builtin.bitNot
    omega
  show Builtin.bitNot (Builtin.bitNot (((Builtin.bitNot (-(a : Int) - 1)).toNat ||| (Builtin.bitNot (-(b : Int) - 1)).toNat : Nat) : Int)) = _
  rw [e1, e2]
  unfold Builtin.bitNot
  omega
theorem bxor_eq (a b : Nat) : Builtin.bitXor (a : Int) (b : Int) = ((a ||| b : Nat) : Int) - ((a &&& b : Nat) : Int) := by
  unfold Builtin.bitXor
  rw [bor_nat, band_nat]
/-- the folds over plain numbers -/
def gN (p : Nat × Nat) (c : Nat) : Nat × Nat := (p.1 &&& c, p.2 ||| c)
theorem fold_nat : ∀ (cs : List Nat) (a s : Nat), (cs.map fun c : Nat => (c : Int)).foldl (fun p c => (Builtin.bitAnd p.1 c, Builtin.bitOr p.2 c)) ((a : Int), (s : Int)) = ((((cs.foldl gN (a, s)).1 : Nat) : Int), (((cs.foldl gN (a, s)).2 : Nat) : Int))
  | [], _, _ => rfl
  | c :: r, a, s => by
    rw [List.map_cons, List.foldl_cons, List.foldl_cons]
    show (r.map fun c : Nat => (c : Int)).foldl (fun p c => (Builtin.bitAnd p.1 c, Builtin.bitOr p.2 c)) (Builtin.bitAnd (a : Int) (c : Int), Builtin.bitOr (s : Int) (c : Int)) = _
    rw [band_nat, bor_nat]
    exact fold_nat r (a &&& c) (s ||| c)
theorem sub_and (a s c : Nat) (h : a &&& s = a) : (a &&& c) &&& (s ||| c) = a &&& c := by
  apply Nat.eq_of_testBit_eq
  intro i
  have hi : (a &&& s).testBit i = a.testBit i := by rw [h]
  rw [Nat.testBit_and] at hi
  rw [Nat.testBit_and, Nat.testBit_and, Nat.testBit_or]
  cases a.testBit i <;> cases s.testBit i <;> cases c.testBit i <;> simp_all
theorem fold_sub : ∀ (cs : List Nat) (a s k : Nat), a &&& s = a → a < 2 ^ k → s < 2 ^ k → (∀ c ∈ cs, c < 2 ^ k) →
    (cs.foldl gN (a, s)).1 &&& (cs.foldl gN (a, s)).2 = (cs.foldl gN (a, s)).1 ∧ (cs.foldl gN (a, s)).1 < 2 ^ k ∧ (cs.foldl gN (a, s)).2 < 2 ^ k
  | [], _, _, _, h, ha, hs, _ => ⟨h, ha, hs⟩
  | c :: r, a, s, k, h, ha, hs, hc => by
    rw [List.foldl_cons]
    exact fold_sub r (a &&& c) (s ||| c) k (sub_and a s c h) (Nat.and_lt_two_pow _ (hc c (List.mem_cons_self ..))) (Nat.or_lt_two_pow hs (hc c (List.mem_cons_self ..))) fun x hx => hc x (List.mem_cons_of_mem _ hx)
theorem mask_and (k c : Nat) (h : c < 2 ^ k) : (2 ^ k - 1) &&& c = c := by
  rw [Nat.and_comm, Nat.and_two_pow_sub_one_eq_mod, Nat.mod_eq_of_lt h]
/-- the complement within k bits -/
theorem comp_bit (k f i : Nat) (hf : f < 2 ^ k) : (2 ^ k - 1 - f).testBit i = (decide (i < k) && !f.testBit i) := by
  have e : 2 ^ k - 1 - f = 2 ^ k - (f + 1) := by omega
  rw [e]
  exact Nat.testBit_two_pow_sub_succ hf i
/-- a number's bits by two disjoint masks -/
theorem split_and : ∀ (k a s : Nat), a < 2 ^ k → s < 2 ^ k → ((2 ^ k - 1 - a) &&& s) + (a &&& s) = s
  | k, a, s, ha, hs => by
    have h1 : ((2 ^ k - 1 - a) &&& s) &&& (a &&& s) = 0 := by
      apply Nat.eq_of_testBit_eq
      intro i
      rw [Nat.testBit_and, Nat.testBit_and, Nat.testBit_and, comp_bit k a i ha]
      cases a.testBit i <;> simp
    have h2 : ((2 ^ k - 1 - a) &&& s) ||| (a &&& s) = s := by
      apply Nat.eq_of_testBit_eq
      intro i
      rw [Nat.testBit_or, Nat.testBit_and, Nat.testBit_and, comp_bit k a i ha]
      by_cases hi : i < k
      · simp [hi]
        cases a.testBit i <;> simp
      · have : s.testBit i = false := Nat.testBit_lt_two_pow (Nat.lt_of_lt_of_le hs (Nat.pow_le_pow_right (by decide) (Nat.le_of_not_lt hi)))
        simp [this]
    have h3 := PyProof.Rows.nat_or_add_and ((2 ^ k - 1 - a) &&& s) (a &&& s)
    rw [h1, h2] at h3
    omega
theorem known_eq (k a s : Nat) (hsub : a &&& s = a) (ha : a < 2 ^ k) (hs : s < 2 ^ k) : Builtin.bitXor (Builtin.bitXor (2 ^ k - 1) (a : Int)) (s : Int) = ((2 ^ k - 1 - (s - a) : Nat) : Int) ∧ a ≤ s := by
  have hp : 0 < 2 ^ k := Nat.pow_pos (by decide)
  have eM : ((2 : Int) ^ k - 1) = ((2 ^ k - 1 : Nat) : Int) := by
    rw [Int.ofNat_sub hp]
    simp
  have h1 := mask_and k a ha
  have h2 := PyProof.Rows.nat_or_add_and (2 ^ k - 1) a
  rw [h1] at h2
  have h3 := split_and k a s ha hs
  rw [hsub] at h3
  have h4 := PyProof.Rows.nat_or_add_and (2 ^ k - 1 - a) s
  have e1 : Builtin.bitXor (2 ^ k - 1) (a : Int) = ((2 ^ k - 1 - a : Nat) : Int) := by
    rw [eM, bxor_eq, h1]
    omega
  rw [e1, bxor_eq]
  constructor <;> omega
theorem bit_at (n i : Nat) : Builtin.bitAnd ((n : Int) / 2 ^ i) 1 = if n.testBit i = true then 1 else 0 := by
  have e : ((n : Int) / 2 ^ i) = ((n / 2 ^ i : Nat) : Int) := by simp
  rw [e, PyProof.Rows.bitAnd_m1, Nat.testBit_eq_decide_div_mod_eq]
  have hm : n / 2 ^ i % 2 < 2 := Nat.mod_lt _ (by decide)
  by_cases h : n / 2 ^ i % 2 = 1
  · rw [if_pos (by rw [decide_eq_true h])]
    omega
  · rw [if_neg (by rw [decide_eq_false h]; exact Bool.false_ne_true)]
    omega
theorem many_eq (k f : Nat) (hf : f < 2 ^ k) : ∀ m : Nat, m ≤ k →
    (List.range m).foldl (fun (m : Int) (i : Nat) => if Builtin.bitAnd ((f : Int) / 2 ^ i) 1 = 1 then m * 2 else m) 1 = 2 ^ ((List.range m).filter fun i => decide (Builtin.bitAnd (((2 ^ k - 1 - f : Nat) : Int) / 2 ^ i) 1 = 0)).length
  | 0, _ => rfl
  | m + 1, h => by
    have ih := many_eq k f hf m (by omega)
    rw [List.range_succ, List.foldl_append, List.filter_append, List.length_append, ih, List.foldl_cons, List.foldl_nil, List.filter_cons, List.filter_nil, bit_at, bit_at, comp_bit k f m hf, decide_eq_true (show m < k by omega)]
    cases f.testBit m <;> simp [Int.pow_succ]
theorem code_eq (n : Int) (k : Nat) (h1 : -(2 ^ k : Int) ≤ n) (h2 : n < (2 ^ k : Int)) : codeOf n k = n % (2 ^ k : Int) ∧ 0 ≤ codeOf n k ∧ codeOf n k < (2 ^ k : Int) := by
  have hp : (0 : Int) < 2 ^ k := two_pow_pos k
  unfold codeOf
  by_cases c : n < 0
  · rw [if_pos c]
    have e : n % (2 ^ k : Int) = n + 2 ^ k := by
      by_cases hz : n + 2 ^ k = 2 ^ k
      · omega
      · rw [← Int.add_emod_right, Int.emod_eq_of_lt (by omega) (by omega)]
    refine ⟨e.symm, by omega, by omega⟩
  · rw [if_neg c, Int.emod_eq_of_lt (by omega) h2]
    exact ⟨rfl, by omega, h2⟩
theorem set_eq (k : Nat) (rs : List (Int × Int)) (h : RngOk k (some rs)) : setB (numsOf rs) k = setA (numsOf rs) k := by
  obtain ⟨_, _, _, hne, _, hin⟩ := h
  generalize numsOf rs = ns at hne hin
  -- the codes as plain numbers
  have hc : ∀ n ∈ ns, codeOf n k = n % (2 ^ k : Int) ∧ 0 ≤ codeOf n k ∧ codeOf n k < (2 ^ k : Int) := fun n hn => code_eq n k (hin n hn).1 (hin n hn).2
  obtain ⟨cs, ecs⟩ : ∃ cs : List Nat, codesOf ns k = cs.map fun c : Nat => (c : Int) := by
    refine ⟨ns.map fun n => (codeOf n k).toNat, ?_⟩
    unfold codesOf
    rw [List.map_map]
    refine List.map_congr_left fun n hn => ?_
    have := (hc n hn).2.1
    show codeOf n k = (((codeOf n k).toNat : Nat) : Int)
    omega
  have hlt : ∀ c ∈ cs, c < 2 ^ k := fun c hcm => by
    have h1 : (c : Int) ∈ codesOf ns k := by
      rw [ecs]
      exact List.mem_map.mpr ⟨c, hcm, rfl⟩
    unfold codesOf at h1
    obtain ⟨n, hn, e⟩ := List.mem_map.mp h1
    have h2 := (hc n hn).2.2
    rw [e] at h2
    have h3 : ((c : Nat) : Int) < ((2 ^ k : Nat) : Int) := by
      rw [show ((2 ^ k : Nat) : Int) = (2 : Int) ^ k by simp]
      exact h2
    exact Int.ofNat_lt.mp h3
  have eL : lagree ns k = (codesOf ns k).foldl (fun p c => (Builtin.bitAnd p.1 c, Builtin.bitOr p.2 c)) ((2 ^ k : Int) - 1, 0) := by
    unfold lagree codesOf
    rw [List.foldl_map]
    have key : ∀ (l : List Int) (z : Int × Int), (∀ n ∈ l, codeOf n k = n % (2 ^ k : Int)) → l.foldl (fun p n => (Builtin.bitAnd p.1 (n % (2 ^ k : Int)), Builtin.bitOr p.2 (n % (2 ^ k : Int)))) z = l.foldl (fun p n => (Builtin.bitAnd p.1 (codeOf n k), Builtin.bitOr p.2 (codeOf n k))) z := by
      intro l
      induction l with
      | nil => intro z _; rfl
      | cons n r ih =>
        intro z hz
        rw [List.foldl_cons, List.foldl_cons, hz n (List.mem_cons_self ..)]
        exact ih _ fun m hm => hz m (List.mem_cons_of_mem _ hm)
    exact key ns _ fun n hn => (hc n hn).1
  have hp : 0 < 2 ^ k := Nat.pow_pos (by decide)
  have eM : ((2 : Int) ^ k - 1) = ((2 ^ k - 1 : Nat) : Int) := by
    rw [Int.ofNat_sub hp]
    simp
  have hcn : cs ≠ [] := by
    rintro rfl
    unfold codesOf at ecs
    exact hne (List.map_eq_nil_iff.mp ecs)
  obtain ⟨c0, cr, rfl⟩ : ∃ c r, cs = c :: r := by
    cases cs with
    | nil => exact absurd rfl hcn
    | cons c r => exact ⟨c, r, rfl⟩
  have h0 := hlt c0 (List.mem_cons_self ..)
  have eA : agree (codesOf ns k) = ((((cr.foldl gN (c0, c0)).1 : Nat) : Int), (((cr.foldl gN (c0, c0)).2 : Nat) : Int)) := by
    rw [ecs]
    unfold agree
    show ((c0 :: cr).map fun c : Nat => (c : Int)).foldl (fun p c => (Builtin.bitAnd p.1 c, Builtin.bitOr p.2 c)) ((c0 : Int), (c0 : Int)) = _
    rw [fold_nat, List.foldl_cons]
    show ((((cr.foldl gN (c0 &&& c0, c0 ||| c0)).1 : Nat) : Int), (((cr.foldl gN (c0 &&& c0, c0 ||| c0)).2 : Nat) : Int)) = _
    rw [Nat.and_self, Nat.or_self]
  have eB : lagree ns k = ((((cr.foldl gN (c0, c0)).1 : Nat) : Int), (((cr.foldl gN (c0, c0)).2 : Nat) : Int)) := by
    rw [eL, ecs, eM]
    have z : ((((2 ^ k - 1 : Nat) : Int)), (0 : Int)) = ((((2 ^ k - 1 : Nat) : Int)), ((0 : Nat) : Int)) := rfl
    rw [z, fold_nat, List.foldl_cons]
    show ((((cr.foldl gN ((2 ^ k - 1) &&& c0, 0 ||| c0)).1 : Nat) : Int), (((cr.foldl gN ((2 ^ k - 1) &&& c0, 0 ||| c0)).2 : Nat) : Int)) = _
    rw [mask_and k c0 h0, Nat.zero_or]
  obtain ⟨f1, f2, f3⟩ := fold_sub cr c0 c0 k (Nat.and_self _) h0 h0 fun c hcm => hlt c (List.mem_cons_of_mem _ hcm)
  unfold setA setB knownOf
  rw [eA, eB]
  generalize (cr.foldl gN (c0, c0)).1 = a at f1 f2
  generalize (cr.foldl gN (c0, c0)).2 = s at f1 f3
  obtain ⟨g1, g2⟩ := known_eq k a s f1 f2 f3
  show (if lmany ((s : Int) - (a : Int)) k = _ then _ else _) = _
  have eD : ((s : Int) - (a : Int)) = ((s - a : Nat) : Int) := by omega
  have hm := many_eq k (s - a) (by omega) k (Nat.le_refl k)
  have eF : lmany ((s : Int) - (a : Int)) k = 2 ^ freeBits ((2 ^ k - 1 - (s - a) : Nat) : Int) k := by
    unfold lmany freeBits
    rw [eD]
    exact hm
  have eK : ((2 : Int) ^ k - 1) - ((s : Int) - (a : Int)) = ((2 ^ k - 1 - (s - a) : Nat) : Int) := by
    rw [eM]
    omega
  show (if lmany ((s : Int) - (a : Int)) k = (ns.length : Int) then D.tup [.str "bits", .int ((2 : Int) ^ k - 1 - ((s : Int) - (a : Int))), .int (a : Int)] else D.tup [.str "among", .tup (ns.map D.int)]) =
    (if ns.length = 2 ^ freeBits (Builtin.bitXor (Builtin.bitXor (2 ^ k - 1) (a : Int)) (s : Int)) k then D.tup [.str "bits", .int (Builtin.bitXor (Builtin.bitXor (2 ^ k - 1) (a : Int)) (s : Int)), .int (a : Int)] else D.tup [.str "among", .tup (ns.map D.int)])
  rw [g1, eF, eK]
  have ec : ((2 : Int) ^ freeBits ((2 ^ k - 1 - (s - a) : Nat) : Int) k = (ns.length : Int)) ↔ ns.length = 2 ^ freeBits ((2 ^ k - 1 - (s - a) : Nat) : Int) k := by
    rw [show (2 : Int) ^ freeBits ((2 ^ k - 1 - (s - a) : Nat) : Int) k = ((2 ^ freeBits ((2 ^ k - 1 - (s - a) : Nat) : Int) k : Nat) : Int) by simp]
    constructor
    · intro z
      exact (Int.ofNat.inj z).symm
    · intro z
      rw [z]
  by_cases c : ns.length = 2 ^ freeBits ((2 ^ k - 1 - (s - a) : Nat) : Int) k
  · rw [if_pos c, if_pos (ec.mpr c)]
  · rw [if_neg c, if_neg (fun z => c (ec.mp z))]
end Wp

namespace Wp
open PySem PySem.Spec PyProof.Rows L2
section
variable {P : Program} {w : World} {K : PySem.W.Frag} {mg : Str → Option Value} {base : Heap} {dW aC : Addr}

theorem szs {n : Nat} (h : Nat.ble n 1000 = true := by rfl) : n ≤ sizeLine := Nat.le_trans (Nat.le_of_ble_eq_true h) (by decide)
/-! ### _law_every, _law_kinds, _law_full_of, _law_full -/
theorem cal_none {x : Str} {st : Stmt} {ps : List Str} (F : Dn K mg x st) (hb : BindsAs x st ps) : Cal P w K mg base 0 x (fun _ _ _ _ => False) := by
  obtain ⟨f, fd, FF, hm⟩ := F.ex
  exact ⟨f, fd, ps, ⟨fun _ _ _ _ h => h.elim, fun _ _ _ _ _ _ _ _ _ _ _ _ _ h => h.elim⟩, hm, FF.kp, FF.binds hb⟩
def sp_law_every : Sp := fun vs H Q _ => ∃ (k : Nat) (y v : V) (rs : Option (List (Int × Int))), vs = [.int k, y, v] ∧ Has H v (rngD rs) ∧ k ≤ 32 ∧ RngOk k rs ∧ ∀ r H', Same H H' → Has H' r (setRes k rs) → Q r H'
theorem ok_law_every (F : Dn K mg "_law_every" st_law_every) (C_law_set : Cal P w K mg base 1 "_law_set" sp_law_set) (C_law_listed : Cal P w K mg base 1 "_law_listed" sp_law_listed) : Cal P w K mg base 2 "_law_every" sp_law_every := by
  refine cal_mk F sc_l_every bd_law_every (fun vs H Q E h => ?_) (fun f cdv A outer s H vs Q E hr h => ?_)
  · obtain ⟨k, y, v, rs, rfl, _⟩ := h
    rfl
  obtain ⟨k, y, v, rs, rfl, hv, hk, hok, q⟩ := h
  refine ⟨_, (pss_cons (ps_if (pt_cmpR op_isN (pv 2) pe_non (nomark _))
      (pss_one (ps_ret (pe_tup (pa_cons pe_str (pa_cons pe_int (pa_cons pe_int pa_nil))))))
      pss_nil)
    (pss_one (ps_ret (pe_k C_law_set hr (by omega) (by rfl) (pa_cons (pe_k C_law_listed hr (by omega) (by rfl) (pa_cons (pv 1) (pa_cons (pv 0) (pa_cons (pv 2) pa_nil)))) (pa_cons (pv 0) pa_nil)))))), ?_⟩
  cases rs with
  | none =>
    cases hv
    refine ⟨_, rfl, rfl, _, rfl, ite_yes rfl ⟨szl _, fun t nt => ?_⟩⟩
    exact q _ _ (same_new nt) (Has.new (.cons (.str _) (.cons (.int _) (.cons (.int _) .nil))) nt)
  | some rs =>
    have hv2 := hv
    obtain ⟨b, bvs, rfl, hb, lb⟩ := hv.tupI
    have he := set_eq k rs hok
    obtain ⟨_, hrl, hrb, _, hpw, _⟩ := hok
    refine ⟨_, rfl, rfl, _, rfl, ite_no (fun e => by cases e) ?_⟩
    refine ⟨_, rfl, _, rfl, _, rfl, _, _, _, rs, rfl, hv2, hrl, hrb, fun p H1 s1 hp => ?_⟩
    refine ⟨_, rfl, p, numsOf rs, k, rfl, hp, hpw, by omega, fun r H2 s2 hr2 => ?_⟩
    refine q r H2 (s1.trans s2) ?_
    show Has H2 r (setA (numsOf rs) k)
    rw [← he]
    exact hr2
def kindD (p : Part) : D := .tup [.str "integer", oStr p.name, .int p.width, .bl p.signed, rngD p.ranges, oInt p.dflt]
/-- an item with its members as the law's kinds tell them -/
inductive IKi : D → List D → Prop where
  | word (w5 : W5) (ps : List Part) : ps.length ≤ 1000 → IKi (wordD w5 ps) ((named ps).map kindD)
  | array (nm : Str) (w5 : W5) (sg : Bool) (c : Cnt) (rs : Option (List (Int × Int))) (df : Option Int) : IKi (arrayD nm w5 sg c rs df) [.tup [.str "array", .str nm, c.d, .int ((8 * w5.size : Nat) : Int), .bl sg, rngD rs, oInt df]]
  | list (nm : Str) (c : Cnt) (l : D) : IKi (listD nm c l) [listD nm c l]
  | choice (nm : Str) (x cs : D) : IKi (.tup [.str "choice", .str nm, x, cs]) [.tup [.str "choice", .str nm, cs]]
  | record (nm : Str) (l : D) : IKi (.tup [.str "record", .str nm, l]) [.tup [.str "record", .str nm, l]]
  | fixed (k : Str) (x : D) : k = "literal" ∨ k = "reserved" ∨ k = "check" → IKi (.tup [.str k, x]) []
theorem IKi.le {it : D} {ss : List D} (h : IKi it ss) : ss.length ≤ 1000 := by
  cases h with
  | word w5 ps hp =>
    rw [List.length_map]
    exact Nat.le_trans (named_le ps) hp
  | array => exact Nat.le_of_ble_eq_true rfl
  | list => exact Nat.le_of_ble_eq_true rfl
  | choice => exact Nat.le_of_ble_eq_true rfl
  | record => exact Nat.le_of_ble_eq_true rfl
  | fixed => exact Nat.zero_le _
def sp_law_kinds : Sp := fun vs H Q _ => ∃ (v : V) (its : List D) (kss : List (List D)), vs = [v] ∧ Has H v (.tup its) ∧ its.length ≤ 1000 ∧ Paired IKi its kss ∧
  ∀ p us H', Same H H' → H' p = some (.lst us) → HasL H' us kss.flatten → Q (.ref p) H'
theorem ok_law_kinds (F : Dn K mg "_law_kinds" st_law_kinds) (C_law_size : Cal P w K mg base 1 "_law_size" sp_law_size) : Cal P w K mg base 2 "_law_kinds" sp_law_kinds := by
  refine cal_mk F sc_l_kinds bd_law_kinds (fun vs H Q E h => ?_) (fun f cdv A outer s H vs Q E hr h => ?_)
  · obtain ⟨v, its, sss, rfl, _⟩ := h
    rfl
  obtain ⟨v, its, sss, rfl, hv, hn, hP, q⟩ := h
  refine ⟨_, (pss_cons (ps_set (i := 1) sc_l_kinds.nd rfl (Or.inl rfl) (pe_lst pa_nil))
    (pss_cons (ps_for PassesOwn.never rfl (pi_tup (pv 0)) (pg_name (i := 2) sc_l_kinds.nd rfl (Or.inl rfl))
      (pss_one (ps_if (pt_cmpR op_eq (pe_ix ix_tup (pv 2) pe_int (fun _ _ => rfl)) pe_str (nomark _))
        (pss_one (ps_for PassesOwn.never rfl (pi_tup (pe_ix ix_tup (pv 2) pe_int (fun _ _ => rfl))) (pg_name (i := 3) sc_l_kinds.nd rfl (Or.inl rfl))
          (pss_one (ps_if (pt_cmpR op_notN (pe_ix ix_tup (pv 3) pe_int (fun _ _ => rfl)) pe_non (nomark _))
            (pss_one (ps_expr (pe_bm PySem.F.plainAttrs_list PySem.F.slot_list_append PySem.F.type_list_append mt_append (pv 1) (pa_cons (pe_op op_catA (pe_tup (pa_cons pe_str pa_nil)) (pv 3)) pa_nil))))
            pss_nil))))
        (pss_one (ps_if (pt_cmpR op_eq (pe_ix ix_tup (pv 2) pe_int (fun _ _ => rfl)) pe_str (nomark _))
          (pss_one (ps_expr (pe_bm PySem.F.plainAttrs_list PySem.F.slot_list_append PySem.F.type_list_append mt_append (pv 1) (pa_cons (pe_tup (pa_cons pe_str (pa_cons (pe_ix ix_tup (pv 2) pe_int (fun _ _ => rfl)) (pa_cons (pe_ix ix_tup (pv 2) pe_int (fun _ _ => rfl)) (pa_cons (pe_op op_mul pe_int (pe_k C_law_size hr (by omega) (by rfl) (pa_cons (pe_ix ix_tup (pv 2) pe_int (fun _ _ => rfl)) pa_nil))) (pa_cons (pe_ix ix_tup (pv 2) pe_int (fun _ _ => rfl)) (pa_cons (pe_ix ix_tup (pv 2) pe_int (fun _ _ => rfl)) (pa_cons (pe_ix ix_tup (pv 2) pe_int (fun _ _ => rfl)) pa_nil)))))))) pa_nil))))
          (pss_one (ps_if (pt_cmpR op_eq (pe_ix ix_tup (pv 2) pe_int (fun _ _ => rfl)) pe_str (nomark _))
            (pss_one (ps_expr (pe_bm PySem.F.plainAttrs_list PySem.F.slot_list_append PySem.F.type_list_append mt_append (pv 1) (pa_cons (pe_tup (pa_cons pe_str (pa_cons (pe_ix ix_tup (pv 2) pe_int (fun _ _ => rfl)) (pa_cons (pe_ix ix_tup (pv 2) pe_int (fun _ _ => rfl)) pa_nil)))) pa_nil))))
            (pss_one (ps_if (PW.pt (pw_or (pt_cmpR op_eq (pe_ix ix_tup (pv 2) pe_int (fun _ _ => rfl)) pe_str (nomark _)) (pw_or1 (pt_cmpR op_eq (pe_ix ix_tup (pv 2) pe_int (fun _ _ => rfl)) pe_str (nomark _)))))
              (pss_one (ps_expr (pe_bm PySem.F.plainAttrs_list PySem.F.slot_list_append PySem.F.type_list_append mt_append (pv 1) (pa_cons (pv 2) pa_nil))))
              pss_nil)))))))))
    (pss_one (ps_ret (pv 1))))), ?_⟩
  obtain ⟨a, ivs, rfl, ha, li⟩ := hv.tupI
  refine ⟨szl _, fun p np => ?_⟩
  have s0 := same_new (o := .lst []) np
  refine ⟨_, rfl, a, rfl, ⟨_, SqT.has (s0 _ _ ha)⟩, ?_⟩
  have hlen : ivs.length = sss.length := by rw [li.len, paired_len hP]
  refine for_tup (xs := ivs) (fun i σ H' => ∃ (y2 y3 : Option V) (us : List V), σ = [some (.ref a), some (.ref p), y2, y3] ∧ Same H H' ∧ H' p = some (.lst us) ∧ HasL H' us (sss.take i).flatten)
    ⟨none, none, [], rfl, s0, upd_same, .nil⟩ (fun i σ H' _ hw => ?_) (fun i x σ H' hx hw => ?_) (fun σ H' hw => ?_)
  · obtain ⟨_, _, _, _, s1, _⟩ := hw
    exact SqT.has (s1 _ _ ha)
  · obtain ⟨y2, y3, us, rfl, s1, hp, hl⟩ := hw
    obtain ⟨it, hit, hxd⟩ := li.getV hx
    obtain ⟨ss, hss, hI⟩ := paired_get hP hit
    have hul : us.length ≤ 1000000 := by
      rw [hl.len]
      have h1 := flat_le (R := IKi) (fun _ _ h => h.le) (paired_take i hP)
      rw [List.length_take] at h1
      have h2 : min i its.length * 1000 ≤ 1000 * 1000 := Nat.mul_le_mul (by omega) (Nat.le_refl _)
      omega
    have hfs := flat_snoc sss i ss hss
    have hx1 := hxd.mono (kt_same s1)
    cases hI with
    | word w5 ps hps =>
      obtain ⟨b, bvs, rfl, hb, lb⟩ := hx1.tupI
      obtain _ | ⟨⟨⟩, _ | ⟨⟨⟩, _ | ⟨h2, _ | _⟩⟩⟩ := lb
      obtain ⟨c, pvs, rfl, hc, lp⟩ := h2.tupI
      refine ⟨_, rfl, b, _, 0, _, rfl, rfl, SqT.has hb, i0, rfl, _, rfl, ite_yes rfl ?_⟩
      refine ⟨_, rfl, b, _, 2, _, rfl, rfl, SqT.has hb, i2, c, rfl, ⟨_, SqT.has hc⟩, ?_⟩
      have hpl : pvs.length = ps.length := by rw [lp.len, List.length_map]
      refine for_tup (xs := pvs) (fun j σ H3 => ∃ (y3 : Option V) (ws : List V), σ = [some (.ref a), some (.ref p), some (.ref b), y3] ∧ Same H H3 ∧ H3 c = some (.tup pvs) ∧ H3 p = some (.lst (us ++ ws)) ∧ HasL H3 us (sss.take i).flatten ∧ HasL H3 ws ((named (ps.take j)).map kindD))
        ⟨y3, [], rfl, s1, hc, by rw [List.append_nil]; exact hp, hl, .nil⟩ (fun j σ H3 _ hw => ?_) (fun j y σ H3 hy hw => ?_) (fun σ H3 hw => ?_)
      · obtain ⟨_, _, _, _, hc3, _⟩ := hw
        exact SqT.has hc3
      · obtain ⟨y3', ws, rfl, s3, hc3, hp3, hl3, hw3⟩ := hw
        obtain ⟨d, hd, hyd⟩ := lp.getV hy
        rw [List.getElem?_map] at hd
        obtain ⟨pt, hpt, rfl⟩ := Option.map_eq_some_iff.mp hd
        have hs := named_snoc ps j _ hpt
        have hyd0 : Has H (V.non) .non := .non
        have hbH : HasL H3 pvs (ps.map Part.d) := by
          obtain ⟨b0, bvs0, e0, hb0, lb0⟩ := (hxd.mono (kt_same s3)).tupI
          cases e0
          obtain _ | ⟨⟨⟩, _ | ⟨⟨⟩, _ | ⟨g2, _ | _⟩⟩⟩ := lb0
          obtain ⟨c0, cvs0, ec, hc0, lc0⟩ := g2.tupI
          have hbb : H3 b = some (.tup [V.str "word", V.str w5.str, V.ref c]) := by
            have := hxd
            obtain ⟨b1, bvs1, e1, hb1, lb1⟩ := this.tupI
            cases e1
            have t1 := s1 _ _ hb1
            rw [hb] at t1
            cases t1
            exact s3 _ _ hb1
          rw [hbb] at hb0
          cases hb0
          cases ec
          rw [hc3] at hc0
          cases hc0
          exact lc0
        obtain ⟨d', hd', hyd3⟩ := hbH.getV hy
        rw [List.getElem?_map, hpt] at hd'
        cases hd'
        obtain ⟨nm, wd, sg, rs, df⟩ := pt
        obtain ⟨e, evs, rfl, he, le⟩ := hyd3.tupI
        obtain _ | ⟨h0, _ | ⟨⟨⟩, _ | ⟨⟨⟩, _ | @⟨v3, _, _, _, h3, _ | @⟨v4, _, _, _, h4, _ | _⟩⟩⟩⟩⟩ := le
        have hwl : ws.length ≤ 1000 := by
          rw [hw3.len, List.length_map]
          refine Nat.le_trans (named_le _) ?_
          rw [List.length_take]
          omega
        refine ⟨_, rfl, e, _, 0, _, rfl, rfl, SqT.has he, i0, rfl, _, rfl, ?_⟩
        cases nm with
        | none =>
          cases h0
          refine ite_nno rfl ?_
          refine ⟨some (.ref e), ws, rfl, s3, hc3, hp3, hl3, ?_⟩
          rw [hs, show (named (ps.take j) ++ if (none : Option Str).isSome = true then [(⟨none, wd, sg, rs, df⟩ : Part)] else []) = named (ps.take j) by simp]
          exact hw3
        | some z =>
          cases h0
          refine ite_nyes (fun e => by cases e) ?_
          refine ⟨_, rfl, .inl ⟨rfl, _, SqL.has hp3⟩, szl _, fun t nt => ?_⟩
          refine ⟨_, rfl, t, e, _, _, rfl, rfl, SqT.has upd_same, SqT.has (same_new nt _ _ he), szs, (fun z => by cases z), (fun _ z => by cases z), fun _ _ t2 nt2 => ?_⟩
          have s4 := (same_new (o := .tup [V.str "integer"]) nt).trans (same_new (o := .tup ([V.str "integer"] ++ [V.str z, V.int (wd : Int), V.bl sg, v3, v4])) nt2)
          have hp4 := s4 _ _ hp3
          have npt : p ≠ t2 := ne_of_none (same_new nt _ _ hp3) nt2
          refine ⟨p, _, _, rfl, rfl, hp4, small_lt (by rw [List.length_append]; omega), ?_⟩
          refine ⟨some (.ref e), ws ++ [.ref t2], rfl, ?_, ?_, ?_, ?_, ?_⟩
          · refine same_mut (s3.trans s4) np
          · exact kt_upd hp4 _ _ (s4 _ _ hc3)
          · rw [upd_same, List.append_assoc]
          · exact (hl3.mono (kt_same s4)).mono (kt_upd hp4)
          · rw [hs, List.map_append]
            have hk : Has (upd (upd H3 t (.tup [V.str "integer"])) t2 (.tup ([V.str "integer"] ++ [V.str z, V.int (wd : Int), V.bl sg, v3, v4]))) (.ref t2) (kindD ⟨some z, wd, sg, rs, df⟩) :=
              Has.new (.cons (.str _) (.cons (.str _) (.cons (.int _) (.cons (.bl _) (.cons (h3.mono (kt_new nt)) (.cons (h4.mono (kt_new nt)) .nil)))))) nt2
            exact ((hw3.mono (kt_same s4)).snoc hk).mono (kt_upd hp4)
      · obtain ⟨y3', ws, rfl, s3, hc3, hp3, hl3, hw3⟩ := hw
        rw [hpl, List.take_length] at hw3
        refine ⟨_, y3', us ++ ws, rfl, s3, hp3, ?_⟩
        rw [hfs]
        exact hl3.append hw3
    | array nm w5 sg c rs df =>
      obtain ⟨b, bvs, rfl, hb, lb⟩ := hx1.tupI
      obtain _ | ⟨⟨⟩, _ | ⟨⟨⟩, _ | ⟨⟨⟩, _ | ⟨⟨⟩, _ | ⟨h4, _ | ⟨h5, _ | ⟨h6, _ | _⟩⟩⟩⟩⟩⟩⟩ := lb
      refine ⟨_, rfl, b, _, 0, _, rfl, rfl, SqT.has hb, i0, rfl, _, rfl, ite_no (by decide +kernel) ?_⟩
      refine ⟨_, rfl, b, _, 0, _, rfl, rfl, SqT.has hb, i0, rfl, _, rfl, ite_yes rfl ?_⟩
      refine ⟨_, rfl, .inl ⟨rfl, _, SqL.has hp⟩, _, rfl, b, _, 1, _, rfl, rfl, SqT.has hb, i1, _, rfl, b, _, 4, _, rfl, rfl, SqT.has hb, i4, ?_⟩
      refine ⟨_, rfl, b, _, 2, _, rfl, rfl, SqT.has hb, i2, w5, rfl, fun H2 s2 => ⟨_, _, rfl, rfl, .inl ⟨by decide, by decide⟩, ?_⟩⟩
      have hb2 := s2 _ _ hb
      refine ⟨_, rfl, b, _, 3, _, rfl, rfl, SqT.has hb2, i3, _, rfl, b, _, 5, _, rfl, rfl, SqT.has hb2, i5, _, rfl, b, _, 6, _, rfl, rfl, SqT.has hb2, i6, szl _, fun t nt => ?_⟩
      have npt : p ≠ t := ne_of_none (s2 _ _ hp) nt
      have hp2 := s2 _ _ hp
      refine ⟨p, us, _, rfl, rfl, (by rw [upd_ne npt]; exact hp2), small_lt (by omega), ?_⟩
      refine ⟨_, y3, us ++ [.ref t], rfl, same_mut ((s1.trans s2).trans (same_new nt)) np, upd_same, ?_⟩
      rw [hfs]
      have e8 : ((8 * w5.size : Nat) : Int) = 8 * (w5.size : Int) := by omega
      rw [e8]
      refine (((hl.mono (kt_same s2)).mono (kt_new nt)).snoc (Has.new (.cons (.str _) (.cons (.str _) (.cons (h4.mono (kt_same s2)) (.cons (.int _) (.cons (.bl _) (.cons (h5.mono (kt_same s2)) (.cons (h6.mono (kt_same s2)) .nil))))))) nt)).mono (kt_upd (xs := us) (by rw [upd_ne npt]; exact hp2))
    | choice nm z cs =>
      obtain ⟨b, bvs, rfl, hb, lb⟩ := hx1.tupI
      obtain _ | ⟨⟨⟩, _ | ⟨⟨⟩, _ | ⟨h2, _ | ⟨h3, _ | _⟩⟩⟩⟩ := lb
      refine ⟨_, rfl, b, _, 0, _, rfl, rfl, SqT.has hb, i0, rfl, _, rfl, ite_no (by decide +kernel) ?_⟩
      refine ⟨_, rfl, b, _, 0, _, rfl, rfl, SqT.has hb, i0, rfl, _, rfl, ite_no (by decide +kernel) ?_⟩
      refine ⟨_, rfl, b, _, 0, _, rfl, rfl, SqT.has hb, i0, rfl, _, rfl, ite_yes rfl ?_⟩
      refine ⟨_, rfl, .inl ⟨rfl, _, SqL.has hp⟩, _, rfl, b, _, 1, _, rfl, rfl, SqT.has hb, i1, _, rfl, b, _, 3, _, rfl, rfl, SqT.has hb, i3, szl _, fun t nt => ?_⟩
      have npt : p ≠ t := ne_of_none hp nt
      refine ⟨p, us, _, rfl, rfl, (by rw [upd_ne npt]; exact hp), small_lt (by omega), ?_⟩
      refine ⟨_, y3, us ++ [.ref t], rfl, same_mut (s1.trans (same_new nt)) np, upd_same, ?_⟩
      rw [hfs]
      exact ((hl.mono (kt_new nt)).snoc (Has.new (.cons (.str _) (.cons (.str _) (.cons h3 .nil))) nt)).mono (kt_upd (xs := us) (by rw [upd_ne npt]; exact hp))
    | list nm c l0 =>
      have hx2 := hx1
      obtain ⟨b, bvs, rfl, hb, lb⟩ := hx1.tupI
      obtain _ | ⟨⟨⟩, lb⟩ := lb
      refine ⟨_, rfl, b, _, 0, _, rfl, rfl, SqT.has hb, i0, rfl, _, rfl, ite_no (by decide +kernel) ?_⟩
      refine ⟨_, rfl, b, _, 0, _, rfl, rfl, SqT.has hb, i0, rfl, _, rfl, ite_no (by decide +kernel) ?_⟩
      refine ⟨_, rfl, b, _, 0, _, rfl, rfl, SqT.has hb, i0, rfl, _, rfl, ite_no (by decide +kernel) ?_⟩
      refine ⟨_, rfl, b, _, 0, _, rfl, rfl, SqT.has hb, i0, rfl, _, rfl, ?_⟩
      refine ite_yes rfl ?_
      refine ⟨_, rfl, .inl ⟨rfl, _, SqL.has hp⟩, _, rfl, p, us, _, rfl, rfl, hp, small_lt (by omega), ?_⟩
      refine ⟨_, y3, us ++ [.ref b], rfl, same_mut s1 np, upd_same, ?_⟩
      rw [hfs]
      exact (hl.snoc hx2).mono (kt_upd hp)
    | record nm l0 =>
      have hx2 := hx1
      obtain ⟨b, bvs, rfl, hb, lb⟩ := hx1.tupI
      obtain _ | ⟨⟨⟩, lb⟩ := lb
      refine ⟨_, rfl, b, _, 0, _, rfl, rfl, SqT.has hb, i0, rfl, _, rfl, ite_no (by decide +kernel) ?_⟩
      refine ⟨_, rfl, b, _, 0, _, rfl, rfl, SqT.has hb, i0, rfl, _, rfl, ite_no (by decide +kernel) ?_⟩
      refine ⟨_, rfl, b, _, 0, _, rfl, rfl, SqT.has hb, i0, rfl, _, rfl, ite_no (by decide +kernel) ?_⟩
      refine ⟨_, rfl, b, _, 0, _, rfl, rfl, SqT.has hb, i0, rfl, _, rfl, ?_⟩
      refine ite_no (by decide +kernel) ?_
      refine ⟨_, rfl, b, _, 0, _, rfl, rfl, SqT.has hb, i0, rfl, _, rfl, ?_⟩
      refine ite_yes rfl ?_
      refine ⟨_, rfl, .inl ⟨rfl, _, SqL.has hp⟩, _, rfl, p, us, _, rfl, rfl, hp, small_lt (by omega), ?_⟩
      refine ⟨_, y3, us ++ [.ref b], rfl, same_mut s1 np, upd_same, ?_⟩
      rw [hfs]
      exact (hl.snoc hx2).mono (kt_upd hp)
    | fixed k z hk =>
      obtain ⟨b, bvs, rfl, hb, lb⟩ := hx1.tupI
      obtain _ | ⟨⟨⟩, lb⟩ := lb
      refine ⟨_, rfl, b, _, 0, _, rfl, rfl, SqT.has hb, i0, rfl, _, rfl, ite_no (by rcases hk with rfl | rfl | rfl <;> decide +kernel) ?_⟩
      refine ⟨_, rfl, b, _, 0, _, rfl, rfl, SqT.has hb, i0, rfl, _, rfl, ite_no (by rcases hk with rfl | rfl | rfl <;> decide +kernel) ?_⟩
      refine ⟨_, rfl, b, _, 0, _, rfl, rfl, SqT.has hb, i0, rfl, _, rfl, ite_no (by rcases hk with rfl | rfl | rfl <;> decide +kernel) ?_⟩
      refine ⟨_, rfl, b, _, 0, _, rfl, rfl, SqT.has hb, i0, rfl, _, rfl, ?_⟩
      refine ite_no (by rcases hk with rfl | rfl | rfl <;> decide +kernel) ?_
      refine ⟨_, rfl, b, _, 0, _, rfl, rfl, SqT.has hb, i0, rfl, _, rfl, ?_⟩
      refine ite_no (by rcases hk with rfl | rfl | rfl <;> decide +kernel) ?_
      refine ⟨_, y3, us, rfl, s1, hp, ?_⟩
      rw [hfs, List.append_nil]
      exact hl
  · obtain ⟨y2, y3, us, rfl, s1, hp, hl⟩ := hw
    rw [hlen, List.take_length] at hl
    exact ⟨_, rfl, q p us H' s1 hp hl⟩
end
end Wp

namespace Wp
open PySem PySem.Spec PyProof.Rows L2
section
variable {P : Program} {w : World} {K : PySem.W.Frag} {mg : Str → Option Value} {base : Heap} {dW aC : Addr}

/-! ### _law_full_of, _law_full -/
/-- a kind with its entry; LR: the layouts within, with their whole patterns -/
inductive KRes (LR : D → D → Prop) : D → D → Prop where
  | int (nm df : D) (k : Nat) (sg : Bool) (rs : Option (List (Int × Int))) : k ≤ 32 → RngOk k rs → KRes LR (.tup [.str "integer", nm, .int k, .bl sg, rngD rs, df]) (setRes k rs)
  | array (nm df : D) (k : Nat) (sg : Bool) (c : Cnt) (rs : Option (List (Int × Int))) : c.ok → k ≤ 32 → RngOk k rs → KRes LR (.tup [.str "array", nm, c.d, .int k, .bl sg, rngD rs, df]) (countsD c (setRes k rs))
  | list (nm : Str) (c : Cnt) (l r : D) : c.ok → LR l r → KRes LR (listD nm c l) (countsD c r)
  | choice (nm : D) (cs : List Case) : cs.length ≤ 1000 → (∀ c ∈ cs, LR c.lay c.res) → KRes LR (.tup [.str "choice", nm, .tup (cs.map Case.d)]) (.tup [.str "cases", .tup (cs.map Case.r)])
  | record (nm l r : D) : LR l r → KRes LR (.tup [.str "record", nm, l]) r
def sp_law_full_of (S : D → D → Prop) : Sp := fun vs H Q _ => ∃ (v : V) (s r : D), vs = [v] ∧ Has H v s ∧ S s r ∧ ∀ u H', Same H H' → Has H' u r → Q u H'
/-- a layout by its kinds -/
def ByKinds (S L : D → D → Prop) : Prop := ∀ l r, L l r → ∃ (its : List D) (sss : List (List D)) (rs : List D), l = .tup its ∧ its.length ≤ 1000 ∧ Paired IKi its sss ∧ r = .tup rs ∧ Paired S sss.flatten rs
theorem ok_law_full {S L : D → D → Prop} {k : Nat} (hk : 2 ≤ k) (hL : ByKinds S L) (T : Txt w K mg dW aC) (F : Dn K mg "_law_full" st_law_full) (C_law_kinds : Cal P w K mg base 2 "_law_kinds" sp_law_kinds) (C_law_full_of : Cal P w K mg base k "_law_full_of" (sp_law_full_of S)) :
    Cal P w K mg base (k + 1) "_law_full" (sp_whole L) := by
  refine cal_mk F sc_l_full bd_law_full (fun vs H Q E h => whole_len h) (fun f cdv A outer s H vs Q E hr h => ?_)
  obtain ⟨v, l, r, rfl, hv, hl, q⟩ := h
  refine ⟨_, (pss_one (ps_ret (pe_callTy call_tuple_of (by rfl) T.b_tuple (by decide +kernel) (pa_cons (pe_lc (own := [("_law_kind", 1)]) (g := (gName 1)) (tt := tYes) rfl sc_l_full.nd (pi_list (pe_k C_law_kinds hr (by omega) (by rfl) (pa_cons (pv 0) pa_nil))) (blkOk_by (own := [("_law_kind", 1)]) (N := N_law_full) (sc := defScope st_law_full) (by decide +kernel)) (fun _ _ _ _ _ => (pg_name (i := 1) sc_l_full.nd rfl (Or.inl rfl))) (fun _ _ _ _ _ => pts_nil) (fun _ _ _ _ _ => (pe_k C_law_full_of hr (by omega) (by rfl) (pa_cons (pv 1) pa_nil)))) pa_nil)))), ?_⟩
  obtain ⟨its, sss, rs, rfl, hn, hI, rfl, hS⟩ := hL _ _ hl
  refine ⟨_, rfl, v, its, sss, rfl, hv, hn, hI, fun p us H1 s1 hp hus => ?_⟩
  refine ⟨p, rfl, ⟨_, SqL.has hp⟩, fun D nD => ?_⟩
  have hfl := flat_le (R := IKi) (fun _ _ h => h.le) hI
  have hfl2 : its.length * 1000 ≤ 1000 * 1000 := Nat.mul_le_mul hn (Nat.le_refl _)
  have hul : us.length = rs.length := by rw [hus.len, paired_len hS]
  have hrl : rs.length ≤ 1000000 := by
    rw [← paired_len hS]
    omega
  refine walk_any (walk_list (xs := us)) (fun i H3 => ∃ acc, Same H1 H3 ∧ H3 D = some (.lst acc) ∧ HasL H3 acc (rs.take i))
    ⟨[], same_new nD, upd_same, .nil⟩ (fun i H3 _ hw => by obtain ⟨_, s3, _⟩ := hw; exact SqL.has (s3 _ _ hp)) (fun i x H3 H3' hi hw hy => ?_) (fun H3 hw => ?_)
  · obtain ⟨acc, s3, hD, hla⟩ := hw
    obtain ⟨rfl, hx⟩ := hy
    obtain ⟨d, hd, hdx⟩ := hus.getV hx
    obtain ⟨rr, hrr, hSr⟩ := paired_get hS hd
    refine ⟨rfl, _, rfl, x, d, rr, rfl, hdx.mono (kt_same s3), hSr, fun u H4 s4 h4 => ?_⟩
    refine ⟨acc, s4 _ _ hD, small_lt ?_, acc ++ [u], same_mut (s3.trans s4) nD, upd_same, ?_⟩
    · rw [hla.len, List.length_take]
      omega
    · rw [List.take_add_one, hrr]
      exact ((hla.mono (kt_same s4)).snoc h4).mono (kt_upd (s4 _ _ hD))
  · obtain ⟨acc, s3, hD, hla⟩ := hw
    rw [hul, List.take_length] at hla
    refine ⟨D, acc, rfl, .inl ⟨SqL.has hD, fun t nt => ?_⟩⟩
    exact q _ _ ((s1.trans s3).trans (same_new nt)) (Has.new hla nt)
theorem ok_law_full_of {LR : D → D → Prop} {j : Nat} (hj : 2 ≤ j) (T : Txt w K mg dW aC) (F : Dn K mg "_law_full_of" st_law_full_of) (C_law_every : Cal P w K mg base 2 "_law_every" sp_law_every) (C_law_full : Cal P w K mg base j "_law_full" (sp_whole LR))
    (C_law_bounds : Cal P w K mg base 1 "_law_bounds" sp_law_bounds) : Cal P w K mg base (j + 1) "_law_full_of" (sp_law_full_of (KRes LR)) := by
  refine cal_mk F sc_l_full_of bd_law_full_of (fun vs H Q E h => ?_) (fun f cdv A outer s H vs Q E hr h => ?_)
  · obtain ⟨v, s, r, rfl, _⟩ := h
    rfl
  obtain ⟨v, s, r, rfl, hv, hS, q⟩ := h
  refine ⟨_, (pss_cons (ps_if (pt_cmpR op_eq (pe_ix ix_tup (pv 0) pe_int (fun _ _ => rfl)) pe_str (nomark _))
      (pss_one (ps_ret (pe_k C_law_every hr (by omega) (by rfl) (pa_cons (pe_ix ix_tup (pv 0) pe_int (fun _ _ => rfl)) (pa_cons (pe_ix ix_tup (pv 0) pe_int (fun _ _ => rfl)) (pa_cons (pe_ix ix_tup (pv 0) pe_int (fun _ _ => rfl)) pa_nil))))))
      pss_nil)
    (pss_cons (ps_if (pt_cmpR op_eq (pe_ix ix_tup (pv 0) pe_int (fun _ _ => rfl)) pe_str (nomark _))
      (pss_one (ps_ret (pe_k C_law_full hr (by omega) (by rfl) (pa_cons (pe_ix ix_tup (pv 0) pe_int (fun _ _ => rfl)) pa_nil))))
      pss_nil)
    (pss_cons (ps_if (pt_cmpR op_eq (pe_ix ix_tup (pv 0) pe_int (fun _ _ => rfl)) pe_str (nomark _))
      (pss_one (ps_ret (pe_tup (pa_cons pe_str (pa_cons (pe_callTy call_tuple_of (by rfl) T.b_tuple (by decide +kernel) (pa_cons (pe_lc (own := [("_law_case", 3)]) (g := (gName 3)) (tt := tYes) rfl sc_l_full_of.nd (pi_tup (pe_ix ix_tup (pv 0) pe_int (fun _ _ => rfl))) (blkOk_by (own := [("_law_case", 3)]) (N := N_law_full_of) (sc := defScope st_law_full_of) (by decide +kernel)) (fun _ _ _ _ _ => (pg_name (i := 3) sc_l_full_of.nd rfl (Or.inl rfl))) (fun _ _ _ _ _ => pts_nil) (fun _ _ _ _ _ => (pe_tup (pa_cons (pe_ix (ix_tupK (K := K) rfl) (pv 3) pe_int (fun _ _ => rfl)) (pa_cons (pe_k C_law_full hr (by omega) (by rfl) (pa_cons (pe_ix (ix_tupK (K := K) rfl) (pv 3) pe_int (fun _ _ => rfl)) pa_nil)) pa_nil))))) pa_nil)) pa_nil)))))
      pss_nil)
    (pss_cons (ps_set (i := 1) sc_l_full_of.nd rfl (Or.inr rfl) (pe_ifExp (pt_cmpR op_eq (pe_ix ix_tup (pv 0) pe_int (fun _ _ => rfl)) pe_str (nomark _)) (pe_k C_law_full hr (by omega) (by rfl) (pa_cons (pe_ix ix_tup (pv 0) pe_int (fun _ _ => rfl)) pa_nil)) (pe_k C_law_every hr (by omega) (by rfl) (pa_cons (pe_ix ix_tup (pv 0) pe_int (fun _ _ => rfl)) (pa_cons (pe_ix ix_tup (pv 0) pe_int (fun _ _ => rfl)) (pa_cons (pe_ix ix_tup (pv 0) pe_int (fun _ _ => rfl)) pa_nil))))))
    (pss_cons (ps_set (i := 2) sc_l_full_of.nd rfl (Or.inl rfl) (pe_k C_law_bounds hr (by omega) (by rfl) (pa_cons (pe_ix ix_tup (pv 0) pe_int (fun _ _ => rfl)) pa_nil)))
    (pss_one (ps_ret (pe_tup (pa_cons pe_str (pa_cons (pe_callTy call_tuple_of (by rfl) T.b_tuple (by decide +kernel) (pa_cons (pe_listRg rfl (by rfl) T.b_list (prg_2 (by rfl) T.b_range (pe_ix ix_tup (pv 2) pe_int (fun _ _ => rfl)) (pe_op op_add (pe_ix ix_tup (pv 2) pe_int (fun _ _ => rfl)) pe_int))) pa_nil)) (pa_cons (pe_callTy call_tuple_of (by rfl) T.b_tuple (by decide +kernel) (pa_cons (pe_lc (own := [("_law_k", 4)]) (g := (gName 4)) (tt := tYes) rfl sc_l_full_of.nd (pi_range1 (by rfl) T.b_range (pa_cons (pe_ix ix_tup (pv 2) pe_int (fun _ _ => rfl)) pa_nil)) (blkOk_by (own := [("_law_k", 4)]) (N := N_law_full_of) (sc := defScope st_law_full_of) (by decide +kernel)) (fun _ _ _ _ _ => (pg_name (i := 4) sc_l_full_of.nd rfl (Or.inl rfl))) (fun _ _ _ _ _ => pts_nil) (fun _ _ _ _ _ => (pv 1))) pa_nil)) pa_nil))))))))))), ?_⟩
  cases hS with
  | int nm df k sg rs hk hrs =>
    obtain ⟨b, us, rfl, hb, l⟩ := hv.tupI
    obtain _ | ⟨⟨⟩, _ | ⟨h1, _ | ⟨⟨⟩, _ | ⟨⟨⟩, _ | ⟨h4, _ | ⟨h5, _ | _⟩⟩⟩⟩⟩⟩ := l
    refine ⟨_, rfl, b, _, 0, _, rfl, rfl, SqT.has hb, i0, rfl, _, rfl, ite_yes rfl ?_⟩
    refine ⟨_, rfl, b, _, 2, _, rfl, rfl, SqT.has hb, i2, _, rfl, b, _, 3, _, rfl, rfl, SqT.has hb, i3, _, rfl, b, _, 4, _, rfl, rfl, SqT.has hb, i4, ?_⟩
    exact ⟨k, _, _, rs, rfl, h4, hk, hrs, q⟩
  | record nm l0 r hl =>
    obtain ⟨b, us, rfl, hb, l⟩ := hv.tupI
    obtain _ | ⟨⟨⟩, _ | ⟨h1, _ | ⟨h2, _ | _⟩⟩⟩ := l
    refine ⟨_, rfl, b, _, 0, _, rfl, rfl, SqT.has hb, i0, rfl, _, rfl, ite_no (by decide +kernel) ?_⟩
    refine ⟨_, rfl, b, _, 0, _, rfl, rfl, SqT.has hb, i0, rfl, _, rfl, ite_yes rfl ?_⟩
    exact ⟨_, rfl, b, _, 2, _, rfl, rfl, SqT.has hb, i2, _, l0, r, rfl, h2, hl, q⟩
  | choice nm cs hcl hcs =>
    obtain ⟨b, us, rfl, hb, l⟩ := hv.tupI
    obtain _ | ⟨⟨⟩, _ | ⟨h1, _ | ⟨h2, _ | _⟩⟩⟩ := l
    obtain ⟨c, cvs, rfl, hc, lc⟩ := h2.tupI
    refine ⟨_, rfl, b, _, 0, _, rfl, rfl, SqT.has hb, i0, rfl, _, rfl, ite_no (by decide +kernel) ?_⟩
    refine ⟨_, rfl, b, _, 0, _, rfl, rfl, SqT.has hb, i0, rfl, _, rfl, ite_no (by decide +kernel) ?_⟩
    refine ⟨_, rfl, b, _, 0, _, rfl, rfl, SqT.has hb, i0, rfl, _, rfl, ite_yes rfl ?_⟩
    refine ⟨_, rfl, b, _, 2, _, rfl, rfl, SqT.has hb, i2, c, rfl, ⟨_, SqT.has hc⟩, fun D nD => ?_⟩
    have hcv : cvs.length = cs.length := by rw [lc.len, List.length_map]
    refine walk_any (walk_tup (xs := cvs)) (fun i H3 => ∃ acc, Same H H3 ∧ H3 D = some (.lst acc) ∧ HasL H3 acc ((cs.take i).map Case.r))
      ⟨[], same_new nD, upd_same, .nil⟩ (fun i H3 _ hw => by obtain ⟨_, s3, _⟩ := hw; exact SqT.has (s3 _ _ hc)) (fun i x H3 H3' hi hw hy => ?_) (fun H3 hw => ?_)
    · obtain ⟨acc, s3, hD, hla⟩ := hw
      obtain ⟨rfl, hx⟩ := hy
      obtain ⟨d, hd, hdx⟩ := lc.getV hx
      rw [List.getElem?_map] at hd
      obtain ⟨cc, hcc, rfl⟩ := Option.map_eq_some_iff.mp hd
      obtain ⟨e, evs, rfl, he, le⟩ := (hdx.mono (kt_same s3)).tupI
      obtain _ | ⟨⟨⟩, _ | ⟨⟨⟩, _ | ⟨g2, _ | _⟩⟩⟩ := le
      refine ⟨rfl, _, rfl, e, _, 1, _, rfl, rfl, SqT.has he, i1, ?_⟩
      refine ⟨_, rfl, e, _, 2, _, rfl, rfl, SqT.has he, i2, _, cc.lay, cc.res, rfl, g2, hcs cc (List.mem_of_getElem? hcc), fun u H4 s4 h4 => ⟨szl _, fun t nt => ?_⟩⟩
      have hD4 := s4 _ _ hD
      have nDt : D ≠ t := ne_of_none hD4 nt
      refine ⟨acc, (by rw [upd_ne nDt]; exact hD4), small_lt ?_, acc ++ [.ref t], same_mut ((s3.trans s4).trans (same_new nt)) nD, upd_same, ?_⟩
      · rw [hla.len, List.length_map, List.length_take]
        omega
      · rw [List.take_add_one, hcc, List.map_append]
        exact (((hla.mono (kt_same s4)).mono (kt_new nt)).snoc (Has.new (.cons (.str _) (.cons h4 .nil)) nt)).mono (kt_upd (xs := acc) (by rw [upd_ne nDt]; exact hD4))
    · obtain ⟨acc, s3, hD, hla⟩ := hw
      rw [hcv, List.take_length] at hla
      refine ⟨D, acc, rfl, .inl ⟨SqL.has hD, fun t nt => ⟨szl _, fun t2 nt2 => ?_⟩⟩⟩
      exact q _ _ ((s3.trans (same_new nt)).trans (same_new nt2)) (Has.new (.cons (.str _) (.cons (Has.new hla nt) .nil)) nt2)
  | array nm df k sg c rs hc hk hrs =>
    obtain ⟨b, us, rfl, hb, l⟩ := hv.tupI
    obtain _ | ⟨⟨⟩, _ | ⟨h1, _ | ⟨h2, _ | ⟨⟨⟩, _ | ⟨⟨⟩, _ | ⟨h5, _ | ⟨h6, _ | _⟩⟩⟩⟩⟩⟩⟩ := l
    obtain ⟨k1, k2, k3⟩ := hc
    refine ⟨_, rfl, b, _, 0, _, rfl, rfl, SqT.has hb, i0, rfl, _, rfl, ite_no (by decide +kernel) ?_⟩
    refine ⟨_, rfl, b, _, 0, _, rfl, rfl, SqT.has hb, i0, rfl, _, rfl, ite_no (by decide +kernel) ?_⟩
    refine ⟨_, rfl, b, _, 0, _, rfl, rfl, SqT.has hb, i0, rfl, _, rfl, ite_no (by decide +kernel) ?_⟩
    refine ⟨_, rfl, b, _, 0, _, rfl, rfl, SqT.has hb, i0, rfl, _, rfl, ite_no (by decide +kernel) ?_⟩
    refine ⟨_, rfl, b, _, 3, _, rfl, rfl, SqT.has hb, i3, _, rfl, b, _, 4, _, rfl, rfl, SqT.has hb, i4, _, rfl, b, _, 5, _, rfl, rfl, SqT.has hb, i5, ?_⟩
    refine ⟨k, _, _, rs, rfl, h5, hk, hrs, fun u H1 s1 hu => ?_⟩
    have hb1 := s1 _ _ hb
    refine ⟨_, rfl, b, _, 2, _, rfl, rfl, SqT.has hb1, i2, _, c, rfl, h2.mono (kt_same s1), fun t H2 s2 ht => ?_⟩
    refine ⟨_, rfl, t, _, 0, _, rfl, rfl, SqT.has ht, i0, _, rfl, t, _, 1, _, rfl, rfl, SqT.has ht, i1, _, _, rfl, rfl, _, _, rfl, rfl, ?_⟩
    refine ⟨RgOk.of_le (by omega) (by omega) (by omega) (by omega), fun p np => ?_⟩
    refine ⟨p, _, rfl, .inl ⟨SqL.has upd_same, fun t1 nt1 => ?_⟩⟩
    have s3 := (s2.trans (same_new (o := .lst (rgV (c.lo : Int) ((c.hi : Int) + 1))) np)).trans (same_new (o := .tup (rgV (c.lo : Int) ((c.hi : Int) + 1))) nt1)
    refine ⟨_, rfl, t, _, 1, _, rfl, rfl, SqT.has (((same_new np).trans (same_new nt1)) _ _ ht), i1, c.hi, rfl, by omega, by omega, fun D nD => ?_⟩
    refine walk_any (walk_range (lo := 0) (n := (c.hi : Int).toNat)) (fun i H4 => ∃ acc, Same H1 H4 ∧ H4 t1 = some (.tup (rgV (c.lo : Int) ((c.hi : Int) + 1))) ∧ H4 D = some (.lst acc) ∧ HasL H4 acc (List.replicate i (setRes k rs)))
      ⟨[], s3.trans (same_new nD), (same_new nD) _ _ upd_same, upd_same, .nil⟩ (fun _ _ _ _ => trivial) (fun i x H4 H4' hi hw hy => ?_) (fun H4 hw => ?_)
    · obtain ⟨acc, s4, ht1, hD, hla⟩ := hw
      obtain ⟨rfl, rfl⟩ := hy
      refine ⟨rfl, _, rfl, acc, hD, small_lt ?_, acc ++ [u], ?_, ?_, upd_same, ?_⟩
      · rw [hla.len, List.length_replicate]
        omega
      · exact same_mut s4 (none_back s3 nD)
      · exact kt_upd hD _ _ ht1
      · rw [List.replicate_succ']
        exact (hla.snoc (hu.mono (kt_same s4))).mono (kt_upd hD)
    · obtain ⟨acc, s4, ht1, hD, hla⟩ := hw
      rw [Int.toNat_natCast] at hla
      refine ⟨D, acc, rfl, .inl ⟨SqL.has hD, fun t2 nt2 => ⟨szl _, fun t3 nt3 => ?_⟩⟩⟩
      refine q _ _ (((s1.trans s4).trans (same_new nt2)).trans (same_new nt3)) ?_
      have hr1 : Has H4 (.ref t1) (.tup (c.nums.map Wp.D.int)) := by
        refine .tup ht1 ?_
        rw [rg_run]
        exact HasL.ints _
      exact Has.new (.cons (.str _) (.cons (hr1.mono (kt_new nt2)) (.cons (Has.new hla nt2) .nil))) nt3
  | list nm c l0 r0 hc hl =>
    obtain ⟨b, us, rfl, hb, l⟩ := hv.tupI
    obtain _ | ⟨⟨⟩, _ | ⟨h1, _ | ⟨h2, _ | ⟨h3, _ | _⟩⟩⟩⟩ := l
    obtain ⟨k1, k2, k3⟩ := hc
    refine ⟨_, rfl, b, _, 0, _, rfl, rfl, SqT.has hb, i0, rfl, _, rfl, ite_no (by decide +kernel) ?_⟩
    refine ⟨_, rfl, b, _, 0, _, rfl, rfl, SqT.has hb, i0, rfl, _, rfl, ite_no (by decide +kernel) ?_⟩
    refine ⟨_, rfl, b, _, 0, _, rfl, rfl, SqT.has hb, i0, rfl, _, rfl, ite_no (by decide +kernel) ?_⟩
    refine ⟨_, rfl, b, _, 0, _, rfl, rfl, SqT.has hb, i0, rfl, _, rfl, ite_yes rfl ?_⟩
    refine ⟨_, rfl, b, _, 3, _, rfl, rfl, SqT.has hb, i3, _, l0, r0, rfl, h3, hl, fun u H1 s1 hu => ?_⟩
    have hb1 := s1 _ _ hb
    refine ⟨_, rfl, b, _, 2, _, rfl, rfl, SqT.has hb1, i2, _, c, rfl, h2.mono (kt_same s1), fun t H2 s2 ht => ?_⟩
    refine ⟨_, rfl, t, _, 0, _, rfl, rfl, SqT.has ht, i0, _, rfl, t, _, 1, _, rfl, rfl, SqT.has ht, i1, _, _, rfl, rfl, _, _, rfl, rfl, ?_⟩
    refine ⟨RgOk.of_le (by omega) (by omega) (by omega) (by omega), fun p np => ?_⟩
    refine ⟨p, _, rfl, .inl ⟨SqL.has upd_same, fun t1 nt1 => ?_⟩⟩
    have s3 := (s2.trans (same_new (o := .lst (rgV (c.lo : Int) ((c.hi : Int) + 1))) np)).trans (same_new (o := .tup (rgV (c.lo : Int) ((c.hi : Int) + 1))) nt1)
    refine ⟨_, rfl, t, _, 1, _, rfl, rfl, SqT.has (((same_new np).trans (same_new nt1)) _ _ ht), i1, c.hi, rfl, by omega, by omega, fun D nD => ?_⟩
    refine walk_any (walk_range (lo := 0) (n := (c.hi : Int).toNat)) (fun i H4 => ∃ acc, Same H1 H4 ∧ H4 t1 = some (.tup (rgV (c.lo : Int) ((c.hi : Int) + 1))) ∧ H4 D = some (.lst acc) ∧ HasL H4 acc (List.replicate i r0))
      ⟨[], s3.trans (same_new nD), (same_new nD) _ _ upd_same, upd_same, .nil⟩ (fun _ _ _ _ => trivial) (fun i x H4 H4' hi hw hy => ?_) (fun H4 hw => ?_)
    · obtain ⟨acc, s4, ht1, hD, hla⟩ := hw
      obtain ⟨rfl, rfl⟩ := hy
      refine ⟨rfl, _, rfl, acc, hD, small_lt ?_, acc ++ [u], ?_, ?_, upd_same, ?_⟩
      · rw [hla.len, List.length_replicate]
        omega
      · exact same_mut s4 (none_back s3 nD)
      · exact kt_upd hD _ _ ht1
      · rw [List.replicate_succ']
        exact (hla.snoc (hu.mono (kt_same s4))).mono (kt_upd hD)
    · obtain ⟨acc, s4, ht1, hD, hla⟩ := hw
      rw [Int.toNat_natCast] at hla
      refine ⟨D, acc, rfl, .inl ⟨SqL.has hD, fun t2 nt2 => ⟨szl _, fun t3 nt3 => ?_⟩⟩⟩
      refine q _ _ (((s1.trans s4).trans (same_new nt2)).trans (same_new nt3)) ?_
      have hr1 : Has H4 (.ref t1) (.tup (c.nums.map Wp.D.int)) := by
        refine .tup ht1 ?_
        rw [rg_run]
        exact HasL.ints _
      exact Has.new (.cons (.str _) (.cons (hr1.mono (kt_new nt2)) (.cons (Has.new hla nt2) .nil))) nt3
/-- an item's kinds with their entries -/
theorem kinds_of {LR : D → D → Prop} {it : D} {rs : List D} (h : IRes LR it rs) : ∃ ss, IKi it ss ∧ Paired (KRes LR) ss rs := by
  cases h with
  | word w5 ps hp hok =>
    exact ⟨_, .word w5 ps hp, paired_map fun p hp => .int _ _ p.width p.signed p.ranges (hok p (named_mem hp).1).1 (hok p (named_mem hp).1).2⟩
  | comp it r hC =>
    cases hC with
    | array nm w5 sg c rs df h1 h2 =>
      have hw := w5.size_le
      exact ⟨_, .array nm w5 sg c rs df, .cons (.array _ _ (8 * w5.size) sg c rs h1 (by omega) h2) .nil⟩
    | list nm c l r h1 h2 => exact ⟨_, .list nm c l, .cons (.list nm c l _ h1 h2) .nil⟩
    | choice nm w5 cs h1 h2 => exact ⟨_, .choice nm _ _, .cons (.choice _ cs h1 h2) .nil⟩
    | record nm l r h1 => exact ⟨_, .record nm l, .cons (.record _ l _ h1) .nil⟩
  | fixed it hF =>
    cases hF with
    | lit x => exact ⟨_, .fixed _ x (.inl rfl), .nil⟩
    | res x => exact ⟨_, .fixed _ x (.inr (.inl rfl)), .nil⟩
    | chk x => exact ⟨_, .fixed _ x (.inr (.inr rfl)), .nil⟩
theorem kinds_all {LR : D → D → Prop} : ∀ {its : List D} {rss : List (List D)}, Paired (IRes LR) its rss → ∃ sss, Paired IKi its sss ∧ Paired (KRes LR) sss.flatten rss.flatten
  | _, _, .nil => ⟨[], .nil, .nil⟩
  | _, _, .cons h t => by
    obtain ⟨ss, h1, h2⟩ := kinds_of h
    obtain ⟨sss, h3, h4⟩ := kinds_all t
    exact ⟨ss :: sss, .cons h1 h3, paired_app h2 h4⟩
theorem byKinds_step (LR : D → D → Prop) : ByKinds (KRes LR) (LStep LR) := fun l r h => by
  obtain ⟨its, rss, rfl, hn, hP, rfl⟩ := h
  obtain ⟨sss, h1, h2⟩ := kinds_all hP
  exact ⟨its, sss, _, rfl, hn, h1, rfl, h2⟩
/-- what stands in the module of the law's second half -/
structure Half (K : PySem.W.Frag) (mg : Str → Option Value) : Prop where
  size : Dn K mg "_law_size" st_law_size
  bounds : Dn K mg "_law_bounds" st_law_bounds
  listed : Dn K mg "_law_listed" st_law_listed
  set : Dn K mg "_law_set" st_law_set
  every : Dn K mg "_law_every" st_law_every
  kinds : Dn K mg "_law_kinds" st_law_kinds
  full : Dn K mg "_law_full" st_law_full
  full_of : Dn K mg "_law_full_of" st_law_full_of
  same : Dn K mg "_law_same" st_law_same
/-- _law_full, for layouts of each depth -/
theorem fulls (T : Txt w K mg dW aC) (G : Half K mg) (n : Nat) : Cal P w K mg base (4 + 2 * n) "_law_full" (sp_whole (LRes n)) := by
  have c_every : Cal P w K mg base 2 "_law_every" sp_law_every := ok_law_every G.every (ok_law_set T G.set) (ok_law_listed T G.listed)
  have c_kinds : Cal P w K mg base 2 "_law_kinds" sp_law_kinds := ok_law_kinds G.kinds (ok_law_size G.size)
  have entry : ∀ {LR : D → D → Prop} {j : Nat}, 2 ≤ j → Cal P w K mg base j "_law_full" (sp_whole LR) → Cal P w K mg base (j + 1) "_law_full_of" (sp_law_full_of (KRes LR)) := fun hj c => ok_law_full_of hj T G.full_of c_every c (ok_law_bounds G.bounds)
  induction n with
  | zero =>
    have c0 : Cal P w K mg base 2 "_law_full" (sp_whole fun _ _ => False) := ((cal_none G.full bd_law_full).mono (by omega)).imp fun vs H Q E h => by
      obtain ⟨_, _, _, _, _, z, _⟩ := h
      exact z
    exact ok_law_full (by omega) (byKinds_step _) T G.full c_kinds (entry (Nat.le_refl 2) c0)
  | succ n ih => exact ok_law_full (k := 4 + 2 * n + 1) (by omega) (byKinds_step _) T G.full c_kinds (entry (by omega) ih)
end
end Wp

namespace Wp
open PySem PySem.Spec PyProof.Rows L2
section
variable {P : Program} {w : World} {K : PySem.W.Frag} {mg : Str → Option Value} {base : Heap} {dW aC : Addr}

/-! ### _law_same of one datum twice -/
def Dp : Nat → D → Prop
  | 0, _ => False
  | n + 1, .tup ds => ds.length ≤ 1000000 ∧ ∀ x ∈ ds, Dp n x
  | _ + 1, _ => True
theorem isi_ {H : Hp} {Q : VK} {x : V} {T n : String} {b : Bool} (ty : TyX K H x (.type T)) (h : kitB T n = some b) (q : Q (.bl b) H) : rIsi K [x, .ty n] H Q :=
  ⟨x, .ty n, .type T, .type n, b, rfl, .ty n, ty, kit_ty h, q⟩
theorem k_tt : kitB "tuple" "tuple" = some true := by decide +kernel
theorem k_tl : kitB "tuple" "list" = some false := by decide +kernel
theorem k_nt : kitB "NoneType" "tuple" = some false := by decide +kernel
theorem k_nl : kitB "NoneType" "list" = some false := by decide +kernel
theorem k_bt : kitB "bool" "tuple" = some false := by decide +kernel
theorem k_bl : kitB "bool" "list" = some false := by decide +kernel
theorem k_bb : kitB "bool" "bool" = some true := by decide +kernel
theorem k_st : kitB "str" "tuple" = some false := by decide +kernel
theorem k_sl : kitB "str" "list" = some false := by decide +kernel
theorem k_sb : kitB "str" "bool" = some false := by decide +kernel
theorem k_ss : kitB "str" "str" = some true := by decide +kernel
theorem k_it : kitB "int" "tuple" = some false := by decide +kernel
theorem k_il : kitB "int" "list" = some false := by decide +kernel
theorem k_ib : kitB "int" "bool" = some false := by decide +kernel
theorem k_is : kitB "int" "str" = some false := by decide +kernel
theorem k_ii : kitB "int" "int" = some true := by decide +kernel
def sp_law_same (n : Nat) : Sp := fun vs H Q _ => ∃ (v u : V) (d : D), vs = [v, u] ∧ Dp n d ∧ Has H v d ∧ Has H u d ∧ Q (.bl true) H
theorem ok_law_same (T : Txt w K mg dW aC) (F : Dn K mg "_law_same" st_law_same) : ∀ n : Nat, Cal P w K mg base n "_law_same" (sp_law_same n)
  | 0 => (cal_none F bd_law_same).imp fun vs H Q E h => by
    obtain ⟨_, _, _, _, z, _⟩ := h
    exact z
  | n + 1 => by
    have C_law_same := ok_law_same T F n
    refine cal_mk F sc_l_same bd_law_same (fun vs H Q E h => ?_) (fun f cdv A outer s H vs Q E hr h => ?_)
    · obtain ⟨v, u, d, rfl, _⟩ := h
      rfl
    obtain ⟨v, u, d, rfl, hd, hv, hu, q⟩ := h
    refine ⟨_, (pss_cons (ps_if (PW.pt (pw_or (pt_val (pe_callB call_isi (by rfl) T.b_isinstance (by decide +kernel) (pa_cons (pv 1) (pa_cons (pe_bltn (v := .ty "tuple") (by rfl) T.b_tuple (by decide +kernel) rfl) pa_nil)))) (pw_or1 (pt_val (pe_callB call_isi (by rfl) T.b_isinstance (by decide +kernel) (pa_cons (pv 1) (pa_cons (pe_bltn (v := .ty "list") (by rfl) T.b_list (by decide +kernel) rfl) pa_nil)))))))
      (pss_cons (ps_if (PW.pt (pw_and (pt_val (pe_callB call_isi (by rfl) T.b_isinstance (by decide +kernel) (pa_cons (pv 1) (pa_cons (pe_bltn (v := .ty "tuple") (by rfl) T.b_tuple (by decide +kernel) rfl) pa_nil)))) (pw_and1 (pt_not (pt_val (pe_callB call_isi (by rfl) T.b_isinstance (by decide +kernel) (pa_cons (pv 0) (pa_cons (pe_bltn (v := .ty "tuple") (by rfl) T.b_tuple (by decide +kernel) rfl) pa_nil))))))))
        (pss_one (ps_ret pe_bl))
        pss_nil)
      (pss_cons (ps_if (PW.pt (pw_and (pt_val (pe_callB call_isi (by rfl) T.b_isinstance (by decide +kernel) (pa_cons (pv 1) (pa_cons (pe_bltn (v := .ty "list") (by rfl) T.b_list (by decide +kernel) rfl) pa_nil)))) (pw_and1 (pt_not (pt_val (pe_callB call_isi (by rfl) T.b_isinstance (by decide +kernel) (pa_cons (pv 0) (pa_cons (pe_bltn (v := .ty "list") (by rfl) T.b_list (by decide +kernel) rfl) pa_nil))))))))
        (pss_one (ps_ret pe_bl))
        pss_nil)
      (pss_cons (ps_if (pt_cmpR op_ne (pe_callB call_len_seq (by rfl) T.b_len (by decide +kernel) (pa_cons (pv 0) pa_nil)) (pe_callB call_len_seq (by rfl) T.b_len (by decide +kernel) (pa_cons (pv 1) pa_nil)) (nomark _))
        (pss_one (ps_ret pe_bl))
        pss_nil)
      (pss_cons (ps_for PassesOwn.never rfl (pi_range1 (by rfl) T.b_range (pa_cons (pe_callB call_len_seq (by rfl) T.b_len (by decide +kernel) (pa_cons (pv 1) pa_nil)) pa_nil)) (pg_name (i := 2) sc_l_same.nd rfl (Or.inl rfl))
        (pss_one (ps_if (pt_not (pt_val (pe_k C_law_same hr (by omega) (by rfl) (pa_cons (pe_ix ix_tup (pv 0) (pv 2) (fun _ _ => rfl)) (pa_cons (pe_ix ix_tup (pv 1) (pv 2) (fun _ _ => rfl)) pa_nil)))))
          (pss_one (ps_ret pe_bl))
          pss_nil)))
      (pss_one (ps_ret pe_bl))))))
      pss_nil)
    (pss_cons (ps_if (pt_cmpR op_isN (pv 1) pe_non (nomark _))
      (pss_one (ps_ret (pe_cmpR op_isN (pv 0) pe_non (nomark _))))
      pss_nil)
    (pss_cons (ps_if (pt_val (pe_callB call_isi (by rfl) T.b_isinstance (by decide +kernel) (pa_cons (pv 1) (pa_cons (pe_bltn (v := .ty "bool") (by rfl) T.b_bool (by decide +kernel) rfl) pa_nil))))
      (pss_one (ps_ret (pe_and (pe_callB call_isi (by rfl) T.b_isinstance (by decide +kernel) (pa_cons (pv 0) (pa_cons (pe_bltn (v := .ty "bool") (by rfl) T.b_bool (by decide +kernel) rfl) pa_nil))) (pe_one (pe_cmpR op_eq (pv 0) (pv 1) (nomark _))))))
      pss_nil)
    (pss_cons (ps_if (pt_val (pe_callB call_isi (by rfl) T.b_isinstance (by decide +kernel) (pa_cons (pv 1) (pa_cons (pe_bltn (v := .ty "str") (by rfl) T.b_str (by decide +kernel) rfl) pa_nil))))
      (pss_one (ps_ret (pe_and (pe_callB call_isi (by rfl) T.b_isinstance (by decide +kernel) (pa_cons (pv 0) (pa_cons (pe_bltn (v := .ty "str") (by rfl) T.b_str (by decide +kernel) rfl) pa_nil))) (pe_one (pe_cmpR op_eq (pv 0) (pv 1) (nomark _))))))
      pss_nil)
    (pss_one (ps_ret (pe_and (pe_callB call_isi (by rfl) T.b_isinstance (by decide +kernel) (pa_cons (pv 0) (pa_cons (pe_bltn (v := .ty "int") (by rfl) T.b_int (by decide +kernel) rfl) pa_nil))) (pe_and (pe_not (pe_callB call_isi (by rfl) T.b_isinstance (by decide +kernel) (pa_cons (pv 0) (pa_cons (pe_bltn (v := .ty "bool") (by rfl) T.b_bool (by decide +kernel) rfl) pa_nil)))) (pe_one (pe_cmpR op_eq (pv 0) (pv 1) (nomark _))))))))))), ?_⟩
    cases d with
    | tup ds =>
      obtain ⟨a, us, rfl, ha, la⟩ := hv.tupI
      obtain ⟨b, ws, rfl, hb, lb⟩ := hu.tupI
      obtain ⟨hdl, hdd⟩ := hd
      have hul : us.length = ds.length := la.len
      have hwl : ws.length = ds.length := lb.len
      refine ⟨_, rfl, _, _, _, _, _, rfl, .ty _, (.base (.tup hb)), kit_ty k_tt, _, rfl, ?_⟩
      refine ⟨_, rfl, _, _, _, _, _, rfl, .ty _, (.base (.tup hb)), kit_ty k_tt, _, rfl, ?_⟩
      refine ⟨_, rfl, _, _, _, _, _, rfl, .ty _, (.base (.tup ha)), kit_ty k_tt, _, rfl, ?_⟩
      refine ⟨_, rfl, _, _, _, _, _, rfl, .ty _, (.base (.tup hb)), kit_ty k_tl, _, rfl, ?_⟩
      refine ⟨_, rfl, a, us, rfl, .inr (SqT.has ha), _, rfl, b, ws, rfl, .inr (SqT.has hb), rfl, _, rfl, ?_⟩
      refine ite_nno (by rw [hul, hwl]) ?_
      refine ⟨_, rfl, b, ws, rfl, .inr (SqT.has hb), _, rfl, by omega, by omega, ?_⟩
      refine for_range (lo := 0) (n := (ws.length : Int).toNat) (fun i σ H' => ∃ y, σ = [some (.ref a), some (.ref b), y] ∧ H' = H) ⟨none, rfl, rfl⟩ (fun i σ H' hi hw => ?_) (fun σ H' hw => ?_)
      · obtain ⟨y, rfl, rfl⟩ := hw
        have hi1 : i < us.length := by omega
        have hi2 : i < ws.length := by omega
        have g1 : us[i]? = some us[i] := List.getElem?_eq_getElem hi1
        obtain ⟨d, hdi, hd1⟩ := la.getV g1
        obtain ⟨x, g2, hd2⟩ := lb.get hdi
        have e0 : (0 : Int) + (i : Int) = ((i : Nat) : Int) := Int.zero_add _
        refine ⟨_, rfl, _, rfl, a, us, _, us[i], rfl, rfl, SqT.has ha, (by rw [e0]; exact atI_nat g1), ?_⟩
        refine ⟨_, rfl, _, rfl, b, ws, _, x, rfl, rfl, SqT.has hb, (by rw [e0]; exact atI_nat g2), ?_⟩
        exact ⟨us[i], x, d, rfl, hdd d (List.mem_of_getElem? hdi), hd1, hd2, true, rfl, _, rfl, rfl⟩
      · obtain ⟨y, rfl, rfl⟩ := hw
        exact q
    | non =>
      cases hv
      cases hu
      refine ⟨_, rfl, _, _, _, _, _, rfl, .ty _, (.base .non), kit_ty k_nt, _, rfl, ?_⟩
      refine ⟨_, rfl, _, _, _, _, _, rfl, .ty _, (.base .non), kit_ty k_nl, _, rfl, ?_⟩
      refine ⟨_, rfl, rfl, _, rfl, ite_yes rfl ?_⟩
      exact ⟨_, rfl, rfl, q⟩
    | bl x =>
      cases hv
      cases hu
      refine ⟨_, rfl, _, _, _, _, _, rfl, .ty _, (.base (.bl _)), kit_ty k_bt, _, rfl, ?_⟩
      refine ⟨_, rfl, _, _, _, _, _, rfl, .ty _, (.base (.bl _)), kit_ty k_bl, _, rfl, ?_⟩
      refine ⟨_, rfl, rfl, _, rfl, ite_no (fun z => by cases z) ?_⟩
      refine ⟨_, rfl, _, _, _, _, _, rfl, .ty _, (.base (.bl _)), kit_ty k_bb, _, rfl, ?_⟩
      refine ⟨_, rfl, _, _, _, _, _, rfl, .ty _, (.base (.bl _)), kit_ty k_bb, _, rfl, ?_⟩
      refine ⟨_, rfl, _, rfl, rfl, ?_⟩
      exact q_bl (Q := Q) (H := H) (decide_eq_true rfl) q
    | str x =>
      cases hv
      cases hu
      refine ⟨_, rfl, _, _, _, _, _, rfl, .ty _, (.base (.str _)), kit_ty k_st, _, rfl, ?_⟩
      refine ⟨_, rfl, _, _, _, _, _, rfl, .ty _, (.base (.str _)), kit_ty k_sl, _, rfl, ?_⟩
      refine ⟨_, rfl, rfl, _, rfl, ite_no (fun z => by cases z) ?_⟩
      refine ⟨_, rfl, _, _, _, _, _, rfl, .ty _, (.base (.str _)), kit_ty k_sb, _, rfl, ?_⟩
      refine ⟨_, rfl, _, _, _, _, _, rfl, .ty _, (.base (.str _)), kit_ty k_ss, _, rfl, ?_⟩
      refine ⟨_, rfl, _, _, _, _, _, rfl, .ty _, (.base (.str _)), kit_ty k_ss, _, rfl, ?_⟩
      refine ⟨_, rfl, _, rfl, rfl, ?_⟩
      exact q_bl (Q := Q) (H := H) (decide_eq_true rfl) q
    | int x =>
      cases hv
      cases hu
      refine ⟨_, rfl, _, _, _, _, _, rfl, .ty _, (.base (.int _)), kit_ty k_it, _, rfl, ?_⟩
      refine ⟨_, rfl, _, _, _, _, _, rfl, .ty _, (.base (.int _)), kit_ty k_il, _, rfl, ?_⟩
      refine ⟨_, rfl, rfl, _, rfl, ite_no (fun z => by cases z) ?_⟩
      refine ⟨_, rfl, _, _, _, _, _, rfl, .ty _, (.base (.int _)), kit_ty k_ib, _, rfl, ?_⟩
      refine ⟨_, rfl, _, _, _, _, _, rfl, .ty _, (.base (.int _)), kit_ty k_is, _, rfl, ?_⟩
      refine ⟨_, rfl, _, _, _, _, _, rfl, .ty _, (.base (.int _)), kit_ty k_ii, _, rfl, ?_⟩
      refine ⟨_, rfl, _, _, _, _, _, rfl, .ty _, (.base (.int _)), kit_ty k_ib, _, rfl, _, rfl, ?_⟩
      refine ⟨_, rfl, _, rfl, rfl, ?_⟩
      exact q_bl (Q := Q) (H := H) (decide_eq_true rfl) q
end
end Wp

namespace Wp
open PySem PySem.Spec PyProof.Rows L2
section
variable {P : Program} {w : World} {K : PySem.W.Frag} {mg : Str → Option Value} {base : Heap} {dW aC : Addr}

/-! ### _law_tape, _law_draw, _law_any_word, _law_a_count -/
theorem md1 : (0 : Int) < 2147483647 := by decide
theorem md2 : (0 : Int) < 2147483629 := by decide
/-- the tape at t, the script's copy at s -/
structure Tape (H : Hp) (t s : Addr) : Prop where
  ne : t ≠ s
  tp : ∃ pl nu to : Int, H t = some (.lst [.ref s, .int pl, .int nu, .int to]) ∧ 0 ≤ pl ∧ 0 ≤ nu
  sc : ∃ ns : List Int, H s = some (.lst (ns.map V.int))
section
variable {H H' : Hp} {t s : Addr}
theorem Tape.at (h : Tape H t s) : ∃ xs, H t = some (.lst xs) := by
  obtain ⟨_, _, _, e, _⟩ := h.tp
  exact ⟨_, e⟩
theorem Tape.but {ex : List Addr} (h : Tape H t s) (b : But ex H H') (ht : t ∉ ex) (hs : s ∉ ex) : Tape H' t s := by
  obtain ⟨pl, nu, to, e, h1, h2⟩ := h.tp
  obtain ⟨ns, e2⟩ := h.sc
  exact ⟨h.ne, ⟨pl, nu, to, b t _ ht e, h1, h2⟩, ns, b s _ hs e2⟩
theorem Tape.same (h : Tape H t s) (b : Same H H') : Tape H' t s := h.but (ex := []) (but_same b) (by simp) (by simp)
/-- the tape's own list is written -/
theorem Tape.upd {pl nu to : Int} (h : Tape H t s) (h1 : 0 ≤ pl) (h2 : 0 ≤ nu) : Tape (L2.upd H t (.lst [.ref s, .int pl, .int nu, .int to])) t s := by
  obtain ⟨ns, e2⟩ := h.sc
  exact ⟨h.ne, ⟨pl, nu, to, upd_same, h1, h2⟩, ns, by rw [upd_ne h.ne.symm]; exact e2⟩
theorem kt_but {ex : List Addr} (b : But ex H H') (h : ∀ x ∈ ex, ∃ xs, H x = some (.lst xs)) : KT H H' := fun a ys e => b a _ (fun m => by
  obtain ⟨xs, e2⟩ := h a m
  rw [e] at e2
  cases e2) e
theorem kt_tape (b : But [t] H H') (h : Tape H t s) : KT H H' := kt_but b fun x hx => by
  have e : x = t := by simpa using hx
  subst e
  exact h.at
/-- what else stands, stands -/
theorem But.one {p : Addr} {o : HO} (b : But [t] H H') (ne : p ≠ t) (e : H p = some o) : H' p = some o := b p o (by simpa using ne) e
theorem none_tape (b : But [t] H H') (h' : Tape H' t s) {p : Addr} (n : H' p = none) : H p = none := none_but b n fun x hx => by
  have e : x = t := by simpa using hx
  subst e
  obtain ⟨xs, e2⟩ := h'.at
  exact ⟨_, e2⟩
end
def sp_law_tape : Sp := fun vs H Q _ => ∃ (a : Addr) (ns : List Int), vs = [.ref a] ∧ SqL K H a (ns.map V.int) ∧ ∀ t s H', Same H H' → Tape H' t s → Q (.ref t) H'
theorem ok_law_tape (T : Txt w K mg dW aC) (F : Dn K mg "_law_tape" st_law_tape) : Cal P w K mg base 1 "_law_tape" (sp_law_tape (K := K)) := by
  refine cal_mk F sc_l_tape bd_law_tape (fun vs H Q E h => ?_) (fun f cdv A outer s H vs Q E hr h => ?_)
  · obtain ⟨a, ns, rfl, _⟩ := h
    rfl
  obtain ⟨a, ns, rfl, hS, q⟩ := h
  refine ⟨_, (pss_cons (ps_set (i := 1) sc_l_tape.nd rfl (Or.inl rfl) pe_int)
    (pss_cons (ps_for PassesOwn.never rfl (pi_list (pv 0)) (pg_name (i := 2) sc_l_tape.nd rfl (Or.inl rfl))
      (pss_one (ps_set (i := 1) sc_l_tape.nd rfl (Or.inl rfl) (pe_op op_mod (pe_callTy call_int1 (by rfl) T.b_int (by decide +kernel) (pa_cons (pe_op op_add (pe_op op_mul (pv 1) pe_int) (pe_callB call_abs (by rfl) T.b_abs (by decide +kernel) (pa_cons (pe_callTy call_int1 (by rfl) T.b_int (by decide +kernel) (pa_cons (pv 2) pa_nil)) pa_nil))) pa_nil)) pe_int))))
    (pss_one (ps_ret (pe_lst (pa_cons (pe_callTy call_list_of (by rfl) T.b_list (by decide +kernel) (pa_cons (pv 0) pa_nil)) (pa_cons pe_int (pa_cons pe_int (pa_cons (pv 1) pa_nil))))))))), ?_⟩
  refine ⟨_, rfl, a, rfl, ⟨_, hS⟩, ?_⟩
  refine for_list (xs := ns.map V.int) (fun i σ H' => ∃ (to : Int) (y : Option V), σ = [some (.ref a), some (.int to), y] ∧ H' = H)
    ⟨7, none, rfl, rfl⟩ (fun i σ H' _ hw => ?_) (fun i x σ H' hx hw => ?_) (fun σ H' hw => ?_)
  · obtain ⟨_, _, _, rfl⟩ := hw
    exact hS
  · obtain ⟨to, y, rfl, rfl⟩ := hw
    rw [List.getElem?_map] at hx
    obtain ⟨n, hn, rfl⟩ := Option.map_eq_some_iff.mp hx
    refine ⟨_, rfl, _, _, rfl, rfl, .inr ⟨by decide, by decide⟩, _, rfl, .inl ⟨_, rfl, _, rfl, _, _, rfl, rfl, .inl ⟨_, rfl, _, _, rfl, rfl, md1, ?_⟩⟩⟩
    exact ⟨_, some (.int n), rfl, rfl⟩
  · obtain ⟨to, y, rfl, rfl⟩ := hw
    refine ⟨_, rfl, a, _, rfl, .inl hS, fun l nl => ?_⟩
    refine ⟨_, rfl, szl _, fun t nt => ?_⟩
    have ne : l ≠ t := ne_of_none upd_same nt
    refine q t l _ ((same_new nl).trans (same_new nt)) ⟨ne.symm, ⟨0, 0, to, upd_same, Int.le_refl 0, Int.le_refl 0⟩, ns, ?_⟩
    rw [upd_ne ne, upd_same]
/-- a draw among m -/
def sp_law_draw : Sp := fun vs H Q _ => ∃ (t s : Addr) (m : Int), vs = [.ref t, .int m] ∧ Tape H t s ∧ m < 1073741824 ∧ ∀ n H', Tape H' t s → But [t] H H' → 0 ≤ n → (1 ≤ m → n < m) → Q (.int n) H'
theorem ok_law_draw (T : Txt w K mg dW aC) (F : Dn K mg "_law_draw" st_law_draw) : Cal P w K mg base 1 "_law_draw" sp_law_draw := by
  refine cal_mk F sc_l_draw bd_law_draw (fun vs H Q E h => ?_) (fun f cdv A outer s H vs Q E hr h => ?_)
  · obtain ⟨t, s, m, rfl, _⟩ := h
    rfl
  obtain ⟨t, s0, m, rfl, hT, hm, q⟩ := h
  refine ⟨_, (pss_cons (ps_if (pt_cmpR op_eq (pe_ix ix_list (pv 0) pe_int (fun _ _ => rfl)) pe_int (nomark _))
      (pss_cons (ps_set (i := 2) sc_l_draw.nd rfl (Or.inl rfl) (pe_ix ix_list (pv 0) pe_int (fun _ _ => rfl)))
      (pss_cons (ps_set (i := 3) sc_l_draw.nd rfl (Or.inl rfl) pe_int)
      (pss_cons (ps_if (pt_cmpR op_lt (pv 2) (pe_callB call_len_seq (by rfl) T.b_len (by decide +kernel) (pa_cons (pe_ix ix_list (pv 0) pe_int (fun _ _ => rfl)) pa_nil)) (nomark _))
        (pss_one (ps_set (i := 3) sc_l_draw.nd rfl (Or.inl rfl) (pe_callB call_abs (by rfl) T.b_abs (by decide +kernel) (pa_cons (pe_callTy call_int1 (by rfl) T.b_int (by decide +kernel) (pa_cons (pe_ix ix_list (pe_ix ix_list (pv 0) pe_int (fun _ _ => rfl)) (pv 2) (fun _ _ => rfl)) pa_nil)) pa_nil))))
        (pss_cons (ps_asg (pe_op op_mod (pe_callTy call_int1 (by rfl) T.b_int (by decide +kernel) (pa_cons (pe_op op_add (pe_op op_add (pe_op op_mul (pe_ix ix_list (pv 0) pe_int (fun _ _ => rfl)) pe_int) (pv 2)) pe_int) pa_nil)) pe_int) (pg_sub (pv 0) pe_int set_list))
        (pss_one (ps_set (i := 3) sc_l_draw.nd rfl (Or.inl rfl) (pe_ix ix_list (pv 0) pe_int (fun _ _ => rfl))))))
      (pss_cons (ps_asg (pe_op op_add (pv 2) pe_int) (pg_sub (pv 0) pe_int set_list))
      (pss_cons (ps_if (pt_cmpR op_lt (pv 3) (pe_op op_pow pe_int pe_int) (nomark _))
        (pss_cons (ps_set (i := 3) sc_l_draw.nd rfl (Or.inl rfl) (pe_op op_mod (pe_callTy call_int1 (by rfl) T.b_int (by decide +kernel) (pa_cons (pe_op op_add (pe_op op_add (pe_op op_mul (pv 3) pe_int) (pe_op op_mul (pv 2) pe_int)) pe_int) pa_nil)) pe_int))
        (pss_cons (ps_set (i := 3) sc_l_draw.nd rfl (Or.inl rfl) (pe_op op_mod (pe_callTy call_int1 (by rfl) T.b_int (by decide +kernel) (pa_cons (pe_op op_mul (pv 3) pe_int) pa_nil)) pe_int))
        (pss_one (ps_ret (pe_op op_mod (pe_callTy call_int1 (by rfl) T.b_int (by decide +kernel) (pa_cons (pv 3) pa_nil)) (pe_callB (call_max2 rfl) (by rfl) T.b_max (by decide +kernel) (pa_cons (pv 1) (pa_cons pe_int pa_nil))))))))
        pss_nil)
      (pss_one (ps_asg (pv 3) (pg_sub (pv 0) pe_int set_list))))))))
      pss_nil)
    (pss_cons (ps_set (i := 3) sc_l_draw.nd rfl (Or.inl rfl) (pe_ix ix_list (pv 0) pe_int (fun _ _ => rfl)))
    (pss_cons (ps_asg (pe_op op_fdiv (pv 3) (pe_callB (call_max2 rfl) (by rfl) T.b_max (by decide +kernel) (pa_cons (pv 1) (pa_cons pe_int pa_nil)))) (pg_sub (pv 0) pe_int set_list))
    (pss_one (ps_ret (pe_op op_mod (pe_callTy call_int1 (by rfl) T.b_int (by decide +kernel) (pa_cons (pv 3) pa_nil)) (pe_callB (call_max2 rfl) (by rfl) T.b_max (by decide +kernel) (pa_cons (pv 1) (pa_cons pe_int pa_nil))))))))), ?_⟩
  obtain ⟨pl, nu, to, e, h1, h2⟩ := id hT.tp
  obtain ⟨ns, e2⟩ := id hT.sc
  have mx : ∀ c : Int, 1 ≤ c → 0 < (if c > m then c else m) := fun c hc => by split <;> omega
  have mx1 : 1 ≤ m → (if (1 : Int) > m then 1 else m) = m := fun hc => by rw [if_neg (by omega)]
  have fin : ∀ (n : Int) (H' : Hp), Tape H' t s0 → But [t] H H' → Q (.int (n % (if (1 : Int) > m then 1 else m))) H' := fun n H' hT' hB => by
    refine q _ H' hT' hB (Int.emod_nonneg _ (by have := mx 1 (by omega); omega)) fun hc => ?_
    rw [mx1 hc]
    exact Int.emod_lt_of_pos _ (by omega)
  -- the last rows: number = tape[2]; tape[2] = number // max(many, 2); return number % max(many, 1)
  refine ⟨_, rfl, t, _, 2, _, rfl, rfl, SqL.has e, i2, rfl, _, rfl, ?_⟩
  refine ite_by (fun c => ?_) (fun c => ?_)
  · refine ⟨_, rfl, t, _, 1, _, rfl, rfl, SqL.has e, i1, ?_⟩
    refine ⟨_, rfl, _, rfl, t, _, 0, _, rfl, rfl, SqL.has e, i0, s0, _, rfl, .inl (SqL.has e2), _, _, rfl, rfl, _, rfl, ?_⟩
    refine ite_by (fun c2 => ?_) (fun c2 => ?_)
    · -- a number of the script
      rw [List.length_map] at c2
      have hlt : pl.toNat < ns.length := by omega
      have hat : atI (ns.map V.int) pl = some (.int ns[pl.toNat]) := by
        have h := atI_nat (xs := ns.map V.int) (j := pl.toNat) (v := .int ns[pl.toNat]) (by simp [hlt])
        rw [show ((pl.toNat : Nat) : Int) = pl by omega] at h
        exact h
      refine ⟨_, rfl, t, _, 0, _, rfl, rfl, SqL.has e, i0, _, rfl, s0, _, pl, _, rfl, rfl, SqL.has e2, hat, .inl ⟨_, rfl, _, rfl, ?_⟩⟩
      generalize hz : (if ns[pl.toNat] < 0 then -ns[pl.toNat] else ns[pl.toNat]) = z
      have hz0 : 0 ≤ z := by
        rw [← hz]
        split <;> omega
      refine ⟨_, rfl, _, _, rfl, rfl, _, rfl, t, _, 1, 1, rfl, rfl, e, rfl, ?_⟩
      refine ⟨_, rfl, _, _, rfl, rfl, ⟨by decide, by decide, by decide⟩, _, _, rfl, rfl, _, rfl, ?_⟩
      refine ite_by (fun c3 => ?_) (fun c3 => ?_)
      · refine ⟨_, rfl, _, _, rfl, rfl, .inr ⟨by decide, by decide⟩, _, rfl, _, _, rfl, rfl, .inr ⟨by decide, by decide⟩, _, _, rfl, rfl, _, _, rfl, rfl, .inl ⟨_, rfl, _, _, rfl, rfl, md1, ?_⟩⟩
        refine ⟨_, rfl, _, _, rfl, rfl, .inr ⟨by decide, by decide⟩, .inl ⟨_, rfl, _, _, rfl, rfl, md2, ?_⟩⟩
        refine ⟨_, rfl, .inl ⟨_, rfl, _, rfl, _, _, rfl, _, _, rfl, rfl, mx 1 (by omega), ?_⟩⟩
        exact fin _ _ (hT.upd (by omega) h2) (but_upd (by simp))
      · refine ⟨_, rfl, _, rfl, t, _, 2, 2, rfl, rfl, upd_same, rfl, ?_⟩
        refine ⟨_, rfl, t, _, 2, _, rfl, rfl, SqL.has upd_same, i2, ?_⟩
        refine ⟨_, rfl, _, rfl, _, _, rfl, _, _, rfl, rfl, ⟨mx 2 (by omega), by show (if (2 : Int) > m then 2 else m) < 1073741824; split <;> omega⟩, _, rfl, t, _, 2, 2, rfl, rfl, upd_same, rfl, ?_⟩
        refine ⟨_, rfl, .inl ⟨_, rfl, _, rfl, _, _, rfl, _, _, rfl, rfl, mx 1 (by omega), ?_⟩⟩
        rw [upd_upd, upd_upd]
        exact fin _ _ (hT.upd (by omega) (Int.ediv_nonneg hz0 (by have := mx 2 (by omega); omega))) (but_upd (by simp))
    · -- the script is used up
      refine ⟨_, rfl, t, _, 3, _, rfl, rfl, SqL.has e, i3, _, _, rfl, rfl, .inr ⟨by decide, by decide⟩, _, rfl, _, _, rfl, rfl, _, _, rfl, rfl, .inl ⟨_, rfl, _, _, rfl, rfl, md1, _, rfl, t, _, 3, 3, rfl, rfl, e, rfl, ?_⟩⟩
      refine ⟨_, rfl, t, _, 3, _, rfl, rfl, SqL.has upd_same, i3, ?_⟩
      have hz0 : 0 ≤ (to * 48271 + pl + 1) % 2147483647 := Int.emod_nonneg _ (by decide)
      refine ⟨_, rfl, _, _, rfl, rfl, _, rfl, t, _, 1, 1, rfl, rfl, upd_same, rfl, ?_⟩
      refine ⟨_, rfl, _, _, rfl, rfl, ⟨by decide, by decide, by decide⟩, _, _, rfl, rfl, _, rfl, ?_⟩
      refine ite_by (fun c3 => ?_) (fun c3 => ?_)
      · refine ⟨_, rfl, _, _, rfl, rfl, .inr ⟨by decide, by decide⟩, _, rfl, _, _, rfl, rfl, .inr ⟨by decide, by decide⟩, _, _, rfl, rfl, _, _, rfl, rfl, .inl ⟨_, rfl, _, _, rfl, rfl, md1, ?_⟩⟩
        refine ⟨_, rfl, _, _, rfl, rfl, .inr ⟨by decide, by decide⟩, .inl ⟨_, rfl, _, _, rfl, rfl, md2, ?_⟩⟩
        refine ⟨_, rfl, .inl ⟨_, rfl, _, rfl, _, _, rfl, _, _, rfl, rfl, mx 1 (by omega), ?_⟩⟩
        rw [upd_upd]
        exact fin _ _ (hT.upd (by omega) h2) (but_upd (by simp))
      · refine ⟨_, rfl, _, rfl, t, _, 2, 2, rfl, rfl, upd_same, rfl, ?_⟩
        refine ⟨_, rfl, t, _, 2, _, rfl, rfl, SqL.has upd_same, i2, ?_⟩
        refine ⟨_, rfl, _, rfl, _, _, rfl, _, _, rfl, rfl, ⟨mx 2 (by omega), by show (if (2 : Int) > m then 2 else m) < 1073741824; split <;> omega⟩, _, rfl, t, _, 2, 2, rfl, rfl, upd_same, rfl, ?_⟩
        refine ⟨_, rfl, .inl ⟨_, rfl, _, rfl, _, _, rfl, _, _, rfl, rfl, mx 1 (by omega), ?_⟩⟩
        rw [upd_upd, upd_upd, upd_upd]
        exact fin _ _ (hT.upd (by omega) (Int.ediv_nonneg hz0 (by have := mx 2 (by omega); omega))) (but_upd (by simp))
  · refine ⟨_, rfl, t, _, 2, _, rfl, rfl, SqL.has e, i2, ?_⟩
    refine ⟨_, rfl, _, rfl, _, _, rfl, _, _, rfl, rfl, ⟨mx 2 (by omega), by show (if (2 : Int) > m then 2 else m) < 1073741824; split <;> omega⟩, _, rfl, t, _, 2, 2, rfl, rfl, e, rfl, ?_⟩
    refine ⟨_, rfl, .inl ⟨_, rfl, _, rfl, _, _, rfl, _, _, rfl, rfl, mx 1 (by omega), ?_⟩⟩
    exact fin _ _ (hT.upd h1 (Int.ediv_nonneg h2 (by have := mx 2 (by omega); omega))) (but_upd (by simp))
end
end Wp

namespace Wp
open PySem PySem.Spec PyProof.Rows L2
section
variable {P : Program} {w : World} {K : PySem.W.Frag} {mg : Str → Option Value} {base : Heap} {dW aC : Addr}

/-! ### _law_any_word, _law_a_count, _law_name -/
/-- ways joined behind an if -/
def tCut (t u : TS) : TS := fun D σ H => ∃ Mid : L2.St → Hp → Prop, t { D with nx := Mid } σ H ∧ ∀ σ' H', Mid σ' H' → u D σ' H'
theorem pss_cut {X : Cx} {st : Stmt} {rest : List Stmt} {t u : TS} (h1 : PS X st t) (h2 : PSs X rest u) : PSs X (st :: rest) (tCut t u) := by
  refine ⟨fun pins s σ H D I h => ?_⟩
  obtain ⟨Mid, h, hM⟩ := h
  refine wpAny_execs_cons (thn (h1.run pins s σ H { D with nx := Mid } I h) fun f s1 q => ?_)
  cases f with
  | next =>
    obtain ⟨σ', H', I', q⟩ := q
    exact h2.run pins s1 σ' H' D I' (hM σ' H' q)
  | ret v => exact q
  | brk => exact q
  | cont => exact q
def AllP {α : Type} (P : α → Prop) : List α → Prop
  | [] => True
  | x :: r => P x ∧ AllP P r
theorem AllP.mem {α : Type} {P : α → Prop} : ∀ {xs : List α} {x : α}, AllP P xs → x ∈ xs → P x
  | [], _, _, h => by cases h
  | y :: r, x, ⟨h1, h2⟩, h => by
    rcases List.mem_cons.mp h with rfl | h
    · exact h1
    · exact AllP.mem h2 h
/-- an item at a drawn place, and what is true of all -/
theorem drawn {α : Type} {P : α → Prop} {xs : List α} {n : Int} (hP : AllP P xs) (h0 : 0 ≤ n) (h1 : n < (xs.length : Int)) : ∃ v, atI xs n = some v ∧ P v := by
  obtain ⟨v, e, hm⟩ := at_drawn h0 h1
  exact ⟨v, e, hP.mem hm⟩
def sp_law_any_word : Sp := fun vs H Q _ => ∃ (t s : Addr), vs = [.ref t] ∧ Tape H t s ∧ ∀ (w5 : W5) H', Tape H' t s → But [t] H H' → Q (.str w5.str) H'
theorem ne_tape {H : Hp} {t s p : Addr} (h : Tape H t s) (n : H p = none) : p ≠ t := fun e => by
  obtain ⟨xs, e2⟩ := h.at
  rw [e, e2] at n
  cases n
theorem ok_law_any_word (F : Dn K mg "_law_any_word" st_law_any_word) (C_law_draw : Cal P w K mg base 1 "_law_draw" sp_law_draw) : Cal P w K mg base 2 "_law_any_word" sp_law_any_word := by
  refine cal_mk F sc_l_any_word bd_law_any_word (fun vs H Q E h => ?_) (fun f cdv A outer s H vs Q E hr h => ?_)
  · obtain ⟨t, s, rfl, _⟩ := h
    rfl
  obtain ⟨t, s0, rfl, hT, q⟩ := h
  refine ⟨_, (pss_one (ps_ret (pe_ix ix_list (pe_lst (pa_cons pe_str (pa_cons pe_str (pa_cons pe_str (pa_cons pe_str (pa_cons pe_str (pa_cons pe_str pa_nil))))))) (pe_k C_law_draw hr (by omega) (by rfl) (pa_cons (pv 0) (pa_cons pe_int pa_nil))) (fun _ _ => rfl)))), ?_⟩
  refine ⟨szl _, fun p np => ?_⟩
  refine ⟨_, rfl, t, s0, 6, rfl, hT.same (same_new np), by decide, fun n H1 T1 b1 n0 n1 => ?_⟩
  have hp := b1.one (ne_tape hT np) (upd_same (H := H))
  obtain ⟨v, hv, w5, rfl⟩ := drawn (P := fun v => ∃ w5 : W5, v = V.str w5.str) (xs := [V.str "u8", V.str "u8", V.str "u16be", V.str "u16le", V.str "u32be", V.str "u32le"]) ⟨⟨.u8, rfl⟩, ⟨.u8, rfl⟩, ⟨.u16be, rfl⟩, ⟨.u16le, rfl⟩, ⟨.u32be, rfl⟩, ⟨.u32le, rfl⟩, trivial⟩ n0 (n1 (by decide))
  exact ⟨p, _, n, _, rfl, rfl, SqL.has hp, hv, q w5 H1 T1 ((but_same (same_new np)).trans b1)⟩
def sp_law_a_count : Sp := fun vs H Q _ => ∃ (t s : Addr) (a b : Nat), vs = [.ref t, .int a, .int b] ∧ Tape H t s ∧ a ≤ b ∧ 1 ≤ b ∧ b ≤ 60 ∧ ∀ v (c : Cnt) H', c.ok → c.hi = b → Has H' v c.d → Tape H' t s → But [t] H H' → Q v H'
theorem ok_law_a_count (F : Dn K mg "_law_a_count" st_law_a_count) (C_law_draw : Cal P w K mg base 1 "_law_draw" sp_law_draw) (C_law_any_word : Cal P w K mg base 2 "_law_any_word" sp_law_any_word) : Cal P w K mg base 3 "_law_a_count" sp_law_a_count := by
  refine cal_mk F sc_l_a_count bd_law_a_count (fun vs H Q E h => ?_) (fun f cdv A outer s H vs Q E hr h => ?_)
  · obtain ⟨t, s, a, b, rfl, _⟩ := h
    rfl
  obtain ⟨t, s0, a, b, rfl, hT, hab, hb1, hb2, q⟩ := h
  refine ⟨_, (pss_cons (ps_set (i := 3) sc_l_a_count.nd rfl (Or.inl rfl) (pe_k C_law_draw hr (by omega) (by rfl) (pa_cons (pv 0) (pa_cons pe_int pa_nil))))
    (pss_cons (ps_if (PW.pt (pw_and (pt_cmpR op_eq (pv 1) (pv 2) (nomark _)) (pw_and1 (pt_cmpR op_gt (pv 3) pe_int (nomark _)))))
      (pss_one (ps_ret (pe_tup (pa_cons pe_str (pa_cons (pv 2) pa_nil)))))
      pss_nil)
    (pss_cons (ps_if (PW.pt (pw_and (pt_cmpR op_eq (pv 1) pe_int (nomark _)) (pw_and1 (pt_cmpR op_gt (pv 3) pe_int (nomark _)))))
      (pss_one (ps_ret (pe_tup (pa_cons pe_str (pa_cons (pv 2) pa_nil)))))
      pss_nil)
    (pss_one (ps_ret (pe_tup (pa_cons pe_str (pa_cons (pe_k C_law_any_word hr (by omega) (by rfl) (pa_cons (pv 0) pa_nil)) (pa_cons (pv 1) (pa_cons (pv 2) pa_nil)))))))))), ?_⟩
  refine ⟨_, rfl, t, s0, 3, rfl, hT, by decide, fun n H1 T1 b1 n0 n1 => ?_⟩
  have fin : ∀ v (c : Cnt) H', c.ok → c.hi = b → Has H' v c.d → Tape H' t s0 → But [t] H1 H' → Q v H' := fun v c H' h1 h2 h3 h4 h5 => q v c H' h1 h2 h3 h4 (b1.trans h5)
  by_cases c1 : a = b ∧ 0 < n
  · obtain ⟨rfl, c2⟩ := c1
    refine ⟨_, rfl, _, rfl, rfl, _, rfl, ite_yes rfl ?_⟩
    refine ⟨_, rfl, _, _, rfl, rfl, _, rfl, ite_yes c2 ?_⟩
    refine ⟨_, rfl, szl _, fun p np => ?_⟩
    exact fin _ (.exactly a) _ ⟨Nat.le_refl _, hb1, hb2⟩ rfl (Has.new (.cons (.str _) (.cons (.int _) .nil)) np) (T1.same (same_new np)) (but_same (same_new np))
  · by_cases c2 : a = b
    · have c3 : ¬ 0 < n := fun z => c1 ⟨c2, z⟩
      refine ⟨_, rfl, _, rfl, rfl, _, rfl, ite_yes (by rw [c2]) ?_⟩
      refine ⟨_, rfl, _, _, rfl, rfl, _, rfl, ite_no c3 ?_⟩
      refine ⟨_, rfl, rfl, _, rfl, ite_no (fun z => by have := V.int.inj z; omega) ?_⟩
      refine ⟨_, rfl, t, s0, rfl, T1, fun w5 H2 T2 b2 => ?_⟩
      refine ⟨_, rfl, _, rfl, szl _, fun p np => ?_⟩
      exact fin _ (.counted w5 a b) _ ⟨hab, hb1, hb2⟩ rfl (Has.new (.cons (.str _) (.cons (.str _) (.cons (.int _) (.cons (.int _) .nil)))) np) (T2.same (same_new np)) (b2.trans (but_same (same_new np)))
    · refine ⟨_, rfl, _, rfl, rfl, _, rfl, ite_no (fun z => c2 (by have := V.int.inj z; omega)) ?_⟩
      by_cases c4 : a = 0
      · subst c4
        refine ⟨_, rfl, rfl, _, rfl, ite_yes rfl ?_⟩
        refine ⟨_, rfl, _, _, rfl, rfl, _, rfl, ?_⟩
        refine ite_by (fun c5 => ?_) (fun c5 => ?_)
        · refine ⟨_, rfl, szl _, fun p np => ?_⟩
          exact fin _ (.marked b) _ ⟨Nat.zero_le _, hb1, hb2⟩ rfl (Has.new (.cons (.str _) (.cons (.int _) .nil)) np) (T1.same (same_new np)) (but_same (same_new np))
        · refine ⟨_, rfl, t, s0, rfl, T1, fun w5 H2 T2 b2 => ?_⟩
          refine ⟨_, rfl, _, rfl, szl _, fun p np => ?_⟩
          exact fin _ (.counted w5 0 b) _ ⟨hab, hb1, hb2⟩ rfl (Has.new (.cons (.str _) (.cons (.str _) (.cons (.int _) (.cons (.int _) .nil)))) np) (T2.same (same_new np)) (b2.trans (but_same (same_new np)))
      · refine ⟨_, rfl, rfl, _, rfl, ite_no (fun z => c4 (by have := V.int.inj z; omega)) ?_⟩
        refine ⟨_, rfl, t, s0, rfl, T1, fun w5 H2 T2 b2 => ?_⟩
        refine ⟨_, rfl, _, rfl, szl _, fun p np => ?_⟩
        exact fin _ (.counted w5 a b) _ ⟨hab, hb1, hb2⟩ rfl (Has.new (.cons (.str _) (.cons (.str _) (.cons (.int _) (.cons (.int _) .nil)))) np) (T2.same (same_new np)) (b2.trans (but_same (same_new np)))
def wordsZ : Str := "signed case u8 in list default bits choice record literal reserved check marked sum xor i8 length value"
theorem words_split : (Txt.split wordsZ " ").length = 18 ∧ (Txt.split wordsZ " ").all (fun y => decide (y.length ≤ 20)) = true := by decide +kernel
def signsZ : Str := "abcdefghijklmnopqrstuvwxyzABCDEFGHIJKLMNOPQRSTUVWXYZ0123456789_"
theorem signs_len : signsZ.cps.toList.length = 63 := by decide +kernel
def sp_law_name : Sp := fun vs H Q _ => ∃ (t s u : Addr) (us : List Str), vs = [.ref t, .ref u] ∧ Tape H t s ∧ H u = some (.lst (us.map V.str)) ∧ u ≠ t ∧ us.length ≤ 100000 ∧ ∀ (x : Str) H', Tape H' t s → But [t] H H' → Q (.str x) H'
theorem ok_law_name (T : Txt w K mg dW aC) (F : Dn K mg "_law_name" st_law_name) (C_law_draw : Cal P w K mg base 1 "_law_draw" sp_law_draw) : Cal P w K mg base 2 "_law_name" sp_law_name := by
  refine cal_mk F sc_l_name bd_law_name (fun vs H Q E h => ?_) (fun f cdv A outer s H vs Q E hr h => ?_)
  · obtain ⟨t, s, u, us, rfl, _⟩ := h
    rfl
  obtain ⟨t, s0, u, us, rfl, hT, hu, hut, hul, q⟩ := h
  refine ⟨_, (pss_cons (ps_set (i := 2) sc_l_name.nd rfl (Or.inl rfl) pe_str)
    (pss_cons (ps_set (i := 3) sc_l_name.nd rfl (Or.inl rfl) pe_str)
    (pss_cons (ps_set (i := 4) sc_l_name.nd rfl (Or.inl rfl) (pe_ix ix_list (pe_lst (pa_cons pe_str (pa_cons pe_str (pa_cons pe_str (pa_cons pe_str (pa_cons pe_str (pa_cons pe_str pa_nil))))))) (pe_k C_law_draw hr (by omega) (by rfl) (pa_cons (pv 0) (pa_cons pe_int pa_nil))) (fun _ _ => rfl)))
    (pss_cut (ps_if (pt_cmpR op_eq (pv 4) pe_str (nomark _))
      (pss_one (ps_set (i := 4) sc_l_name.nd rfl (Or.inl rfl) (pe_ix ix_list (pe_split (pv 3) pe_str) (pe_k C_law_draw hr (by omega) (by rfl) (pa_cons (pv 0) (pa_cons pe_int pa_nil))) (fun _ _ => rfl))))
      pss_nil)
    (pss_cut (ps_if (pt_cmpR op_eq (pv 4) pe_str (nomark _))
      (pss_one (ps_set (i := 4) sc_l_name.nd rfl (Or.inl rfl) (pe_ix ix_str (pv 2) (pe_k C_law_draw hr (by omega) (by rfl) (pa_cons (pv 0) (pa_cons pe_int pa_nil))) (fun _ _ => rfl))))
      pss_nil)
    (pss_cons (ps_for PassesOwn.never rfl (pi_range1 (by rfl) T.b_range (pa_cons (pe_ix ix_list (pe_lst (pa_cons pe_int (pa_cons pe_int (pa_cons pe_int (pa_cons pe_int pa_nil))))) (pe_k C_law_draw hr (by omega) (by rfl) (pa_cons (pv 0) (pa_cons pe_int pa_nil))) (fun _ _ => rfl)) pa_nil)) (pg_name (i := 5) sc_l_name.nd rfl (Or.inl rfl))
      (pss_one (ps_set (i := 4) sc_l_name.nd rfl (Or.inl rfl) (pe_op op_add_str (pv 4) (pe_ix ix_str (pv 2) (pe_k C_law_draw hr (by omega) (by rfl) (pa_cons (pv 0) (pa_cons pe_int pa_nil))) (fun _ _ => rfl))))))
    (pss_cons (ps_set (i := 6) sc_l_name.nd rfl (Or.inl rfl) (pv 4))
    (pss_cons (ps_for PassesOwn.never rfl (pi_range1 (by rfl) T.b_range (pa_cons (pe_callB call_len_seq (by rfl) T.b_len (by decide +kernel) (pa_cons (pv 1) pa_nil)) pa_nil)) (pg_name (i := 5) sc_l_name.nd rfl (Or.inl rfl))
      (pss_one (ps_if (pt_cmpR op_in_seq (pv 6) (pv 1) (by rfl))
        (pss_one (ps_set (i := 6) sc_l_name.nd rfl (Or.inl rfl) (pe_op op_add_str (pv 4) (pe_callTy call_str_int (by rfl) T.b_str (by decide +kernel) (pa_cons (pv 5) pa_nil)))))
        pss_nil)))
    (pss_one (ps_ret (pv 6))))))))))), ?_⟩
  have hwl : (Txt.split wordsZ " ").length = 18 := words_split.1
  have hws : ∀ y ∈ Txt.split wordsZ " ", y.length ≤ 20 := fun y hy => of_decide_eq_true (List.all_eq_true.mp words_split.2 y hy)
  -- the first name
  refine ⟨szl _, fun p np => ?_⟩
  refine ⟨_, rfl, t, s0, 6, rfl, hT.same (same_new np), by decide, fun n H1 T1 b1 n0 n1 => ?_⟩
  have hp := b1.one (ne_tape hT np) (upd_same (H := H))
  obtain ⟨v, hv, x, rfl, hx⟩ := drawn (P := fun v => ∃ x : Str, v = V.str x ∧ x.length ≤ 20) (xs := [V.str "", V.str "", V.str "", V.str "reading_of_stat", V.str "word", V.str "word"])
    ⟨⟨_, rfl, by decide +kernel⟩, ⟨_, rfl, by decide +kernel⟩, ⟨_, rfl, by decide +kernel⟩, ⟨_, rfl, by decide +kernel⟩, ⟨_, rfl, by decide +kernel⟩, ⟨_, rfl, by decide +kernel⟩, trivial⟩ n0 (n1 (by decide))
  have B1 : But [t] H H1 := (but_same (same_new np)).trans b1
  refine ⟨p, _, n, _, rfl, rfl, SqL.has hp, hv, ?_⟩
  -- if it is "word"
  refine ⟨fun σ' H' => ∃ x : Str, σ' = [some (.ref t), some (.ref u), some (.str signsZ), some (.str wordsZ), some (.str x), none, none] ∧ x.length ≤ 20 ∧ Tape H' t s0 ∧ But [t] H H', ?_, fun σ' H' hM => ?_⟩
  · refine ⟨_, rfl, rfl, _, rfl, ite_by (fun c => ?_) (fun c => ?_)⟩
    · refine ⟨_, rfl, ⟨_, rfl⟩, wordsZ, _, rfl, rfl, (by decide +kernel), (by decide +kernel), fun g ng => ?_⟩
      refine ⟨_, rfl, t, s0, 18, rfl, T1.same (same_new ng), by decide, fun n2 H2 T2 b2 n20 n21 => ?_⟩
      have hg := b2.one (ne_tape T1 ng) (upd_same (H := H1))
      obtain ⟨y, hy, hm⟩ := at_drawn (xs := (Txt.split wordsZ " ").map V.str) n20 (by rw [List.length_map, hwl]; exact n21 (by decide))
      obtain ⟨z, hz, rfl⟩ := List.mem_map.mp hm
      exact ⟨g, _, n2, _, rfl, rfl, SqL.has hg, hy, z, rfl, hws z hz, T2, (B1.trans (but_same (same_new ng))).trans b2⟩
    · exact ⟨x, rfl, hx, T1, B1⟩
  obtain ⟨x, rfl, hx, T2, B2⟩ := hM
  -- if it is ""
  refine ⟨fun σ' H' => ∃ x : Str, σ' = [some (.ref t), some (.ref u), some (.str signsZ), some (.str wordsZ), some (.str x), none, none] ∧ x.length ≤ 20 ∧ Tape H' t s0 ∧ But [t] H H', ?_, fun σ' H' hM => ?_⟩
  · refine ⟨_, rfl, rfl, _, rfl, ite_by (fun c => ?_) (fun c => ?_)⟩
    · refine ⟨_, rfl, _, rfl, t, s0, 52, rfl, T2, by decide, fun n2 H2 T3 b3 n20 n21 => ?_⟩
      obtain ⟨c2, hc2, _⟩ := at_drawn (xs := signsZ.cps.toList) n20 (by have := n21 (by decide); rw [signs_len]; omega)
      exact ⟨signsZ, n2, c2, rfl, rfl, (by decide +kernel), hc2, _, rfl, Nat.le_of_ble_eq_true rfl, T3, B2.trans b3⟩
    · exact ⟨x, rfl, hx, T2, B2⟩
  obtain ⟨x, rfl, hx, T3, B3⟩ := hM
  -- up to two signs more
  refine ⟨szl _, fun g ng => ?_⟩
  refine ⟨_, rfl, t, s0, 4, rfl, T3.same (same_new ng), by decide, fun n2 H2 T4 b4 n20 n21 => ?_⟩
  have hg := b4.one (ne_tape T3 ng) (upd_same (H := H'))
  have B4 : But [t] H H2 := (B3.trans (but_same (same_new ng))).trans b4
  obtain ⟨v2, hv2, k, rfl, hk0, hk2⟩ := drawn (P := fun v => ∃ k : Int, v = V.int k ∧ 0 ≤ k ∧ k ≤ 2) (xs := [V.int 0, V.int 0, V.int 1, V.int 2])
    ⟨⟨_, rfl, by decide, by decide⟩, ⟨_, rfl, by decide, by decide⟩, ⟨_, rfl, by decide, by decide⟩, ⟨_, rfl, by decide, by decide⟩, trivial⟩ n20 (n21 (by decide))
  refine ⟨g, _, n2, _, rfl, rfl, SqL.has hg, hv2, k, rfl, by omega, by omega, ?_⟩
  refine for_range (lo := 0) (n := k.toNat) (fun i σ' H' => ∃ (x : Str) (y : Option V), σ' = [some (.ref t), some (.ref u), some (.str signsZ), some (.str wordsZ), some (.str x), y, none] ∧ x.length ≤ 20 + i ∧ i ≤ 2 ∧ Tape H' t s0 ∧ But [t] H H')
    ⟨x, none, rfl, by omega, by omega, T4, B4⟩ (fun i σ' H3 hi hw => ?_) (fun σ' H3 hw => ?_)
  · obtain ⟨x, y, rfl, hx, _, T5, B5⟩ := hw
    refine ⟨_, rfl, _, rfl, _, rfl, t, s0, 63, rfl, T5, by decide, fun n3 H4 T6 b6 n30 n31 => ?_⟩
    obtain ⟨c2, hc2, _⟩ := at_drawn (xs := signsZ.cps.toList) n30 (by have := n31 (by decide); rw [signs_len]; omega)
    refine ⟨signsZ, n3, c2, rfl, rfl, (by decide +kernel), hc2, x, _, rfl, rfl, small_line ?_, x ++ ⟨#[c2]⟩, some (.int (0 + (i : Int))), rfl, ?_, by omega, T6, B5.trans b6⟩
    · have : (⟨#[c2]⟩ : Str).length = 1 := rfl
      omega
    · have : (⟨#[c2]⟩ : Str).length = 1 := rfl
      rw [PySem.Str.length_append]
      omega
  obtain ⟨x, y, rfl, hx, hi2, T5, B5⟩ := hw
  have hu3 := B5.one hut hu
  -- a fresh one
  refine ⟨_, rfl, _, rfl, u, _, rfl, .inl (SqL.has hu3), _, rfl, by omega, by rw [List.length_map]; omega, ?_⟩
  refine for_range (lo := 0) (n := (((us.map V.str).length : Nat) : Int).toNat) (fun i σ' H' => ∃ (z : Str) (y : Option V), σ' = [some (.ref t), some (.ref u), some (.str signsZ), some (.str wordsZ), some (.str x), y, some (.str z)] ∧ H' = H3)
    ⟨x, y, rfl, rfl⟩ (fun i σ' H4 hi hw => ?_) (fun σ' H4 hw => ?_)
  · obtain ⟨z, y, rfl, rfl⟩ := hw
    rw [List.length_map] at hi
    refine ⟨_, rfl, _, rfl, u, _, rfl, .inl (SqL.has hu3), rfl, (by rw [List.all_map]; exact List.all_eq_true.mpr fun _ _ => rfl), _, rfl, ?_⟩
    show (if (if false = true then !inV (.str z) (us.map V.str) else inV (.str z) (us.map V.str)) = true then _ else _)
    rw [if_neg Bool.false_ne_true]
    have e0 : (0 : Int) + (i : Int) = (i : Int) := Int.zero_add _
    cases inV (.str z) (us.map V.str) with
    | true =>
      refine ⟨_, rfl, _, rfl, _, rfl, ?_, ?_⟩
      · rw [e0]
        have h1 : ((i : Int)).natAbs = i := rfl
        rw [h1]
        have h2 : i.log2 ≤ i := Nat.log2_le_self i
        by_cases hz : i = 0
        · subst hz
          decide
        · have h3 : i < 2 ^ 1920 := Nat.lt_of_lt_of_le (show i < 2 ^ 24 by omega) (Nat.pow_le_pow_right (by decide) (by decide : 24 ≤ 1920))
          exact (Nat.log2_lt hz).mpr h3
      · refine ⟨x, _, rfl, rfl, small_line ?_, _, some (.int (0 + (i : Int))), rfl, rfl⟩
        rw [e0]
        have h1 := PyProof.Rows.toString_length_le (v := (i : Int)) (k := 10) (by omega) (by decide) (by omega)
        omega
    | false => exact ⟨z, some (.int (0 + (i : Int))), rfl, rfl⟩
  · obtain ⟨z, y, rfl, rfl⟩ := hw
    exact ⟨_, rfl, q z _ T5 B5⟩
end
end Wp

namespace Wp
open PySem PySem.Spec PyProof.Rows L2
section
variable {P : Program} {w : World} {K : PySem.W.Frag} {mg : Str → Option Value} {base : Heap} {dW aC : Addr}

/-! ### _law_runs, _law_ranges -/
theorem snocI {H : Hp} : ∀ {ds : List D} {vs : List V} {d : D}, HasL H vs (ds ++ [d]) → ∃ ws v, vs = ws ++ [v] ∧ HasL H ws ds ∧ Has H v d
  | [], vs, d, h => by
    obtain ⟨v, rfl, hv⟩ := inv1 h
    exact ⟨[], v, rfl, .nil, hv⟩
  | e :: r, vs, d, h => by
    cases h with
    | cons h0 t =>
      obtain ⟨ws, v, rfl, h1, h2⟩ := snocI t
      exact ⟨_ :: ws, v, rfl, .cons h0 h1, h2⟩
def pairD (p : Int × Int) : D := .tup [.int p.1, .int p.2]
theorem runV_snoc (lo hi : Int) (h : lo ≤ hi + 1) : runV (lo, hi + 1) = runV (lo, hi) ++ [hi + 1] := by
  unfold runV
  show (List.range (hi + 1 + 1 - lo).toNat).map _ = (List.range (hi + 1 - lo).toNat).map _ ++ [hi + 1]
  have e : (hi + 1 + 1 - lo).toNat = (hi + 1 - lo).toNat + 1 := by omega
  rw [e, List.range_succ, List.map_append]
  congr 1
  show [lo + (((hi + 1 - lo).toNat : Nat) : Int)] = [hi + 1]
  congr 1
  omega
theorem runV_one (n : Int) : runV (n, n) = [n] := by
  unfold runV
  show (List.range (n + 1 - n).toNat).map _ = [n]
  rw [show (n + 1 - n).toNat = 1 by omega]
  simp
theorem nums_app (a b : List (Int × Int)) : numsOf (a ++ b) = numsOf a ++ numsOf b := by
  unfold numsOf
  rw [List.flatMap_append]
theorem nums_one (p : Int × Int) : numsOf [p] = runV p := by
  unfold numsOf
  simp
def PairOk (p : Int × Int) : Prop := -300 ≤ p.1 ∧ p.1 ≤ p.2 ∧ p.2 ≤ 300
def sp_law_runs : Sp := fun vs H Q _ => ∃ (p : Addr) (ns : List Int), vs = [.ref p] ∧ H p = some (.lst (ns.map V.int)) ∧ ns.length ≤ 1000 ∧ (∀ n ∈ ns, -300 ≤ n ∧ n ≤ 300) ∧
  ∀ (rs : List (Int × Int)) v H', Same H H' → numsOf rs = ns → rs.length ≤ ns.length → (∀ p ∈ rs, PairOk p) → Has H' v (rngD (some rs)) → Q v H'
theorem ok_law_runs (T : Txt w K mg dW aC) (F : Dn K mg "_law_runs" st_law_runs) : Cal P w K mg base 1 "_law_runs" sp_law_runs := by
  refine cal_mk F sc_l_runs bd_law_runs (fun vs H Q E h => ?_) (fun f cdv A outer s H vs Q E hr h => ?_)
  · obtain ⟨p, ns, rfl, _⟩ := h
    rfl
  obtain ⟨p, ns, rfl, hp, hnl, hnb, q⟩ := h
  refine ⟨_, (pss_cons (ps_set (i := 1) sc_l_runs.nd rfl (Or.inl rfl) (pe_lst pa_nil))
    (pss_cons (ps_for PassesOwn.never rfl (pi_list (pv 0)) (pg_name (i := 2) sc_l_runs.nd rfl (Or.inl rfl))
      (pss_one (ps_if (PW.pt (pw_and (pt_truth (pv 1) (by intro _; rfl)) (pw_and1 (pt_cmpR op_eq (pe_ix ix_tup (pe_ix ix_list (pv 1) (pe_un un_neg pe_int) (fun _ _ => rfl)) pe_int (fun _ _ => rfl)) (pe_op op_sub (pv 2) pe_int) (nomark _)))))
        (pss_one (ps_asg (pe_tup (pa_cons (pe_ix ix_tup (pe_ix ix_list (pv 1) (pe_un un_neg pe_int) (fun _ _ => rfl)) pe_int (fun _ _ => rfl)) (pa_cons (pv 2) pa_nil))) (pg_sub (pv 1) (pe_un un_neg pe_int) set_list)))
        (pss_one (ps_expr (pe_bm PySem.F.plainAttrs_list PySem.F.slot_list_append PySem.F.type_list_append mt_append (pv 1) (pa_cons (pe_tup (pa_cons (pv 2) (pa_cons (pv 2) pa_nil))) pa_nil)))))))
    (pss_one (ps_ret (pe_callTy call_tuple_of (by rfl) T.b_tuple (by decide +kernel) (pa_cons (pv 1) pa_nil)))))), ?_⟩
  refine ⟨szl _, fun g ng => ?_⟩
  refine ⟨_, rfl, p, rfl, ⟨_, SqL.has (same_new ng _ _ hp)⟩, ?_⟩
  refine for_list (xs := ns.map V.int) (fun i σ H' => ∃ (y : Option V) (rs : List (Int × Int)) (us : List V), σ = [some (.ref p), some (.ref g), y] ∧ Same H H' ∧ H' g = some (.lst us) ∧ HasL H' us (rs.map pairD) ∧ numsOf rs = ns.take i ∧ rs.length ≤ i ∧ ∀ p ∈ rs, PairOk p)
    ⟨none, [], [], rfl, same_new ng, upd_same, .nil, rfl, Nat.le_refl _, fun p hp => by cases hp⟩ (fun i σ H' _ hw => ?_) (fun i x σ H' hx hw => ?_) (fun σ H' hw => ?_)
  · obtain ⟨_, _, _, _, s1, _⟩ := hw
    exact SqL.has (s1 _ _ hp)
  · obtain ⟨y, rs, us, rfl, s1, hg, hl, hns, hrl, hrb⟩ := hw
    rw [List.getElem?_map] at hx
    obtain ⟨n, hn, rfl⟩ := Option.map_eq_some_iff.mp hx
    have hil : i < ns.length := (List.getElem?_eq_some_iff.mp hn).1
    have hnr := hnb n (List.mem_of_getElem? hn)
    have htk : ns.take (i + 1) = ns.take i ++ [n] := by
      rw [List.take_add_one, hn]
      rfl
    -- a new row
    have app : ∀ (t : Addr), H' t = none → ∃ us', upd (upd H' t (.tup [.int n, .int n])) g (.lst (us ++ [.ref t])) g = some (.lst us') ∧ HasL (upd (upd H' t (.tup [.int n, .int n])) g (.lst (us ++ [.ref t]))) us' ((rs ++ [(n, n)]).map pairD) := fun t nt => by
      have ngt : g ≠ t := ne_of_none hg nt
      refine ⟨us ++ [.ref t], upd_same, ?_⟩
      rw [List.map_append]
      exact ((hl.mono (kt_new nt)).snoc (Has.new (.cons (.int n) (.cons (.int n) .nil)) nt)).mono (kt_upd (xs := us) (by rw [upd_ne ngt]; exact hg))
    have rows1 : ∀ p ∈ rs ++ [(n, n)], PairOk p := fun p hp => by
      rcases List.mem_append.mp hp with h | h
      · exact hrb p h
      · rw [List.mem_singleton.mp h]
        exact ⟨hnr.1, Int.le_refl _, hnr.2⟩
    have nums1 : numsOf (rs ++ [(n, n)]) = ns.take (i + 1) := by rw [nums_app, nums_one, runV_one, hns, htk]
    have usl : us.length = rs.length := by rw [hl.len, List.length_map]
    rcases List.eq_nil_or_concat rs with e | ⟨r0, ⟨lo, hi⟩, e⟩
    · subst e
      have e0 : us = [] := List.eq_nil_of_length_eq_zero usl
      subst e0
      refine ⟨_, rfl, false, .inl ⟨[], SqL.has hg, rfl⟩, ?_⟩
      refine ⟨_, rfl, .inl ⟨rfl, _, SqL.has hg⟩, _, rfl, _, rfl, szl _, fun t nt => ?_⟩
      have ngt : g ≠ t := ne_of_none hg nt
      obtain ⟨us', h1, h2⟩ := app t nt
      exact ⟨g, [], _, rfl, rfl, (by rw [upd_ne ngt]; exact hg), small_lt (by decide), _, [(n, n)], us', rfl, same_mut (s1.trans (same_new nt)) ng, h1, h2, nums1, by simp, rows1⟩
    · rw [List.concat_eq_append] at e
      subst e
      rw [List.map_append] at hl
      obtain ⟨ws, v, rfl, hws, hv⟩ := snocI hl
      obtain ⟨b, bvs, rfl, hb, lb⟩ := hv.tupI
      obtain _ | ⟨⟨⟩, _ | ⟨⟨⟩, _ | _⟩⟩ := lb
      have hok := hrb (lo, hi) (by simp)
      obtain ⟨b1, b2, b3⟩ := hok
      simp only at b1 b2 b3
      refine ⟨_, rfl, true, .inl ⟨ws ++ [.ref b], SqL.has hg, by cases ws <;> rfl⟩, ?_⟩
      refine ⟨_, rfl, 1, rfl, g, _, _, _, rfl, rfl, SqL.has hg, atI_last _ _, ?_⟩
      refine ⟨b, _, 1, _, rfl, rfl, SqT.has hb, i1, _, rfl, _, _, rfl, rfl, rfl, _, rfl, ?_⟩
      rw [dec_int]
      refine ite_by (fun c => ?_) (fun c => ?_)
      · -- the last row grows
        refine ⟨_, rfl, 1, rfl, g, _, _, _, rfl, rfl, SqL.has hg, atI_last _ _, ?_⟩
        refine ⟨b, _, 0, _, rfl, rfl, SqT.has hb, i0, _, rfl, szl _, fun t nt => ?_⟩
        have ngt : g ≠ t := ne_of_none hg nt
        have hix : ixN (ws ++ [V.ref b]).length (-1) = some ws.length := by
          unfold ixN
          rw [if_neg (by decide), if_pos (by rw [List.length_append]; simp; omega)]
          congr 1
          rw [List.length_append]
          simp
          omega
        refine ⟨_, rfl, 1, rfl, g, _, _, _, rfl, rfl, (by rw [upd_ne ngt]; exact hg), hix, ?_⟩
        have hset : (ws ++ [V.ref b]).set ws.length (.ref t) = ws ++ [.ref t] := by
          rw [List.set_append_right _ _ (Nat.le_refl _)]
          simp
        have en : n = hi + 1 := by
          have c' : hi = n - 1 := c
          omega
        rw [hset]
        refine ⟨_, r0 ++ [(lo, n)], ws ++ [.ref t], rfl, same_mut (s1.trans (same_new nt)) ng, upd_same, ?_, ?_, ?_, ?_⟩
        · rw [List.map_append]
          exact ((hws.mono (kt_new nt)).snoc (Has.new (.cons (.int lo) (.cons (.int n) .nil)) nt)).mono (kt_upd (xs := ws ++ [V.ref b]) (by rw [upd_ne ngt]; exact hg))
        · rw [nums_app, nums_one, en, runV_snoc lo hi (by omega), ← List.append_assoc]
          rw [nums_app, nums_one] at hns
          rw [hns, htk, en]
        · rw [List.length_append] at hrl ⊢
          simp at hrl ⊢
          omega
        · intro p hp
          rcases List.mem_append.mp hp with h | h
          · exact hrb p (List.mem_append_left _ h)
          · rw [List.mem_singleton.mp h]
            exact ⟨b1, by show lo ≤ n; omega, hnr.2⟩
      · refine ⟨_, rfl, .inl ⟨rfl, _, SqL.has hg⟩, _, rfl, _, rfl, szl _, fun t nt => ?_⟩
        have ngt : g ≠ t := ne_of_none hg nt
        obtain ⟨us', h1, h2⟩ := app t nt
        refine ⟨g, _, _, rfl, rfl, (by rw [upd_ne ngt]; exact hg), small_lt (by omega), _, _, us', rfl, same_mut (s1.trans (same_new nt)) ng, h1, h2, nums1, ?_, rows1⟩
        rw [List.length_append (bs := [(n, n)])]
        exact Nat.add_le_add_right hrl 1
  · obtain ⟨y, rs, us, rfl, s1, hg, hl, hns, hrl, hrb⟩ := hw
    rw [List.length_map] at hns hrl
    rw [List.take_length] at hns
    refine ⟨_, rfl, g, us, rfl, .inl ⟨SqL.has hg, fun t nt => ?_⟩⟩
    exact q rs _ _ (s1.trans (same_new nt)) hns hrl hrb (Has.new hl nt)
theorem inV_int (a : Int) : ∀ ns : List Int, inV (.int a) (ns.map V.int) = decide (a ∈ ns)
  | [] => by simp [inV]
  | n :: r => by
    have ih := inV_int a r
    unfold inV at ih ⊢
    rw [List.map_cons, List.any_cons, ih]
    show ((n == a) || decide (a ∈ r)) = decide (a ∈ n :: r)
    by_cases e : n = a
    · subst e
      simp
    · have e1 : (n == a) = false := beq_eq_false_iff_ne.mpr e
      have e2 : ¬ a = n := fun z => e z.symm
      rw [e1, Bool.false_or]
      simp [e2]
theorem flat_ints : ∀ ns : List Int, (ns.map V.int).all flatV = true
  | [] => rfl
  | _ :: r => by
    rw [List.map_cons, List.all_cons, flat_ints r]
    rfl
def sp_law_ranges : Sp := fun vs H Q _ => ∃ (t s : Addr) (k : Nat) (sg : Bool), vs = [.ref t, .int k, .bl sg, .int 0] ∧ Tape H t s ∧ 1 ≤ k ∧ k ≤ 32 ∧
  ∀ v (rs : Option (List (Int × Int))) H', RngOk k rs → Has H' v (rngD rs) → Tape H' t s → But [t] H H' → Q v H'
theorem ok_law_ranges (T : Txt w K mg dW aC) (F : Dn K mg "_law_ranges" st_law_ranges) (C_law_draw : Cal P w K mg base 1 "_law_draw" sp_law_draw) (C_law_runs : Cal P w K mg base 1 "_law_runs" sp_law_runs) : Cal P w K mg base 2 "_law_ranges" sp_law_ranges := by
  refine cal_mk F sc_l_ranges bd_law_ranges (fun vs H Q E h => ?_) (fun f cdv A outer s H vs Q E hr h => ?_)
  · obtain ⟨t, s, k, sg, rfl, _⟩ := h
    rfl
  obtain ⟨t, s0, k, sg, rfl, hT, hk1, hk2, q⟩ := h
  refine ⟨_, (pss_cons (ps_set (i := 4) sc_l_ranges.nd rfl (Or.inl rfl) (pe_op op_shl pe_int (pv 1)))
    (pss_cons (ps_if (PW.pt (pw_or (pt_cmpR op_gt (pv 1) pe_int (nomark _)) (pw_or1 (PW.pt (pw_and (PW.pt (pw_or (pt_cmpR op_eq (pv 3) pe_int (nomark _)) (pw_or1 (pt_cmpR op_le (pv 4) (pv 3) (nomark _))))) (pw_and1 (pt_cmpR op_eq (pe_k C_law_draw hr (by omega) (by rfl) (pa_cons (pv 0) (pa_cons pe_int pa_nil))) pe_int (nomark _))))))))
      (pss_one (ps_ret pe_non))
      pss_nil)
    (pss_cons (ps_set (i := 5) sc_l_ranges.nd rfl (Or.inl rfl) (pe_k C_law_draw hr (by omega) (by rfl) (pa_cons (pv 0) (pa_cons (pv 4) pa_nil))))
    (pss_cons (ps_set (i := 6) sc_l_ranges.nd rfl (Or.inl rfl) (pe_lst (pa_cons (pv 5) pa_nil)))
    (pss_cut (ps_if (PW.pt (pw_and (pt_cmpR op_eq (pv 3) pe_int (nomark _)) (pw_and1 (pt_cmpR op_eq (pe_k C_law_draw hr (by omega) (by rfl) (pa_cons (pv 0) (pa_cons pe_int pa_nil))) pe_int (nomark _)))))
      (pss_one (ps_set (i := 6) sc_l_ranges.nd rfl (Or.inl rfl) (pe_listRg rfl (by rfl) T.b_list (prg_2 (by rfl) T.b_range (pv 5) (pe_op op_add (pe_op op_add (pv 5) pe_int) (pe_k C_law_draw hr (by omega) (by rfl) (pa_cons (pv 0) (pa_cons (pe_op op_sub (pv 4) (pv 5)) pa_nil))))))))
      pss_nil)
    (pss_cons (ps_for PassesOwn.never rfl (pi_range1 (by rfl) T.b_range (pa_cons (pe_k C_law_draw hr (by omega) (by rfl) (pa_cons (pv 0) (pa_cons (pe_ifExp (pt_cmpR op_eq (pv 3) pe_int (nomark _)) pe_int (pe_callB (call_min2 rfl) (by rfl) T.b_min (by decide +kernel) (pa_cons (pv 3) (pa_cons pe_int pa_nil)))) pa_nil))) pa_nil)) (pg_name (i := 7) sc_l_ranges.nd rfl (Or.inl rfl))
      (pss_cons (ps_set (i := 5) sc_l_ranges.nd rfl (Or.inl rfl) (pe_op op_mod (pe_callTy call_int1 (by rfl) T.b_int (by decide +kernel) (pa_cons (pe_op op_add (pv 5) (pe_ix ix_list (pe_lst (pa_cons pe_int (pa_cons pe_int (pa_cons pe_int (pa_cons pe_int (pa_cons (pe_op op_fdiv (pv 4) pe_int) (pa_cons (pe_op op_add pe_int (pe_op op_fdiv (pv 4) pe_int)) pa_nil))))))) (pe_k C_law_draw hr (by omega) (by rfl) (pa_cons (pv 0) (pa_cons pe_int pa_nil))) (fun _ _ => rfl))) pa_nil)) (pv 4)))
      (pss_one (ps_if (pt_cmpR op_notIn_seq (pv 5) (pv 6) (by rfl))
        (pss_one (ps_expr (pe_bm PySem.F.plainAttrs_list PySem.F.slot_list_append PySem.F.type_list_append mt_append (pv 6) (pa_cons (pv 5) pa_nil))))
        pss_nil))))
    (pss_cons (ps_set (i := 8) sc_l_ranges.nd rfl (Or.inr rfl) (pe_ifExp (pt_truth (pv 2) (by intro _; rfl)) (pe_op op_fdiv (pv 4) pe_int) pe_int))
    (pss_one (ps_ret (pe_k C_law_runs hr (by omega) (by rfl) (pa_cons (pe_lc (own := [("_law_number", 9)]) (g := (gName 9)) (tt := tYes) rfl sc_l_ranges.nd (pi_list (pe_callB cr_sortedI (by rfl) T.b_sorted (by decide +kernel) (pa_cons (pv 6) pa_nil))) (blkOk_by (own := [("_law_number", 9)]) (N := N_law_ranges) (sc := defScope st_law_ranges) (by decide +kernel)) (fun _ _ _ _ _ => (pg_name (i := 9) sc_l_ranges.nd rfl (Or.inl rfl))) (fun _ _ _ _ _ => pts_nil) (fun _ _ _ _ _ => (pe_op op_sub (pv 9) (pv 8)))) pa_nil))))))))))), ?_⟩
  have e2 : (1 : Int) * 2 ^ (k : Int).toNat = 2 ^ k := by rw [Int.one_mul, Int.toNat_natCast]
  refine ⟨_, rfl, _, _, rfl, rfl, ⟨by omega, by omega, by decide⟩, ?_⟩
  refine ⟨_, rfl, _, _, rfl, rfl, _, rfl, ?_⟩
  refine ite_by (fun c => ?_) (fun c => ?_)
  · -- wider than a byte
    exact q _ none _ trivial .non hT (But.refl _ _)
  have hk8 : k ≤ 8 := by omega
  have hspan : (2 : Int) ^ k ≤ 256 := by
    have h : 2 ^ k ≤ 2 ^ 8 := Nat.pow_le_pow_right (by decide) hk8
    have h2 : ((2 ^ k : Nat) : Int) ≤ ((2 ^ 8 : Nat) : Int) := Int.ofNat_le.mpr h
    simpa using h2
  have hspan1 : (2 : Int) ≤ 2 ^ k := by
    have h : 2 ^ 1 ≤ 2 ^ k := Nat.pow_le_pow_right (by decide) hk1
    have h2 : ((2 ^ 1 : Nat) : Int) ≤ ((2 ^ k : Nat) : Int) := Int.ofNat_le.mpr h
    simpa using h2
  refine ⟨_, rfl, rfl, _, rfl, ite_yes rfl ?_⟩
  refine ⟨_, rfl, t, s0, 2, rfl, hT, by decide, fun n1 H1 T1 b1 n10 n11 => ?_⟩
  refine ⟨rfl, _, rfl, ?_⟩
  refine ite_by (fun c1 => ?_) (fun c1 => ?_)
  · exact q _ none _ trivial .non T1 b1
  -- the first number
  refine ⟨_, rfl, _, rfl, t, s0, _, rfl, T1, ?_, fun at0 H2 T2 b2 a0 a1 => ?_⟩
  · rw [e2]
    omega
  rw [e2] at a1
  have at1 := a1 (by omega)
  have B2 := b1.trans b2
  refine ⟨_, rfl, szl _, fun g0 ng0 => ?_⟩
  -- a run of them
  refine ⟨fun σ' H' => ∃ (g : Addr) (ns : List Int), σ' = [some (.ref t), some (.int k), some (.bl sg), some (.int 0), some (.int (2 ^ k)), some (.int at0), some (.ref g), none, none, none] ∧ H' g = some (.lst (ns.map V.int)) ∧ H g = none ∧ g ≠ t ∧
    ns ≠ [] ∧ ns.length ≤ 256 ∧ ns.Nodup ∧ (∀ n ∈ ns, 0 ≤ n ∧ n < 2 ^ k) ∧ Tape H' t s0 ∧ But [t] H H', ?_, fun σ' H' hM => ?_⟩
  · refine ⟨_, rfl, rfl, _, rfl, ite_yes rfl ?_⟩
    have T2' := T2.same (same_new (o := .lst [.int at0]) ng0)
    refine ⟨_, rfl, t, s0, 2, rfl, T2', by decide, fun n3 H3 T3 b3 n30 n31 => ?_⟩
    refine ⟨rfl, _, rfl, ?_⟩
    have hng0 : H g0 = none := none_tape B2 T2 ng0
    have g0t := ne_tape T2 ng0
    refine ite_by (fun c3 => ?_) (fun c3 => ?_)
    · refine ⟨_, rfl, _, rfl, _, _, rfl, rfl, _, rfl, _, rfl, _, rfl, _, _, rfl, rfl, t, s0, _, rfl, T3, ?_, fun d H4 T4 b4 d0 d1 => ?_⟩
      · rw [e2]
        omega
      rw [e2] at d1
      have d2 := d1 (by omega)
      refine ⟨_, _, rfl, rfl, _, _, rfl, rfl, ⟨by omega, by omega, by omega, by omega, by omega⟩, fun g ng => ?_⟩
      have B4 := ((B2.trans (but_same (same_new ng0))).trans b3).trans b4
      refine ⟨g, runV (at0, at0 + d), by rw [← e2]; rfl, ?_, none_tape B4 T4 ng, ne_tape T4 ng, ?_, ?_, ?_, ?_, T4.same (same_new ng), B4.trans (but_same (same_new ng))⟩
      · rw [upd_same]
        have e : rgV at0 (at0 + 1 + d) = (runV (at0, at0 + d)).map V.int := by
          unfold rgV runV
          rw [List.map_map, show at0 + 1 + d - at0 = (at0, at0 + d).2 + 1 - (at0, at0 + d).1 by show at0 + 1 + d - at0 = at0 + d + 1 - at0; omega]
          rfl
        rw [← e]
      · intro z
        have := congrArg List.length z
        rw [runV_len] at this
        simp only [List.length_nil] at this
        omega
      · rw [runV_len]
        show (at0 + d + 1 - at0).toNat ≤ 256
        omega
      · unfold runV
        refine List.Pairwise.map _ (fun a b h z => h ?_) List.nodup_range
        have z' : at0 + (a : Int) = at0 + (b : Int) := z
        omega
      · intro n hn
        unfold runV at hn
        obtain ⟨j, hj, rfl⟩ := List.mem_map.mp hn
        have hj2 : j < (at0 + d + 1 - at0).toNat := List.mem_range.mp hj
        constructor
        · show 0 ≤ at0 + (j : Int)
          omega
        · show at0 + (j : Int) < 2 ^ k
          omega
    · refine ⟨g0, [at0], by rw [← e2]; rfl, b3.one g0t upd_same, hng0, g0t, List.cons_ne_nil _ _, Nat.le_of_ble_eq_true rfl, List.nodup_cons.mpr ⟨by simp, List.nodup_nil⟩, fun n hn => ?_, T3, (B2.trans (but_same (same_new ng0))).trans b3⟩
      rw [List.mem_singleton.mp hn]
      exact ⟨a0, at1⟩
  obtain ⟨g, ns, rfl, hg, hgn, hgt, hne, hnl, hnd, hnb, T3, B3⟩ := hM
  -- up to three more
  refine ⟨_, rfl, _, rfl, rfl, _, rfl, ite_yes rfl ?_⟩
  refine ⟨t, s0, 4, rfl, T3, by decide, fun m H4 T4 b4 m0 m1 => ?_⟩
  have m2 := m1 (by decide)
  refine ⟨m, rfl, by omega, by omega, ?_⟩
  refine for_range (lo := 0) (n := m.toNat) (fun i σ' H' => ∃ (a : Int) (y : Option V) (ns : List Int), σ' = [some (.ref t), some (.int k), some (.bl sg), some (.int 0), some (.int (2 ^ k)), some (.int a), some (.ref g), y, none, none] ∧ H' g = some (.lst (ns.map V.int)) ∧
    ns ≠ [] ∧ ns.length ≤ 256 + i ∧ i ≤ 3 ∧ ns.Nodup ∧ (∀ n ∈ ns, 0 ≤ n ∧ n < 2 ^ k) ∧ Tape H' t s0 ∧ But [t] H H')
    ⟨at0, none, ns, rfl, b4.one hgt hg, hne, hnl, Nat.zero_le _, hnd, hnb, T4, B3.trans b4⟩ (fun i σ' H' hi hw => ?_) (fun σ' H' hw => ?_)
  · obtain ⟨a, y, ns, rfl, hg, hne, hnl, hi3, hnd, hnb, T5, B5⟩ := hw
    refine ⟨_, rfl, _, rfl, _, _, rfl, rfl, ⟨by decide, by decide⟩, _, rfl, _, _, rfl, rfl, ⟨by decide, by decide⟩, _, _, rfl, rfl, szl _, fun p np => ?_⟩
    refine ⟨_, rfl, t, s0, 6, rfl, T5.same (same_new np), by decide, fun n6 H6 T6 b6 n60 n61 => ?_⟩
    have hp := b6.one (ne_tape T5 np) (upd_same (H := H'))
    have hg6 := b6.one hgt (same_new np _ _ hg)
    obtain ⟨v, hv, x, rfl⟩ := drawn (P := fun v => ∃ x : Int, v = V.int x) (xs := [V.int 1, V.int 1, V.int 2, V.int 7, V.int (2 ^ k / 2), V.int (1 + 2 ^ k / 4)]) ⟨⟨_, rfl⟩, ⟨_, rfl⟩, ⟨_, rfl⟩, ⟨_, rfl⟩, ⟨_, rfl⟩, ⟨_, rfl⟩, trivial⟩ n60 (n61 (by decide))
    refine ⟨p, _, n6, _, rfl, rfl, SqL.has hp, hv, _, _, rfl, rfl, .inl ⟨_, rfl, _, rfl, _, _, rfl, rfl, two_pow_pos k, ?_⟩⟩
    have B6 := (B5.trans (but_same (same_new np))).trans b6
    have z0 : 0 ≤ (a + x) % (2 ^ k : Int) := Int.emod_nonneg _ (by omega)
    have z1 : (a + x) % (2 ^ k : Int) < 2 ^ k := Int.emod_lt_of_pos _ (by omega)
    refine ⟨_, rfl, _, rfl, g, _, rfl, .inl (SqL.has hg6), rfl, flat_ints ns, _, rfl, ?_⟩
    show (if (if true = true then !inV (.int ((a + x) % 2 ^ k)) (ns.map V.int) else inV (.int ((a + x) % 2 ^ k)) (ns.map V.int)) = true then _ else _)
    rw [if_pos rfl, inV_int]
    by_cases hm : (a + x) % (2 ^ k : Int) ∈ ns
    · rw [decide_eq_true hm]
      refine iteF ?_
      exact ⟨_, _, ns, rfl, hg6, hne, by omega, by omega, hnd, hnb, T6, B6⟩
    · rw [decide_eq_false hm]
      refine iteT ?_
      refine ⟨_, rfl, .inl ⟨rfl, _, SqL.has hg6⟩, _, rfl, g, _, _, rfl, rfl, hg6, small_lt (by rw [List.length_map]; omega), ?_⟩
      have gs : g ≠ s0 := fun z => by
        obtain ⟨_, e⟩ := hT.sc
        rw [← z, hgn] at e
        cases e
      refine ⟨_, _, ns ++ [(a + x) % 2 ^ k], rfl, ?_, by simp, ?_, by omega, ?_, ?_, T6.but (but_upd (ex := [g]) (by simp)) (by simpa using hgt.symm) (by simpa using gs.symm), but_mut B6 hgn⟩
      · rw [upd_same, List.map_append]
        rfl
      · rw [List.length_append]
        simp
        omega
      · rw [List.nodup_append]
        refine ⟨hnd, by simp, fun u hu v hv z => ?_⟩
        rw [List.mem_singleton.mp hv] at z
        exact hm (z ▸ hu)
      · intro n hn
        rcases List.mem_append.mp hn with h | h
        · exact hnb n h
        · rw [List.mem_singleton.mp h]
          exact ⟨z0, z1⟩
  obtain ⟨a, y, ns, rfl, hg, hne, hnl, hi3, hnd, hnb, T5, B5⟩ := hw
  -- the ranges
  have last : ∀ (lw : Int), (lw = 0 ∨ lw = 2 ^ k / 2) → ∀ (σl : L2.St), σl = [some (.ref t), some (.int k), some (.bl sg), some (.int 0), some (.int (2 ^ k)), some (.int a), some (.ref g), y, some (.int lw), none] → True := fun _ _ _ _ => trivial
  obtain ⟨lw, hlw, hsel⟩ : ∃ lw : Int, (lw = 0 ∨ lw = 2 ^ k / 2) ∧ lw = if sg = true then 2 ^ k / 2 else 0 := by
    cases sg with
    | true => exact ⟨2 ^ k / 2, .inr rfl, rfl⟩
    | false => exact ⟨0, .inl rfl, rfl⟩
  refine ⟨_, rfl, sg, rfl, ?_⟩
  have step : ∀ {A B : Prop}, (sg = true → A) → (sg = false → B) → (if sg = true then A else B) := fun h1 h2 => by
    cases sg with
    | true => exact h1 rfl
    | false => exact h2 rfl
  have fin : ∀ (Hz : Hp) (D : Addr) (ns' : List Int), ns'.Perm ns → ns'.Pairwise (· ≤ ·) → Tape Hz t s0 → But [t] H Hz → Hz D = some (.lst ((ns'.map fun n => n - lw).map V.int)) →
      sp_law_runs [.ref D] Hz Q E0 := fun Hz D ns' hpm hps Tz Bz hD => by
    have hb2 : ∀ n ∈ ns', 0 ≤ n ∧ n < 2 ^ k := fun n hn => hnb n (hpm.mem_iff.mp hn)
    have hlt : ns'.Pairwise (· < ·) := by
      have hnd' : ns'.Nodup := hpm.nodup_iff.mpr hnd
      exact (hps.and hnd').imp fun h => by omega
    have hlwb : 0 ≤ lw ∧ lw ≤ 2 ^ k / 2 := by rcases hlw with h | h <;> omega
    refine ⟨D, ns'.map fun n => n - lw, rfl, hD, ?_, ?_, fun rs v H' sx hrs hrl hrb hv => ?_⟩
    · rw [List.length_map, hpm.length_eq]
      omega
    · intro n hn
      obtain ⟨z, hz, rfl⟩ := List.mem_map.mp hn
      have := hb2 z hz
      omega
    · refine q v (some rs) H' ⟨hk8, ?_, ?_, ?_, ?_, ?_⟩ hv (Tz.same sx) (Bz.trans (but_same sx))
      · rw [List.length_map, hpm.length_eq] at hrl
        omega
      · intro p hp
        obtain ⟨h1, h2, h3⟩ := hrb p hp
        omega
      · rw [hrs]
        intro z
        have z2 := List.map_eq_nil_iff.mp z
        rw [z2] at hpm
        exact hne (List.nil_perm.mp hpm)
      · rw [hrs]
        exact List.Pairwise.map _ (fun a b h => by omega) hlt
      · intro n hn
        rw [hrs] at hn
        obtain ⟨z, hz, rfl⟩ := List.mem_map.mp hn
        have := hb2 z hz
        omega
  have comp : ∀ (D : Addr) (Hz : Hp) (p2 : Addr) (ns' : List Int), True := fun _ _ _ _ => trivial
  refine step (fun hsg => ?_) (fun hsg => ?_)
  all_goals rw [hsg] at hsel
  · simp only [if_true] at hsel
    refine ⟨_, rfl, _, _, rfl, rfl, ⟨by decide, by decide⟩, ?_⟩
    refine ⟨_, rfl, g, ns, rfl, SqL.has hg, fun ns' p2 hpm hps np2 => ?_⟩
    refine ⟨p2, rfl, ⟨_, SqL.has upd_same⟩, fun D nD => ?_⟩
    have hl' : ns'.length = ns.length := hpm.length_eq
    have hp2D : p2 ≠ D := ne_of_none upd_same nD
    refine walk_any (walk_list (xs := ns'.map V.int)) (fun i H3 => Tape H3 t s0 ∧ But [t] H H3 ∧ H3 p2 = some (.lst (ns'.map V.int)) ∧ H3 D = some (.lst (((ns'.take i).map fun n => n - lw).map V.int)))
      ⟨(T5.same (same_new np2)).same (same_new nD), (B5.trans (but_same (same_new np2))).trans (but_same (same_new nD)), same_new nD _ _ upd_same, upd_same⟩ (fun i H3 _ hw => SqL.has hw.2.2.1) (fun i x H3 H3' hi hw hy => ?_) (fun H3 hw => ?_)
    · obtain ⟨Tz, Bz, hp2, hD⟩ := hw
      obtain ⟨rfl, hx⟩ := hy
      rw [List.getElem?_map] at hx
      obtain ⟨n, hn, rfl⟩ := Option.map_eq_some_iff.mp hx
      have hDn : H D = none := none_tape (B5.trans (but_same (same_new np2))) (T5.same (same_new np2)) nD
      have Dt : D ≠ t := ne_tape (T5.same (same_new np2)) nD
      have Ds : D ≠ s0 := fun z => by
        obtain ⟨_, e⟩ := hT.sc
        rw [← z, hDn] at e
        cases e
      refine ⟨rfl, _, rfl, _, rfl, _, _, rfl, rfl, _, hD, small_lt ?_, Tz.but (but_upd (ex := [D]) (by simp)) (by simpa using Dt.symm) (by simpa using Ds.symm), but_mut Bz hDn, ?_, ?_⟩
      · rw [List.length_map, List.length_map, List.length_take]
        omega
      · rw [upd_ne hp2D]
        exact hp2
      · rw [upd_same, List.take_add_one, hn, List.map_append, List.map_append, hsel]
        rfl
    · obtain ⟨Tz, Bz, hp2, hD⟩ := hw
      rw [List.length_map, List.take_length] at hD
      exact fin _ _ ns' hpm hps Tz Bz hD
  · simp only [Bool.false_eq_true, if_false] at hsel
    refine ⟨_, rfl, g, ns, rfl, SqL.has hg, fun ns' p2 hpm hps np2 => ?_⟩
    refine ⟨p2, rfl, ⟨_, SqL.has upd_same⟩, fun D nD => ?_⟩
    have hl' : ns'.length = ns.length := hpm.length_eq
    have hp2D : p2 ≠ D := ne_of_none upd_same nD
    refine walk_any (walk_list (xs := ns'.map V.int)) (fun i H3 => Tape H3 t s0 ∧ But [t] H H3 ∧ H3 p2 = some (.lst (ns'.map V.int)) ∧ H3 D = some (.lst (((ns'.take i).map fun n => n - lw).map V.int)))
      ⟨(T5.same (same_new np2)).same (same_new nD), (B5.trans (but_same (same_new np2))).trans (but_same (same_new nD)), same_new nD _ _ upd_same, upd_same⟩ (fun i H3 _ hw => SqL.has hw.2.2.1) (fun i x H3 H3' hi hw hy => ?_) (fun H3 hw => ?_)
    · obtain ⟨Tz, Bz, hp2, hD⟩ := hw
      obtain ⟨rfl, hx⟩ := hy
      rw [List.getElem?_map] at hx
      obtain ⟨n, hn, rfl⟩ := Option.map_eq_some_iff.mp hx
      have hDn : H D = none := none_tape (B5.trans (but_same (same_new np2))) (T5.same (same_new np2)) nD
      have Dt : D ≠ t := ne_tape (T5.same (same_new np2)) nD
      have Ds : D ≠ s0 := fun z => by
        obtain ⟨_, e⟩ := hT.sc
        rw [← z, hDn] at e
        cases e
      refine ⟨rfl, _, rfl, _, rfl, _, _, rfl, rfl, _, hD, small_lt ?_, Tz.but (but_upd (ex := [D]) (by simp)) (by simpa using Dt.symm) (by simpa using Ds.symm), but_mut Bz hDn, ?_, ?_⟩
      · rw [List.length_map, List.length_map, List.length_take]
        omega
      · rw [upd_ne hp2D]
        exact hp2
      · rw [upd_same, List.take_add_one, hn, List.map_append, List.map_append, hsel]
        rfl
    · obtain ⟨Tz, Bz, hp2, hD⟩ := hw
      rw [List.length_map, List.take_length] at hD
      exact fin _ _ ns' hpm hps Tz Bz hD
end
end Wp

namespace Wp
open PySem PySem.Spec PyProof.Rows L2
section
variable {P : Program} {w : World} {K : PySem.W.Frag} {mg : Str → Option Value} {base : Heap} {dW aC : Addr}

/-! ### _law_a_field, _law_a_number, _law_part -/
def fieldD (k : Nat) (sg : Bool) (rs : Option (List (Int × Int))) : D := .tup [.int k, .bl sg, rngD rs]
def sp_law_a_field : Sp := fun vs H Q _ => ∃ (t s p : Addr) (ks : List Nat), vs = [.ref t, .ref p, .int 0] ∧ Tape H t s ∧ H p = some (.lst (ks.map fun k => V.int (k : Nat))) ∧ p ≠ t ∧ ks ≠ [] ∧ ks.length ≤ 1000 ∧ (∀ k ∈ ks, 1 ≤ k ∧ k ≤ 32) ∧
  ∀ v k sg rs H', k ∈ ks → RngOk k rs → Has H' v (fieldD k sg rs) → Tape H' t s → But [t] H H' → Q v H'
theorem ok_law_a_field (T : Txt w K mg dW aC) (F : Dn K mg "_law_a_field" st_law_a_field) (C_law_draw : Cal P w K mg base 1 "_law_draw" sp_law_draw) (C_law_ranges : Cal P w K mg base 2 "_law_ranges" sp_law_ranges) : Cal P w K mg base 3 "_law_a_field" sp_law_a_field := by
  refine cal_mk F sc_l_a_field bd_law_a_field (fun vs H Q E h => ?_) (fun f cdv A outer s H vs Q E hr h => ?_)
  · obtain ⟨t, s, p, ks, rfl, _⟩ := h
    rfl
  obtain ⟨t, s0, p, ks, rfl, hT, hp, hpt, hne, hkl, hkb, q⟩ := h
  refine ⟨_, (pss_cons (ps_set (i := 3) sc_l_a_field.nd rfl (Or.inl rfl) (pe_ix ix_list (pv 1) (pe_k C_law_draw hr (by omega) (by rfl) (pa_cons (pv 0) (pa_cons (pe_callB call_len_seq (by rfl) T.b_len (by decide +kernel) (pa_cons (pv 1) pa_nil)) pa_nil))) (fun _ _ => rfl)))
    (pss_cons (ps_set (i := 4) sc_l_a_field.nd rfl (Or.inl rfl) (pe_cmpR op_eq (pe_k C_law_draw hr (by omega) (by rfl) (pa_cons (pv 0) (pa_cons pe_int pa_nil))) pe_int (nomark _)))
    (pss_one (ps_ret (pe_tup (pa_cons (pv 3) (pa_cons (pv 4) (pa_cons (pe_k C_law_ranges hr (by omega) (by rfl) (pa_cons (pv 0) (pa_cons (pv 3) (pa_cons (pv 4) (pa_cons (pv 2) pa_nil))))) pa_nil)))))))), ?_⟩
  have hlen : 1 ≤ ks.length := by
    cases ks with
    | nil => exact absurd rfl hne
    | cons _ _ => simp
  refine ⟨_, rfl, _, rfl, _, rfl, p, _, rfl, .inl (SqL.has hp), ?_⟩
  refine ⟨t, s0, _, rfl, hT, ?_, fun n H1 T1 b1 n0 n1 => ?_⟩
  · rw [List.length_map]
    omega
  rw [List.length_map] at n1
  have n2 := n1 (by omega)
  obtain ⟨v, hv, hm⟩ := at_drawn (xs := ks.map fun k => V.int (k : Nat)) n0 (by rw [List.length_map]; exact n2)
  obtain ⟨k, hk, rfl⟩ := List.mem_map.mp hm
  refine ⟨p, _, n, _, rfl, rfl, SqL.has (b1.one hpt hp), hv, ?_⟩
  refine ⟨_, rfl, t, s0, 3, rfl, T1, by decide, fun n3 H2 T2 b2 _ _ => ?_⟩
  refine ⟨rfl, ?_⟩
  refine ⟨_, rfl, _, rfl, _, rfl, _, rfl, _, rfl, _, rfl, t, s0, k, _, rfl, T2, (hkb k hk).1, (hkb k hk).2, fun v rs H3 hrs hv T3 b3 => ?_⟩
  refine ⟨szl _, fun g ng => ?_⟩
  exact q _ k _ rs _ hk hrs (Has.new (.cons (.int _) (.cons (.bl _) (.cons hv .nil))) ng) (T3.same (same_new ng)) (((b1.trans b2).trans b3).trans (but_same (same_new ng)))
def sp_law_a_number : Sp := fun vs H Q _ => ∃ (t s : Addr) (k : Nat) (sg : Bool) (rv : V) (rs : Option (List (Int × Int))), vs = [.ref t, .int k, .bl sg, rv] ∧ Tape H t s ∧ 1 ≤ k ∧ k ≤ 32 ∧ Has H rv (rngD rs) ∧ RngOk k rs ∧
  ∀ (n : Int) H', Tape H' t s → But [t] H H' → Q (.int n) H'
theorem ok_law_a_number (T : Txt w K mg dW aC) (F : Dn K mg "_law_a_number" st_law_a_number) (C_law_draw : Cal P w K mg base 1 "_law_draw" sp_law_draw) : Cal P w K mg base 2 "_law_a_number" sp_law_a_number := by
  refine cal_mk F sc_l_a_number bd_law_a_number (fun vs H Q E h => ?_) (fun f cdv A outer s H vs Q E hr h => ?_)
  · obtain ⟨t, s, k, sg, rv, rs, rfl, _⟩ := h
    rfl
  obtain ⟨t, s0, k, sg, rv, rs, rfl, hT, hk1, hk2, hrv, hrs, q⟩ := h
  refine ⟨_, (pss_cons (ps_if (pt_cmpR op_notN (pv 3) pe_non (nomark _))
      (pss_cons (ps_set (i := 4) sc_l_a_number.nd rfl (Or.inl rfl) (pe_ix ix_tup (pv 3) (pe_k C_law_draw hr (by omega) (by rfl) (pa_cons (pv 0) (pa_cons (pe_callB call_len_seq (by rfl) T.b_len (by decide +kernel) (pa_cons (pv 3) pa_nil)) pa_nil))) (fun _ _ => rfl)))
      (pss_one (ps_ret (pe_op op_add (pe_ix ix_tup (pv 4) pe_int (fun _ _ => rfl)) (pe_k C_law_draw hr (by omega) (by rfl) (pa_cons (pv 0) (pa_cons (pe_op op_add (pe_op op_sub (pe_ix ix_tup (pv 4) pe_int (fun _ _ => rfl)) (pe_ix ix_tup (pv 4) pe_int (fun _ _ => rfl))) pe_int) pa_nil)))))))
      pss_nil)
    (pss_cons (ps_set (i := 5) sc_l_a_number.nd rfl (Or.inl rfl) (pe_k C_law_draw hr (by omega) (by rfl) (pa_cons (pv 0) (pa_cons (pe_op op_shl pe_int (pe_callB (call_min2 rfl) (by rfl) T.b_min (by decide +kernel) (pa_cons (pv 1) (pa_cons pe_int pa_nil)))) pa_nil))))
    (pss_cut (ps_if (pt_cmpR op_gt (pv 1) pe_int (nomark _))
      (pss_one (ps_set (i := 5) sc_l_a_number.nd rfl (Or.inl rfl) (pe_op op_add (pe_op op_mul (pv 5) pe_int) (pe_k C_law_draw hr (by omega) (by rfl) (pa_cons (pv 0) (pa_cons pe_int pa_nil))))))
      pss_nil)
    (pss_cons (ps_set (i := 5) sc_l_a_number.nd rfl (Or.inl rfl) (pe_op op_and (pe_ix ix_list (pe_lst (pa_cons pe_int (pa_cons (pe_op op_sub (pe_op op_shl pe_int (pv 1)) pe_int) (pa_cons (pe_op op_shl pe_int (pe_op op_sub (pv 1) pe_int)) (pa_cons (pe_op op_and (pv 5) pe_int) (pa_cons (pv 5) (pa_cons (pv 5) pa_nil))))))) (pe_k C_law_draw hr (by omega) (by rfl) (pa_cons (pv 0) (pa_cons pe_int pa_nil))) (fun _ _ => rfl)) (pe_op op_sub (pe_op op_shl pe_int (pv 1)) pe_int)))
    (pss_one (ps_ret (pe_ifExp (PW.pt (pw_and (pt_truth (pv 2) (by intro _; rfl)) (pw_and1 (pt_cmpR op_eq (pe_op op_shr (pv 5) (pe_op op_sub (pv 1) pe_int)) pe_int (nomark _))))) (pe_op op_sub (pv 5) (pe_op op_shl pe_int (pv 1))) (pv 5)))))))), ?_⟩
  cases rs with
  | some rs =>
    obtain ⟨a, vs, rfl, ha, hl⟩ := hrv.tupI
    obtain ⟨_, hrl, hrb, hne, _⟩ := hrs
    have hln : vs.length = rs.length := by rw [hl.len, List.length_map]
    have h1 : 1 ≤ rs.length := by
      cases rs with
      | nil => exact absurd rfl hne
      | cons _ _ => simp
    refine ⟨_, rfl, rfl, _, rfl, ite_nyes (by intro z; cases z) ?_⟩
    refine ⟨_, rfl, _, rfl, _, rfl, a, _, rfl, .inr (SqT.has ha), ?_⟩
    refine ⟨t, s0, _, rfl, hT, by omega, fun n H1 T1 b1 n0 n1 => ?_⟩
    have n2 := n1 (by omega)
    obtain ⟨v, hv, hm⟩ := at_drawn (xs := vs) n0 n2
    have kt := kt_tape b1 hT
    have hvd : ∃ p ∈ rs, Has H v (.tup [.int p.1, .int p.2]) := by
      obtain ⟨i, hi⟩ := List.mem_iff_getElem?.mp hm
      obtain ⟨d, hd, hvd⟩ := hl.getV hi
      rw [List.getElem?_map] at hd
      obtain ⟨p, hp, rfl⟩ := Option.map_eq_some_iff.mp hd
      exact ⟨p, List.mem_of_getElem? hp, hvd⟩
    obtain ⟨p, hp, hvd⟩ := hvd
    have hb := hrb p hp
    obtain ⟨b, us, rfl, hb1, hul⟩ := (hvd.mono kt).tupI
    obtain ⟨us2, rfl, hul2⟩ := invI hul
    obtain ⟨us3, rfl, hul3⟩ := invI hul2
    cases inv0 hul3
    refine ⟨a, _, n, _, rfl, rfl, SqT.has (kt _ _ ha), hv, ?_⟩
    refine ⟨_, rfl, b, _, 0, _, rfl, rfl, SqT.has hb1, i0, ?_⟩
    refine ⟨_, rfl, _, rfl, b, _, 1, _, rfl, rfl, SqT.has hb1, i1, ?_⟩
    refine ⟨_, rfl, b, _, 0, _, rfl, rfl, SqT.has hb1, i0, ?_⟩
    refine ⟨_, _, rfl, rfl, _, _, rfl, rfl, t, s0, _, rfl, T1, by omega, fun n3 H2 T2 b2 _ _ => ?_⟩
    exact ⟨_, _, rfl, rfl, q _ _ T2 (b1.trans b2)⟩
  | none =>
    cases hrv.nonI
    refine ⟨_, rfl, rfl, _, rfl, ite_nno rfl ?_⟩
    have hj : ∃ j : Nat, (if (16 : Int) < (k : Int) then (16 : Int) else (k : Int)) = (j : Int) ∧ j ≤ 16 := by
      split
      · exact ⟨16, rfl, Nat.le_refl _⟩
      · exact ⟨k, rfl, by omega⟩
    obtain ⟨j, hj, hj16⟩ := hj
    have hsh : (1 : Int) * 2 ^ (j : Int).toNat < 1073741824 := by
      have h : 2 ^ j ≤ 2 ^ 16 := Nat.pow_le_pow_right (by decide) hj16
      have h2 : ((2 ^ j : Nat) : Int) ≤ ((2 ^ 16 : Nat) : Int) := Int.ofNat_le.mpr h
      rw [Int.one_mul, Int.toNat_natCast]
      have h3 : (2 : Int) ^ j ≤ 65536 := by simpa using h2
      omega
    refine ⟨_, rfl, _, rfl, _, _, rfl, ?_⟩
    rw [hj]
    refine ⟨_, _, rfl, rfl, ⟨by omega, by omega, by decide⟩, ?_⟩
    refine ⟨t, s0, _, rfl, hT, hsh, fun n H1 T1 b1 _ _ => ?_⟩
    refine ⟨fun σ' H' => ∃ c : Int, σ' = [some (.ref t), some (.int k), some (.bl sg), some .non, none, some (.int c)] ∧ Tape H' t s0 ∧ But [t] H H', ?_, fun σ' H' hM => ?_⟩
    · refine ⟨_, rfl, _, _, rfl, rfl, _, rfl, ite_by (fun c => ?_) (fun c => ?_)⟩
      · refine ⟨_, rfl, _, _, rfl, rfl, .inr ⟨by decide, by decide⟩, ?_⟩
        refine ⟨_, rfl, t, s0, 65536, rfl, T1, by decide, fun n2 H2 T2 b2 _ _ => ?_⟩
        exact ⟨_, _, rfl, rfl, _, rfl, T2, b1.trans b2⟩
      · exact ⟨_, rfl, T1, b1⟩
    obtain ⟨c, rfl, T2, B2⟩ := hM
    refine ⟨_, rfl, _, _, rfl, rfl, ⟨by omega, by omega, by decide⟩, _, _, rfl, rfl, ?_⟩
    refine ⟨_, rfl, _, _, rfl, rfl, _, _, rfl, rfl, ⟨by omega, by omega, by decide⟩, ?_⟩
    refine ⟨_, rfl, _, _, rfl, rfl, _, rfl, _, rfl, szl _, fun p np => ?_⟩
    refine ⟨_, rfl, t, s0, 6, rfl, T2.same (same_new np), by decide, fun n6 H6 T6 b6 n60 n61 => ?_⟩
    have hp := b6.one (ne_tape T2 np) (upd_same (H := H'))
    obtain ⟨v, hv, x, rfl⟩ := drawn (P := fun v => ∃ x : Int, v = V.int x) (xs := [V.int 0, V.int _, V.int _, V.int _, V.int c, V.int c]) ⟨⟨_, rfl⟩, ⟨_, rfl⟩, ⟨_, rfl⟩, ⟨_, rfl⟩, ⟨_, rfl⟩, ⟨_, rfl⟩, trivial⟩ n60 (n61 (by decide))
    refine ⟨p, _, n6, _, rfl, rfl, SqL.has hp, hv, ?_⟩
    refine ⟨_, rfl, _, _, rfl, rfl, ⟨by omega, by omega, by decide⟩, _, _, rfl, rfl, _, _, rfl, rfl, ?_⟩
    have B6 := (B2.trans (but_same (same_new np))).trans b6
    refine ⟨_, rfl, sg, rfl, ?_⟩
    cases sg with
    | true =>
      refine ⟨_, rfl, _, rfl, _, _, rfl, rfl, _, _, rfl, rfl, by omega, ?_⟩
      refine ⟨rfl, _, rfl, ite_by (fun c => ?_) (fun c => ?_)⟩
      · exact ⟨_, rfl, _, rfl, _, _, rfl, rfl, ⟨by omega, by omega, by decide⟩, _, _, rfl, rfl, q _ _ T6 B6⟩
      · exact ⟨_, rfl, q _ _ T6 B6⟩
    | false => exact iteF (iteF ⟨_, rfl, q _ _ T6 B6⟩)
def oIntV : Option Int → V
  | none => .non
  | some i => .int i
def sp_law_part : Sp := fun vs H Q _ => ∃ (t s u : Addr) (us : List Str) (fv : V) (k : Nat) (sg : Bool) (rs : Option (List (Int × Int))), vs = [.ref t, .ref u, fv] ∧ Tape H t s ∧ H u = some (.lst (us.map V.str)) ∧ u ≠ t ∧ u ≠ s ∧ us.length ≤ 99999 ∧
  1 ≤ k ∧ k ≤ 32 ∧ Has H fv (fieldD k sg rs) ∧ RngOk k rs ∧
  ∀ (p : Part) (us' : List Str) v H', p.ok → p.width = k → Has H' v p.d → Tape H' t s → H' u = some (.lst (us'.map V.str)) → us'.length ≤ us.length + 1 → But [t, u] H H' → Q v H'
theorem ok_law_part (T : Txt w K mg dW aC) (F : Dn K mg "_law_part" st_law_part) (C_law_draw : Cal P w K mg base 1 "_law_draw" sp_law_draw) (C_law_name : Cal P w K mg base 2 "_law_name" sp_law_name) (C_law_a_number : Cal P w K mg base 2 "_law_a_number" sp_law_a_number) : Cal P w K mg base 3 "_law_part" sp_law_part := by
  refine cal_mk F sc_l_part bd_law_part (fun vs H Q E h => ?_) (fun f cdv A outer s H vs Q E hr h => ?_)
  · obtain ⟨t, s, u, us, fv, k, sg, rs, rfl, _⟩ := h
    rfl
  obtain ⟨t, s0, u, us, fv, k, sg, rs, rfl, hT, hu, hut, hus, hul, hk1, hk2, hfv, hrs, q⟩ := h
  refine ⟨_, (pss_cons (ps_if (pt_cmpR op_eq (pe_k C_law_draw hr (by omega) (by rfl) (pa_cons (pv 0) (pa_cons pe_int pa_nil))) pe_int (nomark _))
      (pss_one (ps_ret (pe_tup (pa_cons pe_non (pa_cons (pe_ix ix_tup (pv 2) pe_int (fun _ _ => rfl)) (pa_cons pe_bl (pa_cons pe_non (pa_cons pe_non pa_nil))))))))
      pss_nil)
    (pss_cons (ps_expr (pe_bm PySem.F.plainAttrs_list PySem.F.slot_list_append PySem.F.type_list_append mt_append (pv 1) (pa_cons (pe_k C_law_name hr (by omega) (by rfl) (pa_cons (pv 0) (pa_cons (pv 1) pa_nil))) pa_nil)))
    (pss_cons (ps_set (i := 3) sc_l_part.nd rfl (Or.inl rfl) (pe_ix ix_list (pe_lst (pa_cons pe_non (pa_cons (pe_k C_law_a_number hr (by omega) (by rfl) (pa_cons (pv 0) (pa_cons (pe_ix ix_tup (pv 2) pe_int (fun _ _ => rfl)) (pa_cons (pe_ix ix_tup (pv 2) pe_int (fun _ _ => rfl)) (pa_cons (pe_ix ix_tup (pv 2) pe_int (fun _ _ => rfl)) pa_nil))))) pa_nil))) (pe_k C_law_draw hr (by omega) (by rfl) (pa_cons (pv 0) (pa_cons pe_int pa_nil))) (fun _ _ => rfl)))
    (pss_one (ps_ret (pe_tup (pa_cons (pe_ix ix_list (pv 1) (pe_un un_neg pe_int) (fun _ _ => rfl)) (pa_cons (pe_ix ix_tup (pv 2) pe_int (fun _ _ => rfl)) (pa_cons (pe_ix ix_tup (pv 2) pe_int (fun _ _ => rfl)) (pa_cons (pe_ix ix_tup (pv 2) pe_int (fun _ _ => rfl)) (pa_cons (pv 3) pa_nil))))))))))), ?_⟩
  refine ⟨_, rfl, t, s0, 5, rfl, hT, by decide, fun n H1 T1 b1 n0 n1 => ?_⟩
  have kt1 := kt_tape b1 hT
  obtain ⟨a, xs, rfl, ha0, hl0⟩ := hfv.tupI
  obtain ⟨xs1, rfl, hl1⟩ := invI hl0
  obtain ⟨xs2, rfl, hl2⟩ := invB hl1
  obtain ⟨rv, rfl, hrv⟩ := inv1 hl2
  have ha1 := kt1 _ _ ha0
  have hu1 := b1.one hut hu
  refine ⟨rfl, _, rfl, ite_by (fun c => ?_) (fun c => ?_)⟩
  · refine ⟨_, rfl, a, _, 0, _, rfl, rfl, SqT.has ha1, i0, szl _, fun g ng => ?_⟩
    exact q ⟨none, k, false, none, none⟩ us _ _ ⟨hk2, trivial⟩ rfl (Has.new (.cons .non (.cons (.int _) (.cons (.bl _) (.cons .non (.cons .non .nil))))) ng) (T1.same (same_new ng)) (same_new ng _ _ hu1) (by omega)
      ((b1.mono (by simp)).trans (but_same (same_new ng)))
  · refine ⟨_, rfl, .inl ⟨rfl, _, SqL.has hu1⟩, ?_⟩
    refine ⟨_, rfl, _, rfl, t, s0, u, us, rfl, T1, hu1, hut, by omega, fun x H2 T2 b2 => ?_⟩
    have kt2 := kt_tape b2 T1
    have hu2 := b2.one hut hu1
    refine ⟨u, _, _, rfl, rfl, hu2, small_lt (by rw [List.length_map]; omega), ?_⟩
    generalize hH3 : upd H2 u (.lst (us.map V.str ++ [.str x])) = H3
    have hu3 : H3 u = some (.lst ((us ++ [x]).map V.str)) := by
      rw [← hH3, upd_same, List.map_append]
      rfl
    have T3 : Tape H3 t s0 := by
      rw [← hH3]
      exact T2.but (but_upd (ex := [u]) (by simp)) (by simpa using hut.symm) (by simpa using hus.symm)
    have kt3 : KT H2 H3 := by
      rw [← hH3]
      exact kt_upd hu2
    have b3 : But [t, u] H H3 := by
      rw [← hH3]
      exact ((b1.trans b2).mono (by simp)).trans (but_upd (by simp))
    have ha3 := kt3 _ _ (kt2 _ _ ha1)
    have hrv3 := ((hrv.mono kt1).mono kt2).mono kt3
    refine ⟨_, rfl, _, rfl, a, _, 0, _, rfl, rfl, SqT.has ha3, i0, ?_⟩
    refine ⟨_, rfl, a, _, 1, _, rfl, rfl, SqT.has ha3, i1, ?_⟩
    refine ⟨_, rfl, a, _, 2, _, rfl, rfl, SqT.has ha3, i2, ?_⟩
    refine ⟨t, s0, k, sg, rv, rs, rfl, T3, hk1, hk2, hrv3, hrs, fun m H4 T4 b4 => ?_⟩
    have kt4 := kt_tape b4 T3
    refine ⟨szl _, fun g ng => ?_⟩
    refine ⟨_, rfl, t, s0, 2, rfl, T4.same (same_new ng), by decide, fun n5 H5 T5 b5 n50 n51 => ?_⟩
    have hg := b5.one (ne_tape T4 ng) (upd_same (H := H4))
    obtain ⟨v, hv, od, rfl⟩ := drawn (P := fun v => ∃ od : Option Int, v = oIntV od) (xs := [V.non, V.int m]) ⟨⟨none, rfl⟩, ⟨some m, rfl⟩, trivial⟩ n50 (n51 (by decide))
    have kt5 := kt_tape b5 (T4.same (same_new ng))
    have K5 : KT H3 H5 := (kt4.trans (kt_new ng)).trans kt5
    have ha5 := K5 _ _ ha3
    have hu5 := b5.one hut (same_new ng _ _ (b4.one hut hu3))
    refine ⟨g, _, n5, _, rfl, rfl, SqL.has hg, hv, ?_⟩
    have hlast : atI ((us ++ [x]).map V.str) (-1) = some (.str x) := by
      rw [List.map_append]
      exact atI_last _ _
    refine ⟨_, rfl, _, rfl, u, _, _, _, rfl, rfl, SqL.has hu5, hlast, ?_⟩
    refine ⟨_, rfl, a, _, 0, _, rfl, rfl, SqT.has ha5, i0, ?_⟩
    refine ⟨_, rfl, a, _, 1, _, rfl, rfl, SqT.has ha5, i1, ?_⟩
    refine ⟨_, rfl, a, _, 2, _, rfl, rfl, SqT.has ha5, i2, ?_⟩
    refine ⟨_, rfl, szl _, fun z nz => ?_⟩
    have hod : Has H5 (oIntV od) (oInt od) := by
      cases od with
      | none => exact .non
      | some i => exact .int i
    exact q ⟨some x, k, sg, rs, od⟩ (us ++ [x]) _ _ ⟨hk2, hrs⟩ rfl (Has.new (.cons (.str _) (.cons (.int _) (.cons (.bl _) (.cons (hrv3.mono K5) (.cons hod .nil))))) nz) (T5.same (same_new nz)) (same_new nz _ _ hu5)
      (by rw [List.length_append]; simp) (((b3.trans (b4.mono (by simp))).trans (but_same (same_new ng))).trans ((b5.mono (by simp)).trans (but_same (same_new nz))))
end
end Wp

namespace Wp
open PySem PySem.Spec PyProof.Rows L2
section
variable {P : Program} {w : World} {K : PySem.W.Frag} {mg : Str → Option Value} {base : Heap} {dW aC : Addr}

/-! ### _law_case_numbers, _law_not_empty, _law_fixed, _law_rich_word -/
theorem cat_has {H : Hp} {x y : V} {ds es : List D} {Q : VK} (hx : Has H x (.tup ds)) (hy : Has H y (.tup es)) (hl : ds.length + es.length ≤ 1000000) (q : ∀ v H', Same H H' → Has H' v (.tup (ds ++ es)) → Q v H') : rCatA K x y H Q := by
  obtain ⟨a, vs, rfl, ha, la⟩ := hx.tupI
  obtain ⟨b, us, rfl, hb, lb⟩ := hy.tupI
  refine ⟨a, b, vs, us, rfl, rfl, SqT.has ha, SqT.has hb, small_line (by rw [la.len, lb.len]; omega), fun e => ?_, fun e1 e2 => ?_, fun e1 e2 p np => ?_⟩
  · subst e
    cases la
    exact q _ _ (fun _ _ e => e) (.tup hb lb)
  · subst e2
    cases lb
    rw [List.append_nil] at q
    exact q _ _ (fun _ _ e => e) (.tup ha la)
  · exact q _ _ (same_new np) (Has.new (la.append lb) np)
theorem app_ints {H : Hp} {D : Addr} {ns : List Int} {z : Int} {i : Nat} (hl : ns.length = i) : ∃ ns' : List Int, upd H D (.lst (ns.map V.int ++ [.int z])) D = some (.lst (ns'.map V.int)) ∧ ns'.length = i + 1 := by
  refine ⟨ns ++ [z], ?_, by rw [List.length_append, hl]; rfl⟩
  rw [upd_same, List.map_append]
  rfl
def stepKs (p1 p2 p3 : Addr) : List (Key × V) := [(Sum.inl 1, .ref p1), (Sum.inl 2, .ref p2), (Sum.inl 4, .ref p3)]
def stepAt (p1 p2 p3 : Addr) : W5 → Addr
  | .u8 => p1
  | .u16be => p2
  | .u16le => p2
  | .u32be => p3
  | .u32le => p3
theorem stepKs_at (p1 p2 p3 : Addr) (w5 : W5) : valV (mergeK [] (stepKs p1 p2 p3)) (Sum.inl (w5.size : Int)) = some (.ref (stepAt p1 p2 p3 w5)) := by
  cases w5 <;> rfl
def sp_law_case_numbers : Sp := fun vs H Q _ => ∃ (t s : Addr) (w5 : W5) (m : Nat), vs = [.ref t, .str w5.str, .int m] ∧ Tape H t s ∧ m ≤ 100 ∧
  ∀ (p : Addr) (ns : List Int) H', ns.length = m → H' p = some (.lst (ns.map V.int)) → H p = none → Tape H' t s → But [t] H H' → Q (.ref p) H'
theorem ok_law_case_numbers (T : Txt w K mg dW aC) (F : Dn K mg "_law_case_numbers" st_law_case_numbers) (C_law_draw : Cal P w K mg base 1 "_law_draw" sp_law_draw) (C_law_size : Cal P w K mg base 1 "_law_size" sp_law_size) : Cal P w K mg base 2 "_law_case_numbers" sp_law_case_numbers := by
  refine cal_mk F sc_l_case_numbers bd_law_case_numbers (fun vs H Q E h => ?_) (fun f cdv A outer s H vs Q E hr h => ?_)
  · obtain ⟨t, s, w5, m, rfl, _⟩ := h
    rfl
  obtain ⟨t, s0, w5, m, rfl, hT, hm, q⟩ := h
  have hu := hu_of hr
  refine ⟨_, (pss_cons (ps_set (i := 3) sc_l_case_numbers.nd rfl (Or.inr rfl) (pe_k C_law_size hr (by omega) (by rfl) (pa_cons (pv 1) pa_nil)))
    (pss_cons (ps_set (i := 4) sc_l_case_numbers.nd rfl (Or.inl rfl) (pe_dget hu (pe_disp (pps_cons pe_int (pe_lst (pa_cons pe_int (pa_cons pe_int (pa_cons pe_int (pa_cons pe_int pa_nil))))) (pps_cons pe_int (pe_lst (pa_cons pe_int (pa_cons pe_int (pa_cons pe_int (pa_cons pe_int pa_nil))))) (pps_cons pe_int (pe_lst (pa_cons pe_int (pa_cons pe_int (pa_cons pe_int (pa_cons pe_int pa_nil))))) pps_nil))) (by rfl) (by rfl) (fun z => by cases z) (by decide)) (pv 3) (fun _ _ => rfl)))
    (pss_cons (ps_set (i := 5) sc_l_case_numbers.nd rfl (Or.inr rfl) (pe_ix ix_list (pv 4) (pe_k C_law_draw hr (by omega) (by rfl) (pa_cons (pv 0) (pa_cons pe_int pa_nil))) (fun _ _ => rfl)))
    (pss_cons (ps_set (i := 6) sc_l_case_numbers.nd rfl (Or.inr rfl) (pe_op op_shl (pe_k C_law_draw hr (by omega) (by rfl) (pa_cons (pv 0) (pa_cons pe_int pa_nil))) (pe_op op_mul pe_int (pe_k C_law_draw hr (by omega) (by rfl) (pa_cons (pv 0) (pa_cons (pv 3) pa_nil))))))
    (pss_one (ps_ret (pe_lc (own := [("_law_k", 7)]) (g := (gName 7)) (tt := tYes) rfl sc_l_case_numbers.nd (pi_range1 (by rfl) T.b_range (pa_cons (pv 2) pa_nil)) (blkOk_by (own := [("_law_k", 7)]) (N := N_law_case_numbers) (sc := defScope st_law_case_numbers) (by decide +kernel)) (fun _ _ _ _ _ => (pg_name (i := 7) sc_l_case_numbers.nd rfl (Or.inl rfl))) (fun _ _ _ _ _ => pts_nil) (fun _ _ _ _ _ => (pe_op op_mod (pe_callTy call_int1 (by rfl) T.b_int (by decide +kernel) (pa_cons (pe_op op_add (pv 6) (pe_op op_mul (pv 7) (pv 5))) pa_nil)) (pe_op op_shl pe_int (pe_op op_mul pe_int (pv 3)))))))))))), ?_⟩
  have hsz := w5.size_le
  refine ⟨_, rfl, w5, rfl, fun H0 s0' => ?_⟩
  have T0 := hT.same s0'
  intro p np
  refine ⟨szl _, fun p1 np1 => ?_⟩
  refine ⟨szl _, fun p2 np2 => ?_⟩
  refine ⟨szl _, fun p3 np3 => ?_⟩
  generalize hHa : upd H0 p (.dK []) = Ha at *
  generalize hHb : upd Ha p1 _ = Hb at *
  generalize hHc : upd Hb p2 _ = Hc at *
  generalize hHd : upd Hc p3 _ = Hd at *
  have sa : Same H0 Ha := by rw [← hHa]; exact same_new np
  have sb : Same Ha Hb := by rw [← hHb]; exact same_new np1
  have sc : Same Hb Hc := by rw [← hHc]; exact same_new np2
  have sd : Same Hc Hd := by rw [← hHd]; exact same_new np3
  have ep : Hd p = some (.dK []) := sd _ _ (sc _ _ (sb _ _ (by rw [← hHa]; exact upd_same)))
  have e1 : Hd p1 = some (.lst [V.int 1, V.int 255, V.int 37, V.int 2]) := sd _ _ (sc _ _ (by rw [← hHb]; exact upd_same))
  have e2 : Hd p2 = some (.lst [V.int 1, V.int 256, V.int 257, V.int 65535]) := sd _ _ (by rw [← hHc]; exact upd_same)
  have e3 : Hd p3 = some (.lst [V.int 1, V.int 256, V.int 65536, V.int 16777216]) := by rw [← hHd]; exact upd_same
  refine ⟨ep, stepKs p1 p2 p3, rfl, Nat.le_of_ble_eq_true rfl, ?_⟩
  have hat : ∃ x0 x1 x2 x3 : Int, Hd (stepAt p1 p2 p3 w5) = some (.lst [.int x0, .int x1, .int x2, .int x3]) := by
    cases w5
    · exact ⟨_, _, _, _, e1⟩
    · exact ⟨_, _, _, _, e2⟩
    · exact ⟨_, _, _, _, e2⟩
    · exact ⟨_, _, _, _, e3⟩
    · exact ⟨_, _, _, _, e3⟩
  obtain ⟨x0, x1, x2, x3, hat⟩ := hat
  generalize hpl : stepAt p1 p2 p3 w5 = pl at hat
  have nep : pl ≠ p := ne_of hat ep (by intro z; cases z)
  have S0 : Same H Hd := s0'.trans (sa.trans (sb.trans (sc.trans sd)))
  have np' : H p = none := none_back s0' np
  refine ⟨_, rfl, p, .ref pl, rfl, ?_, ?_⟩
  · have h := DGet.k (k := Sum.inl (w5.size : Int)) (upd_same (H := Hd) (a := p) (o := .dK (mergeK [] (stepKs p1 p2 p3))))
    rw [stepKs_at p1 p2 p3 w5, hpl] at h
    exact h
  generalize hHe : upd Hd p _ = He
  have Se : Same H He := by rw [← hHe]; exact same_mut S0 np'
  have hpe : He pl = some (.lst [.int x0, .int x1, .int x2, .int x3]) := by
    rw [← hHe, upd_ne nep]
    exact hat
  have Te := hT.same Se
  have plt : pl ≠ t := fun z => by
    obtain ⟨_, _, _, e, _⟩ := Te.tp
    rw [← z, hpe] at e
    cases e
  refine ⟨_, rfl, _, rfl, t, s0, 4, rfl, Te, by decide, fun n H1 T1 b1 n0 n1 => ?_⟩
  obtain ⟨v, hv, st, rfl⟩ := drawn (P := fun v => ∃ x : Int, v = V.int x) (xs := [V.int x0, V.int x1, V.int x2, V.int x3]) ⟨⟨_, rfl⟩, ⟨_, rfl⟩, ⟨_, rfl⟩, ⟨_, rfl⟩, trivial⟩ n0 (n1 (by decide))
  refine ⟨pl, _, n, _, rfl, rfl, SqL.has (b1.one plt hpe), hv, ?_⟩
  refine ⟨_, rfl, t, s0, 256, rfl, T1, by decide, fun n2 H2 T2 b2 n20 n21 => ?_⟩
  refine ⟨_, rfl, _, rfl, t, s0, _, rfl, T2, by omega, fun n3 H3 T3 b3 n30 n31 => ?_⟩
  have n22 := n21 (by decide)
  have n32 := n31 (by omega)
  refine ⟨_, _, rfl, rfl, .inl ⟨by decide, by decide⟩, _, _, rfl, rfl, ⟨by omega, by omega, by omega⟩, ?_⟩
  generalize (n2 * 2 ^ (8 * n3).toNat : Int) = bs
  have B3 : But [t] H H3 := (but_same Se).trans ((b1.trans b2).trans b3)
  refine ⟨_, rfl, m, rfl, by omega, by omega, fun D nD => ?_⟩
  have hDn : H D = none := none_tape B3 T3 nD
  refine walk_any (walk_range (lo := 0) (n := (m : Int).toNat)) (fun i H4 => Tape H4 t s0 ∧ But [t] H H4 ∧ ∃ ns : List Int, H4 D = some (.lst (ns.map V.int)) ∧ ns.length = i)
    ⟨T3.same (same_new nD), B3.trans (but_same (same_new nD)), [], upd_same, rfl⟩ (fun _ _ _ _ => trivial) (fun i x H4 H4' hi hw hy => ?_) (fun H4 hw => ?_)
  · obtain ⟨Tz, Bz, ns, hD, hl⟩ := hw
    obtain ⟨rfl, rfl⟩ := hy
    have Ds : D ≠ s0 := fun z => by
      obtain ⟨_, e⟩ := hT.sc
      rw [← z, hDn] at e
      cases e
    refine ⟨rfl, _, rfl, _, rfl, _, rfl, _, _, rfl, rfl, .inl ⟨by omega, by omega⟩, _, _, rfl, rfl, .inl ⟨_, rfl, ?_⟩⟩
    refine ⟨_, rfl, _, _, rfl, rfl, .inl ⟨by decide, by decide⟩, _, _, rfl, rfl, ⟨by omega, by omega, by decide⟩, ?_⟩
    refine ⟨_, _, rfl, rfl, by rw [Int.one_mul]; exact two_pow_pos _, _, hD, small_lt (by rw [List.length_map]; omega), ?_⟩
    refine ⟨Tz.but (but_upd (ex := [D]) (by simp)) (by simpa using (ne_tape hT hDn).symm) (by simpa using Ds.symm), but_mut Bz hDn, app_ints hl⟩
  · obtain ⟨Tz, Bz, ns, hD, hl⟩ := hw
    exact q D ns H4 (by omega) hD hDn Tz Bz
def headS (d : D) : Prop := ∃ (x : Str) (r : List D), d = .tup (.str x :: r)
def sp_law_not_empty : Sp := fun vs H Q _ => ∃ (t s : Addr) (v : V) (its : List D), vs = [.ref t, v] ∧ Tape H t s ∧ Has H v (.tup its) ∧ its.length ≤ 900 ∧ (∀ d ∈ its, headS d) ∧
  ∀ v' (its' : List D) H', its' = its ∨ (∃ i : Int, its' = its ++ [.tup [.str "literal", .tup [.int i]]]) → Has H' v' (.tup its') → Tape H' t s → But [t] H H' → Q v' H'
theorem ok_law_not_empty (T : Txt w K mg dW aC) (F : Dn K mg "_law_not_empty" st_law_not_empty) (C_law_draw : Cal P w K mg base 1 "_law_draw" sp_law_draw) : Cal P w K mg base 2 "_law_not_empty" sp_law_not_empty := by
  refine cal_mk F sc_l_not_empty bd_law_not_empty (fun vs H Q E h => ?_) (fun f cdv A outer s H vs Q E hr h => ?_)
  · obtain ⟨t, s, v, its, rfl, _⟩ := h
    rfl
  obtain ⟨t, s0, v, its, rfl, hT, hv, hil, hih, q⟩ := h
  refine ⟨_, (pss_cons (ps_if (pt_truth (pe_lc (own := [("_law_item", 2)]) (g := (gName 2)) rfl sc_l_not_empty.nd (pi_tup (pv 1)) (blkOk_by (own := [("_law_item", 2)]) (N := N_law_not_empty) (sc := defScope st_law_not_empty) (by decide +kernel)) (fun _ _ _ _ _ => (pg_name (i := 2) sc_l_not_empty.nd rfl (Or.inl rfl))) (fun _ _ _ _ _ => pts_one (pt_cmpR (op_in_seqK (K := K) rfl) (pe_ix (ix_tupK (K := K) rfl) (pv 2) pe_int (fun _ _ => rfl)) (pe_tup (pa_cons pe_str (pa_cons pe_str (pa_cons pe_str (pa_cons pe_str (pa_cons pe_str pa_nil)))))) (by rfl))) (fun _ _ _ _ _ => (pv 2))) (by intro _; rfl))
      (pss_one (ps_ret (pv 1)))
      pss_nil)
    (pss_one (ps_ret (pe_op op_catA (pv 1) (pe_tup (pa_cons (pe_tup (pa_cons pe_str (pa_cons (pe_tup (pa_cons (pe_k C_law_draw hr (by omega) (by rfl) (pa_cons (pv 0) (pa_cons pe_int pa_nil))) pa_nil)) pa_nil))) pa_nil)))))), ?_⟩
  obtain ⟨a, vs, rfl, ha, hl⟩ := hv.tupI
  refine ⟨_, rfl, a, rfl, ⟨_, SqT.has ha⟩, fun D nD => ?_⟩
  refine walk_any (walk_tup (xs := vs)) (fun i H4 => Same H H4 ∧ ∃ acc, H4 D = some (.lst acc) ∧ acc.length ≤ i)
    ⟨same_new nD, [], upd_same, Nat.le_refl _⟩ (fun i H4 _ hw => SqT.has (hw.1 _ _ ha)) (fun i x H4 H4' hi hw hy => ?_) (fun H4 hw => ?_)
  · obtain ⟨s4, acc, hD, hal⟩ := hw
    obtain ⟨rfl, hx⟩ := hy
    have hvl : vs.length ≤ 900 := by rw [hl.len]; exact hil
    obtain ⟨d, hd, hxd⟩ := hl.getV hx
    obtain ⟨y, r, rfl⟩ := hih d (List.mem_of_getElem? hd)
    obtain ⟨b, us, rfl, hb, hus⟩ := hxd.tupI
    obtain ⟨us1, rfl, _⟩ := invS hus
    refine ⟨rfl, _, rfl, b, _, 0, _, rfl, rfl, SqT.has (s4 _ _ hb), i0, szl _, fun z nz => ?_⟩
    refine ⟨z, _, rfl, .inr (SqT.has upd_same), rfl, rfl, _, rfl, ?_⟩
    have s5 := s4.trans (same_new (o := .tup [V.str "word", V.str "choice", V.str "literal", V.str "reserved", V.str "check"]) nz)
    have hD5 := same_new (o := .tup [V.str "word", V.str "choice", V.str "literal", V.str "reserved", V.str "check"]) nz _ _ hD
    have hDn : H D = none := nD
    show (if (if false = true then _ else _) = true then _ else _)
    rw [if_neg Bool.false_ne_true]
    cases inV (.str y) [V.str "word", V.str "choice", V.str "literal", V.str "reserved", V.str "check"] with
    | true => exact ⟨_, rfl, acc, hD5, small_lt (by omega), same_mut s5 hDn, _, upd_same, by rw [List.length_append]; simp; omega⟩
    | false => exact ⟨s5, acc, hD5, by omega⟩
  · obtain ⟨s4, acc, hD, hal⟩ := hw
    refine ⟨_, .inl ⟨acc, SqL.has hD, rfl⟩, ?_⟩
    cases acc with
    | nil =>
      refine iteF ⟨_, rfl, _, rfl, t, s0, 256, rfl, hT.same s4, by decide, fun n H5 T5 b5 _ _ => ⟨szl _, fun p np => ⟨szl _, fun p2 np2 => ⟨szl _, fun p3 np3 => ?_⟩⟩⟩⟩
      have B5 : But [t] H H5 := (but_same s4).trans b5
      have k5 := kt_tape B5 hT
      have s6 := ((same_new (o := .tup [.int n]) np).trans (same_new (o := .tup [.str "literal", .ref p]) np2)).trans (same_new (o := .tup [.ref p2]) np3)
      have h1 : Has _ (.ref p) (.tup [.int n]) := Has.new (.cons (.int n) .nil) np
      have h2 : Has _ (.ref p2) (.tup [.str "literal", .tup [.int n]]) := Has.new (.cons (.str _) (.cons h1 .nil)) np2
      have h3 : Has _ (.ref p3) (.tup [.tup [.str "literal", .tup [.int n]]]) := Has.new (.cons h2 .nil) np3
      refine cat_has ((hv.mono k5).mono (kt_same s6)) h3 (by simp; omega) fun v' H' sx hv' => ?_
      exact q v' _ H' (.inr ⟨n, rfl⟩) hv' ((T5.same s6).same sx) (B5.trans ((but_same s6).trans (but_same sx)))
    | cons x r => exact iteT ⟨_, rfl, q _ its _ (.inl rfl) (hv.mono (kt_same s4)) (hT.same s4) (but_same s4)⟩
/-- _law_fixed -/
def sp_law_fixed : Sp := fun vs H Q _ => ∃ (t s : Addr), vs = [.ref t] ∧ Tape H t s ∧
  ∀ v (it : D) (m : Int) H', (∀ LR, ∃ rs, IRes LR it rs) → headS it → Has H' v (.tup [it, .int m]) → Tape H' t s → But [t] H H' → Q v H'
theorem ok_law_fixed (T : Txt w K mg dW aC) (F : Dn K mg "_law_fixed" st_law_fixed) (C_law_draw : Cal P w K mg base 1 "_law_draw" sp_law_draw) : Cal P w K mg base 2 "_law_fixed" sp_law_fixed := by
  refine cal_mk F sc_l_fixed bd_law_fixed (fun vs H Q E h => ?_) (fun f cdv A outer s H vs Q E hr h => ?_)
  · obtain ⟨t, s, rfl, _⟩ := h
    rfl
  obtain ⟨t, s0, rfl, hT, q⟩ := h
  refine ⟨_, (pss_cons (ps_set (i := 1) sc_l_fixed.nd rfl (Or.inl rfl) (pe_k C_law_draw hr (by omega) (by rfl) (pa_cons (pv 0) (pa_cons pe_int pa_nil))))
    (pss_cons (ps_set (i := 2) sc_l_fixed.nd rfl (Or.inl rfl) (pe_ix ix_list (pe_lst (pa_cons pe_int (pa_cons pe_int (pa_cons pe_int (pa_cons (pe_op op_add pe_int (pe_k C_law_draw hr (by omega) (by rfl) (pa_cons (pv 0) (pa_cons pe_int pa_nil)))) pa_nil))))) (pe_k C_law_draw hr (by omega) (by rfl) (pa_cons (pv 0) (pa_cons pe_int pa_nil))) (fun _ _ => rfl)))
    (pss_cons (ps_if (pt_cmpR op_lt (pv 1) pe_int (nomark _))
      (pss_one (ps_ret (pe_tup (pa_cons (pe_tup (pa_cons pe_str (pa_cons (pe_ix ix_list (pe_lst (pa_cons pe_str (pa_cons pe_str pa_nil))) (pv 1) (fun _ _ => rfl)) pa_nil))) (pa_cons pe_int pa_nil)))))
      pss_nil)
    (pss_cons (ps_if (pt_cmpR op_eq (pv 1) pe_int (nomark _))
      (pss_one (ps_ret (pe_tup (pa_cons (pe_tup (pa_cons pe_str (pa_cons (pv 2) pa_nil))) (pa_cons (pv 2) pa_nil)))))
      pss_nil)
    (pss_cons (ps_if (pt_cmpR op_eq (pv 1) pe_int (nomark _))
      (pss_one (ps_ret (pe_tup (pa_cons (pe_tup (pa_cons pe_str (pa_cons pe_str (pa_cons (pe_tup (pa_cons (pe_tup (pa_cons pe_non (pa_cons pe_int (pa_cons pe_bl (pa_cons pe_non (pa_cons pe_non pa_nil)))))) (pa_cons (pe_tup (pa_cons pe_non (pa_cons pe_int (pa_cons pe_bl (pa_cons pe_non (pa_cons pe_non pa_nil)))))) pa_nil))) pa_nil)))) (pa_cons pe_int pa_nil)))))
      pss_nil)
    (pss_one (ps_ret (pe_tup (pa_cons (pe_tup (pa_cons pe_str (pa_cons (pe_callTy call_tuple_of (by rfl) T.b_tuple (by decide +kernel) (pa_cons (pe_lc (own := [("_law_k", 3)]) (g := (gName 3)) (tt := tYes) rfl sc_l_fixed.nd (pi_range1 (by rfl) T.b_range (pa_cons (pv 2) pa_nil)) (blkOk_by (own := [("_law_k", 3)]) (N := N_law_fixed) (sc := defScope st_law_fixed) (by decide +kernel)) (fun _ _ _ _ _ => (pg_name (i := 3) sc_l_fixed.nd rfl (Or.inl rfl))) (fun _ _ _ _ _ => pts_nil) (fun _ _ _ _ _ => (pe_k C_law_draw hr (by omega) (by rfl) (pa_cons (pv 0) (pa_cons pe_int pa_nil))))) pa_nil)) pa_nil))) (pa_cons (pv 2) pa_nil)))))))))), ?_⟩
  refine ⟨_, rfl, t, s0, 6, rfl, hT, by decide, fun sh H1 T1 b1 sh0 sh1 => ?_⟩
  refine ⟨_, rfl, t, s0, 60, rfl, T1, by decide, fun n H2 T2 b2 n0 n1 => ?_⟩
  have n2 := n1 (by decide)
  refine ⟨_, _, rfl, rfl, szl _, fun g ng => ?_⟩
  refine ⟨_, rfl, t, s0, 4, rfl, T2.same (same_new ng), by decide, fun m H3 T3 b3 m0 m1 => ?_⟩
  have hg := b3.one (ne_tape T2 ng) (upd_same (H := H2))
  obtain ⟨v, hv, many, rfl, hm1, hm2⟩ := drawn (P := fun v => ∃ x : Int, v = V.int x ∧ 1 ≤ x ∧ x ≤ 60) (xs := [V.int 1, V.int 2, V.int 3, V.int (1 + n)])
    ⟨⟨_, rfl, by decide, by decide⟩, ⟨_, rfl, by decide, by decide⟩, ⟨_, rfl, by decide, by decide⟩, ⟨_, rfl, by omega, by omega⟩, trivial⟩ m0 (m1 (by decide))
  refine ⟨g, _, m, _, rfl, rfl, SqL.has hg, hv, ?_⟩
  have B3 : But [t] H H3 := ((b1.trans b2).trans (but_same (same_new ng))).trans b3
  clear hv hg
  refine ⟨_, rfl, _, _, rfl, rfl, _, rfl, ite_by (fun c => ?_) (fun c => ?_)⟩
  · -- a check
    refine ⟨szl _, fun p np => ?_⟩
    obtain ⟨v, hv, x, rfl⟩ := drawn (P := fun v => ∃ x : Str, v = V.str x) (xs := [V.str "sum", V.str "xor"]) ⟨⟨_, rfl⟩, ⟨_, rfl⟩, trivial⟩ sh0 (show sh < 2 from c)
    refine ⟨_, rfl, p, _, sh, _, rfl, rfl, SqL.has upd_same, hv, szl _, fun p2 np2 => ?_⟩
    refine ⟨szl _, fun p3 np3 => ?_⟩
    have s6 := ((same_new (o := .lst [V.str "sum", V.str "xor"]) np).trans (same_new (o := .tup [.str "check", .str x]) np2)).trans (same_new (o := .tup [.ref p2, .int 1]) np3)
    exact q _ (.tup [.str "check", .str x]) 1 _ (fun LR => ⟨[], .fixed _ (.chk _)⟩) ⟨_, _, rfl⟩ (Has.new (.cons (Has.new (.cons (.str _) (.cons (.str _) .nil)) np2) (.cons (.int _) .nil)) np3) (T3.same s6) (B3.trans (but_same s6))
  refine ⟨_, rfl, rfl, _, rfl, ite_by (fun c2 => ?_) (fun c2 => ?_)⟩
  · -- reserved
    refine ⟨_, rfl, szl _, fun p2 np2 => ?_⟩
    refine ⟨_, rfl, szl _, fun p3 np3 => ?_⟩
    have s6 := (same_new (o := .tup [.str "reserved", .int many]) np2).trans (same_new (o := .tup [.ref p2, .int many]) np3)
    exact q _ (.tup [.str "reserved", .int many]) many _ (fun LR => ⟨[], .fixed _ (.res _)⟩) ⟨_, _, rfl⟩ (Has.new (.cons (Has.new (.cons (.str _) (.cons (.int _) .nil)) np2) (.cons (.int _) .nil)) np3) (T3.same s6) (B3.trans (but_same s6))
  refine ⟨_, rfl, rfl, _, rfl, ite_by (fun c3 => ?_) (fun c3 => ?_)⟩
  · -- a word without a name
    refine ⟨szl _, fun p1 np1 => ?_⟩
    refine ⟨szl _, fun p2 np2 => ?_⟩
    refine ⟨szl _, fun p3 np3 => ?_⟩
    refine ⟨szl _, fun p4 np4 => ?_⟩
    refine ⟨szl _, fun p5 np5 => ?_⟩
    have h1 : Has _ (.ref p1) (Part.d ⟨none, 3, false, none, none⟩) := Has.new (.cons .non (.cons (.int 3) (.cons (.bl _) (.cons .non (.cons .non .nil))))) np1
    have h2 : Has _ (.ref p2) (Part.d ⟨none, 5, false, none, none⟩) := Has.new (.cons .non (.cons (.int 5) (.cons (.bl _) (.cons .non (.cons .non .nil))))) np2
    have h3 : Has _ (.ref p3) (.tup [Part.d ⟨none, 3, false, none, none⟩, Part.d ⟨none, 5, false, none, none⟩]) := Has.new (.cons (h1.mono (kt_new np2)) (.cons h2 .nil)) np3
    have h4 : Has _ (.ref p4) (wordD .u8 [⟨none, 3, false, none, none⟩, ⟨none, 5, false, none, none⟩]) := Has.new (.cons (.str _) (.cons (.str _) (.cons h3 .nil))) np4
    have h5 := Has.new (.cons h4 (.cons (.int 3) .nil)) np5
    refine q _ _ 3 _ (fun LR => ⟨_, .word .u8 _ (by decide) fun p hp => ?_⟩) ⟨_, _, rfl⟩ h5 ?_ ?_
    · rcases List.mem_cons.mp hp with rfl | hp
      · exact ⟨(by decide : 3 ≤ 32), trivial⟩
      · rw [List.mem_singleton.mp hp]
        exact ⟨(by decide : 5 ≤ 32), trivial⟩
    · exact ((((T3.same (same_new np1)).same (same_new np2)).same (same_new np3)).same (same_new np4)).same (same_new np5)
    · exact ((((B3.trans (but_same (same_new np1))).trans (but_same (same_new np2))).trans (but_same (same_new np3))).trans (but_same (same_new np4))).trans (but_same (same_new np5))
  -- a literal
  obtain ⟨mn, rfl⟩ : ∃ mn : Nat, many = (mn : Int) := ⟨many.toNat, by omega⟩
  refine ⟨_, rfl, mn, rfl, by omega, by omega, fun D nD => ?_⟩
  have hDn : H D = none := none_tape B3 T3 nD
  have Ds : D ≠ s0 := fun z => by
    obtain ⟨_, e⟩ := hT.sc
    rw [← z, hDn] at e
    cases e
  have Dt : D ≠ t := ne_tape hT hDn
  refine walk_any (walk_range (lo := 0) (n := (mn : Int).toNat)) (fun i H4 => Tape H4 t s0 ∧ But [t] H H4 ∧ ∃ ns : List Int, H4 D = some (.lst (ns.map V.int)) ∧ ns.length = i)
    ⟨T3.same (same_new nD), B3.trans (but_same (same_new nD)), [], upd_same, rfl⟩ (fun _ _ _ _ => trivial) (fun i x H4 H4' hi hw hy => ?_) (fun H4 hw => ?_)
  · obtain ⟨Tz, Bz, ns, hD, hl⟩ := hw
    obtain ⟨rfl, rfl⟩ := hy
    refine ⟨rfl, _, rfl, t, s0, 256, rfl, Tz, by decide, fun n5 H5 T5 b5 _ _ => ?_⟩
    refine ⟨_, b5.one Dt hD, small_lt (by rw [List.length_map]; omega), ?_⟩
    refine ⟨T5.but (but_upd (ex := [D]) (by simp)) (by simpa using Dt.symm) (by simpa using Ds.symm), but_mut (Bz.trans b5) hDn, app_ints hl⟩
  · obtain ⟨Tz, Bz, ns, hD, hl⟩ := hw
    refine ⟨D, _, rfl, .inl ⟨SqL.has hD, fun p1 np1 => ?_⟩⟩
    refine ⟨szl _, fun p2 np2 => ?_⟩
    refine ⟨_, rfl, szl _, fun p3 np3 => ?_⟩
    have h1 : Has _ (.ref p1) (.tup (ns.map Wp.D.int)) := Has.new (HasL.ints ns) np1
    have h2 : Has _ (.ref p2) (.tup [.str "literal", .tup (ns.map Wp.D.int)]) := Has.new (.cons (.str _) (.cons h1 .nil)) np2
    have h3 := Has.new (.cons h2 (.cons (.int (mn : Int)) .nil)) np3
    exact q _ _ mn _ (fun LR => ⟨[], .fixed _ (.lit _)⟩) ⟨_, _, rfl⟩ h3 (((Tz.same (same_new np1)).same (same_new np2)).same (same_new np3)) (((Bz.trans (but_same (same_new np1))).trans (but_same (same_new np2))).trans (but_same (same_new np3)))
end
end Wp

namespace Wp
open PySem PySem.Spec PyProof.Rows L2
section
variable {P : Program} {w : World} {K : PySem.W.Frag} {mg : Str → Option Value} {base : Heap} {dW aC : Addr}

/-! ### _law_rich_word -/
theorem kt_tape2 {H H' : Hp} {t s u : Addr} {us : List V} (b : But [t, u] H H') (h : Tape H t s) (hu : H u = some (.lst us)) : KT H H' := kt_but b fun x hx => by
  rcases List.mem_cons.mp hx with rfl | hx
  · exact h.at
  · rw [List.mem_singleton.mp hx]
    exact ⟨_, hu⟩
def sp_law_rich_word : Sp := fun vs H Q _ => ∃ (t s u : Addr) (us : List Str), vs = [.ref t, .ref u] ∧ Tape H t s ∧ H u = some (.lst (us.map V.str)) ∧ u ≠ t ∧ u ≠ s ∧ us.length ≤ 90000 ∧
  ∀ (w5 : W5) (ps : List Part) (us' : List Str) v H', ps.length ≤ 6 → (∀ p ∈ ps, p.ok) → Has H' v (wordD w5 ps) → Tape H' t s → H' u = some (.lst (us'.map V.str)) → us'.length ≤ us.length + 5 → But [t, u] H H' → Q v H'
theorem ok_law_rich_word (T : Txt w K mg dW aC) (F : Dn K mg "_law_rich_word" st_law_rich_word) (C_law_draw : Cal P w K mg base 1 "_law_draw" sp_law_draw) (C_law_size : Cal P w K mg base 1 "_law_size" sp_law_size) (C_law_any_word : Cal P w K mg base 2 "_law_any_word" sp_law_any_word)
    (C_law_part : Cal P w K mg base 3 "_law_part" sp_law_part) (C_law_a_field : Cal P w K mg base 3 "_law_a_field" sp_law_a_field) : Cal P w K mg base 4 "_law_rich_word" sp_law_rich_word := by
  refine cal_mk F sc_l_rich_word bd_law_rich_word (fun vs H Q E h => ?_) (fun f cdv A outer s H vs Q E hr h => ?_)
  · obtain ⟨t, s, u, us, rfl, _⟩ := h
    rfl
  obtain ⟨t, s0, u, us, rfl, hT, hu, hut, hus, hul, q⟩ := h
  refine ⟨_, (pss_cons (ps_set (i := 2) sc_l_rich_word.nd rfl (Or.inl rfl) (pe_k C_law_any_word hr (by omega) (by rfl) (pa_cons (pv 0) pa_nil)))
    (pss_cons (ps_set (i := 3) sc_l_rich_word.nd rfl (Or.inr rfl) (pe_op op_mul pe_int (pe_k C_law_size hr (by omega) (by rfl) (pa_cons (pv 2) pa_nil))))
    (pss_cons (ps_set (i := 4) sc_l_rich_word.nd rfl (Or.inl rfl) (pe_tup pa_nil))
    (pss_cons (ps_for PassesOwn.never rfl (pi_range1 (by rfl) T.b_range (pa_cons (pe_ix ix_list (pe_lst (pa_cons pe_int (pa_cons pe_int (pa_cons pe_int (pa_cons pe_int pa_nil))))) (pe_k C_law_draw hr (by omega) (by rfl) (pa_cons (pv 0) (pa_cons pe_int pa_nil))) (fun _ _ => rfl)) pa_nil)) (pg_name (i := 5) sc_l_rich_word.nd rfl (Or.inl rfl))
      (pss_one (ps_if (pt_cmpR op_gt (pv 3) pe_int (nomark _))
        (pss_cons (ps_setLc (i := 6) (own := [("_law_width", 7)]) (g := (gName 7)) rfl sc_l_rich_word.nd rfl rfl (sw_true rfl rfl rfl (by decide +kernel)) (pi_list (pe_lst (pa_cons (pv 3) (pa_cons pe_int (pa_cons pe_int (pa_cons pe_int (pa_cons pe_int (pa_cons pe_int (pa_cons pe_int (pa_cons (pv 3) pa_nil)))))))))) (blkOk_by (own := [("_law_width", 7)]) (N := N_law_rich_word) (sc := defScope st_law_rich_word) (by decide +kernel)) (fun _ _ _ _ _ => (pg_name (i := 7) sc_l_rich_word.nd rfl (Or.inl rfl))) (fun _ _ _ _ _ => pts_one (pt_cmpR op_le (pv 7) (pv 3) (nomark _))) (fun _ _ _ _ _ => (pv 7)))
        (pss_cons (ps_set (i := 4) sc_l_rich_word.nd rfl (Or.inl rfl) (pe_op op_catA (pv 4) (pe_tup (pa_cons (pe_k C_law_part hr (by omega) (by rfl) (pa_cons (pv 0) (pa_cons (pv 1) (pa_cons (pe_k C_law_a_field hr (by omega) (by rfl) (pa_cons (pv 0) (pa_cons (pv 6) (pa_cons pe_int pa_nil)))) pa_nil)))) pa_nil))))
        (pss_one (ps_set (i := 3) sc_l_rich_word.nd rfl (Or.inr rfl) (pe_op op_sub (pv 3) (pe_ix ix_tup (pe_ix ix_tup (pv 4) (pe_un un_neg pe_int) (fun _ _ => rfl)) pe_int (fun _ _ => rfl)))))))
        pss_nil)))
    (pss_cut (ps_if (pt_cmpR op_gt (pv 3) pe_int (nomark _))
      (pss_one (ps_set (i := 4) sc_l_rich_word.nd rfl (Or.inl rfl) (pe_op op_catA (pv 4) (pe_tup (pa_cons (pe_tup (pa_cons pe_non (pa_cons (pv 3) (pa_cons pe_bl (pa_cons pe_non (pa_cons pe_non pa_nil)))))) pa_nil)))))
      pss_nil)
    (pss_one (ps_ret (pe_tup (pa_cons pe_str (pa_cons (pv 2) (pa_cons (pv 4) pa_nil))))))))))), ?_⟩
  refine ⟨_, rfl, t, s0, rfl, hT, fun w5 H1 T1 b1 => ?_⟩
  have hsz := w5.size_le
  refine ⟨_, rfl, w5, rfl, fun H2 s2 => ?_⟩
  refine ⟨_, _, rfl, rfl, .inl ⟨by decide, by decide⟩, ?_⟩
  refine ⟨szl _, fun e ne => ?_⟩
  have T2 := T1.same s2
  refine ⟨szl _, fun g ng => ?_⟩
  have T3 := (T2.same (same_new (o := .tup []) ne)).same (same_new (o := .lst [V.int 1, V.int 1, V.int 2, V.int 5]) ng)
  refine ⟨_, rfl, t, s0, 4, rfl, T3, by decide, fun n H4 T4 b4 n0 n1 => ?_⟩
  have hg := b4.one (ne_tape (T2.same (same_new ne)) ng) upd_same
  obtain ⟨v, hv, m, rfl, hm1, hm2⟩ := drawn (P := fun v => ∃ x : Nat, v = V.int x ∧ 1 ≤ x ∧ x ≤ 5) (xs := [V.int 1, V.int 1, V.int 2, V.int 5])
    ⟨⟨1, rfl, by decide, by decide⟩, ⟨1, rfl, by decide, by decide⟩, ⟨2, rfl, by decide, by decide⟩, ⟨5, rfl, by decide, by decide⟩, trivial⟩ n0 (n1 (by decide))
  refine ⟨g, _, n, _, rfl, rfl, SqL.has hg, hv, m, rfl, by omega, by omega, ?_⟩
  have B4 : But [t] H H4 := (((b1.trans (but_same s2)).trans (but_same (same_new ne))).trans (but_same (same_new ng))).trans b4
  have he4 : Has H4 (.ref e) (.tup []) := ((Has.new .nil ne).mono (kt_new ng)).mono (kt_tape b4 T3)
  refine for_range (lo := 0) (n := (m : Int).toNat) (fun i σ' H' => ∃ (l : Nat) (pv : V) (ps : List Part) (y wv : Option V) (us' : List Str), σ' = [some (.ref t), some (.ref u), some (.str w5.str), some (.int l), some pv, y, wv, none] ∧
      l ≤ 32 ∧ i ≤ m ∧ ps.length ≤ i ∧ (∀ p ∈ ps, p.ok) ∧ Has H' pv (.tup (ps.map Part.d)) ∧ Tape H' t s0 ∧ H' u = some (.lst (us'.map V.str)) ∧ us'.length ≤ us.length + i ∧ But [t, u] H H')
    ⟨8 * w5.size, .ref e, [], none, none, us, rfl, by omega, Nat.zero_le _, Nat.le_refl _, (fun _ h => absurd h List.not_mem_nil), he4, T4, B4.one hut hu, Nat.le_refl _, B4.mono (by simp)⟩ (fun i σ' H' hi hw => ?_) (fun σ' H' hw => ?_)
  · obtain ⟨l, pv, ps, y, wv, us', rfl, hl, him, hpl, hpo, hpv, T5, hu5, hul5, B5⟩ := hw
    have hlt : i < m := by omega
    refine ⟨_, rfl, _, _, rfl, rfl, _, rfl, ite_by (fun c => ?_) (fun c => ?_)⟩
    · refine ⟨_, rfl, _, rfl, szl _, fun g5 ng5 => ?_⟩
      refine ⟨g5, rfl, ⟨_, SqL.has upd_same⟩, fun D nD => ?_⟩
      have s6 := (same_new (o := .lst [V.int l, V.int 8, V.int 1, V.int 2, V.int 3, V.int 5, V.int 12, V.int l]) ng5).trans (same_new (o := .lst []) nD)
      have g5D : g5 ≠ D := ne_of_none upd_same nD
      have hDn : H' D = none := none_back (same_new ng5) nD
      refine walk_any (walk_list (xs := [V.int l, V.int 8, V.int 1, V.int 2, V.int 3, V.int 5, V.int 12, V.int l])) (fun j H6 => Same H' H6 ∧ H6 g5 = some (.lst [V.int l, V.int 8, V.int 1, V.int 2, V.int 3, V.int 5, V.int 12, V.int l]) ∧
          ∃ ks : List Nat, H6 D = some (.lst (ks.map fun k => V.int (k : Nat))) ∧ ks.length ≤ j ∧ (1 ≤ j → ks ≠ []) ∧ ∀ k ∈ ks, 1 ≤ k ∧ k ≤ l)
        ⟨s6, same_new nD _ _ upd_same, [], upd_same, Nat.le_refl _, by omega, (fun _ h => absurd h List.not_mem_nil)⟩ (fun j H6 _ hw => SqL.has hw.2.1) (fun j x H6 H6' hj hw hy => ?_) (fun H6 hw => ?_)
      · obtain ⟨s7, hg7, ks, hD, hkl, hkn, hkb⟩ := hw
        obtain ⟨rfl, hx⟩ := hy
        have hal : AllP (fun v => ∃ k : Nat, v = V.int k ∧ 1 ≤ k) [V.int l, V.int 8, V.int 1, V.int 2, V.int 3, V.int 5, V.int 12, V.int l] :=
          ⟨⟨l, rfl, by omega⟩, ⟨8, rfl, by decide⟩, ⟨1, rfl, by decide⟩, ⟨2, rfl, by decide⟩, ⟨3, rfl, by decide⟩, ⟨5, rfl, by decide⟩, ⟨12, rfl, by decide⟩, ⟨l, rfl, by omega⟩, trivial⟩
        obtain ⟨k, rfl, hk1⟩ := hal.mem (List.mem_of_getElem? hx)
        have hj8 : j < 8 := hj
        refine ⟨rfl, _, rfl, _, rfl, _, _, rfl, rfl, _, rfl, ite_by (fun c6 => ?_) (fun c6 => ?_)⟩
        · refine ⟨_, rfl, _, hD, small_lt (by rw [List.length_map]; omega), same_mut s7 hDn, ?_, ks ++ [k], ?_, ?_, by simp, ?_⟩
          · rw [upd_ne g5D]
            exact hg7
          · rw [upd_same, List.map_append]
            rfl
          · rw [List.length_append]
            exact Nat.add_le_add_right hkl 1
          · intro z hz
            rcases List.mem_append.mp hz with h | h
            · exact hkb z h
            · rw [List.mem_singleton.mp h]
              exact ⟨hk1, by omega⟩
        · refine ⟨s7, hg7, ks, hD, by omega, fun _ => hkn ?_, hkb⟩
          cases j with
          | zero =>
            have e2 : V.int (l : Int) = V.int (k : Int) := Option.some.inj hx
            have e3 : (l : Int) = (k : Int) := V.int.inj e2
            omega
          | succ j => omega
      · obtain ⟨s7, hg7, ks, hD, hkl, hkn, hkb⟩ := hw
        have T7 := T5.same s7
        have Dt : D ≠ t := ne_tape T5 hDn
        have hkl8 : ks.length ≤ 8 := hkl
        have hu7 := s7 _ _ hu5
        refine ⟨_, rfl, _, rfl, _, rfl, _, rfl, _, rfl, t, s0, D, ks, rfl, T7, hD, Dt, hkn (Nat.le_of_ble_eq_true rfl), by omega, fun k hk => by have := hkb k hk; omega, fun fv k sg rs H8 hk hrs hfv T8 b8 => ?_⟩
        have hkk := hkb k hk
        have hu8 := b8.one hut hu7
        refine ⟨t, s0, u, us', fv, k, sg, rs, rfl, T8, hu8, hut, hus, by omega, by omega, by omega, hfv, hrs, fun p us2 v9 H9 hpo9 hpw hv9 T9 hu9 hul9 b9 => ?_⟩
        have kt9 := kt_tape2 b9 T8 hu8
        refine ⟨szl _, fun p10 np10 => ?_⟩
        have hpv9 := (((hpv.mono (kt_same s7)).mono (kt_tape b8 T7)).mono kt9).mono (kt_new (o := .tup [v9]) np10)
        refine cat_has hpv9 (Has.new (.cons hv9 .nil) np10) (by rw [List.length_map, List.length_singleton]; omega) fun v' Hz sx hv' => ?_
        obtain ⟨a, vs, rfl, ha, hl9⟩ := hv'.tupI
        obtain ⟨ws, vl, rfl, _, hvl⟩ := snocI hl9
        obtain ⟨b, xs, rfl, hb, hxs⟩ := hvl.tupI
        obtain ⟨x0, xs1, rfl, _, hxs1⟩ := invC hxs
        obtain ⟨xs2, rfl, _⟩ := invI hxs1
        refine ⟨_, rfl, _, rfl, _, rfl, a, _, _, _, rfl, rfl, SqT.has ha, atI_last _ _, ?_⟩
        refine ⟨b, _, 1, _, rfl, rfl, SqT.has hb, i1, _, _, rfl, rfl, ?_⟩
        have sl := (same_new (o := .tup [v9]) np10).trans sx
        refine ⟨l - k, .ref a, ps ++ [p], some (.int (0 + (i : Int))), some (.ref D), us2, ?_, by omega, by omega, ?_, ?_, ?_, T9.same sl, sl _ _ hu9, by omega, ((((B5.trans (but_same s7)).trans (b8.mono (by simp))).trans b9).trans (but_same sl))⟩
        · rw [hpw, show ((l - k : Nat) : Int) = (l : Int) - (k : Int) by omega]
          rfl
        · rw [List.length_append]
          exact Nat.add_le_add_right hpl 1
        · intro z hz
          rcases List.mem_append.mp hz with h | h
          · exact hpo z h
          · rw [List.mem_singleton.mp h]
            exact hpo9
        · rw [List.map_append]
          exact .tup ha hl9
    · exact ⟨l, pv, ps, _, wv, us', rfl, hl, by omega, by omega, hpo, hpv, T5, hu5, by omega, B5⟩
  obtain ⟨l, pv, ps, y, wv, us', rfl, hl, him, hpl, hpo, hpv, T5, hu5, hul5, B5⟩ := hw
  refine ⟨fun σ' H'' => ∃ (pv : V) (ps : List Part), σ' = [some (.ref t), some (.ref u), some (.str w5.str), some (.int l), some pv, y, wv, none] ∧ ps.length ≤ 6 ∧ (∀ p ∈ ps, p.ok) ∧ Has H'' pv (.tup (ps.map Part.d)) ∧ Same H' H'', ?_, fun σ' H'' hM => ?_⟩
  · refine ⟨_, rfl, _, _, rfl, rfl, _, rfl, ite_by (fun c => ?_) (fun c => ?_)⟩
    · refine ⟨_, rfl, _, rfl, szl _, fun p1 np1 => ?_⟩
      refine ⟨szl _, fun p2 np2 => ?_⟩
      have h1 : Has _ (.ref p1) (Part.d ⟨none, l, false, none, none⟩) := Has.new (.cons .non (.cons (.int l) (.cons (.bl _) (.cons .non (.cons .non .nil))))) np1
      refine cat_has ((hpv.mono (kt_new np1)).mono (kt_new np2)) (Has.new (.cons h1 .nil) np2) (by rw [List.length_map, List.length_singleton]; omega) fun v' Hz sx hv' => ?_
      refine ⟨v', ps ++ [⟨none, l, false, none, none⟩], rfl, ?_, ?_, ?_, (((same_new np1).trans (same_new np2)).trans sx)⟩
      · rw [List.length_append, List.length_singleton]
        omega
      · intro z hz
        rcases List.mem_append.mp hz with h | h
        · exact hpo z h
        · rw [List.mem_singleton.mp h]
          exact ⟨hl, trivial⟩
      · rw [List.map_append]
        exact hv'
    · exact ⟨pv, ps, rfl, by omega, hpo, hpv, fun _ _ e => e⟩
  obtain ⟨pv, ps, rfl, hpl, hpo, hpv, s8⟩ := hM
  refine ⟨_, rfl, _, rfl, szl _, fun p1 np1 => ?_⟩
  have s9 := s8.trans (same_new (o := .tup [.str "word", .str w5.str, pv]) np1)
  exact q w5 ps us' _ _ hpl hpo (Has.new (.cons (.str _) (.cons (.str _) (.cons hpv .nil))) np1) (T5.same s9) (s9 _ _ hu5) (by omega) (B5.trans (but_same s9))
end
end Wp

namespace Wp
open PySem PySem.Spec PyProof.Rows L2
section
variable {P : Program} {w : World} {K : PySem.W.Frag} {mg : Str → Option Value} {base : Heap} {dW aC : Addr}

/-! ### _law_rich_choice -/
theorem paired_rev {α β : Type} {R : α → β → Prop} : ∀ {xs : List α} {ys : List β}, Paired R xs ys → Paired R xs.reverse ys.reverse
  | _, _, .nil => .nil
  | _, _, .cons h t => by
    rw [List.reverse_cons, List.reverse_cons]
    exact paired_app (paired_rev t) (.cons h .nil)
def LRof : Nat → D → D → Prop
  | 0 => fun _ _ => False
  | n + 1 => LRes n
theorem lres_of {n : Nat} {its : List D} {rss : List (List D)} (hl : its.length ≤ 1000) (hP : Paired (IRes (LRof n)) its rss) : LRes n (.tup its) (.tup rss.flatten) := by
  cases n with
  | zero => exact ⟨its, rss, rfl, hl, hP, rfl⟩
  | succ n => exact ⟨its, rss, rfl, hl, hP, rfl⟩
theorem ite_tC {c : Prop} [Decidable c] {a b x : V} {σ : L2.St} {H : Hp} {Q : VK} (hx : x = if c then a else b) (h : Q x H) : if decide c = true then tC a σ H Q else tC b σ H Q := by
  subst hx
  by_cases hc : c
  · rw [if_pos hc] at h
    exact ite_yes hc h
  · rw [if_neg hc] at h
    exact ite_no hc h
def sp_law_rich (n : Nat) : Sp := fun vs H Q _ => ∃ (t s : Addr) (d room : Int), vs = [.ref t, .int d, .int room] ∧ d = n ∧ Tape H t s ∧
  ∀ v (its : List D) (rss : List (List D)) (m : Int) H', its.length ≤ 9 → Paired (IRes (LRof n)) its rss → Has H' v (.tup [.tup its, .int m]) → Tape H' t s → But [t] H H' → Q v H'
def sp_law_choice (n : Nat) : Sp := fun vs H Q _ => ∃ (t s : Addr) (nm : Str) (d room : Int), vs = [.ref t, .str nm, .int d, .int room] ∧ d = n + 1 ∧ Tape H t s ∧
  ∀ v (it r : D) (m : Int) H', CRes (LRes n) it r → Has H' v (.tup [it, .int m]) → Tape H' t s → But [t] H H' → Q v H'
theorem ok_law_rich_choice {n a : Nat} (ha : 3 ≤ a) (T : Txt w K mg dW aC) (F : Dn K mg "_law_rich_choice" st_law_rich_choice) (C_law_draw : Cal P w K mg base 1 "_law_draw" sp_law_draw) (C_law_any_word : Cal P w K mg base 2 "_law_any_word" sp_law_any_word)
    (C_law_name : Cal P w K mg base 2 "_law_name" sp_law_name) (C_law_case_numbers : Cal P w K mg base 2 "_law_case_numbers" sp_law_case_numbers) (C_law_rich : Cal P w K mg base a "_law_rich" (sp_law_rich n)) : Cal P w K mg base (a + 1) "_law_rich_choice" (sp_law_choice n) := by
  refine cal_mk F sc_l_rich_choice bd_law_rich_choice (fun vs H Q E h => ?_) (fun f cdv A outer s H vs Q E hr h => ?_)
  · obtain ⟨t, s, nm, d, room, rfl, _⟩ := h
    rfl
  obtain ⟨t, s0, nm, d, room, rfl, hd, hT, q⟩ := h
  refine ⟨_, (pss_cons (ps_set (i := 4) sc_l_rich_choice.nd rfl (Or.inl rfl) (pe_k C_law_any_word hr (by omega) (by rfl) (pa_cons (pv 0) pa_nil)))
    (pss_cons (ps_set (i := 5) sc_l_rich_choice.nd rfl (Or.inl rfl) (pe_ix ix_list (pe_lst (pa_cons pe_int (pa_cons pe_int (pa_cons pe_int (pa_cons (pe_ifExp (pt_cmpR op_gt (pv 2) pe_int (nomark _)) pe_int pe_int) pa_nil))))) (pe_k C_law_draw hr (by omega) (by rfl) (pa_cons (pv 0) (pa_cons pe_int pa_nil))) (fun _ _ => rfl)))
    (pss_cons (ps_set (i := 6) sc_l_rich_choice.nd rfl (Or.inl rfl) (pe_cmpR op_eq (pe_k C_law_draw hr (by omega) (by rfl) (pa_cons (pv 0) (pa_cons pe_int pa_nil))) pe_int (nomark _)))
    (pss_cons (ps_set (i := 7) sc_l_rich_choice.nd rfl (Or.inl rfl) (pe_k C_law_rich hr (by omega) (by rfl) (pa_cons (pv 0) (pa_cons (pe_op op_sub (pv 2) pe_int) (pa_cons (pe_op op_sub (pe_op op_fdiv (pe_op op_sub (pv 3) pe_int) (pv 5)) pe_int) pa_nil)))))
    (pss_cons (ps_set (i := 8) sc_l_rich_choice.nd rfl (Or.inl rfl) (pe_tup pa_nil))
    (pss_cons (ps_set (i := 9) sc_l_rich_choice.nd rfl (Or.inl rfl) (pe_lst pa_nil))
    (pss_cons (ps_set (i := 10) sc_l_rich_choice.nd rfl (Or.inl rfl) pe_int)
    (pss_cons (ps_for PassesOwn.never rfl (pi_list (pe_k C_law_case_numbers hr (by omega) (by rfl) (pa_cons (pv 0) (pa_cons (pv 4) (pa_cons (pv 5) pa_nil))))) (pg_name (i := 11) sc_l_rich_choice.nd rfl (Or.inl rfl))
      (pss_cons (ps_expr (pe_bm PySem.F.plainAttrs_list PySem.F.slot_list_append PySem.F.type_list_append mt_append (pv 9) (pa_cons (pe_k C_law_name hr (by omega) (by rfl) (pa_cons (pv 0) (pa_cons (pv 9) pa_nil))) pa_nil)))
      (pss_cons (ps_set (i := 8) sc_l_rich_choice.nd rfl (Or.inl rfl) (pe_op op_catA (pv 8) (pe_tup (pa_cons (pe_tup (pa_cons (pv 11) (pa_cons (pe_ix ix_list (pv 9) (pe_un un_neg pe_int) (fun _ _ => rfl)) (pa_cons (pe_ix ix_tup (pv 7) pe_int (fun _ _ => rfl)) pa_nil)))) pa_nil))))
      (pss_cons (ps_set (i := 10) sc_l_rich_choice.nd rfl (Or.inl rfl) (pe_op op_add (pe_op op_add (pv 10) pe_int) (pe_ix ix_tup (pv 7) pe_int (fun _ _ => rfl))))
      (pss_one (ps_set (i := 7) sc_l_rich_choice.nd rfl (Or.inl rfl) (pe_ifExp (pt_truth (pv 6) (by intro _; rfl)) (pe_tup (pa_cons (pe_revT (pe_ix ix_tup (pv 7) pe_int (fun _ _ => rfl))) (pa_cons (pe_ix ix_tup (pv 7) pe_int (fun _ _ => rfl)) pa_nil))) (pe_k C_law_rich hr (by omega) (by rfl) (pa_cons (pv 0) (pa_cons (pe_op op_sub (pv 2) pe_int) (pa_cons (pe_op op_sub (pe_op op_fdiv (pe_op op_sub (pv 3) pe_int) (pv 5)) pe_int) pa_nil)))))))))))
    (pss_one (ps_ret (pe_tup (pa_cons (pe_tup (pa_cons pe_str (pa_cons (pv 1) (pa_cons (pv 4) (pa_cons (pv 8) pa_nil))))) (pa_cons (pv 10) pa_nil))))))))))))), ?_⟩
  refine ⟨_, rfl, t, s0, rfl, hT, fun w5 H1 T1 b1 => ?_⟩
  -- many
  refine ⟨_, rfl, _, _, rfl, rfl, _, rfl, ite_tC (x := .int (if (2 : Int) < d then 9 else 6)) (by split <;> rfl) ?_⟩
  refine ⟨szl _, fun g ng => ?_⟩
  refine ⟨_, rfl, t, s0, 4, rfl, T1.same (same_new ng), by decide, fun n2 H2 T2 b2 n20 n21 => ?_⟩
  have hg := b2.one (ne_tape T1 ng) upd_same
  obtain ⟨v, hv, m, rfl, hm1, hm2⟩ := drawn (P := fun v => ∃ x : Nat, v = V.int x ∧ 1 ≤ x ∧ x ≤ 9) (xs := [V.int 1, V.int 2, V.int 3, V.int (if (2 : Int) < d then 9 else 6)])
    ⟨⟨1, rfl, by decide, by decide⟩, ⟨2, rfl, by decide, by decide⟩, ⟨3, rfl, by decide, by decide⟩, by split <;> first | exact ⟨9, rfl, by decide, by decide⟩ | exact ⟨6, rfl, by decide, by decide⟩, trivial⟩ n20 (n21 (by decide))
  refine ⟨g, _, n2, _, rfl, rfl, SqL.has hg, hv, ?_⟩
  have B2 : But [t] H H2 := (b1.trans (but_same (same_new ng))).trans b2
  clear hg hv
  -- alike
  refine ⟨_, rfl, t, s0, 3, rfl, T2, by decide, fun n3 H3 T3 b3 _ _ => ⟨rfl, ?_⟩⟩
  have B3 := B2.trans b3
  generalize (decide (V.int n3 = V.int 0)) = al
  -- told
  refine ⟨_, rfl, _, rfl, _, _, rfl, rfl, _, rfl, _, _, rfl, rfl, _, rfl, _, _, rfl, rfl, ⟨by omega, by omega⟩, _, _, rfl, rfl, ?_⟩
  refine ⟨t, s0, _, _, rfl, by omega, T3, fun tv its rss sp H4 hil hP htv T4 b4 => ?_⟩
  have B4 := B3.trans b4
  refine ⟨szl _, fun e ne => ?_⟩
  refine ⟨szl _, fun g2 ng2 => ?_⟩
  have s5 := (same_new (o := .tup []) ne).trans (same_new (o := .lst []) ng2)
  have hgn : H g2 = none := none_tape (B4.trans (but_same (same_new ne))) (T4.same (same_new ne)) ng2
  have he : Has (upd (upd H4 e (.tup [])) g2 (.lst [])) (.ref e) (.tup []) := (Has.new .nil ne).mono (kt_new ng2)
  generalize hH5 : upd (upd H4 e (.tup [])) g2 (.lst []) = H5 at *
  have hg5 : H5 g2 = some (.lst []) := by rw [← hH5]; exact upd_same
  have T5 := T4.same s5
  have gt : g2 ≠ t := ne_tape hT hgn
  have gs : g2 ≠ s0 := fun z => by
    obtain ⟨_, e⟩ := hT.sc
    rw [← z, hgn] at e
    cases e
  refine ⟨_, rfl, _, rfl, _, rfl, t, s0, w5, m, rfl, T5, by omega, fun p ns H6 hlen hp hpn T6 b6 => ?_⟩
  have pg : g2 ≠ p := fun z => by
    rw [← z, hg5] at hpn
    cases hpn
  have pt : p ≠ t := ne_tape T5 hpn
  have B6 := (B4.trans (but_same s5)).trans b6
  refine ⟨p, rfl, ⟨_, SqL.has hp⟩, ?_⟩
  refine for_list (xs := ns.map V.int) (fun i σ H' => ∃ (tv pv : V) (its : List D) (rss : List (List D)) (ss sp : Int) (cs : List Case) (nms : List Str) (y : Option V),
      σ = [some (.ref t), some (.str nm), some (.int d), some (.int room), some (.str w5.str), some (.int m), some (.bl al), some tv, some pv, some (.ref g2), some (.int ss), y] ∧
      i ≤ 9 ∧ cs.length = i ∧ (∀ c ∈ cs, LRes n c.lay c.res) ∧ Has H' tv (.tup [.tup its, .int sp]) ∧ its.length ≤ 9 ∧ Paired (IRes (LRof n)) its rss ∧ Has H' pv (.tup (cs.map Case.d)) ∧ H' g2 = some (.lst (nms.map V.str)) ∧ nms.length = i ∧
      Tape H' t s0 ∧ H' p = some (.lst (ns.map V.int)) ∧ But [t] H H')
    ⟨tv, .ref e, its, rss, 5, sp, [], [], none, rfl, Nat.zero_le _, rfl, (fun _ h => absurd h List.not_mem_nil), (htv.mono (kt_same s5)).mono (kt_tape b6 T5), hil, hP, he.mono (kt_tape b6 T5), b6.one gt hg5, rfl, T6, hp, B6⟩
    (fun i σ H' _ hw => ?_) (fun i x σ H' hx hw => ?_) (fun σ H' hw => ?_)
  · obtain ⟨_, _, _, _, _, _, _, _, _, _, _, _, _, _, _, _, _, _, _, _, h, _⟩ := hw
    exact SqL.has h
  · obtain ⟨tv, pv, its, rss, ss, sp, cs, nms, y, rfl, hi9, hcl, hcs, htv, hil, hP, hpv, hg, hnl, T7, hp7, B7⟩ := hw
    have hi : i < ns.length := by
      have := (List.getElem?_eq_some_iff.mp hx).1
      rwa [List.length_map] at this
    rw [List.getElem?_map] at hx
    obtain ⟨num, hn, rfl⟩ := Option.map_eq_some_iff.mp hx
    -- a name
    refine ⟨_, rfl, .inl ⟨rfl, _, SqL.has hg⟩, ?_⟩
    refine ⟨_, rfl, _, rfl, t, s0, g2, nms, rfl, T7, hg, gt, by omega, fun nm2 H8 T8 b8 => ?_⟩
    have hg8 := b8.one gt hg
    refine ⟨g2, _, _, rfl, rfl, hg8, small_lt (by rw [List.length_map]; omega), ?_⟩
    have kt8 := (kt_tape b8 T7).trans (kt_upd (ys := nms.map V.str ++ [.str nm2]) hg8)
    have hp8 : upd H8 g2 (.lst (nms.map V.str ++ [.str nm2])) p = some (.lst (ns.map V.int)) := by
      rw [upd_ne (fun z => pg z.symm)]
      exact b8.one pt hp7
    have B8 : But [t] H (upd H8 g2 (.lst (nms.map V.str ++ [.str nm2]))) := but_mut (B7.trans b8) hgn
    have T9 : Tape (upd H8 g2 (.lst (nms.map V.str ++ [.str nm2]))) t s0 := T8.but (but_upd (ex := [g2]) (by simp)) (by simpa using gt.symm) (by simpa using gs.symm)
    have hg9 : upd H8 g2 (.lst (nms.map V.str ++ [.str nm2])) g2 = some (.lst ((nms ++ [nm2]).map V.str)) := by
      rw [upd_same, List.map_append]
      rfl
    generalize upd H8 g2 (.lst (nms.map V.str ++ [.str nm2])) = H9 at *
    have htv9 := htv.mono kt8
    have hpv9 := hpv.mono kt8
    obtain ⟨ta, txs, rfl, hta, htl⟩ := htv9.tupI
    obtain ⟨lv, txs1, rfl, hlv, htl1⟩ := invC htl
    obtain ⟨txs2, rfl, htl2⟩ := invI htl1
    cases inv0 htl2
    have hlast : atI ((nms ++ [nm2]).map V.str) (-1) = some (.str nm2) := by
      rw [List.map_append]
      exact atI_last _ _
    -- a case
    refine ⟨_, rfl, _, rfl, _, rfl, _, rfl, g2, _, _, _, rfl, rfl, SqL.has hg9, hlast, ?_⟩
    refine ⟨_, rfl, ta, _, 0, _, rfl, rfl, SqT.has hta, i0, szl _, fun p1 np1 => ?_⟩
    refine ⟨szl _, fun p2 np2 => ?_⟩
    have h1 : Has _ (.ref p1) (Case.d ⟨num, nm2, .tup its, .tup rss.flatten⟩) := Has.new (.cons (.int num) (.cons (.str nm2) (.cons hlv .nil))) np1
    have s10 := (same_new (o := .tup [.int num, .str nm2, lv]) np1).trans (same_new (o := .tup [.ref p1]) np2)
    refine cat_has (hpv9.mono (kt_same s10)) (Has.new (.cons h1 .nil) np2) (by rw [List.length_map, List.length_singleton]; omega) fun pv' Hz sx hpv' => ?_
    have sz := s10.trans sx
    have htaz := sz _ _ hta
    -- spent
    refine ⟨_, rfl, _, _, rfl, rfl, _, rfl, ta, _, 1, _, rfl, rfl, SqT.has htaz, i1, _, _, rfl, rfl, ?_⟩
    have hcl' : (cs ++ [Case.mk num nm2 (.tup its) (.tup rss.flatten)]).length = i + 1 := by rw [List.length_append, hcl]; rfl
    have hcs' : ∀ c ∈ cs ++ [Case.mk num nm2 (.tup its) (.tup rss.flatten)], LRes n c.lay c.res := fun c hc => by
      rcases List.mem_append.mp hc with h | h
      · exact hcs c h
      · rw [List.mem_singleton.mp h]
        exact lres_of (by omega) hP
    have hpv2 : Has Hz pv' (.tup ((cs ++ [Case.mk num nm2 (.tup its) (.tup rss.flatten)]).map Case.d)) := by
      rw [List.map_append]
      exact hpv'
    have Tz := T9.same sz
    have hnl' : (nms ++ [nm2]).length = i + 1 := by rw [List.length_append, hnl]; rfl
    have Bz := B8.trans (but_same sz)
    -- the next one
    refine ⟨_, rfl, al, rfl, ?_⟩
    cases al with
    | true =>
      obtain ⟨la, lxs, rfl, hla, hll⟩ := hlv.tupI
      refine ⟨_, rfl, ta, _, 0, _, rfl, rfl, SqT.has htaz, i0, la, _, rfl, SqT.has (sz _ _ hla), fun p3 np3 => ?_⟩
      refine ⟨_, rfl, ta, _, 1, _, rfl, rfl, SqT.has (same_new np3 _ _ htaz), i1, szl _, fun p4 np4 => ?_⟩
      have h3 : Has _ (.ref p3) (.tup its.reverse) := Has.new ((hll.mono (kt_same sz)).rev) np3
      have h4 : Has _ (.ref p4) (.tup [.tup its.reverse, .int sp]) := Has.new (.cons h3 (.cons (.int sp) .nil)) np4
      have s11 := (same_new (o := .tup lxs.reverse) np3).trans (same_new (o := .tup [.ref p3, .int sp]) np4)
      exact ⟨_, pv', its.reverse, rss.reverse, _, sp, _, _, _, rfl, by omega, hcl', hcs', h4, by rw [List.length_reverse]; exact hil, paired_rev hP, hpv2.mono (kt_same s11), s11 _ _ (sz _ _ hg9), hnl', Tz.same s11, s11 _ _ (sz _ _ hp8), Bz.trans (but_same s11)⟩
    | false =>
      refine ⟨_, rfl, _, rfl, _, _, rfl, rfl, _, rfl, _, _, rfl, rfl, _, rfl, _, _, rfl, rfl, ⟨by omega, by omega⟩, _, _, rfl, rfl, ?_⟩
      refine ⟨t, s0, _, _, rfl, by omega, Tz, fun tv2 its2 rss2 sp2 H11 hil2 hP2 htv2 T11 b11 => ?_⟩
      exact ⟨tv2, pv', its2, rss2, _, sp2, _, _, _, rfl, by omega, hcl', hcs', htv2, hil2, hP2, hpv2.mono (kt_tape b11 Tz), b11.one gt (sz _ _ hg9), hnl', T11, b11.one pt (sz _ _ hp8), Bz.trans b11⟩
  · obtain ⟨tv, pv, its, rss, ss, sp, cs, nms, y, rfl, hi9, hcl, hcs, htv, hil, hP, hpv, hg, hnl, T7, hp7, B7⟩ := hw
    refine ⟨_, rfl, _, rfl, _, rfl, szl _, fun p1 np1 => ?_⟩
    refine ⟨_, rfl, szl _, fun p2 np2 => ?_⟩
    have h1 : Has _ (.ref p1) (.tup [.str "choice", .str nm, .str w5.str, .tup (cs.map Case.d)]) := Has.new (.cons (.str _) (.cons (.str _) (.cons (.str _) (.cons hpv .nil)))) np1
    have h2 := Has.new (.cons h1 (.cons (.int ss) .nil)) np2
    exact q _ _ _ ss _ (.choice nm w5 cs (by omega) hcs) h2 ((T7.same (same_new np1)).same (same_new np2)) ((B7.trans (but_same (same_new np1))).trans (but_same (same_new np2)))
end
end Wp

namespace Wp
open PySem PySem.Spec PyProof.Rows L2
section
variable {P : Program} {w : World} {K : PySem.W.Frag} {mg : Str → Option Value} {base : Heap} {dW aC : Addr}

/-! ### _law_rich_item -/
theorem ires_head {LR : D → D → Prop} {it : D} {rs : List D} (h : IRes LR it rs) : headS it := by
  cases h with
  | word w ps h1 h2 => exact ⟨_, _, rfl⟩
  | comp it r h =>
    cases h with
    | array => exact ⟨_, _, rfl⟩
    | list => exact ⟨_, _, rfl⟩
    | choice => exact ⟨_, _, rfl⟩
    | record => exact ⟨_, _, rfl⟩
  | fixed it h =>
    cases h with
    | lit => exact ⟨_, _, rfl⟩
    | res => exact ⟨_, _, rfl⟩
    | chk => exact ⟨_, _, rfl⟩
theorem paired_heads {LR : D → D → Prop} : ∀ {its : List D} {rss : List (List D)}, Paired (IRes LR) its rss → ∀ d ∈ its, headS d
  | _, _, .nil, d, h => by cases h
  | _, _, .cons h t, d, hd => by
    rcases List.mem_cons.mp hd with rfl | hd
    · exact ires_head h
    · exact paired_heads t d hd
def spRof : Nat → Sp
  | 0 => fun _ _ _ _ => False
  | n + 1 => sp_law_rich n
def spCof : Nat → Sp
  | 0 => fun _ _ _ _ => False
  | n + 1 => sp_law_choice n
def wordKs (p1 p2 p3 : Addr) : List (Key × V) := [(Sum.inl 8, .ref p1), (Sum.inl 16, .ref p2), (Sum.inl 32, .ref p3)]
theorem wordKs8 (p1 p2 p3 : Addr) : valV (mergeK [] (wordKs p1 p2 p3)) (Sum.inl 8) = some (.ref p1) := rfl
theorem wordKs16 (p1 p2 p3 : Addr) : valV (mergeK [] (wordKs p1 p2 p3)) (Sum.inl 16) = some (.ref p2) := rfl
theorem wordKs32 (p1 p2 p3 : Addr) : valV (mergeK [] (wordKs p1 p2 p3)) (Sum.inl 32) = some (.ref p3) := rfl
def sp_law_rich_item (n : Nat) : Sp := fun vs H Q _ => ∃ (t s u : Addr) (us : List Str) (d room : Int), vs = [.ref t, .ref u, .int d, .int room] ∧ d = n ∧ Tape H t s ∧ H u = some (.lst (us.map V.str)) ∧ u ≠ t ∧ u ≠ s ∧ us.length ≤ 80000 ∧
  ∀ v (it : D) (rs : List D) (m : Int) (us' : List Str) H', IRes (LRof n) it rs → Has H' v (.tup [it, .int m]) → Tape H' t s → H' u = some (.lst (us'.map V.str)) → us'.length ≤ us.length + 6 → But [t, u] H H' → Q v H'
theorem ok_law_rich_item {n a : Nat} (ha : 3 ≤ a) (T : Txt w K mg dW aC) (F : Dn K mg "_law_rich_item" st_law_rich_item) (C_law_draw : Cal P w K mg base 1 "_law_draw" sp_law_draw) (C_law_fixed : Cal P w K mg base 2 "_law_fixed" sp_law_fixed)
    (C_law_name : Cal P w K mg base 2 "_law_name" sp_law_name) (C_law_rich_word : Cal P w K mg base 4 "_law_rich_word" sp_law_rich_word) (C_law_a_count : Cal P w K mg base 3 "_law_a_count" sp_law_a_count)
    (C_law_a_field : Cal P w K mg base 3 "_law_a_field" sp_law_a_field) (C_law_a_number : Cal P w K mg base 2 "_law_a_number" sp_law_a_number) (C_law_not_empty : Cal P w K mg base 2 "_law_not_empty" sp_law_not_empty)
    (C_law_rich : Cal P w K mg base a "_law_rich" (spRof n)) (C_law_rich_choice : Cal P w K mg base (a + 1) "_law_rich_choice" (spCof n)) : Cal P w K mg base (a + 2) "_law_rich_item" (sp_law_rich_item n) := by
  refine cal_mk F sc_l_rich_item bd_law_rich_item (fun vs H Q E h => ?_) (fun f cdv A outer s H vs Q E hr h => ?_)
  · obtain ⟨t, s, u, us, d, room, rfl, _⟩ := h
    rfl
  obtain ⟨t, s0, u, us, d, room, rfl, hd, hT, hU, hut, hus, hul, q⟩ := h
  have hu := hu_of hr
  refine ⟨_, (pss_cons (ps_set (i := 4) sc_l_rich_item.nd rfl (Or.inl rfl) (pe_k C_law_draw hr (by omega) (by rfl) (pa_cons (pv 0) (pa_cons pe_int pa_nil))))
    (pss_cons (ps_if (pt_cmpR op_lt (pv 4) pe_int (nomark _))
      (pss_one (ps_ret (pe_k C_law_fixed hr (by omega) (by rfl) (pa_cons (pv 0) pa_nil))))
      pss_nil)
    (pss_cut (ps_if (PW.pt (pw_or (pt_cmpR op_lt (pv 4) pe_int (nomark _)) (pw_or1 (PW.pt (pw_and (pt_cmpR op_gt (pv 4) pe_int (nomark _)) (pw_and1 (pt_cmpR op_eq (pv 2) pe_int (nomark _))))))))
      (pss_one (ps_ret (pe_tup (pa_cons (pe_k C_law_rich_word hr (by omega) (by rfl) (pa_cons (pv 0) (pa_cons (pv 1) pa_nil))) (pa_cons pe_int pa_nil)))))
      pss_nil)
    (pss_cons (ps_expr (pe_bm PySem.F.plainAttrs_list PySem.F.slot_list_append PySem.F.type_list_append mt_append (pv 1) (pa_cons (pe_k C_law_name hr (by omega) (by rfl) (pa_cons (pv 0) (pa_cons (pv 1) pa_nil))) pa_nil)))
    (pss_cons (ps_if (pt_cmpR op_eq (pv 4) pe_int (nomark _))
      (pss_cons (ps_set (i := 5) sc_l_rich_item.nd rfl (Or.inl rfl) (pe_k C_law_rich hr (by omega) (by rfl) (pa_cons (pv 0) (pa_cons (pe_op op_sub (pv 2) pe_int) (pa_cons (pe_op op_sub (pv 3) pe_int) pa_nil)))))
      (pss_one (ps_ret (pe_tup (pa_cons (pe_tup (pa_cons pe_str (pa_cons (pe_ix ix_list (pv 1) (pe_un un_neg pe_int) (fun _ _ => rfl)) (pa_cons (pe_ix ix_tup (pv 5) pe_int (fun _ _ => rfl)) pa_nil)))) (pa_cons (pe_op op_add (pe_ix ix_tup (pv 5) pe_int (fun _ _ => rfl)) pe_int) pa_nil))))))
      pss_nil)
    (pss_cut (ps_if (PW.pt (pw_and (pt_cmpR op_eq (pv 4) pe_int (nomark _)) (pw_and1 (pt_cmpR op_gt (pv 3) pe_int (nomark _)))))
      (pss_one (ps_ret (pe_k C_law_rich_choice hr (by omega) (by rfl) (pa_cons (pv 0) (pa_cons (pe_ix ix_list (pv 1) (pe_un un_neg pe_int) (fun _ _ => rfl)) (pa_cons (pv 2) (pa_cons (pv 3) pa_nil)))))))
      pss_nil)
    (pss_cons (ps_set (i := 6) sc_l_rich_item.nd rfl (Or.inl rfl) (pe_ix ix_list (pe_lst (pa_cons pe_int (pa_cons pe_int (pa_cons pe_int (pa_cons (pe_op op_add pe_int (pe_k C_law_draw hr (by omega) (by rfl) (pa_cons (pv 0) (pa_cons pe_int pa_nil)))) pa_nil))))) (pe_k C_law_draw hr (by omega) (by rfl) (pa_cons (pv 0) (pa_cons pe_int pa_nil))) (fun _ _ => rfl)))
    (pss_cons (ps_set (i := 7) sc_l_rich_item.nd rfl (Or.inl rfl) (pe_k C_law_a_count hr (by omega) (by rfl) (pa_cons (pv 0) (pa_cons (pe_ix ix_list (pe_lst (pa_cons pe_int (pa_cons (pv 6) (pa_cons (pe_k C_law_draw hr (by omega) (by rfl) (pa_cons (pv 0) (pa_cons (pe_op op_add (pv 6) pe_int) pa_nil))) pa_nil)))) (pe_k C_law_draw hr (by omega) (by rfl) (pa_cons (pv 0) (pa_cons pe_int pa_nil))) (fun _ _ => rfl)) (pa_cons (pv 6) pa_nil)))))
    (pss_cons (ps_if (pt_cmpR op_eq (pv 4) pe_int (nomark _))
      (pss_cons (ps_set (i := 8) sc_l_rich_item.nd rfl (Or.inl rfl) (pe_k C_law_a_field hr (by omega) (by rfl) (pa_cons (pv 0) (pa_cons (pe_lst (pa_cons pe_int (pa_cons pe_int (pa_cons pe_int (pa_cons pe_int pa_nil))))) (pa_cons pe_int pa_nil)))))
      (pss_cons (ps_set (i := 9) sc_l_rich_item.nd rfl (Or.inl rfl) (pe_ix ix_list (pe_dget hu (pe_disp (pps_cons pe_int (pe_lst (pa_cons pe_str (pa_cons pe_str pa_nil))) (pps_cons pe_int (pe_lst (pa_cons pe_str (pa_cons pe_str pa_nil))) (pps_cons pe_int (pe_lst (pa_cons pe_str (pa_cons pe_str pa_nil))) pps_nil))) (by rfl) (by rfl) (fun z => by cases z) (by decide)) (pe_ix ix_tup (pv 8) pe_int (fun _ _ => rfl)) (fun _ _ => rfl)) (pe_k C_law_draw hr (by omega) (by rfl) (pa_cons (pv 0) (pa_cons pe_int pa_nil))) (fun _ _ => rfl)))
      (pss_cons (ps_set (i := 10) sc_l_rich_item.nd rfl (Or.inl rfl) (pe_ix ix_list (pe_lst (pa_cons pe_non (pa_cons (pe_k C_law_a_number hr (by omega) (by rfl) (pa_cons (pv 0) (pa_cons (pe_ix ix_tup (pv 8) pe_int (fun _ _ => rfl)) (pa_cons (pe_ix ix_tup (pv 8) pe_int (fun _ _ => rfl)) (pa_cons (pe_ix ix_tup (pv 8) pe_int (fun _ _ => rfl)) pa_nil))))) pa_nil))) (pe_k C_law_draw hr (by omega) (by rfl) (pa_cons (pv 0) (pa_cons pe_int pa_nil))) (fun _ _ => rfl)))
      (pss_one (ps_ret (pe_tup (pa_cons (pe_tup (pa_cons pe_str (pa_cons (pe_ix ix_list (pv 1) (pe_un un_neg pe_int) (fun _ _ => rfl)) (pa_cons (pv 9) (pa_cons (pe_ix ix_tup (pv 8) pe_int (fun _ _ => rfl)) (pa_cons (pv 7) (pa_cons (pe_ix ix_tup (pv 8) pe_int (fun _ _ => rfl)) (pa_cons (pv 10) pa_nil)))))))) (pa_cons (pe_op op_add pe_int (pe_op op_mul pe_int (pv 6))) pa_nil))))))))
      pss_nil)
    (pss_cons (ps_set (i := 5) sc_l_rich_item.nd rfl (Or.inl rfl) (pe_k C_law_rich hr (by omega) (by rfl) (pa_cons (pv 0) (pa_cons (pe_op op_sub (pv 2) pe_int) (pa_cons (pe_op op_sub (pe_op op_fdiv (pe_op op_sub (pv 3) pe_int) (pv 6)) pe_int) pa_nil)))))
    (pss_one (ps_ret (pe_tup (pa_cons (pe_tup (pa_cons pe_str (pa_cons (pe_ix ix_list (pv 1) (pe_un un_neg pe_int) (fun _ _ => rfl)) (pa_cons (pv 7) (pa_cons (pe_k C_law_not_empty hr (by omega) (by rfl) (pa_cons (pv 0) (pa_cons (pe_ix ix_tup (pv 5) pe_int (fun _ _ => rfl)) pa_nil))) pa_nil))))) (pa_cons (pe_op op_add pe_int (pe_op op_mul (pv 6) (pe_op op_add (pe_ix ix_tup (pv 5) pe_int (fun _ _ => rfl)) pe_int))) pa_nil))))))))))))))), ?_⟩
  refine ⟨_, rfl, t, s0, 10, rfl, hT, by decide, fun sh H1 T1 b1 sh0 sh1 => ?_⟩
  have sh2 := sh1 (by decide)
  have hU1 := b1.one hut hU
  refine ⟨_, rfl, _, _, rfl, rfl, _, rfl, ite_by (fun c => ?_) (fun c => ?_)⟩
  · -- fixed
    refine ⟨_, rfl, t, s0, rfl, T1, fun v it m H2 hI _ hv T2 b2 => ?_⟩
    obtain ⟨rs, hI⟩ := hI (LRof n)
    exact q v it rs m us H2 hI hv T2 (b2.one hut hU1) (by omega) ((b1.trans b2).mono (by simp))
  have B1 : But [t, u] H H1 := b1.mono (by simp)
  -- a word
  have word : ∀ (w5 : W5) (ps : List Part) (us' : List Str) v H', ps.length ≤ 6 → (∀ p ∈ ps, p.ok) → Has H' v (wordD w5 ps) → Tape H' t s0 → H' u = some (.lst (us'.map V.str)) → us'.length ≤ us.length + 5 → But [t, u] H1 H' →
      ∀ p, H' p = none → Q (.ref p) (upd H' p (.tup [v, .int 8])) := fun w5 ps us' v H' h1 h2 h3 h4 h5 h6 h7 p np =>
    q _ (wordD w5 ps) _ 8 us' _ (.word w5 ps (by omega) h2) (Has.new (.cons h3 (.cons (.int 8) .nil)) np) (h4.same (same_new np)) (same_new np _ _ h5) (by omega) ((B1.trans h7).trans (but_same (same_new np)))
  refine ⟨fun σ' H' => σ' = [some (.ref t), some (.ref u), some (.int d), some (.int room), some (.int sh), none, none, none, none, none, none] ∧ H1 = H' ∧ 5 ≤ sh ∧ (5 < sh → n ≠ 0), ?_, fun σ' H' hM => ?_⟩
  · refine ⟨_, rfl, _, _, rfl, rfl, _, rfl, ite_by (fun c2 => ?_) (fun c2 => ?_)⟩
    · refine iteT ?_
      exact ⟨_, rfl, _, rfl, t, s0, u, us, rfl, T1, hU1, hut, hus, by omega, fun w5 ps us' v H' h1 h2 h3 h4 h5 h6 h7 => ⟨szl _, fun p np => word w5 ps us' v H' h1 h2 h3 h4 h5 h6 h7 p np⟩⟩
    · refine ⟨_, rfl, _, _, rfl, rfl, _, rfl, ite_by (fun c3 => ?_) (fun c3 => ?_)⟩
      · refine ⟨_, rfl, rfl, _, rfl, ite_by (fun c4 => ?_) (fun c4 => ?_)⟩
        · exact ⟨_, rfl, _, rfl, t, s0, u, us, rfl, T1, hU1, hut, hus, by omega, fun w5 ps us' v H' h1 h2 h3 h4 h5 h6 h7 => ⟨szl _, fun p np => word w5 ps us' v H' h1 h2 h3 h4 h5 h6 h7 p np⟩⟩
        · refine ⟨rfl, rfl, by omega, fun _ hn => c4 (congrArg V.int ?_)⟩
          omega
      · refine iteF ?_
        exact ⟨rfl, rfl, by omega, fun z => absurd z c3⟩
  obtain ⟨rfl, rfl, hs5, hsn⟩ := hM
  -- a name
  refine ⟨_, rfl, .inl ⟨rfl, _, SqL.has hU1⟩, ?_⟩
  refine ⟨_, rfl, _, rfl, t, s0, u, us, rfl, T1, hU1, hut, by omega, fun nm H2 T2 b2 => ?_⟩
  have hU2 := b2.one hut hU1
  refine ⟨u, _, _, rfl, rfl, hU2, small_lt (by rw [List.length_map]; omega), ?_⟩
  have T3 : Tape (upd H2 u (.lst (us.map V.str ++ [.str nm]))) t s0 := T2.but (but_upd (ex := [u]) (by simp)) (by simpa using hut.symm) (by simpa using hus.symm)
  have hU3 : upd H2 u (.lst (us.map V.str ++ [.str nm])) u = some (.lst ((us ++ [nm]).map V.str)) := by
    rw [upd_same, List.map_append]
    rfl
  have B3 : But [t, u] H (upd H2 u (.lst (us.map V.str ++ [.str nm]))) := (B1.trans (b2.mono (by simp))).trans (but_upd (by simp))
  generalize upd H2 u (.lst (us.map V.str ++ [.str nm])) = H3 at *
  have hlast : atI ((us ++ [nm]).map V.str) (-1) = some (.str nm) := by
    rw [List.map_append]
    exact atI_last _ _
  have hul2 : (us ++ [nm]).length = us.length + 1 := by rw [List.length_append]; rfl
  refine ⟨_, rfl, rfl, _, rfl, ite_by (fun c4 => ?_) (fun c4 => ?_)⟩
  · -- a record
    have e9 : sh = 9 := V.int.inj c4
    cases n with
    | zero => exact absurd rfl (hsn (by omega))
    | succ n =>
      refine ⟨_, rfl, _, rfl, _, _, rfl, rfl, _, rfl, _, _, rfl, rfl, t, s0, _, _, rfl, by omega, T3, fun v its rss m H4 hil hP hv T4 b4 => ?_⟩
      have hU4 := b4.one hut hU3
      obtain ⟨ta, txs, rfl, hta, htl⟩ := hv.tupI
      obtain ⟨lv, txs1, rfl, hlv, htl1⟩ := invC htl
      obtain ⟨txs2, rfl, htl2⟩ := invI htl1
      cases inv0 htl2
      refine ⟨_, rfl, _, rfl, u, _, _, _, rfl, rfl, SqL.has hU4, hlast, ?_⟩
      refine ⟨_, rfl, ta, _, 0, _, rfl, rfl, SqT.has hta, i0, szl _, fun p1 np1 => ?_⟩
      refine ⟨_, rfl, ta, _, 1, _, rfl, rfl, SqT.has (same_new np1 _ _ hta), i1, _, _, rfl, rfl, szl _, fun p2 np2 => ?_⟩
      have h1 : Has _ (.ref p1) (.tup [.str "record", .str nm, .tup its]) := Has.new (.cons (.str _) (.cons (.str nm) (.cons hlv .nil))) np1
      have s5 := (same_new (o := .tup [.str "record", .str nm, lv]) np1).trans (same_new (o := .tup [.ref p1, .int (m + 1)]) np2)
      exact q _ _ [_] (m + 1) (us ++ [nm]) _ (.comp _ _ (.record nm _ _ (lres_of (n := n) (by omega) hP))) (Has.new (.cons h1 (.cons (.int _) .nil)) np2) (T4.same s5) (s5 _ _ hU4) (by omega) ((B3.trans (b4.mono (by simp))).trans (but_same s5))
  refine ⟨fun σ' H' => σ' = [some (.ref t), some (.ref u), some (.int d), some (.int room), some (.int sh), none, none, none, none, none, none] ∧ H3 = H', ?_, fun σ' H' hM => ?_⟩
  · refine ⟨_, rfl, rfl, _, rfl, ite_by (fun c5 => ?_) (fun c5 => iteF ⟨rfl, rfl⟩)⟩
    have e8 : sh = 8 := V.int.inj c5
    refine ⟨_, rfl, _, _, rfl, rfl, _, rfl, ite_by (fun c6 => ?_) (fun c6 => ⟨rfl, rfl⟩)⟩
    -- a choice
    cases n with
    | zero => exact absurd rfl (hsn (by omega))
    | succ n =>
      refine ⟨_, rfl, _, rfl, _, rfl, u, _, _, _, rfl, rfl, SqL.has hU3, hlast, _, rfl, _, rfl, t, s0, nm, _, _, rfl, by omega, T3, fun v it r m H4 hC hv T4 b4 => ?_⟩
      exact q v it [r] m (us ++ [nm]) H4 (.comp _ _ hC) hv T4 (b4.one hut hU3) (by omega) (B3.trans (b4.mono (by simp)))
  obtain ⟨rfl, rfl⟩ := hM
  -- the greatest
  refine ⟨_, rfl, t, s0, 60, rfl, T3, by decide, fun n1 H4 T4 b4 n10 n11 => ?_⟩
  have n12 := n11 (by decide)
  refine ⟨_, _, rfl, rfl, szl _, fun g ng => ?_⟩
  refine ⟨_, rfl, t, s0, 4, rfl, T4.same (same_new ng), by decide, fun n2 H5 T5 b5 n20 n21 => ?_⟩
  have hg := b5.one (ne_tape T4 ng) (upd_same (H := H4))
  obtain ⟨v, hv, gr, rfl, hg1, hg2⟩ := drawn (P := fun v => ∃ x : Nat, v = V.int x ∧ 1 ≤ x ∧ x ≤ 60) (xs := [V.int 1, V.int 2, V.int 3, V.int (1 + n1)])
    ⟨⟨1, rfl, by decide, by decide⟩, ⟨2, rfl, by decide, by decide⟩, ⟨3, rfl, by decide, by decide⟩, ⟨(1 + n1).toNat, congrArg V.int (by omega), by omega, by omega⟩, trivial⟩ n20 (n21 (by decide))
  refine ⟨g, _, n2, _, rfl, rfl, SqL.has hg, hv, ?_⟩
  have b45 : But [t] H3 H5 := (b4.trans (but_same (same_new ng))).trans b5
  clear hg hv
  -- the count
  refine ⟨_, rfl, _, rfl, _, rfl, _, rfl, _, _, rfl, rfl, t, s0, _, rfl, T5, by omega, fun n3 H6 T6 b6 n30 n31 => ?_⟩
  have n32 := n31 (by omega)
  refine ⟨szl _, fun g2 ng2 => ?_⟩
  refine ⟨_, rfl, t, s0, 3, rfl, T6.same (same_new ng2), by decide, fun n4 H7 T7 b7 n40 n41 => ?_⟩
  have hg2' := b7.one (ne_tape T6 ng2) (upd_same (H := H6))
  obtain ⟨v, hv, lo, rfl, hlo⟩ := drawn (P := fun v => ∃ x : Nat, v = V.int x ∧ x ≤ gr) (xs := [V.int 0, V.int gr, V.int n3])
    ⟨⟨0, rfl, by omega⟩, ⟨gr, rfl, by omega⟩, ⟨n3.toNat, congrArg V.int (by omega), by omega⟩, trivial⟩ n40 (n41 (by decide))
  refine ⟨g2, _, n4, _, rfl, rfl, SqL.has hg2', hv, ?_⟩
  clear hg2' hv
  refine ⟨_, rfl, t, s0, lo, gr, rfl, T7, hlo, hg1, hg2, fun cv c H8 hcok hchi hcv T8 b8 => ?_⟩
  have b38 : But [t] H3 H8 := (((b45.trans b6).trans (but_same (same_new ng2))).trans b7).trans b8
  have hU8 := b38.one hut hU3
  have B8 : But [t, u] H H8 := B3.trans (b38.mono (by simp))
  refine ⟨_, rfl, rfl, _, rfl, ite_by (fun c5 => ?_) (fun c5 => ?_)⟩
  · -- an array
    have hn5 : 5 = sh := (V.int.inj c5).symm
    refine ⟨_, rfl, szl _, fun g3 ng3 => ?_⟩
    refine ⟨t, s0, g3, [8, 8, 16, 32], rfl, T8.same (same_new ng3), upd_same, ne_tape T8 ng3, List.cons_ne_nil _ _, by decide, by decide, fun fv k sg rs H9 hk hrs hfv T9 b9 => ?_⟩
    have hkb : 1 ≤ k ∧ k ≤ 32 := by
      simp at hk
      omega
    have b89 : But [t] H8 H9 := (but_same (same_new ng3)).trans b9
    have hU9 := b89.one hut hU8
    obtain ⟨fa, fxs, rfl, hfa, hfl⟩ := hfv.tupI
    obtain ⟨fx1, rfl, hfl1⟩ := invI hfl
    obtain ⟨fx2, rfl, hfl2⟩ := invB hfl1
    obtain ⟨rv, rfl, hrv⟩ := inv1 hfl2
    have hcv9 := hcv.mono (kt_tape b89 T8)
    -- the word
    refine fun p np => ?_
    refine ⟨szl _, fun p1 np1 => ?_⟩
    refine ⟨szl _, fun p2 np2 => ?_⟩
    refine ⟨szl _, fun p3 np3 => ?_⟩
    generalize hHa : upd H9 p (.dK []) = Ha at *
    generalize hHb : upd Ha p1 _ = Hb at *
    generalize hHc : upd Hb p2 _ = Hc at *
    generalize hHd : upd Hc p3 _ = Hd at *
    have sa : Same H9 Ha := by rw [← hHa]; exact same_new np
    have sb : Same Ha Hb := by rw [← hHb]; exact same_new np1
    have sc : Same Hb Hc := by rw [← hHc]; exact same_new np2
    have sd : Same Hc Hd := by rw [← hHd]; exact same_new np3
    have ep : Hd p = some (.dK []) := sd _ _ (sc _ _ (sb _ _ (by rw [← hHa]; exact upd_same)))
    have e1 : Hd p1 = some (.lst [V.str "u8", V.str "u8"]) := sd _ _ (sc _ _ (by rw [← hHb]; exact upd_same))
    have e2 : Hd p2 = some (.lst [V.str "u16be", V.str "u16le"]) := sd _ _ (by rw [← hHc]; exact upd_same)
    have e3 : Hd p3 = some (.lst [V.str "u32be", V.str "u32le"]) := by rw [← hHd]; exact upd_same
    obtain ⟨pl, wa, wb, hkv, hat, hwa, hwb⟩ : ∃ (pl : Addr) (wa wb : W5), valV (mergeK [] (wordKs p1 p2 p3)) (Sum.inl (k : Int)) = some (.ref pl) ∧ Hd pl = some (.lst [.str wa.str, .str wb.str]) ∧ 8 * wa.size = k ∧ 8 * wb.size = k := by
      have h : k = 8 ∨ k = 16 ∨ k = 32 := by
        simp at hk
        omega
      rcases h with rfl | rfl | rfl
      · exact ⟨p1, .u8, .u8, wordKs8 p1 p2 p3, e1, rfl, rfl⟩
      · exact ⟨p2, .u16be, .u16le, wordKs16 p1 p2 p3, e2, rfl, rfl⟩
      · exact ⟨p3, .u32be, .u32le, wordKs32 p1 p2 p3, e3, rfl, rfl⟩
    have nep : pl ≠ p := ne_of hat ep (by intro z; cases z)
    have S9 : Same H9 Hd := sa.trans (sb.trans (sc.trans sd))
    refine ⟨ep, wordKs p1 p2 p3, rfl, Nat.le_of_ble_eq_true rfl, ?_⟩
    have hpE : upd Hd p (.dK (mergeK [] (wordKs p1 p2 p3))) p = some (.dK (mergeK [] (wordKs p1 p2 p3))) := upd_same
    have Se : Same H9 (upd Hd p (.dK (mergeK [] (wordKs p1 p2 p3)))) := same_mut S9 np
    have hpe : upd Hd p (.dK (mergeK [] (wordKs p1 p2 p3))) pl = some (.lst [.str wa.str, .str wb.str]) := by
      rw [upd_ne nep]
      exact hat
    generalize upd Hd p (.dK (mergeK [] (wordKs p1 p2 p3))) = He at *
    refine ⟨_, rfl, fa, _, 0, _, rfl, rfl, SqT.has (Se _ _ hfa), i0, p, .ref pl, rfl, ?_, ?_⟩
    · have h := DGet.k (k := Sum.inl (k : Int)) hpE
      rw [hkv] at h
      exact h
    have Te := T9.same Se
    have plt : pl ≠ t := fun z => by
      obtain ⟨_, _, _, e, _⟩ := Te.tp
      rw [← z, hpe] at e
      cases e
    refine ⟨_, rfl, t, s0, 2, rfl, Te, by decide, fun n5 H10 T10 b10 n50 n51 => ?_⟩
    obtain ⟨v, hv, w5, rfl, hw⟩ := drawn (P := fun v => ∃ w5 : W5, v = V.str w5.str ∧ 8 * w5.size = k) (xs := [V.str wa.str, V.str wb.str]) ⟨⟨wa, rfl, hwa⟩, ⟨wb, rfl, hwb⟩, trivial⟩ n50 (n51 (by decide))
    refine ⟨pl, _, n5, _, rfl, rfl, SqL.has (b10.one plt hpe), hv, ?_⟩
    clear hv
    have b910 : But [t] H9 H10 := (but_same Se).trans b10
    have kt10 := kt_tape b910 T9
    have hfa10 := kt10 _ _ hfa
    have hrv10 := hrv.mono kt10
    -- the default
    refine ⟨_, rfl, _, rfl, fa, _, 0, _, rfl, rfl, SqT.has hfa10, i0, ?_⟩
    refine ⟨_, rfl, fa, _, 1, _, rfl, rfl, SqT.has hfa10, i1, ?_⟩
    refine ⟨_, rfl, fa, _, 2, _, rfl, rfl, SqT.has hfa10, i2, ?_⟩
    refine ⟨t, s0, k, sg, rv, rs, rfl, T10, hkb.1, hkb.2, hrv10, hrs, fun m H11 T11 b11 => ?_⟩
    refine ⟨szl _, fun g5 ng5 => ?_⟩
    refine ⟨_, rfl, t, s0, 2, rfl, T11.same (same_new ng5), by decide, fun n6 H12 T12 b12 n60 n61 => ?_⟩
    have hg5 := b12.one (ne_tape T11 ng5) (upd_same (H := H11))
    obtain ⟨v, hv, od, rfl⟩ := drawn (P := fun v => ∃ od : Option Int, v = oIntV od) (xs := [V.non, V.int m]) ⟨⟨none, rfl⟩, ⟨some m, rfl⟩, trivial⟩ n60 (n61 (by decide))
    refine ⟨g5, _, n6, _, rfl, rfl, SqL.has hg5, hv, ?_⟩
    clear hv hg5
    have b1012 : But [t] H10 H12 := (b11.trans (but_same (same_new ng5))).trans b12
    have b912 := b910.trans b1012
    have kt12 := kt_tape b912 T9
    have hfa12 := kt12 _ _ hfa
    have hU12 := b912.one hut hU9
    have hod : Has H12 (oIntV od) (oInt od) := by
      cases od with
      | none => exact .non
      | some i => exact .int i
    refine ⟨_, rfl, _, rfl, u, _, _, _, rfl, rfl, SqL.has hU12, hlast, ?_⟩
    refine ⟨_, rfl, _, rfl, fa, _, 1, _, rfl, rfl, SqT.has hfa12, i1, ?_⟩
    refine ⟨_, rfl, _, rfl, fa, _, 2, _, rfl, rfl, SqT.has hfa12, i2, ?_⟩
    refine ⟨_, rfl, szl _, fun q1 nq1 => ?_⟩
    refine ⟨_, rfl, _, _, rfl, rfl, .inl ⟨by decide, by decide⟩, _, _, rfl, rfl, szl _, fun q2 nq2 => ?_⟩
    have h1 : Has _ (.ref q1) (arrayD nm w5 sg c rs od) := Has.new (.cons (.str _) (.cons (.str nm) (.cons (.str _) (.cons (.bl sg) (.cons (hcv9.mono kt12) (.cons (hrv.mono kt12) (.cons hod .nil))))))) nq1
    have h2 := Has.new (.cons h1 (.cons (.int (5 + 5 * (gr : Int))) .nil)) nq2
    exact q _ _ _ _ (us ++ [nm]) _ (.comp _ _ (.array nm w5 sg c rs od hcok (by rw [hw]; exact hrs))) h2 ((T12.same (same_new nq1)).same (same_new nq2)) (same_new nq2 _ _ (same_new nq1 _ _ hU12)) (by omega)
      ((((B8.trans (b89.mono (by simp))).trans (b912.mono (by simp))).trans (but_same (same_new nq1))).trans (but_same (same_new nq2)))
  -- a list
  have hn0 := hsn (by
    have : sh ≠ 5 := fun z => c5 (congrArg V.int z)
    omega)
  cases n with
  | zero => exact absurd rfl hn0
  | succ n =>
    refine ⟨_, rfl, _, rfl, _, _, rfl, rfl, _, rfl, _, _, rfl, rfl, _, rfl, _, _, rfl, rfl, ⟨by omega, by omega⟩, _, _, rfl, rfl, ?_⟩
    refine ⟨t, s0, _, _, rfl, by omega, T8, fun v its rss m H9 hil hP hv T9 b9 => ?_⟩
    have hU9 := b9.one hut hU8
    have kt9 := kt_tape b9 T8
    obtain ⟨ta, txs, rfl, hta, htl⟩ := hv.tupI
    obtain ⟨lv, txs1, rfl, hlv, htl1⟩ := invC htl
    obtain ⟨txs2, rfl, htl2⟩ := invI htl1
    cases inv0 htl2
    refine ⟨_, rfl, _, rfl, u, _, _, _, rfl, rfl, SqL.has hU9, hlast, ?_⟩
    refine ⟨_, rfl, _, rfl, _, rfl, ta, _, 0, _, rfl, rfl, SqT.has hta, i0, ?_⟩
    refine ⟨t, s0, lv, its, rfl, T9, hlv, by omega, paired_heads hP, fun lv' its' H10 hor hlv' T10 b10 => ?_⟩
    have kt10 := kt_tape b10 T9
    have hta10 := kt10 _ _ hta
    have hU10 := b10.one hut hU9
    obtain ⟨rss', hP', hil'⟩ : ∃ rss', Paired (IRes (LRof n)) its' rss' ∧ its'.length ≤ 10 := by
      rcases hor with rfl | ⟨i, rfl⟩
      · exact ⟨rss, hP, by omega⟩
      · refine ⟨rss ++ [[]], paired_app hP (.cons (.fixed _ (.lit _)) .nil), ?_⟩
        rw [List.length_append, List.length_singleton]
        omega
    refine ⟨szl _, fun p1 np1 => ?_⟩
    refine ⟨_, rfl, _, rfl, ta, _, 1, _, rfl, rfl, SqT.has (same_new np1 _ _ hta10), i1, _, _, rfl, rfl, _, _, rfl, rfl, .inl ⟨by omega, by omega⟩, _, _, rfl, rfl, szl _, fun p2 np2 => ?_⟩
    have h1 : Has _ (.ref p1) (listD nm c (.tup its')) := Has.new (.cons (.str _) (.cons (.str nm) (.cons (hcv.mono (kt9.trans kt10)) (.cons hlv' .nil)))) np1
    have h2 := Has.new (.cons h1 (.cons (.int (5 + (gr : Int) * (m + 2))) .nil)) np2
    exact q _ _ _ _ (us ++ [nm]) _ (.comp _ _ (.list nm c _ _ hcok (lres_of (n := n) (by omega) hP'))) h2 ((T10.same (same_new np1)).same (same_new np2)) (same_new np2 _ _ (same_new np1 _ _ hU10)) (by omega)
      ((((B8.trans (b9.mono (by simp))).trans (b10.mono (by simp))).trans (but_same (same_new np1))).trans (but_same (same_new np2)))
end
end Wp

namespace Wp
open PySem PySem.Spec PyProof.Rows L2
section
variable {P : Program} {w : World} {K : PySem.W.Frag} {mg : Str → Option Value} {base : Heap} {dW aC : Addr}

/-! ### _law_rich -/
theorem but_drop {H H' H'' : Hp} {t g : Addr} (b : But [t] H H') (b2 : But [t, g] H' H'') (n : H g = none) : But [t] H H'' := fun x o nx e => b2 x o (fun m => by
  rcases List.mem_cons.mp m with h | m
  · exact nx (by rw [h]; exact List.mem_singleton.mpr rfl)
  · rw [List.mem_singleton.mp m, n] at e
    cases e) (b x o nx e)
theorem ok_law_rich {n a : Nat} (T : Txt w K mg dW aC) (F : Dn K mg "_law_rich" st_law_rich) (C_law_draw : Cal P w K mg base 1 "_law_draw" sp_law_draw)
    (C_law_rich_item : Cal P w K mg base (a + 2) "_law_rich_item" (sp_law_rich_item n)) : Cal P w K mg base (a + 3) "_law_rich" (sp_law_rich n) := by
  refine cal_mk F sc_l_rich bd_law_rich (fun vs H Q E h => ?_) (fun f cdv A outer s H vs Q E hr h => ?_)
  · obtain ⟨t, s, d, room, rfl, _⟩ := h
    rfl
  obtain ⟨t, s0, d, room, rfl, hd, hT, q⟩ := h
  refine ⟨_, (pss_cons (ps_set (i := 3) sc_l_rich.nd rfl (Or.inl rfl) (pe_tup pa_nil))
    (pss_cons (ps_set (i := 4) sc_l_rich.nd rfl (Or.inl rfl) pe_int)
    (pss_cons (ps_set (i := 5) sc_l_rich.nd rfl (Or.inl rfl) (pe_lst pa_nil))
    (pss_cons (ps_for PassesOwn.never rfl (pi_range1 (by rfl) T.b_range (pa_cons (pe_ifExp (pt_cmpR op_gt (pv 2) pe_int (nomark _)) (pe_ix ix_list (pe_lst (pa_cons pe_int (pa_cons pe_int (pa_cons pe_int (pa_cons pe_int (pa_cons pe_int (pa_cons pe_int (pa_cons (pe_ifExp (pt_cmpR op_gt (pv 1) pe_int (nomark _)) pe_int pe_int) pa_nil)))))))) (pe_k C_law_draw hr (by omega) (by rfl) (pa_cons (pv 0) (pa_cons pe_int pa_nil))) (fun _ _ => rfl)) pe_int) pa_nil)) (pg_name (i := 6) sc_l_rich.nd rfl (Or.inl rfl))
      (pss_cons (ps_set (i := 7) sc_l_rich.nd rfl (Or.inl rfl) (pe_k C_law_rich_item hr (by omega) (by rfl) (pa_cons (pv 0) (pa_cons (pv 5) (pa_cons (pv 1) (pa_cons (pe_op op_sub (pv 2) (pv 4)) pa_nil))))))
      (pss_one (ps_if (pt_cmpR op_le (pe_op op_add (pv 4) (pe_ix ix_tup (pv 7) pe_int (fun _ _ => rfl))) (pv 2) (nomark _))
        (pss_cons (ps_set (i := 3) sc_l_rich.nd rfl (Or.inl rfl) (pe_op op_catA (pv 3) (pe_tup (pa_cons (pe_ix ix_tup (pv 7) pe_int (fun _ _ => rfl)) pa_nil))))
        (pss_one (ps_set (i := 4) sc_l_rich.nd rfl (Or.inl rfl) (pe_op op_add (pv 4) (pe_ix ix_tup (pv 7) pe_int (fun _ _ => rfl))))))
        pss_nil))))
    (pss_one (ps_ret (pe_tup (pa_cons (pv 3) (pa_cons (pv 4) pa_nil))))))))), ?_⟩
  refine ⟨szl _, fun e ne => ?_⟩
  refine ⟨szl _, fun g ng => ?_⟩
  have s1 := (same_new (o := .tup []) ne).trans (same_new (o := .lst []) ng)
  have hgn : H g = none := none_back (same_new ne) ng
  have gt : g ≠ t := ne_tape hT hgn
  have gs : g ≠ s0 := fun z => by
    obtain ⟨_, e⟩ := hT.sc
    rw [← z, hgn] at e
    cases e
  have he : Has (upd (upd H e (.tup [])) g (.lst [])) (.ref e) (.tup []) := (Has.new .nil ne).mono (kt_new ng)
  have hg1 : upd (upd H e (.tup [])) g (.lst []) g = some (.lst []) := upd_same
  have T1 := hT.same s1
  generalize upd (upd H e (.tup [])) g (.lst []) = H1 at *
  refine ⟨_, rfl, _, _, rfl, rfl, _, rfl, ite_by (fun c => ?_) (fun c => ?_)⟩
  · refine ⟨_, rfl, _, _, rfl, rfl, _, rfl, ite_tC (x := .int (if (2 : Int) < d then 9 else 3)) (by split <;> rfl) ?_⟩
    refine ⟨szl _, fun g7 ng7 => ?_⟩
    refine ⟨_, rfl, t, s0, 7, rfl, T1.same (same_new ng7), by decide, fun n2 H2 T2 b2 n20 n21 => ?_⟩
    have hg7 := b2.one (ne_tape T1 ng7) upd_same
    obtain ⟨v, hv, m, rfl, hm⟩ := drawn (P := fun v => ∃ x : Nat, v = V.int x ∧ x ≤ 9) (xs := [V.int 2, V.int 1, V.int 2, V.int 3, V.int 4, V.int 0, V.int (if (2 : Int) < d then 9 else 3)])
      ⟨⟨2, rfl, by decide⟩, ⟨1, rfl, by decide⟩, ⟨2, rfl, by decide⟩, ⟨3, rfl, by decide⟩, ⟨4, rfl, by decide⟩, ⟨0, rfl, by decide⟩, by split <;> first | exact ⟨9, rfl, by decide⟩ | exact ⟨3, rfl, by decide⟩, trivial⟩ n20 (n21 (by decide))
    refine ⟨g7, _, n2, _, rfl, rfl, SqL.has hg7, hv, m, rfl, by omega, by omega, ?_⟩
    have b12 : But [t] H1 H2 := (but_same (same_new ng7)).trans b2
    have B2 : But [t] H H2 := (but_same s1).trans b12
    refine for_range (lo := 0) (n := (m : Int).toNat) (fun i σ' H' => ∃ (pv : V) (its : List D) (rss : List (List D)) (sp : Int) (us : List Str) (y tv : Option V), σ' = [some (.ref t), some (.int d), some (.int room), some pv, some (.int sp), some (.ref g), y, tv] ∧
        i ≤ 9 ∧ its.length ≤ i ∧ Paired (IRes (LRof n)) its rss ∧ Has H' pv (.tup its) ∧ H' g = some (.lst (us.map V.str)) ∧ us.length ≤ 6 * i ∧ Tape H' t s0 ∧ But [t] H H')
      ⟨.ref e, [], [], 0, [], none, none, rfl, Nat.zero_le _, Nat.le_refl _, .nil, he.mono (kt_tape b12 T1), b12.one gt hg1, Nat.le_refl _, T2, B2⟩ (fun i σ' H' hi hw => ?_) (fun σ' H' hw => ?_)
    · obtain ⟨pv, its, rss, sp, us, y, tv, rfl, hi9, hil, hP, hpv, hg, hul, T5, B5⟩ := hw
      have him : i < m := by omega
      refine ⟨_, rfl, _, rfl, _, rfl, _, rfl, _, rfl, _, _, rfl, rfl, t, s0, g, us, d, _, rfl, hd, T5, hg, gt, gs, by omega, fun v it rs m2 us' H6 hI hv T6 hg6 hul6 b6 => ?_⟩
      have B6 := but_drop B5 b6 hgn
      have hpv6 := hpv.mono (kt_tape2 b6 T5 hg)
      obtain ⟨ta, txs, rfl, hta, htl⟩ := hv.tupI
      obtain ⟨iv, txs1, rfl, hiv, htl1⟩ := invC htl
      obtain ⟨txs2, rfl, htl2⟩ := invI htl1
      cases inv0 htl2
      refine ⟨_, rfl, _, rfl, ta, _, 1, _, rfl, rfl, SqT.has hta, i1, _, _, rfl, rfl, _, rfl, _, _, rfl, rfl, _, rfl, ite_by (fun c2 => ?_) (fun c2 => ?_)⟩
      · refine ⟨_, rfl, _, rfl, ta, _, 0, _, rfl, rfl, SqT.has hta, i0, szl _, fun p1 np1 => ?_⟩
        refine cat_has (hpv6.mono (kt_new np1)) (Has.new (.cons hiv .nil) np1) (by rw [List.length_singleton]; omega) fun v' Hz sx hv' => ?_
        have sz := (same_new (o := .tup [iv]) np1).trans sx
        refine ⟨_, rfl, _, rfl, ta, _, 1, _, rfl, rfl, SqT.has (sz _ _ hta), i1, _, _, rfl, rfl, ?_⟩
        exact ⟨v', its ++ [it], rss ++ [rs], _, us', _, _, rfl, by omega, by rw [List.length_append]; exact Nat.add_le_add_right hil 1, paired_app hP (.cons hI .nil), hv', sz _ _ hg6, by omega, T6.same sz, B6.trans (but_same sz)⟩
      · exact ⟨pv, its, rss, sp, us', _, _, rfl, by omega, by omega, hP, hpv6, hg6, by omega, T6, B6⟩
    · obtain ⟨pv, its, rss, sp, us, y, tv, rfl, hi9, hil, hP, hpv, hg, hul, T5, B5⟩ := hw
      refine ⟨_, rfl, _, rfl, szl _, fun p np => ?_⟩
      exact q _ its rss sp _ (by omega) hP (Has.new (.cons hpv (.cons (.int sp) .nil)) np) (T5.same (same_new np)) (B5.trans (but_same (same_new np)))
  · refine ⟨0, rfl, by decide, by decide, ?_⟩
    refine for_range (lo := 0) (n := (0 : Int).toNat) (fun i σ' H' => ∃ (y tv : Option V), σ' = [some (.ref t), some (.int d), some (.int room), some (.ref e), some (.int 0), some (.ref g), y, tv] ∧ H' = H1)
      ⟨none, none, rfl, rfl⟩ (fun i σ' H' hi hw => absurd hi (Nat.not_lt_zero _)) (fun σ' H' hw => ?_)
    obtain ⟨y, tv, rfl, rfl⟩ := hw
    refine ⟨_, rfl, _, rfl, szl _, fun p np => ?_⟩
    exact q _ [] [] 0 _ (Nat.zero_le _) .nil (Has.new (.cons he (.cons (.int 0) .nil)) np) (T1.same (same_new np)) ((but_same s1).trans (but_same (same_new np)))
/-- what stands in the module of the generator -/
structure Gen (K : PySem.W.Frag) (mg : Str → Option Value) : Prop where
  tape : Dn K mg "_law_tape" st_law_tape
  draw : Dn K mg "_law_draw" st_law_draw
  name : Dn K mg "_law_name" st_law_name
  runs : Dn K mg "_law_runs" st_law_runs
  size : Dn K mg "_law_size" st_law_size
  any_word : Dn K mg "_law_any_word" st_law_any_word
  a_count : Dn K mg "_law_a_count" st_law_a_count
  a_field : Dn K mg "_law_a_field" st_law_a_field
  ranges : Dn K mg "_law_ranges" st_law_ranges
  a_number : Dn K mg "_law_a_number" st_law_a_number
  part : Dn K mg "_law_part" st_law_part
  case_numbers : Dn K mg "_law_case_numbers" st_law_case_numbers
  not_empty : Dn K mg "_law_not_empty" st_law_not_empty
  rich : Dn K mg "_law_rich" st_law_rich
  rich_item : Dn K mg "_law_rich_item" st_law_rich_item
  fixed : Dn K mg "_law_fixed" st_law_fixed
  rich_word : Dn K mg "_law_rich_word" st_law_rich_word
  rich_choice : Dn K mg "_law_rich_choice" st_law_rich_choice
/-- _law_rich, for layouts of each depth -/
theorem riches (T : Txt w K mg dW aC) (G : Gen K mg) (n : Nat) : Cal P w K mg base (6 + 3 * n) "_law_rich" (sp_law_rich n) := by
  have c_draw : Cal P w K mg base 1 "_law_draw" sp_law_draw := ok_law_draw T G.draw
  have c_size : Cal P w K mg base 1 "_law_size" sp_law_size := ok_law_size G.size
  have c_any : Cal P w K mg base 2 "_law_any_word" sp_law_any_word := ok_law_any_word G.any_word c_draw
  have c_name : Cal P w K mg base 2 "_law_name" sp_law_name := ok_law_name T G.name c_draw
  have c_count : Cal P w K mg base 3 "_law_a_count" sp_law_a_count := ok_law_a_count G.a_count c_draw c_any
  have c_ranges : Cal P w K mg base 2 "_law_ranges" sp_law_ranges := ok_law_ranges T G.ranges c_draw (ok_law_runs T G.runs)
  have c_field : Cal P w K mg base 3 "_law_a_field" sp_law_a_field := ok_law_a_field T G.a_field c_draw c_ranges
  have c_num : Cal P w K mg base 2 "_law_a_number" sp_law_a_number := ok_law_a_number T G.a_number c_draw
  have c_part : Cal P w K mg base 3 "_law_part" sp_law_part := ok_law_part T G.part c_draw c_name c_num
  have c_cn : Cal P w K mg base 2 "_law_case_numbers" sp_law_case_numbers := ok_law_case_numbers T G.case_numbers c_draw c_size
  have c_ne : Cal P w K mg base 2 "_law_not_empty" sp_law_not_empty := ok_law_not_empty T G.not_empty c_draw
  have c_fix : Cal P w K mg base 2 "_law_fixed" sp_law_fixed := ok_law_fixed T G.fixed c_draw
  have c_rw : Cal P w K mg base 4 "_law_rich_word" sp_law_rich_word := ok_law_rich_word T G.rich_word c_draw c_size c_any c_part c_field
  induction n with
  | zero =>
    have r0 : Cal P w K mg base 3 "_law_rich" (spRof 0) := ((cal_none G.rich bd_law_rich).mono (by omega)).imp fun vs H Q E h => h.elim
    have ch : Cal P w K mg base (3 + 1) "_law_rich_choice" (spCof 0) := ((cal_none G.rich_choice bd_law_rich_choice).mono (by omega)).imp fun vs H Q E h => h.elim
    exact ok_law_rich T G.rich c_draw (ok_law_rich_item (Nat.le_refl 3) T G.rich_item c_draw c_fix c_name c_rw c_count c_field c_num c_ne r0 ch)
  | succ n ih =>
    have ch : Cal P w K mg base (6 + 3 * n + 1) "_law_rich_choice" (spCof (n + 1)) := ok_law_rich_choice (by omega) T G.rich_choice c_draw c_any c_name c_cn ih
    exact ok_law_rich (a := 6 + 3 * n) T G.rich c_draw (ok_law_rich_item (by omega) T G.rich_item c_draw c_fix c_name c_rw c_count c_field c_num c_ne ih ch)
end
end Wp

namespace Wp
open PySem PySem.Spec PyProof.Rows L2
section
variable {P : Program} {w : World} {K : PySem.W.Frag} {mg : Str → Option Value} {base : Heap} {dW aC : Addr}

/-! ### law -/
theorem Dp.mono : ∀ {n m : Nat} {d : D}, Dp n d → n ≤ m → Dp m d
  | 0, _, _, h, _ => h.elim
  | n + 1, 0, _, _, h => absurd h (by omega)
  | n + 1, m + 1, .tup ds, h, hl => ⟨h.1, fun x hx => (h.2 x hx).mono (by omega)⟩
  | n + 1, m + 1, .non, _, _ => trivial
  | n + 1, m + 1, .bl _, _, _ => trivial
  | n + 1, m + 1, .int _, _, _ => trivial
  | n + 1, m + 1, .str _, _, _ => trivial
theorem Dp.pos {n : Nat} {d : D} (h : Dp n d) : 1 ≤ n := by
  cases n with
  | zero => exact h.elim
  | succ n => omega
theorem dp_ints {n : Nat} {ns : List Int} (h : ns.length ≤ 1000000) : Dp (n + 2) (.tup (ns.map D.int)) := ⟨by rw [List.length_map]; exact h, fun x hx => by
  obtain ⟨i, _, rfl⟩ := List.mem_map.mp hx
  trivial⟩
theorem dp_int {n : Nat} {i : Int} : Dp (n + 1) (.int i) := trivial
theorem dp_str {n : Nat} {i : Str} : Dp (n + 1) (.str i) := trivial
theorem dp_setA {ns : List Int} {k : Nat} (h : ns.length ≤ 1000000) : Dp 3 (setA ns k) := by
  unfold setA
  split
  · refine ⟨by simp, fun x hx => ?_⟩
    rcases List.mem_cons.mp hx with rfl | hx
    · trivial
    rcases List.mem_cons.mp hx with rfl | hx
    · trivial
    rw [List.mem_singleton.mp hx]
    trivial
  · refine ⟨by simp, fun x hx => ?_⟩
    rcases List.mem_cons.mp hx with rfl | hx
    · trivial
    rw [List.mem_singleton.mp hx]
    exact dp_ints h
theorem dp_set {k : Nat} {rs : Option (List (Int × Int))} (h : RngOk k rs) : Dp 3 (setRes k rs) := by
  cases rs with
  | none =>
    refine ⟨by simp, fun x hx => ?_⟩
    rcases List.mem_cons.mp hx with rfl | hx
    · trivial
    rcases List.mem_cons.mp hx with rfl | hx
    · trivial
    rw [List.mem_singleton.mp hx]
    trivial
  | some rs =>
    obtain ⟨_, hrl, hrb, _⟩ := h
    have h1 := nums_len hrb
    exact dp_setA (by omega)
theorem dp_counts {c : Cnt} {r : D} {m : Nat} (hc : c.ok) (hr : Dp m r) : Dp (m + 2) (countsD c r) := by
  have hm := hr.pos
  obtain ⟨m, rfl⟩ : ∃ j, m = j + 1 := ⟨m - 1, by omega⟩
  obtain ⟨h1, h2, h3⟩ := hc
  refine ⟨by simp, fun x hx => ?_⟩
  rcases List.mem_cons.mp hx with rfl | hx
  · trivial
  rcases List.mem_cons.mp hx with rfl | hx
  · refine dp_ints ?_
    show (runV ((c.lo : Int), (c.hi : Int))).length ≤ 1000000
    rw [runV_len]
    show ((c.hi : Int) + 1 - (c.lo : Int)).toNat ≤ 1000000
    omega
  rw [List.mem_singleton.mp hx]
  refine ⟨by rw [List.length_replicate]; omega, fun x hx => ?_⟩
  rw [List.eq_of_mem_replicate hx]
  exact hr
theorem dp_ires {LR : D → D → Prop} {m : Nat} (hm : 2 ≤ m) (hL : ∀ l r, LR l r → Dp m r) {it : D} {rs : List D} (h : IRes LR it rs) : rs.length ≤ 1000 ∧ ∀ r ∈ rs, Dp (m + 3) r := by
  cases h with
  | word w ps h1 h2 =>
    refine ⟨?_, fun r hr => ?_⟩
    · rw [List.length_map]
      exact Nat.le_trans (List.length_filter_le _ _) h1
    · obtain ⟨p, hp, rfl⟩ := List.mem_map.mp hr
      exact (dp_set (h2 p ((List.mem_filter.mp hp).1)).2).mono (by omega)
  | comp it r h =>
    refine ⟨by simp, fun r' hr' => ?_⟩
    rw [List.mem_singleton.mp hr']
    cases h with
    | array nm w sg c rs df hc hr => exact (dp_counts hc (dp_set hr)).mono (by omega)
    | list nm c l r hc hl => exact (dp_counts hc (hL l r hl)).mono (by omega)
    | record nm l r hl => exact (hL l r hl).mono (by omega)
    | choice nm w cs hcl hcs =>
      refine ⟨by simp, fun x hx => ?_⟩
      rcases List.mem_cons.mp hx with rfl | hx
      · trivial
      rw [List.mem_singleton.mp hx]
      refine ⟨by rw [List.length_map]; omega, fun x hx => ?_⟩
      obtain ⟨c, hc, rfl⟩ := List.mem_map.mp hx
      refine ⟨by simp, fun x hx => ?_⟩
      rcases List.mem_cons.mp hx with rfl | hx
      · exact (show Dp 1 (.str c.name) from trivial).mono (by omega)
      rw [List.mem_singleton.mp hx]
      exact hL _ _ (hcs c hc)
  | fixed it h => exact ⟨by simp, fun r hr => absurd hr List.not_mem_nil⟩
theorem dp_step {LR : D → D → Prop} {m : Nat} (hm : 2 ≤ m) (hL : ∀ l r, LR l r → Dp m r) {l r : D} (h : LStep LR l r) : Dp (m + 4) r := by
  obtain ⟨its, rss, rfl, hn, hP, rfl⟩ := h
  refine ⟨?_, fun x hx => ?_⟩
  · have h1 := flat_le (R := IRes LR) (fun _ _ h => (dp_ires hm hL h).1) hP
    omega
  · obtain ⟨rs, hrs, hx⟩ := List.mem_flatten.mp hx
    obtain ⟨i, hi⟩ := List.mem_iff_getElem?.mp hrs
    obtain ⟨it, _, hI⟩ := paired_getR hP hi
    exact (dp_ires hm hL hI).2 x hx
theorem dp_lres : ∀ (n : Nat) {l r : D}, LRes n l r → Dp (6 + 4 * n) r
  | 0, _, _, h => dp_step (m := 2) (Nat.le_refl 2) (fun _ _ z => False.elim z) h
  | n + 1, _, _, h => dp_step (m := 6 + 4 * n) (by omega) (fun _ _ z => dp_lres n z) h
def spLaw (K : PySem.W.Frag) : Sp := fun vs H Q _ => ∃ (a : Addr) (ns : List Int), vs = [.ref a] ∧ SqL K H a (ns.map V.int) ∧ ∀ H', Q (.bl true) H'
theorem ok_law {f : Addr} {fd : FuncData} (T : Txt w K mg dW aC) (F : Fun K "law" "law" st_law f fd) (GP : Prog K mg) (GH : Half K mg) (GG : Gen K mg) : FnOk P w K mg base CX0 19 f fd ["_law_script"] (spLaw K) := by
  have C_law_tape : Cal P w K mg base 1 "_law_tape" (sp_law_tape (K := K)) := ok_law_tape T GG.tape
  have C_law_rich : Cal P w K mg base 15 "_law_rich" (sp_law_rich 3) := riches T GG 3
  have C_whole : Cal P w K mg base 14 "whole" (sp_whole (LRes 3)) := wholes T GP 3
  have C_law_full : Cal P w K mg base 10 "_law_full" (sp_whole (LRes 3)) := fulls T GH 3
  have C_law_same : Cal P w K mg base 18 "_law_same" (sp_law_same 18) := ok_law_same T GH.same 18
  refine F.ok sc_law (fun vs H Q E h => ?_) (fun cdv A outer s H vs Q E hr h => ?_)
  · obtain ⟨a, ns, rfl, _⟩ := h
    rfl
  obtain ⟨a, ns, rfl, hS, q⟩ := h
  refine ⟨_, (pss_cons (ps_set (i := 1) sc_law.nd rfl (Or.inl rfl) (pe_k C_law_tape hr (by omega) (by rfl) (pa_cons (pv 0) pa_nil)))
    (pss_cons (ps_set (i := 2) sc_law.nd rfl (Or.inl rfl) (pe_ix ix_tup (pe_k C_law_rich hr (by omega) (by rfl) (pa_cons (pv 1) (pa_cons pe_int (pa_cons pe_int pa_nil)))) pe_int (fun _ _ => rfl)))
    (pss_one (ps_ret (pe_k C_law_same hr (by omega) (by rfl) (pa_cons (pe_k C_whole hr (by omega) (by rfl) (pa_cons (pv 2) pa_nil)) (pa_cons (pe_k C_law_full hr (by omega) (by rfl) (pa_cons (pv 2) pa_nil)) pa_nil))))))), ?_⟩
  refine ⟨_, rfl, a, ns, rfl, hS, fun t s1 H1 s1' T1 => ?_⟩
  refine ⟨_, rfl, t, s1, 3, 390, rfl, rfl, T1, fun v its rss m H2 hil hP hv T2 b2 => ?_⟩
  obtain ⟨ta, txs, rfl, hta, htl⟩ := hv.tupI
  obtain ⟨lv, txs1, rfl, hlv, htl1⟩ := invC htl
  refine ⟨ta, _, 0, _, rfl, rfl, SqT.has hta, i0, ?_⟩
  have hL : LRes 3 (.tup its) (.tup rss.flatten) := lres_of (n := 3) (by omega) hP
  refine ⟨_, rfl, lv, _, _, rfl, hlv, hL, fun u1 H3 s3 hu1 => ?_⟩
  refine ⟨_, rfl, lv, _, _, rfl, hlv.mono (kt_same s3), hL, fun u2 H4 s4 hu2 => ?_⟩
  exact ⟨u1, u2, _, rfl, dp_lres 3 hL, hu1.mono (kt_same s4), hu2, q _⟩
end
end Wp

namespace Wp
open PySem PySem.Spec PyProof.Rows L2
/-! ### the top -/
theorem all_mk {l : PySem.W.OpenLaw} {w : World} {K : PySem.W.Frag} {h : Heap} {mg : Str → Option Value} {fa : Addr} (X : K.In h) (G : h.Ns mainGlobals mg) (hfa : mg "law" = some (.ref fa))
    {f0 : Addr} {od0 an0 : Option Addr} {sl0 : Array (Option Value)} {oc0 kV0 dc0 pm0 cd0 ct0 : Value} (a0 : PySem.W.nsIn K mainGlobals "word_size" = some (some (.ref f0)))
      (l0 : K.lookup f0 = some ⟨oc0, od0, .func (PySem.W.fnOf "word_size" "word_size" (defArgs (topS 2)) (defBody (topS 2)) (defScope (topS 2)) .none kV0 dc0 pm0 an0 cd0 ct0), sl0⟩) (c0 : PySem.W.codeIn K cd0 "word_size" = true) (k0 : PySem.W.keepIn K (.ref f0) = true)
    {f1 : Addr} {od1 an1 : Option Addr} {sl1 : Array (Option Value)} {oc1 kV1 dc1 pm1 cd1 ct1 : Value} (a1 : PySem.W.nsIn K mainGlobals "code_of" = some (some (.ref f1)))
      (l1 : K.lookup f1 = some ⟨oc1, od1, .func (PySem.W.fnOf "code_of" "code_of" (defArgs (topS 3)) (defBody (topS 3)) (defScope (topS 3)) .none kV1 dc1 pm1 an1 cd1 ct1), sl1⟩) (c1 : PySem.W.codeIn K cd1 "code_of" = true) (k1 : PySem.W.keepIn K (.ref f1) = true)
    {f2 : Addr} {od2 an2 : Option Addr} {sl2 : Array (Option Value)} {oc2 kV2 dc2 pm2 cd2 ct2 : Value} (a2 : PySem.W.nsIn K mainGlobals "fields" = some (some (.ref f2)))
      (l2 : K.lookup f2 = some ⟨oc2, od2, .func (PySem.W.fnOf "fields" "fields" (defArgs (topS 6)) (defBody (topS 6)) (defScope (topS 6)) .none kV2 dc2 pm2 an2 cd2 ct2), sl2⟩) (c2 : PySem.W.codeIn K cd2 "fields" = true) (k2 : PySem.W.keepIn K (.ref f2) = true)
    {f3 : Addr} {od3 an3 : Option Addr} {sl3 : Array (Option Value)} {oc3 kV3 dc3 pm3 cd3 ct3 : Value} (a3 : PySem.W.nsIn K mainGlobals "slots" = some (some (.ref f3)))
      (l3 : K.lookup f3 = some ⟨oc3, od3, .func (PySem.W.fnOf "slots" "slots" (defArgs (topS 7)) (defBody (topS 7)) (defScope (topS 7)) .none kV3 dc3 pm3 an3 cd3 ct3), sl3⟩) (c3 : PySem.W.codeIn K cd3 "slots" = true) (k3 : PySem.W.keepIn K (.ref f3) = true)
    {f4 : Addr} {od4 an4 : Option Addr} {sl4 : Array (Option Value)} {oc4 kV4 dc4 pm4 cd4 ct4 : Value} (a4 : PySem.W.nsIn K mainGlobals "count_of" = some (some (.ref f4)))
      (l4 : K.lookup f4 = some ⟨oc4, od4, .func (PySem.W.fnOf "count_of" "count_of" (defArgs (topS 8)) (defBody (topS 8)) (defScope (topS 8)) .none kV4 dc4 pm4 an4 cd4 ct4), sl4⟩) (c4 : PySem.W.codeIn K cd4 "count_of" = true) (k4 : PySem.W.keepIn K (.ref f4) = true)
    {f5 : Addr} {od5 an5 : Option Addr} {sl5 : Array (Option Value)} {oc5 kV5 dc5 pm5 cd5 ct5 : Value} (a5 : PySem.W.nsIn K mainGlobals "allowed_numbers" = some (some (.ref f5)))
      (l5 : K.lookup f5 = some ⟨oc5, od5, .func (PySem.W.fnOf "allowed_numbers" "allowed_numbers" (defArgs (topS 9)) (defBody (topS 9)) (defScope (topS 9)) .none kV5 dc5 pm5 an5 cd5 ct5), sl5⟩) (c5 : PySem.W.codeIn K cd5 "allowed_numbers" = true) (k5 : PySem.W.keepIn K (.ref f5) = true)
    {f6 : Addr} {od6 an6 : Option Addr} {sl6 : Array (Option Value)} {oc6 kV6 dc6 pm6 cd6 ct6 : Value} (a6 : PySem.W.nsIn K mainGlobals "element_layout" = some (some (.ref f6)))
      (l6 : K.lookup f6 = some ⟨oc6, od6, .func (PySem.W.fnOf "element_layout" "element_layout" (defArgs (topS 10)) (defBody (topS 10)) (defScope (topS 10)) .none kV6 dc6 pm6 an6 cd6 ct6), sl6⟩) (c6 : PySem.W.codeIn K cd6 "element_layout" = true) (k6 : PySem.W.keepIn K (.ref f6) = true)
    {f7 : Addr} {od7 an7 : Option Addr} {sl7 : Array (Option Value)} {oc7 kV7 dc7 pm7 cd7 ct7 : Value} (a7 : PySem.W.nsIn K mainGlobals "unwrap" = some (some (.ref f7)))
      (l7 : K.lookup f7 = some ⟨oc7, od7, .func (PySem.W.fnOf "unwrap" "unwrap" (defArgs (topS 11)) (defBody (topS 11)) (defScope (topS 11)) .none kV7 dc7 pm7 an7 cd7 ct7), sl7⟩) (c7 : PySem.W.codeIn K cd7 "unwrap" = true) (k7 : PySem.W.keepIn K (.ref f7) = true)
    {f8 : Addr} {od8 an8 : Option Addr} {sl8 : Array (Option Value)} {oc8 kV8 dc8 pm8 cd8 ct8 : Value} (a8 : PySem.W.nsIn K mainGlobals "ones" = some (some (.ref f8)))
      (l8 : K.lookup f8 = some ⟨oc8, od8, .func (PySem.W.fnOf "ones" "ones" (defArgs (topS 13)) (defBody (topS 13)) (defScope (topS 13)) .none kV8 dc8 pm8 an8 cd8 ct8), sl8⟩) (c8 : PySem.W.codeIn K cd8 "ones" = true) (k8 : PySem.W.keepIn K (.ref f8) = true)
    {f9 : Addr} {od9 an9 : Option Addr} {sl9 : Array (Option Value)} {oc9 kV9 dc9 pm9 cd9 ct9 : Value} (a9 : PySem.W.nsIn K mainGlobals "free_bits" = some (some (.ref f9)))
      (l9 : K.lookup f9 = some ⟨oc9, od9, .func (PySem.W.fnOf "free_bits" "free_bits" (defArgs (topS 14)) (defBody (topS 14)) (defScope (topS 14)) .none kV9 dc9 pm9 an9 cd9 ct9), sl9⟩) (c9 : PySem.W.codeIn K cd9 "free_bits" = true) (k9 : PySem.W.keepIn K (.ref f9) = true)
    {f10 : Addr} {od10 an10 : Option Addr} {sl10 : Array (Option Value)} {oc10 kV10 dc10 pm10 cd10 ct10 : Value} (a10 : PySem.W.nsIn K mainGlobals "agreement" = some (some (.ref f10)))
      (l10 : K.lookup f10 = some ⟨oc10, od10, .func (PySem.W.fnOf "agreement" "agreement" (defArgs (topS 15)) (defBody (topS 15)) (defScope (topS 15)) .none kV10 dc10 pm10 an10 cd10 ct10), sl10⟩) (c10 : PySem.W.codeIn K cd10 "agreement" = true) (k10 : PySem.W.keepIn K (.ref f10) = true)
    {f11 : Addr} {od11 an11 : Option Addr} {sl11 : Array (Option Value)} {oc11 kV11 dc11 pm11 cd11 ct11 : Value} (a11 : PySem.W.nsIn K mainGlobals "set_of" = some (some (.ref f11)))
      (l11 : K.lookup f11 = some ⟨oc11, od11, .func (PySem.W.fnOf "set_of" "set_of" (defArgs (topS 16)) (defBody (topS 16)) (defScope (topS 16)) .none kV11 dc11 pm11 an11 cd11 ct11), sl11⟩) (c11 : PySem.W.codeIn K cd11 "set_of" = true) (k11 : PySem.W.keepIn K (.ref f11) = true)
    {f12 : Addr} {od12 an12 : Option Addr} {sl12 : Array (Option Value)} {oc12 kV12 dc12 pm12 cd12 ct12 : Value} (a12 : PySem.W.nsIn K mainGlobals "whole_set" = some (some (.ref f12)))
      (l12 : K.lookup f12 = some ⟨oc12, od12, .func (PySem.W.fnOf "whole_set" "whole_set" (defArgs (topS 17)) (defBody (topS 17)) (defScope (topS 17)) .none kV12 dc12 pm12 an12 cd12 ct12), sl12⟩) (c12 : PySem.W.codeIn K cd12 "whole_set" = true) (k12 : PySem.W.keepIn K (.ref f12) = true)
    {f13 : Addr} {od13 an13 : Option Addr} {sl13 : Array (Option Value)} {oc13 kV13 dc13 pm13 cd13 ct13 : Value} (a13 : PySem.W.nsIn K mainGlobals "whole_entry" = some (some (.ref f13)))
      (l13 : K.lookup f13 = some ⟨oc13, od13, .func (PySem.W.fnOf "whole_entry" "whole_entry" (defArgs (topS 19)) (defBody (topS 19)) (defScope (topS 19)) .none kV13 dc13 pm13 an13 cd13 ct13), sl13⟩) (c13 : PySem.W.codeIn K cd13 "whole_entry" = true) (k13 : PySem.W.keepIn K (.ref f13) = true)
    {f14 : Addr} {od14 an14 : Option Addr} {sl14 : Array (Option Value)} {oc14 kV14 dc14 pm14 cd14 ct14 : Value} (a14 : PySem.W.nsIn K mainGlobals "whole" = some (some (.ref f14)))
      (l14 : K.lookup f14 = some ⟨oc14, od14, .func (PySem.W.fnOf "whole" "whole" (defArgs (topS 20)) (defBody (topS 20)) (defScope (topS 20)) .none kV14 dc14 pm14 an14 cd14 ct14), sl14⟩) (c14 : PySem.W.codeIn K cd14 "whole" = true) (k14 : PySem.W.keepIn K (.ref f14) = true)
    {f15 : Addr} {od15 an15 : Option Addr} {sl15 : Array (Option Value)} {oc15 kV15 dc15 pm15 cd15 ct15 : Value} (a15 : PySem.W.nsIn K mainGlobals "_law_tape" = some (some (.ref f15)))
      (l15 : K.lookup f15 = some ⟨oc15, od15, .func (PySem.W.fnOf "_law_tape" "_law_tape" (defArgs (topS 22)) (defBody (topS 22)) (defScope (topS 22)) .none kV15 dc15 pm15 an15 cd15 ct15), sl15⟩) (c15 : PySem.W.codeIn K cd15 "_law_tape" = true) (k15 : PySem.W.keepIn K (.ref f15) = true)
    {f16 : Addr} {od16 an16 : Option Addr} {sl16 : Array (Option Value)} {oc16 kV16 dc16 pm16 cd16 ct16 : Value} (a16 : PySem.W.nsIn K mainGlobals "_law_draw" = some (some (.ref f16)))
      (l16 : K.lookup f16 = some ⟨oc16, od16, .func (PySem.W.fnOf "_law_draw" "_law_draw" (defArgs (topS 23)) (defBody (topS 23)) (defScope (topS 23)) .none kV16 dc16 pm16 an16 cd16 ct16), sl16⟩) (c16 : PySem.W.codeIn K cd16 "_law_draw" = true) (k16 : PySem.W.keepIn K (.ref f16) = true)
    {f17 : Addr} {od17 an17 : Option Addr} {sl17 : Array (Option Value)} {oc17 kV17 dc17 pm17 cd17 ct17 : Value} (a17 : PySem.W.nsIn K mainGlobals "_law_name" = some (some (.ref f17)))
      (l17 : K.lookup f17 = some ⟨oc17, od17, .func (PySem.W.fnOf "_law_name" "_law_name" (defArgs (topS 24)) (defBody (topS 24)) (defScope (topS 24)) .none kV17 dc17 pm17 an17 cd17 ct17), sl17⟩) (c17 : PySem.W.codeIn K cd17 "_law_name" = true) (k17 : PySem.W.keepIn K (.ref f17) = true)
    {f18 : Addr} {od18 an18 : Option Addr} {sl18 : Array (Option Value)} {oc18 kV18 dc18 pm18 cd18 ct18 : Value} (a18 : PySem.W.nsIn K mainGlobals "_law_runs" = some (some (.ref f18)))
      (l18 : K.lookup f18 = some ⟨oc18, od18, .func (PySem.W.fnOf "_law_runs" "_law_runs" (defArgs (topS 25)) (defBody (topS 25)) (defScope (topS 25)) .none kV18 dc18 pm18 an18 cd18 ct18), sl18⟩) (c18 : PySem.W.codeIn K cd18 "_law_runs" = true) (k18 : PySem.W.keepIn K (.ref f18) = true)
    {f19 : Addr} {od19 an19 : Option Addr} {sl19 : Array (Option Value)} {oc19 kV19 dc19 pm19 cd19 ct19 : Value} (a19 : PySem.W.nsIn K mainGlobals "_law_listed" = some (some (.ref f19)))
      (l19 : K.lookup f19 = some ⟨oc19, od19, .func (PySem.W.fnOf "_law_listed" "_law_listed" (defArgs (topS 26)) (defBody (topS 26)) (defScope (topS 26)) .none kV19 dc19 pm19 an19 cd19 ct19), sl19⟩) (c19 : PySem.W.codeIn K cd19 "_law_listed" = true) (k19 : PySem.W.keepIn K (.ref f19) = true)
    {f20 : Addr} {od20 an20 : Option Addr} {sl20 : Array (Option Value)} {oc20 kV20 dc20 pm20 cd20 ct20 : Value} (a20 : PySem.W.nsIn K mainGlobals "_law_same" = some (some (.ref f20)))
      (l20 : K.lookup f20 = some ⟨oc20, od20, .func (PySem.W.fnOf "_law_same" "_law_same" (defArgs (topS 27)) (defBody (topS 27)) (defScope (topS 27)) .none kV20 dc20 pm20 an20 cd20 ct20), sl20⟩) (c20 : PySem.W.codeIn K cd20 "_law_same" = true) (k20 : PySem.W.keepIn K (.ref f20) = true)
    {f21 : Addr} {od21 an21 : Option Addr} {sl21 : Array (Option Value)} {oc21 kV21 dc21 pm21 cd21 ct21 : Value} (a21 : PySem.W.nsIn K mainGlobals "_law_size" = some (some (.ref f21)))
      (l21 : K.lookup f21 = some ⟨oc21, od21, .func (PySem.W.fnOf "_law_size" "_law_size" (defArgs (topS 28)) (defBody (topS 28)) (defScope (topS 28)) .none kV21 dc21 pm21 an21 cd21 ct21), sl21⟩) (c21 : PySem.W.codeIn K cd21 "_law_size" = true) (k21 : PySem.W.keepIn K (.ref f21) = true)
    {f22 : Addr} {od22 an22 : Option Addr} {sl22 : Array (Option Value)} {oc22 kV22 dc22 pm22 cd22 ct22 : Value} (a22 : PySem.W.nsIn K mainGlobals "_law_any_word" = some (some (.ref f22)))
      (l22 : K.lookup f22 = some ⟨oc22, od22, .func (PySem.W.fnOf "_law_any_word" "_law_any_word" (defArgs (topS 29)) (defBody (topS 29)) (defScope (topS 29)) .none kV22 dc22 pm22 an22 cd22 ct22), sl22⟩) (c22 : PySem.W.codeIn K cd22 "_law_any_word" = true) (k22 : PySem.W.keepIn K (.ref f22) = true)
    {f23 : Addr} {od23 an23 : Option Addr} {sl23 : Array (Option Value)} {oc23 kV23 dc23 pm23 cd23 ct23 : Value} (a23 : PySem.W.nsIn K mainGlobals "_law_a_count" = some (some (.ref f23)))
      (l23 : K.lookup f23 = some ⟨oc23, od23, .func (PySem.W.fnOf "_law_a_count" "_law_a_count" (defArgs (topS 30)) (defBody (topS 30)) (defScope (topS 30)) .none kV23 dc23 pm23 an23 cd23 ct23), sl23⟩) (c23 : PySem.W.codeIn K cd23 "_law_a_count" = true) (k23 : PySem.W.keepIn K (.ref f23) = true)
    {f24 : Addr} {od24 an24 : Option Addr} {sl24 : Array (Option Value)} {oc24 kV24 dc24 pm24 cd24 ct24 : Value} (a24 : PySem.W.nsIn K mainGlobals "_law_bounds" = some (some (.ref f24)))
      (l24 : K.lookup f24 = some ⟨oc24, od24, .func (PySem.W.fnOf "_law_bounds" "_law_bounds" (defArgs (topS 31)) (defBody (topS 31)) (defScope (topS 31)) .none kV24 dc24 pm24 an24 cd24 ct24), sl24⟩) (c24 : PySem.W.codeIn K cd24 "_law_bounds" = true) (k24 : PySem.W.keepIn K (.ref f24) = true)
    {f25 : Addr} {od25 an25 : Option Addr} {sl25 : Array (Option Value)} {oc25 kV25 dc25 pm25 cd25 ct25 : Value} (a25 : PySem.W.nsIn K mainGlobals "_law_a_field" = some (some (.ref f25)))
      (l25 : K.lookup f25 = some ⟨oc25, od25, .func (PySem.W.fnOf "_law_a_field" "_law_a_field" (defArgs (topS 32)) (defBody (topS 32)) (defScope (topS 32)) .none kV25 dc25 pm25 an25 cd25 ct25), sl25⟩) (c25 : PySem.W.codeIn K cd25 "_law_a_field" = true) (k25 : PySem.W.keepIn K (.ref f25) = true)
    {f26 : Addr} {od26 an26 : Option Addr} {sl26 : Array (Option Value)} {oc26 kV26 dc26 pm26 cd26 ct26 : Value} (a26 : PySem.W.nsIn K mainGlobals "_law_ranges" = some (some (.ref f26)))
      (l26 : K.lookup f26 = some ⟨oc26, od26, .func (PySem.W.fnOf "_law_ranges" "_law_ranges" (defArgs (topS 33)) (defBody (topS 33)) (defScope (topS 33)) .none kV26 dc26 pm26 an26 cd26 ct26), sl26⟩) (c26 : PySem.W.codeIn K cd26 "_law_ranges" = true) (k26 : PySem.W.keepIn K (.ref f26) = true)
    {f27 : Addr} {od27 an27 : Option Addr} {sl27 : Array (Option Value)} {oc27 kV27 dc27 pm27 cd27 ct27 : Value} (a27 : PySem.W.nsIn K mainGlobals "_law_a_number" = some (some (.ref f27)))
      (l27 : K.lookup f27 = some ⟨oc27, od27, .func (PySem.W.fnOf "_law_a_number" "_law_a_number" (defArgs (topS 34)) (defBody (topS 34)) (defScope (topS 34)) .none kV27 dc27 pm27 an27 cd27 ct27), sl27⟩) (c27 : PySem.W.codeIn K cd27 "_law_a_number" = true) (k27 : PySem.W.keepIn K (.ref f27) = true)
    {f28 : Addr} {od28 an28 : Option Addr} {sl28 : Array (Option Value)} {oc28 kV28 dc28 pm28 cd28 ct28 : Value} (a28 : PySem.W.nsIn K mainGlobals "_law_part" = some (some (.ref f28)))
      (l28 : K.lookup f28 = some ⟨oc28, od28, .func (PySem.W.fnOf "_law_part" "_law_part" (defArgs (topS 35)) (defBody (topS 35)) (defScope (topS 35)) .none kV28 dc28 pm28 an28 cd28 ct28), sl28⟩) (c28 : PySem.W.codeIn K cd28 "_law_part" = true) (k28 : PySem.W.keepIn K (.ref f28) = true)
    {f29 : Addr} {od29 an29 : Option Addr} {sl29 : Array (Option Value)} {oc29 kV29 dc29 pm29 cd29 ct29 : Value} (a29 : PySem.W.nsIn K mainGlobals "_law_case_numbers" = some (some (.ref f29)))
      (l29 : K.lookup f29 = some ⟨oc29, od29, .func (PySem.W.fnOf "_law_case_numbers" "_law_case_numbers" (defArgs (topS 36)) (defBody (topS 36)) (defScope (topS 36)) .none kV29 dc29 pm29 an29 cd29 ct29), sl29⟩) (c29 : PySem.W.codeIn K cd29 "_law_case_numbers" = true) (k29 : PySem.W.keepIn K (.ref f29) = true)
    {f30 : Addr} {od30 an30 : Option Addr} {sl30 : Array (Option Value)} {oc30 kV30 dc30 pm30 cd30 ct30 : Value} (a30 : PySem.W.nsIn K mainGlobals "_law_not_empty" = some (some (.ref f30)))
      (l30 : K.lookup f30 = some ⟨oc30, od30, .func (PySem.W.fnOf "_law_not_empty" "_law_not_empty" (defArgs (topS 37)) (defBody (topS 37)) (defScope (topS 37)) .none kV30 dc30 pm30 an30 cd30 ct30), sl30⟩) (c30 : PySem.W.codeIn K cd30 "_law_not_empty" = true) (k30 : PySem.W.keepIn K (.ref f30) = true)
    {f31 : Addr} {od31 an31 : Option Addr} {sl31 : Array (Option Value)} {oc31 kV31 dc31 pm31 cd31 ct31 : Value} (a31 : PySem.W.nsIn K mainGlobals "_law_rich" = some (some (.ref f31)))
      (l31 : K.lookup f31 = some ⟨oc31, od31, .func (PySem.W.fnOf "_law_rich" "_law_rich" (defArgs (topS 38)) (defBody (topS 38)) (defScope (topS 38)) .none kV31 dc31 pm31 an31 cd31 ct31), sl31⟩) (c31 : PySem.W.codeIn K cd31 "_law_rich" = true) (k31 : PySem.W.keepIn K (.ref f31) = true)
    {f32 : Addr} {od32 an32 : Option Addr} {sl32 : Array (Option Value)} {oc32 kV32 dc32 pm32 cd32 ct32 : Value} (a32 : PySem.W.nsIn K mainGlobals "_law_rich_item" = some (some (.ref f32)))
      (l32 : K.lookup f32 = some ⟨oc32, od32, .func (PySem.W.fnOf "_law_rich_item" "_law_rich_item" (defArgs (topS 39)) (defBody (topS 39)) (defScope (topS 39)) .none kV32 dc32 pm32 an32 cd32 ct32), sl32⟩) (c32 : PySem.W.codeIn K cd32 "_law_rich_item" = true) (k32 : PySem.W.keepIn K (.ref f32) = true)
    {f33 : Addr} {od33 an33 : Option Addr} {sl33 : Array (Option Value)} {oc33 kV33 dc33 pm33 cd33 ct33 : Value} (a33 : PySem.W.nsIn K mainGlobals "_law_fixed" = some (some (.ref f33)))
      (l33 : K.lookup f33 = some ⟨oc33, od33, .func (PySem.W.fnOf "_law_fixed" "_law_fixed" (defArgs (topS 40)) (defBody (topS 40)) (defScope (topS 40)) .none kV33 dc33 pm33 an33 cd33 ct33), sl33⟩) (c33 : PySem.W.codeIn K cd33 "_law_fixed" = true) (k33 : PySem.W.keepIn K (.ref f33) = true)
    {f34 : Addr} {od34 an34 : Option Addr} {sl34 : Array (Option Value)} {oc34 kV34 dc34 pm34 cd34 ct34 : Value} (a34 : PySem.W.nsIn K mainGlobals "_law_rich_word" = some (some (.ref f34)))
      (l34 : K.lookup f34 = some ⟨oc34, od34, .func (PySem.W.fnOf "_law_rich_word" "_law_rich_word" (defArgs (topS 41)) (defBody (topS 41)) (defScope (topS 41)) .none kV34 dc34 pm34 an34 cd34 ct34), sl34⟩) (c34 : PySem.W.codeIn K cd34 "_law_rich_word" = true) (k34 : PySem.W.keepIn K (.ref f34) = true)
    {f35 : Addr} {od35 an35 : Option Addr} {sl35 : Array (Option Value)} {oc35 kV35 dc35 pm35 cd35 ct35 : Value} (a35 : PySem.W.nsIn K mainGlobals "_law_rich_choice" = some (some (.ref f35)))
      (l35 : K.lookup f35 = some ⟨oc35, od35, .func (PySem.W.fnOf "_law_rich_choice" "_law_rich_choice" (defArgs (topS 42)) (defBody (topS 42)) (defScope (topS 42)) .none kV35 dc35 pm35 an35 cd35 ct35), sl35⟩) (c35 : PySem.W.codeIn K cd35 "_law_rich_choice" = true) (k35 : PySem.W.keepIn K (.ref f35) = true)
    {f36 : Addr} {od36 an36 : Option Addr} {sl36 : Array (Option Value)} {oc36 kV36 dc36 pm36 cd36 ct36 : Value} (a36 : PySem.W.nsIn K mainGlobals "_law_kinds" = some (some (.ref f36)))
      (l36 : K.lookup f36 = some ⟨oc36, od36, .func (PySem.W.fnOf "_law_kinds" "_law_kinds" (defArgs (topS 43)) (defBody (topS 43)) (defScope (topS 43)) .none kV36 dc36 pm36 an36 cd36 ct36), sl36⟩) (c36 : PySem.W.codeIn K cd36 "_law_kinds" = true) (k36 : PySem.W.keepIn K (.ref f36) = true)
    {f37 : Addr} {od37 an37 : Option Addr} {sl37 : Array (Option Value)} {oc37 kV37 dc37 pm37 cd37 ct37 : Value} (a37 : PySem.W.nsIn K mainGlobals "_law_set" = some (some (.ref f37)))
      (l37 : K.lookup f37 = some ⟨oc37, od37, .func (PySem.W.fnOf "_law_set" "_law_set" (defArgs (topS 44)) (defBody (topS 44)) (defScope (topS 44)) .none kV37 dc37 pm37 an37 cd37 ct37), sl37⟩) (c37 : PySem.W.codeIn K cd37 "_law_set" = true) (k37 : PySem.W.keepIn K (.ref f37) = true)
    {f38 : Addr} {od38 an38 : Option Addr} {sl38 : Array (Option Value)} {oc38 kV38 dc38 pm38 cd38 ct38 : Value} (a38 : PySem.W.nsIn K mainGlobals "_law_every" = some (some (.ref f38)))
      (l38 : K.lookup f38 = some ⟨oc38, od38, .func (PySem.W.fnOf "_law_every" "_law_every" (defArgs (topS 45)) (defBody (topS 45)) (defScope (topS 45)) .none kV38 dc38 pm38 an38 cd38 ct38), sl38⟩) (c38 : PySem.W.codeIn K cd38 "_law_every" = true) (k38 : PySem.W.keepIn K (.ref f38) = true)
    {f39 : Addr} {od39 an39 : Option Addr} {sl39 : Array (Option Value)} {oc39 kV39 dc39 pm39 cd39 ct39 : Value} (a39 : PySem.W.nsIn K mainGlobals "_law_full" = some (some (.ref f39)))
      (l39 : K.lookup f39 = some ⟨oc39, od39, .func (PySem.W.fnOf "_law_full" "_law_full" (defArgs (topS 46)) (defBody (topS 46)) (defScope (topS 46)) .none kV39 dc39 pm39 an39 cd39 ct39), sl39⟩) (c39 : PySem.W.codeIn K cd39 "_law_full" = true) (k39 : PySem.W.keepIn K (.ref f39) = true)
    {f40 : Addr} {od40 an40 : Option Addr} {sl40 : Array (Option Value)} {oc40 kV40 dc40 pm40 cd40 ct40 : Value} (a40 : PySem.W.nsIn K mainGlobals "_law_full_of" = some (some (.ref f40)))
      (l40 : K.lookup f40 = some ⟨oc40, od40, .func (PySem.W.fnOf "_law_full_of" "_law_full_of" (defArgs (topS 47)) (defBody (topS 47)) (defScope (topS 47)) .none kV40 dc40 pm40 an40 cd40 ct40), sl40⟩) (c40 : PySem.W.codeIn K cd40 "_law_full_of" = true) (k40 : PySem.W.keepIn K (.ref f40) = true)
    {f41 : Addr} {od41 an41 : Option Addr} {sl41 : Array (Option Value)} {oc41 kV41 dc41 pm41 cd41 ct41 : Value} (a41 : PySem.W.nsIn K mainGlobals "law" = some (some (.ref f41)))
      (l41 : K.lookup f41 = some ⟨oc41, od41, .func (PySem.W.fnOf "law" "law" (defArgs (topS 48)) (defBody (topS 48)) (defScope (topS 48)) .none kV41 dc41 pm41 an41 cd41 ct41), sl41⟩) (c41 : PySem.W.codeIn K cd41 "law" = true) (k41 : PySem.W.keepIn K (.ref f41) = true)
    (z_len : PySem.W.nsIn K mainGlobals "len" = some none)
    (z_range : PySem.W.nsIn K mainGlobals "range" = some none)
    (z_tuple : PySem.W.nsIn K mainGlobals "tuple" = some none)
    (z_list : PySem.W.nsIn K mainGlobals "list" = some none)
    (z_abs : PySem.W.nsIn K mainGlobals "abs" = some none)
    (z_int : PySem.W.nsIn K mainGlobals "int" = some none)
    (z_max : PySem.W.nsIn K mainGlobals "max" = some none)
    (z_min : PySem.W.nsIn K mainGlobals "min" = some none)
    (z_str : PySem.W.nsIn K mainGlobals "str" = some none)
    (z_bool : PySem.W.nsIn K mainGlobals "bool" = some none)
    (z_isinstance : PySem.W.nsIn K mainGlobals "isinstance" = some none)
    (z_sorted : PySem.W.nsIn K mainGlobals "sorted" = some none)
    {dW aC : Addr} {es : Array DictEntry} {n : Nat} {u1 u2 u3 u4 u5 : Tok} (w1 : PySem.W.nsIn K mainGlobals "WORD_SIZES" = some (some (.ref dW))) (w2 : K.lookup dW = some ⟨.type "dict", none, .dict es n, #[]⟩) (w3 : PySem.W.KeysLit w.params es.toList)
    (w4 : PySem.W.nsIn K dW "u8" = some (some (.int 1 u1))) (w5 : PySem.W.nsIn K dW "u16be" = some (some (.int 2 u2))) (w6 : PySem.W.nsIn K dW "u16le" = some (some (.int 2 u3))) (w7 : PySem.W.nsIn K dW "u32be" = some (some (.int 4 u4))) (w8 : PySem.W.nsIn K dW "u32le" = some (some (.int 4 u5)))
    (x1 : PySem.W.nsIn K mainGlobals "COMPOSITES" = some (some (.ref aC))) {od} {t1 t2 t3 t4 : Tok} {m : Nat} {sl} (x2 : K.lookup aC = some ⟨.type "tuple", od, .seq #[.str "array" t1, .str "list" t2, .str "choice" t3, .str "record" t4] m, sl⟩)
    : ∃ fd : FuncData, (∀ (s : Shared) (v : Value), BindsTo s fd ⟨[v], []⟩ [("_law_script", v)]) ∧ ∀ base : Heap, K.In base → base.Ns mainGlobals mg → FnOk l.prog w K mg base CX0 19 fa fd ["_law_script"] (spLaw K) := by
  have e := hfa.symm.trans (PySem.W.mg_of X G a41)
  cases e
  have T : Txt w K mg dW aC := ⟨PySem.W.mg_none_of X G z_len, PySem.W.mg_none_of X G z_range, PySem.W.mg_none_of X G z_tuple, PySem.W.mg_none_of X G z_list, PySem.W.mg_none_of X G z_abs, PySem.W.mg_none_of X G z_int, PySem.W.mg_none_of X G z_max, PySem.W.mg_none_of X G z_min, PySem.W.mg_none_of X G z_str, PySem.W.mg_none_of X G z_bool, PySem.W.mg_none_of X G z_isinstance, PySem.W.mg_none_of X G z_sorted, PySem.W.mg_of X G w1, PySem.W.mg_of X G x1, fun w5_ => by
    cases w5_
    · exact ⟨es, n, _, w2, w3, w4, _, rfl⟩
    · exact ⟨es, n, _, w2, w3, w5, _, rfl⟩
    · exact ⟨es, n, _, w2, w3, w6, _, rfl⟩
    · exact ⟨es, n, _, w2, w3, w7, _, rfl⟩
    · exact ⟨es, n, _, w2, w3, w8, _, rfl⟩, fun H => .inr ⟨_, _, _, x2, rfl, rfl, Nat.le_trans (Nat.le_of_ble_eq_true rfl : 4 ≤ 1000) (by decide), .cons ⟨_, rfl⟩ (.cons ⟨_, rfl⟩ (.cons ⟨_, rfl⟩ (.cons ⟨_, rfl⟩ .nil)))⟩⟩
  have GP : Prog K mg := ⟨⟨⟨_, _, fun_mk (st := st_word_size) l0 c0 k0, PySem.W.mg_of X G a0⟩⟩,
      ⟨⟨_, _, fun_mk (st := st_code_of) l1 c1 k1, PySem.W.mg_of X G a1⟩⟩,
      ⟨⟨_, _, fun_mk (st := st_fields) l2 c2 k2, PySem.W.mg_of X G a2⟩⟩,
      ⟨⟨_, _, fun_mk (st := st_slots) l3 c3 k3, PySem.W.mg_of X G a3⟩⟩,
      ⟨⟨_, _, fun_mk (st := st_count_of) l4 c4 k4, PySem.W.mg_of X G a4⟩⟩,
      ⟨⟨_, _, fun_mk (st := st_allowed_numbers) l5 c5 k5, PySem.W.mg_of X G a5⟩⟩,
      ⟨⟨_, _, fun_mk (st := st_element_layout) l6 c6 k6, PySem.W.mg_of X G a6⟩⟩,
      ⟨⟨_, _, fun_mk (st := st_unwrap) l7 c7 k7, PySem.W.mg_of X G a7⟩⟩,
      ⟨⟨_, _, fun_mk (st := st_ones) l8 c8 k8, PySem.W.mg_of X G a8⟩⟩,
      ⟨⟨_, _, fun_mk (st := st_free_bits) l9 c9 k9, PySem.W.mg_of X G a9⟩⟩,
      ⟨⟨_, _, fun_mk (st := st_agreement) l10 c10 k10, PySem.W.mg_of X G a10⟩⟩,
      ⟨⟨_, _, fun_mk (st := st_set_of) l11 c11 k11, PySem.W.mg_of X G a11⟩⟩,
      ⟨⟨_, _, fun_mk (st := st_whole_set) l12 c12 k12, PySem.W.mg_of X G a12⟩⟩,
      ⟨⟨_, _, fun_mk (st := st_whole_entry) l13 c13 k13, PySem.W.mg_of X G a13⟩⟩,
      ⟨⟨_, _, fun_mk (st := st_whole) l14 c14 k14, PySem.W.mg_of X G a14⟩⟩⟩
  have GH : Half K mg := ⟨⟨⟨_, _, fun_mk (st := st_law_size) l21 c21 k21, PySem.W.mg_of X G a21⟩⟩,
      ⟨⟨_, _, fun_mk (st := st_law_bounds) l24 c24 k24, PySem.W.mg_of X G a24⟩⟩,
      ⟨⟨_, _, fun_mk (st := st_law_listed) l19 c19 k19, PySem.W.mg_of X G a19⟩⟩,
      ⟨⟨_, _, fun_mk (st := st_law_set) l37 c37 k37, PySem.W.mg_of X G a37⟩⟩,
      ⟨⟨_, _, fun_mk (st := st_law_every) l38 c38 k38, PySem.W.mg_of X G a38⟩⟩,
      ⟨⟨_, _, fun_mk (st := st_law_kinds) l36 c36 k36, PySem.W.mg_of X G a36⟩⟩,
      ⟨⟨_, _, fun_mk (st := st_law_full) l39 c39 k39, PySem.W.mg_of X G a39⟩⟩,
      ⟨⟨_, _, fun_mk (st := st_law_full_of) l40 c40 k40, PySem.W.mg_of X G a40⟩⟩,
      ⟨⟨_, _, fun_mk (st := st_law_same) l20 c20 k20, PySem.W.mg_of X G a20⟩⟩⟩
  have GG : Gen K mg := ⟨⟨⟨_, _, fun_mk (st := st_law_tape) l15 c15 k15, PySem.W.mg_of X G a15⟩⟩,
      ⟨⟨_, _, fun_mk (st := st_law_draw) l16 c16 k16, PySem.W.mg_of X G a16⟩⟩,
      ⟨⟨_, _, fun_mk (st := st_law_name) l17 c17 k17, PySem.W.mg_of X G a17⟩⟩,
      ⟨⟨_, _, fun_mk (st := st_law_runs) l18 c18 k18, PySem.W.mg_of X G a18⟩⟩,
      ⟨⟨_, _, fun_mk (st := st_law_size) l21 c21 k21, PySem.W.mg_of X G a21⟩⟩,
      ⟨⟨_, _, fun_mk (st := st_law_any_word) l22 c22 k22, PySem.W.mg_of X G a22⟩⟩,
      ⟨⟨_, _, fun_mk (st := st_law_a_count) l23 c23 k23, PySem.W.mg_of X G a23⟩⟩,
      ⟨⟨_, _, fun_mk (st := st_law_a_field) l25 c25 k25, PySem.W.mg_of X G a25⟩⟩,
      ⟨⟨_, _, fun_mk (st := st_law_ranges) l26 c26 k26, PySem.W.mg_of X G a26⟩⟩,
      ⟨⟨_, _, fun_mk (st := st_law_a_number) l27 c27 k27, PySem.W.mg_of X G a27⟩⟩,
      ⟨⟨_, _, fun_mk (st := st_law_part) l28 c28 k28, PySem.W.mg_of X G a28⟩⟩,
      ⟨⟨_, _, fun_mk (st := st_law_case_numbers) l29 c29 k29, PySem.W.mg_of X G a29⟩⟩,
      ⟨⟨_, _, fun_mk (st := st_law_not_empty) l30 c30 k30, PySem.W.mg_of X G a30⟩⟩,
      ⟨⟨_, _, fun_mk (st := st_law_rich) l31 c31 k31, PySem.W.mg_of X G a31⟩⟩,
      ⟨⟨_, _, fun_mk (st := st_law_rich_item) l32 c32 k32, PySem.W.mg_of X G a32⟩⟩,
      ⟨⟨_, _, fun_mk (st := st_law_fixed) l33 c33 k33, PySem.W.mg_of X G a33⟩⟩,
      ⟨⟨_, _, fun_mk (st := st_law_rich_word) l34 c34 k34, PySem.W.mg_of X G a34⟩⟩,
      ⟨⟨_, _, fun_mk (st := st_law_rich_choice) l35 c35 k35, PySem.W.mg_of X G a35⟩⟩⟩
  refine ⟨PySem.W.fnOf "law" "law" (defArgs st_law) (defBody st_law) (defScope st_law) .none kV41 dc41 pm41 an41 cd41 ct41, fun s v => .of_eq rfl, fun base _ _ => ?_⟩
  exact ok_law T (fun_mk (st := st_law) l41 c41 k41) GP GH GG
end Wp

set_option maxHeartbeats 0
open PySem PySem.W PyProof.Rows
theorem PySem.Challenge.cw_bytebridge_k17_whole_pattern_holds : PySem.Challenge.rw_bytebridge_k17_whole_pattern.Holds := by
  w_on; o_law; k_head; (case hw => w_witness2)
  k_fill
  refine L2.walk_of (l := PySem.Challenge.rw_bytebridge_k17_whole_pattern) (n := 63) (k := 19) (x := "_law_script") (CX := fun _ => L2.CX0) (sp := fun w => Wp.spLaw _) rfl (by decide) rfl ⟨rfl, by decide, by decide⟩ (fun w h Y => PySem.W.kIn_of Y) ?F (fun _ _ a ns hl _ hS => ⟨a, ns, rfl, hS, fun _ => rfl⟩) (fun _ _ _ _ _ h => h)
  case F =>
    intro w mg fa h KX G hmg
    refine' Wp.all_mk (w := w) KX G hmg ?a0 ?l0 ?c0 ?k0 ?a1 ?l1 ?c1 ?k1 ?a2 ?l2 ?c2 ?k2 ?a3 ?l3 ?c3 ?k3 ?a4 ?l4 ?c4 ?k4 ?a5 ?l5 ?c5 ?k5 ?a6 ?l6 ?c6 ?k6 ?a7 ?l7 ?c7 ?k7 ?a8 ?l8 ?c8 ?k8 ?a9 ?l9 ?c9 ?k9 ?a10 ?l10 ?c10 ?k10 ?a11 ?l11 ?c11 ?k11 ?a12 ?l12 ?c12 ?k12 ?a13 ?l13 ?c13 ?k13 ?a14 ?l14 ?c14 ?k14 ?a15 ?l15 ?c15 ?k15 ?a16 ?l16 ?c16 ?k16 ?a17 ?l17 ?c17 ?k17 ?a18 ?l18 ?c18 ?k18 ?a19 ?l19 ?c19 ?k19 ?a20 ?l20 ?c20 ?k20 ?a21 ?l21 ?c21 ?k21 ?a22 ?l22 ?c22 ?k22 ?a23 ?l23 ?c23 ?k23 ?a24 ?l24 ?c24 ?k24 ?a25 ?l25 ?c25 ?k25 ?a26 ?l26 ?c26 ?k26 ?a27 ?l27 ?c27 ?k27 ?a28 ?l28 ?c28 ?k28 ?a29 ?l29 ?c29 ?k29 ?a30 ?l30 ?c30 ?k30 ?a31 ?l31 ?c31 ?k31 ?a32 ?l32 ?c32 ?k32 ?a33 ?l33 ?c33 ?k33 ?a34 ?l34 ?c34 ?k34 ?a35 ?l35 ?c35 ?k35 ?a36 ?l36 ?c36 ?k36 ?a37 ?l37 ?c37 ?k37 ?a38 ?l38 ?c38 ?k38 ?a39 ?l39 ?c39 ?k39 ?a40 ?l40 ?c40 ?k40 ?a41 ?l41 ?c41 ?k41 ?z_len ?z_range ?z_tuple ?z_list ?z_abs ?z_int ?z_max ?z_min ?z_str ?z_bool ?z_isinstance ?z_sorted ?w1 ?w2 ?w3 ?w4 ?w5 ?w6 ?w7 ?w8 ?x1 ?x2
    (case a0 => k_is)
    (case l0 => k_is)
    (case c0 => k_is)
    (case k0 => k_is)
    (case a1 => k_is)
    (case l1 => k_is)
    (case c1 => k_is)
    (case k1 => k_is)
    (case a2 => k_is)
    (case l2 => k_is)
    (case c2 => k_is)
    (case k2 => k_is)
    (case a3 => k_is)
    (case l3 => k_is)
    (case c3 => k_is)
    (case k3 => k_is)
    (case a4 => k_is)
    (case l4 => k_is)
    (case c4 => k_is)
    (case k4 => k_is)
    (case a5 => k_is)
    (case l5 => k_is)
    (case c5 => k_is)
    (case k5 => k_is)
    (case a6 => k_is)
    (case l6 => k_is)
    (case c6 => k_is)
    (case k6 => k_is)
    (case a7 => k_is)
    (case l7 => k_is)
    (case c7 => k_is)
    (case k7 => k_is)
    (case a8 => k_is)
    (case l8 => k_is)
    (case c8 => k_is)
    (case k8 => k_is)
    (case a9 => k_is)
    (case l9 => k_is)
    (case c9 => k_is)
    (case k9 => k_is)
    (case a10 => k_is)
    (case l10 => k_is)
    (case c10 => k_is)
    (case k10 => k_is)
    (case a11 => k_is)
    (case l11 => k_is)
    (case c11 => k_is)
    (case k11 => k_is)
    (case a12 => k_is)
    (case l12 => k_is)
    (case c12 => k_is)
    (case k12 => k_is)
    (case a13 => k_is)
    (case l13 => k_is)
    (case c13 => k_is)
    (case k13 => k_is)
    (case a14 => k_is)
    (case l14 => k_is)
    (case c14 => k_is)
    (case k14 => k_is)
    (case a15 => k_is)
    (case l15 => k_is)
    (case c15 => k_is)
    (case k15 => k_is)
    (case a16 => k_is)
    (case l16 => k_is)
    (case c16 => k_is)
    (case k16 => k_is)
    (case a17 => k_is)
    (case l17 => k_is)
    (case c17 => k_is)
    (case k17 => k_is)
    (case a18 => k_is)
    (case l18 => k_is)
    (case c18 => k_is)
    (case k18 => k_is)
    (case a19 => k_is)
    (case l19 => k_is)
    (case c19 => k_is)
    (case k19 => k_is)
    (case a20 => k_is)
    (case l20 => k_is)
    (case c20 => k_is)
    (case k20 => k_is)
    (case a21 => k_is)
    (case l21 => k_is)
    (case c21 => k_is)
    (case k21 => k_is)
    (case a22 => k_is)
    (case l22 => k_is)
    (case c22 => k_is)
    (case k22 => k_is)
    (case a23 => k_is)
    (case l23 => k_is)
    (case c23 => k_is)
    (case k23 => k_is)
    (case a24 => k_is)
    (case l24 => k_is)
    (case c24 => k_is)
    (case k24 => k_is)
    (case a25 => k_is)
    (case l25 => k_is)
    (case c25 => k_is)
    (case k25 => k_is)
    (case a26 => k_is)
    (case l26 => k_is)
    (case c26 => k_is)
    (case k26 => k_is)
    (case a27 => k_is)
    (case l27 => k_is)
    (case c27 => k_is)
    (case k27 => k_is)
    (case a28 => k_is)
    (case l28 => k_is)
    (case c28 => k_is)
    (case k28 => k_is)
    (case a29 => k_is)
    (case l29 => k_is)
    (case c29 => k_is)
    (case k29 => k_is)
    (case a30 => k_is)
    (case l30 => k_is)
    (case c30 => k_is)
    (case k30 => k_is)
    (case a31 => k_is)
    (case l31 => k_is)
    (case c31 => k_is)
    (case k31 => k_is)
    (case a32 => k_is)
    (case l32 => k_is)
    (case c32 => k_is)
    (case k32 => k_is)
    (case a33 => k_is)
    (case l33 => k_is)
    (case c33 => k_is)
    (case k33 => k_is)
    (case a34 => k_is)
    (case l34 => k_is)
    (case c34 => k_is)
    (case k34 => k_is)
    (case a35 => k_is)
    (case l35 => k_is)
    (case c35 => k_is)
    (case k35 => k_is)
    (case a36 => k_is)
    (case l36 => k_is)
    (case c36 => k_is)
    (case k36 => k_is)
    (case a37 => k_is)
    (case l37 => k_is)
    (case c37 => k_is)
    (case k37 => k_is)
    (case a38 => k_is)
    (case l38 => k_is)
    (case c38 => k_is)
    (case k38 => k_is)
    (case a39 => k_is)
    (case l39 => k_is)
    (case c39 => k_is)
    (case k39 => k_is)
    (case a40 => k_is)
    (case l40 => k_is)
    (case c40 => k_is)
    (case k40 => k_is)
    (case a41 => k_is)
    (case l41 => k_is)
    (case c41 => k_is)
    (case k41 => k_is)
    (case z_len => k_is)
    (case z_range => k_is)
    (case z_tuple => k_is)
    (case z_list => k_is)
    (case z_abs => k_is)
    (case z_int => k_is)
    (case z_max => k_is)
    (case z_min => k_is)
    (case z_str => k_is)
    (case z_bool => k_is)
    (case z_isinstance => k_is)
    (case z_sorted => k_is)
    (case w1 => k_is)
    (case w2 => k_is)
    (case w3 => exact ⟨⟨_, _, rfl, rfl⟩, ⟨_, _, rfl, rfl⟩, ⟨_, _, rfl, rfl⟩, ⟨_, _, rfl, rfl⟩, ⟨_, _, rfl, rfl⟩, trivial⟩)
    (case w4 => k_is)
    (case w5 => k_is)
    (case w6 => k_is)
    (case w7 => k_is)
    (case w8 => k_is)
    (case x1 => k_is)
    (case x2 => k_is)
