import PyProof.Rows.All
import Wide.All
import OpenK.AllK
import Wide.FinOn
import HandS.ForMost
import KE.DataEq
import HandS.TupMul
import HandS.Style
import HandS.List
import KE.KRevSl
import HandS.Exc
import HandS.TupAny
import HandS.WordsExc
import HandS.CallSlots
import HandS.Zip
import KE.DataIsa
import KE.DataMinMax
import KE.DataCmp
import KE.SortData
import HandS.DictComp
import HandS.Conv
import HandS.Strs
import PySem.Challenge.RW_skynights_k19_whole_nights_mirrored
set_option Elab.async false
set_option linter.all false
set_option maxRecDepth 100000
section
/-! MK1: dict keys that are (number, None or text, texts). -/
namespace Sky
open PySem PySem.Spec PyProof.Rows
abbrev MK := Int × Option Str × List Str
def optD : Option Str → PyData
  | none => .none
  | some x => .str x
def mkD (k : MK) : PyData := .tuple [.int k.1, optD k.2.1, .tuple (k.2.2.map .str)]
theorem plain_strs : ∀ xs : List Str, PyData.plainAll (xs.map .str) = true
  | [] => rfl
  | x :: xs => by
    rw [List.map_cons, PyData.plainAll, plain_strs xs]; rfl
theorem plain_mkD (k : MK) : (mkD k).plain = true := by
  obtain ⟨i, t, xs⟩ := k
  cases t <;> simp [mkD, optD, PyData.plain, PyData.plainAll, plain_strs]
theorem eqvAll_strs : ∀ xs ys : List Str, PyData.eqvAll (xs.map .str) (ys.map .str) = decide (xs = ys)
  | [], [] => by simp [PyData.eqvAll]
  | [], _ :: _ => by simp [PyData.eqvAll]
  | _ :: _, [] => by simp [PyData.eqvAll]
  | x :: xs, y :: ys => by
    rw [List.map_cons, List.map_cons, PyData.eqvAll, eqvAll_strs xs ys, PyData.eqv]
    by_cases h : x = y <;> by_cases h2 : xs = ys <;> simp [h, h2]
theorem eqv_mkD (x y : MK) : PyData.eqv (mkD x) (mkD y) = decide (x = y) := by
  obtain ⟨i, t, xs⟩ := x
  obtain ⟨j, u, ys⟩ := y
  have e : ∀ (xs ys : List Str), PyData.eqv (.tuple (xs.map .str)) (.tuple (ys.map .str)) = decide (xs = ys) := fun xs ys => by rw [PyData.eqv, eqvAll_strs]
  have e2 : PyData.eqv (optD t) (optD u) = decide (t = u) := by
    cases t <;> cases u <;> simp [optD, PyData.eqv]
    rw [Bool.beq_eq_decide_eq]
  show PyData.eqv (.tuple [.int i, optD t, .tuple (xs.map .str)]) (.tuple [.int j, optD u, .tuple (ys.map .str)]) = _
  rw [PyData.eqv, PyData.eqvAll, PyData.eqvAll, PyData.eqvAll, PyData.eqvAll, e2, e, PyData.eqv]
  by_cases h1 : i = j <;> by_cases h2 : t = u <;> by_cases h3 : xs = ys <;> simp [h1, h2, h3]
theorem mkD_inj {x y : MK} (h : mkD x = mkD y) : x = y := by
  have := eqv_mkD x y
  rw [h, SeqAt.eqv_refl_plain _ (plain_mkD y)] at this
  exact of_decide_eq_true this.symm
end Sky
end
section
namespace Sky
open PySem PySem.Spec PyProof.Rows
open Sem (wp)
section
variable {prog : Program} {w : World} {A : Around} {E : Value → Shared → Prop} {s : Shared}
/-- how such a key's parts stand -/
theorem mk_shape {h : Heap} {k : MK} {v : Value} {as : List Addr} (r : Reads h v (mkD k) as) : ∃ (a : Addr) (o : Obj) (n : Nat) (t : Tok) (y : Value) (b : Addr), v = .ref a ∧ h.get? a = some o ∧ o.cls = .type "tuple" ∧ o.data = .seq #[.int k.1 t, y, .ref b] n ∧
    ((k.2.1 = none ∧ y = .none) ∨ ∃ x u, k.2.1 = some x ∧ y = .str x u) ∧ IsTupleKey (strKind prog w) h k.2.2 b := by
  have items : ∀ {xs : List Str} {vs : List Value} {as : List Addr}, ReadsAll h vs (xs.map .str) as → ItemsAre (strKind prog w) xs vs := by
    intro xs
    induction xs with
    | nil => intro vs as q; cases q; exact .nil
    | cons x xs ih =>
      intro vs as q
      cases q with
      | cons q1 q2 =>
        cases q1
        refine .cons ?_ (ih q2)
        simp [PySem.strKind, Value.isStrOf]
  obtain ⟨i, ot, xs⟩ := k
  unfold mkD at r
  cases r with
  | @tuple a o vs n _ _ h1 h2 h3 h4 =>
    obtain ⟨l⟩ := vs
    cases h4 with
    | cons q1 q2 =>
      cases q1 with
      | int _ t =>
        cases q2 with
        | cons q3 q4 =>
          rename_i y _ _ _
          cases q4 with
          | cons q5 q6 =>
            cases q6
            cases q5 with
            | tuple g1 g2 g3 g4 =>
              refine ⟨a, o, n, t, _, _, rfl, h1, h2, h3, ?_, ⟨_, _, _, g1, g2, g3, items g4⟩⟩
              cases ot with
              | none => cases q3; exact .inl ⟨rfl, rfl⟩
              | some x => cases q3; exact .inr ⟨x, _, rfl, rfl⟩
theorem hash_none {Q : Int → Shared → Prop} (h : Q 4238894112 { s with toks := s.toks + 1 }) : wpAny (model prog w) A (pyHash .none) Q E s := by
  have hT : s.TypeIs .none "NoneType" := rfl
  unfold pyHash
  refine wpAny_bind ?_
  rw [cRoomFor, if_neg (by rw [show [Value.none].any Value.onHeap = false from rfl]; exact Bool.false_ne_true)]
  refine wpAny_pure ?_
  refine wpAny_bind (wpAny_specialOf hT PySem.F.slot_NoneType_hash.lookup ?_)
  show wpAny _ _ (if (some (Value.builtin "NoneType.__hash__") == some Value.none) = true then _ else _) Q E s
  rw [if_neg (by rw [beq_builtin_none]; exact Bool.false_ne_true)]
  refine wpAny_bind (wpAny_specialOf hT PySem.F.slot_NoneType_hash.lookup ?_)
  show wpAny _ _ (callSpecialIfBoundUnlessNone? Value.none "__hash__" _ >>= _) Q E s
  refine wpAny_bind (wpAny_callSpecialIfBoundUnlessNone?_slot hT PySem.F.slot_NoneType_hash
    (wpAny_call_entry PySem.F.slot_NoneType_hash hT PySem.F.entry_NoneType_hash
      (show wpAny _ _ (retInt 0xFCA86420) _ _ s from wpAny_ret_mkInt ?_) (PySem.F.args_NoneType_hash_1 _)))
  show wpAny _ _ (if (decide (-(2 : Int) ^ 63 ≤ 4238894112) && decide ((4238894112 : Int) < 2 ^ 63)) = true then _ else _) Q E _
  rw [if_pos (by decide)]
  refine wpAny_pure ?_
  rw [if_neg (by decide)]
  exact h
def optHash (w : World) : Option Str → Int
  | none => 4238894112
  | some x => hashStr w x
def mkHash (prog : Program) (w : World) (k : MK) : Int := reduceHash (Builtin.Tuple.tupleHashOf [hashInt k.1, optHash w k.2.1, tupleKeyHash (strKind prog w) k.2.2])
theorem hash_opt {t : Option Str} {y : Value} (hy : (t = none ∧ y = .none) ∨ ∃ x u, t = some x ∧ y = .str x u) {Q : Int → Shared → Prop} (h : Q (optHash w t) { s with toks := s.toks + 1 }) : wpAny (model prog w) A (pyHash y) Q E s := by
  rcases hy with ⟨rfl, rfl⟩ | ⟨x, u, rfl, rfl⟩
  · exact hash_none h
  · exact wpAny_pyHash_str h
theorem hash_mk {k : MK} {a : Addr} {as : List Addr} {Q : Int → Shared → Prop} (hu : A.units + 8 < cLine) (r : Reads s.heap (.ref a) (mkD k) as) (h : Q (mkHash prog w k) { s with toks := s.toks + (k.2.2.length + 4) }) :
    wpAny (model prog w) A (pyHash (.ref a)) Q E s := by
  obtain ⟨_, o, n, t, y, b, e, ho, hc, hd, hy, hb⟩ := mk_shape (prog := prog) (w := w) r
  cases e
  have hT : s.TypeIs (.ref a) "tuple" := ⟨o, ho, hc⟩
  unfold pyHash
  refine wpAny_bind (wpAny_cRoomFor_or (.inr (by omega)) ?_)
  refine wpAny_bind (wpAny_specialOf hT PySem.F.slot_tuple_hash.lookup ?_)
  show wpAny _ _ (if (some (Value.builtin "tuple.__hash__") == some Value.none) = true then _ else _) Q E s
  rw [if_neg (by rw [beq_builtin_none]; exact Bool.false_ne_true)]
  refine wpAny_bind (wpAny_specialOf hT PySem.F.slot_tuple_hash.lookup ?_)
  show wpAny _ _ (callSpecialIfBoundUnlessNone? (.ref a) "__hash__" _ >>= _) Q E s
  refine wpAny_bind (wpAny_callSpecialIfBoundUnlessNone?_slot hT PySem.F.slot_tuple_hash (wpAny_call_entry PySem.F.slot_tuple_hash hT PySem.F.entry_tuple_hash ?_ (PySem.F.args_tuple_hash_1 _)))
  show wpAny _ _ (Builtin.Tuple.tupleItemsOf (.ref a) >>= _) _ _ s
  refine wpAny_bind (wpAny_tupleItemsOf ho hd ?_)
  refine wpAny_bind ?_
  rw [← Array.forIn_toList]
  refine wpAny_forIn_list _
    (fun rest (z : Array Int) s' => (rest = [.int k.1 t, y, .ref b] ∧ z.toList = [] ∧ s' = s) ∨ (rest = [y, .ref b] ∧ z.toList = [hashInt k.1] ∧ s' = { s with toks := s.toks + 1 }) ∨
      (rest = [.ref b] ∧ z.toList = [hashInt k.1, optHash w k.2.1] ∧ s' = { s with toks := s.toks + 2 }) ∨ (rest = [] ∧ z.toList = [hashInt k.1, optHash w k.2.1, tupleKeyHash (strKind prog w) k.2.2] ∧ s' = { s with toks := s.toks + (k.2.2.length + 3) })) _ ?_ ?_ _ _ (.inl ⟨rfl, rfl, rfl⟩)
  · rintro x rest z s' (⟨e, hz, rfl⟩ | ⟨e, hz, rfl⟩ | ⟨e, hz, rfl⟩ | ⟨e, hz, rfl⟩)
    · cases e
      refine wpAny_bind (wpAny_pyHash_int ?_)
      exact wpAny_pure (.inr (.inl ⟨rfl, by simp [hz], rfl⟩))
    · cases e
      refine wpAny_bind (hash_opt hy ?_)
      exact wpAny_pure (.inr (.inr (.inl ⟨rfl, by simp [hz], rfl⟩)))
    · cases e
      refine wpAny_bind (wpAny_pyHash_tuple (s := { s with toks := s.toks + 2 }) ?_ hb ?_)
      · show A.units + 1 < cLine
        omega
      · exact wpAny_pure (.inr (.inr (.inr ⟨rfl, by simp [hz], by simp; omega⟩)))
    · cases e
  · rintro z s' (⟨e, hz, rfl⟩ | ⟨e, hz, rfl⟩ | ⟨e, hz, rfl⟩ | ⟨e, hz, rfl⟩)
    · cases e
    · cases e
    · cases e
    · show wpAny _ _ (retInt (Builtin.Tuple.tupleHashOf z.toList)) _ _ _
      rw [hz]
      refine wpAny_ret_mkInt ?_
      show wpAny _ _ (if (decide (-(2 : Int) ^ 63 ≤ Builtin.Tuple.tupleHashOf _) && decide (Builtin.Tuple.tupleHashOf _ < 2 ^ 63)) = true then _ else _) Q E _
      unfold mkHash reduceHash at h
      split
      · rename_i hr
        rw [if_pos hr] at h
        exact wpAny_pure h
      · rename_i hr
        rw [if_neg hr] at h
        exact wpAny_bind (wpAny_rule (wpAny_pure h))
theorem depth_strs : ∀ xs : List Str, PyData.depthAll (xs.map .str) ≤ 1
  | [] => by simp [PyData.depthAll]
  | x :: xs => by
    have := depth_strs xs
    simp [PyData.depthAll, PyData.depth] at this ⊢
    omega
theorem depth_mkD (k : MK) : (mkD k).depth ≤ 4 := by
  obtain ⟨i, t, xs⟩ := k
  have := depth_strs xs
  cases t <;> simp [mkD, optD, PyData.depth, PyData.depthAll] <;> omega
theorem eq_mk {x y : MK} {a b : Addr} {as bs : List Addr} {Q : Bool → Shared → Prop} (hu : A.units + 8 < cLine) (ra : Reads s.heap (.ref a) (mkD x) as) (rb : Reads s.heap (.ref b) (mkD y) bs) (h : Q (decide (x = y)) s) : wpAny (model prog w) A (eqBool (.ref a) (.ref b)) Q E s := by
  have := SeqAt.eqAt_plain (mkD x) (mkD y) A s (.ref a) (.ref b) as bs ra rb (plain_mkD x) (plain_mkD y) (by have := depth_mkD x; have := Nat.min_le_left (mkD x).depth (mkD y).depth; omega)
  rw [eqv_mkD] at this
  exact this prog w E Q h
theorem quiet_tup {K : Type} [DecidableEq K] {knd : KeyKind prog w K} (n : Nat) {ks : List K} {a : Addr} {Q : Bool → Shared → Prop} (hk : IsTupleKey knd s.heap ks a) (h : Q true s) : wpAny (model prog w) A (eqIsQuiet (n + 1) (.ref a)) Q E s := by
  have hT := hk.typeIs
  obtain ⟨o, items, m, ho, _, hd, hi⟩ := hk
  unfold eqIsQuiet
  refine wpAny_bind (wpAny_specialOf hT PySem.F.slot_tuple_eq.lookup ?_)
  show wpAny _ _ (isInstance (.ref a) (.type "tuple") >>= _) _ _ s
  refine wpAny_bind (wpAny_isInstance hT isSubtype_tuple_tuple ?_)
  simp only [Bool.not_true, Bool.false_eq_true, if_false]
  refine wpAny_bind (wpAny_seqItems ho hd ?_)
  refine wpAny_bind ?_
  show wpAny _ _ (forIn items _ _) _ _ s
  rw [← Array.forIn_toList]
  refine wpAny_forIn_list _ (fun rest r s' => r.1 = none ∧ s' = s ∧ ∀ v ∈ rest, carriedByValue v = true) _ ?_ ?_ _ _ ⟨rfl, rfl, hi.byValue⟩
  · rintro v rest r s' ⟨hr, rfl, hall⟩
    rw [eqIsQuiet_byValue _ (hall v List.mem_cons_self)]
    refine wpAny_bind (wpAny_pure ?_)
    simp only [Bool.not_true, Bool.false_eq_true, if_false]
    exact wpAny_pure ⟨rfl, rfl, fun u hu' => hall u (List.mem_cons_of_mem _ hu')⟩
  · rintro ⟨r1, r2⟩ s' ⟨hr, rfl, _⟩
    simp only at hr
    subst hr
    exact wpAny_pure h
theorem quiet_mk {k : MK} {a : Addr} {as : List Addr} {Q : Bool → Shared → Prop} (r : Reads s.heap (.ref a) (mkD k) as) (h : Q true s) : wpAny (model prog w) A (eqIsQuiet 8 (.ref a)) Q E s := by
  obtain ⟨_, o, n, t, y, b, e, ho, hc, hd, hy, hb⟩ := mk_shape (prog := prog) (w := w) r
  cases e
  have hT : s.TypeIs (.ref a) "tuple" := ⟨o, ho, hc⟩
  have hyv : carriedByValue y = true := by rcases hy with ⟨-, rfl⟩ | ⟨x, u, -, rfl⟩ <;> rfl
  unfold eqIsQuiet
  refine wpAny_bind (wpAny_specialOf hT PySem.F.slot_tuple_eq.lookup ?_)
  show wpAny _ _ (isInstance (.ref a) (.type "tuple") >>= _) _ _ s
  refine wpAny_bind (wpAny_isInstance hT isSubtype_tuple_tuple ?_)
  simp only [Bool.not_true, Bool.false_eq_true, if_false]
  refine wpAny_bind (wpAny_seqItems ho hd ?_)
  refine wpAny_bind ?_
  rw [← Array.forIn_toList]
  refine wpAny_forIn_list _ (fun rest r s' => r.1 = none ∧ s' = s ∧ ∀ v ∈ rest, carriedByValue v = true ∨ v = .ref b) _ ?_ ?_ _ _ ⟨rfl, rfl, ?_⟩
  · rintro v rest r s' ⟨hr, rfl, hall⟩
    have fin : ∀ {M : Prop}, M → M := fun x => x
    rcases hall v List.mem_cons_self with hv | rfl
    · rw [eqIsQuiet_byValue _ hv]
      refine wpAny_bind (wpAny_pure ?_)
      simp only [Bool.not_true, Bool.false_eq_true, if_false]
      exact wpAny_pure ⟨rfl, rfl, fun u hu' => hall u (List.mem_cons_of_mem _ hu')⟩
    · refine wpAny_bind (quiet_tup 6 hb ?_)
      simp only [Bool.not_true, Bool.false_eq_true, if_false]
      exact wpAny_pure ⟨rfl, rfl, fun u hu' => hall u (List.mem_cons_of_mem _ hu')⟩
  · rintro ⟨r1, r2⟩ s' ⟨hr, rfl, _⟩
    simp only at hr
    subst hr
    exact wpAny_pure h
  · intro v hv
    simp at hv
    rcases hv with rfl | rfl | rfl
    · exact .inl rfl
    · exact .inl hyv
    · exact .inr rfl
end
theorem mk_keeps {h h' : Heap} {d : Addr} {o : Obj} {es : Array DictEntry} {ep : Nat} (ho : h.get? d = some o) (hd : o.data = .dict es ep) (hs : Heap.SameBut d h h') {k : MK} {a : Addr} {as : List Addr} (r : Reads h (.ref a) (mkD k) as) : Reads h' (.ref a) (mkD k) as := by
  have kp : ∀ {b : Addr} {u : Obj} {vs : Array Value} {n : Nat}, h.get? b = some u → u.data = .seq vs n → h'.get? b = some u := fun {b u vs n} hb hu => by
    have hne : b ≠ d := by
      rintro rfl
      obtain rfl : u = o := Option.some.inj (hb.symm.trans ho)
      rw [hd] at hu
      cases hu
    exact (hs.2 b hne).trans hb
  have hstrs : ∀ {xs : List Str} {vs : List Value} {as : List Addr}, ReadsAll h vs (xs.map .str) as → ReadsAll h' vs (xs.map .str) as := by
    intro xs
    induction xs with
    | nil => intro vs as q; cases q; exact .nil
    | cons x xs ih =>
      intro vs as q
      cases q with
      | cons q1 q2 =>
        cases q1
        exact .cons (.str _ _) (ih q2)
  obtain ⟨i, ot, xs⟩ := k
  unfold mkD at r ⊢
  cases r with
  | @tuple _ _ vs _ _ _ h1 h2 h3 h4 =>
    refine .tuple (kp h1 h3) h2 h3 ?_
    obtain ⟨l⟩ := vs
    cases h4 with
    | cons q1 q2 =>
      cases q1
      cases q2 with
      | cons q3 q4 =>
        cases q4 with
        | cons q5 q6 =>
          cases q6
          cases q5 with
          | tuple g1 g2 g3 g4 =>
            refine .cons (.int _ _) (.cons ?_ (.cons (.tuple (kp g1 g3) g2 g3 (hstrs g4)) .nil))
            cases ot with
            | none => cases q3; exact .none
            | some x => cases q3; exact .str _ _
noncomputable def mkKind (prog : Program) (w : World) : HeapKind prog w MK where
  is := fun h k a => ∃ as, Reads h (.ref a) (mkD k) as
  hash := mkHash prog w
  draws := fun k => k.2.2.length + 4
  room := fun A => A.units + 8 < cLine
  inj := fun ⟨as, hx⟩ ⟨bs, hy⟩ => mkD_inj (SeqAt.plain_unique _ _ _ _ _ (plain_mkD _) hx hy)
  keeps := fun ⟨as, r⟩ ho hd hs => ⟨as, mk_keeps ho hd hs r⟩
  pyHash := fun hu ⟨as, r⟩ h => hash_mk hu r h
  eqBool := fun hu ⟨as, ra⟩ ⟨bs, rb⟩ h => eq_mk hu ra rb h
  quiet := fun ⟨as, r⟩ h => quiet_mk r h
end Sky
end
section
set_option maxHeartbeats 4000000
/-! TM: tuple * 0, tuple * 1. -/
namespace L2
open PySem PySem.Spec PyProof.Rows
theorem tuple_mul0W (l : Addr) (items : Array Value) (n : Nat) (dd : Option Addr) (sl : Array (Option Value)) (u : Tok) (c1 : (items.isEmpty || (0 : Int) == 1) = false) :
    Meets (Builtin.«tuple.__mul__» ⟨[.ref l, .int 0 u], []⟩) (fun _ R s => s.heap.get? l = some { cls := .type "tuple", dict := dd, data := .seq items n, slots := sl } ∧
      R (.ok (.ret (Value.ref s.heap.objs.size))) { s with heap := s.heap.push { cls := Value.type "tuple", data := Data.seq #[] }, toks := s.toks }) :=
  .of_wp fun prog w A R s h => by
    obtain ⟨hp, g, d, tk, os⟩ := s
    obtain ⟨hl, h⟩ := h
    have f1 := AutoSeq1.idx_int
    wp_walk using wpAny_loadPart' hl
    repeat (first
      | (refine wpAny_ite_false (decide_eq_false (by rw [c1]; exact Bool.false_ne_true)) ?_; wp_walk using wpAny_loadPart' hl)
      | (refine wpAny_ite_true (by simp) ?_; wp_walk using wpAny_loadPart' hl))
    all_goals first | exact ⟨_, rfl, h⟩ | trace_state
theorem tuple_mul1W (l : Addr) (items : Array Value) (n : Nat) (dd : Option Addr) (sl : Array (Option Value)) (u : Tok) :
    Meets (Builtin.«tuple.__mul__» ⟨[.ref l, .int 1 u], []⟩) (fun _ R s => s.heap.get? l = some { cls := .type "tuple", dict := dd, data := .seq items n, slots := sl } ∧
      R (.ok (.ret (Value.ref l))) s) :=
  .of_wp fun prog w A R s h => by
    obtain ⟨hp, g, d, tk, os⟩ := s
    obtain ⟨hl, h⟩ := h
    have f1 := AutoSeq1.idx_int
    wp_walk using wpAny_loadPart' hl
    repeat (first
      | (refine wpAny_ite_true (by simp) ?_; wp_walk using wpAny_loadPart' hl))
    all_goals first | exact ⟨_, rfl, h⟩ | trace_state
section
variable {X : Cx}
def rRep01 (K : PySem.W.Frag) : R2 := fun x y H Q => ∃ l k xs, x = .ref l ∧ y = .int k ∧ SqT K H l xs ∧ xs ≠ [] ∧ ((k = 0 ∧ ∀ p, H p = none → Q (.ref p) (upd H p (.tup []))) ∨ (k = 1 ∧ Q (.ref l) H))
theorem op_rep01 : OpR X (binaryOp .Mult) (rRep01 X.K) := by
  intro pins s σ H x y v u Q I rx ry h
  obtain ⟨l, k, xs, rfl, rfl, hT, hne, h⟩ := h
  cases rx
  obtain ⟨t, rfl⟩ := ry
  obtain ⟨its, r, ⟨⟨cls, dd, data, sl⟩, ho, hc, n, hd⟩, hs⟩ := I.tuple hT
  simp only at hc hd
  subst hc hd
  have hle : its.length = xs.length := r.length.symm
  have hn : its ≠ [] := fun e => hne (by
    rw [e] at hle
    exact List.eq_nil_of_length_eq_zero hle.symm)
  have hi : its.toArray.isEmpty = false := by
    cases its with
    | nil => exact absurd rfl hn
    | cons a b => rfl
  rcases h with ⟨rfl, q⟩ | ⟨rfl, q⟩
  · have c1 : (its.toArray.isEmpty || (0 : Int) == 1) = false := by rw [hi, Bool.false_or]; rfl
    refine wpAny_binaryOp_repeat_ref (T := "tuple") (U := "int") (by decide) ⟨_, ho, rfl⟩ (fun s' => typeIs_int s' 0 t) noFill_tuple_mul F.fills_int_mul F.slot_int_rmul repeat_tuple F.slot_int_index.lookup
      (call_meets F.slot_int_rmul (typeIs_int s 0 t) F.entry_int_rmul (F.args_int_rmul_2 _ _) (int_rmul_tuple 0 t l its.toArray n dd sl)
        ⟨ho, rfl, ⟨_, ho, rfl⟩, call_meets F.slot_tuple_mul ⟨_, ho, rfl⟩ F.entry_tuple_mul (F.args_tuple_mul_2 _ _) (tuple_mul0W l its.toArray n dd sl t c1) ⟨ho, ?_⟩⟩)
    refine ⟨.ref s.heap.objs.size, _, I.laid (t' := s.toks) (o := .tup []) (fun b ob q => Heap.get?_push_of_some _ q) (Nat.le_refl _) ?_, rfl, q _ (I.hok.fresh (Nat.le_refl _))⟩
    exact ⟨Nat.zero_le _, [], .nil, IsTup.new _ _⟩
  · refine wpAny_binaryOp_repeat_ref (T := "tuple") (U := "int") (by decide) ⟨_, ho, rfl⟩ (fun s' => typeIs_int s' 1 t) noFill_tuple_mul F.fills_int_mul F.slot_int_rmul repeat_tuple F.slot_int_index.lookup
      (call_meets F.slot_int_rmul (typeIs_int s 1 t) F.entry_int_rmul (F.args_int_rmul_2 _ _) (int_rmul_tuple 1 t l its.toArray n dd sl)
        ⟨ho, rfl, ⟨_, ho, rfl⟩, call_meets F.slot_tuple_mul ⟨_, ho, rfl⟩ F.entry_tuple_mul (F.args_tuple_mul_2 _ _) (tuple_mul1W l its.toArray n dd sl t) ⟨ho, ?_⟩⟩)
    exact ⟨.ref l, H, I, rfl, q⟩
end
end L2
end
section
set_option maxHeartbeats 4000000
/-! TR: t[::-1] of a tuple. -/
namespace HT
open PySem PySem.Spec PyProof.Rows
section
variable {prog : Program} {w : World} {A : Around} {E : Value → Shared → Prop} {s : Shared}
theorem sliceApplied_rev {sl : Addr} {vl vu vs : Value} {n : Nat} {Q : Int × Int × Nat → Shared → Prop} (hs : s.heap.IsSliceOf sl vl vu vs) (pl : IsPart vl none) (pu : IsPart vu none) (ps : IsPart vs (some (-1)))
    (h : Q ((n : Int) - 1, -1, n) s) : wpAny (model prog w) A (Builtin.Slice.sliceApplied (.ref sl) (pure (n : Int))) Q E s := by
  obtain ⟨os, hos, hcs, hds⟩ := id hs
  unfold Builtin.Slice.sliceApplied Builtin.Slice.sliceFields
  refine wpAny_bind (wpAny_bind (wpAny_field hos hds (x := vl) rfl (wpAny_bind (wpAny_field hos hds (x := vu) rfl (wpAny_bind (wpAny_field hos hds (x := vs) rfl (wpAny_pure ?_)))))))
  refine wpAny_bind (slicePart_ ps ?_)
  show wpAny _ _ (if ((-1 : Int) == 0) = true then _ else _) _ _ s
  rw [if_neg (by decide)]
  refine wpAny_bind (slicePart_ pl (wpAny_bind (slicePart_ pu (wpAny_bind (wpAny_pure ?_)))))
  show wpAny _ _ (match Builtin.Slice.sliceAdjust none none (-1) (n : Int) with | (lo, hi) => pure (lo, (-1 : Int), Builtin.Slice.slicePlaces lo hi (-1))) _ _ s
  have e1 : Builtin.Slice.sliceAdjust none none (-1) (n : Int) = ((n : Int) - 1, -1) := by
    unfold Builtin.Slice.sliceAdjust
    simp
  have e2 : Builtin.Slice.slicePlaces ((n : Int) - 1) (-1) (-1) = n := by
    unfold Builtin.Slice.slicePlaces
    simp
    omega
  rw [e1]
  show wpAny _ _ (pure ((n : Int) - 1, (-1 : Int), Builtin.Slice.slicePlaces ((n : Int) - 1) (-1) (-1))) _ _ s
  rw [e2]
  exact wpAny_pure h
theorem fm_congr {α β : Type} {f g : α → Option β} : ∀ {l : List α}, (∀ x ∈ l, f x = g x) → l.filterMap f = l.filterMap g
  | [], _ => rfl
  | x :: l, h => by
    rw [List.filterMap_cons, List.filterMap_cons, h x List.mem_cons_self, fm_congr fun y hy => h y (List.mem_cons_of_mem _ hy)]
theorem pick_rev (xs : Array Value) : ((List.range xs.size).filterMap fun (m : Nat) => xs[(((xs.size : Int) - 1) + (m : Int) * (-1)).toNat]?).toArray = xs.toList.reverse.toArray := by
  have e : ∀ m ∈ List.range xs.size, xs[(((xs.size : Int) - 1) + (m : Int) * (-1)).toNat]? = xs[xs.size - 1 - m]? := by
    intro m hm
    have hm := List.mem_range.mp hm
    have : (((xs.size : Int) - 1) + (m : Int) * (-1)).toNat = xs.size - 1 - m := by omega
    rw [this]
  rw [fm_congr e]
  have := PySem.W.krv_range xs.size
  rw [show (fun m : Nat => xs[xs.size - 1 - m]?) = (fun k : Nat => xs[k]?) ∘ (fun k : Nat => xs.size - 1 - k) from rfl, ← List.filterMap_map, this, List.filterMap_reverse, PySem.W.krv_all]
theorem getItem_tuple_rev {t sl : Addr} {items : Array Value} {vl vu vs : Value} {Q : Value → Shared → Prop} (ht : IsTup s.heap t items) (hs : s.heap.IsSliceOf sl vl vu vs) (pl : IsPart vl none) (pu : IsPart vu none) (ps : IsPart vs (some (-1)))
    (h : Q (.ref s.heap.objs.size) { s with heap := s.heap.push { cls := .type "tuple", data := .seq items.toList.reverse.toArray } })
    (hsz : items.size ≤ sizeLine) : wpAny (model prog w) A (getItem (.ref t) (.ref sl)) Q E s := by
  have htake : sizeOk (.seq items.toList.reverse.toArray) := by
    show items.toList.reverse.toArray.size ≤ sizeLine
    rw [List.size_toArray, List.length_reverse, Array.length_toList]
    exact hsz
  obtain ⟨os, hos, hcs, hds⟩ := id hs
  have hTs : s.TypeIs (.ref sl) "slice" := ⟨os, hos, hcs⟩
  unfold getItem
  try with_reducible refine wpAny_holding ?_
  first | refine wpAny_bind (wpAny_pure ?_) | skip
  refine wpAny_bind (wpAny_sequenceKey ht.typeIs (by decide) ?_)
  refine wpAny_bind (wpAny_callSpecial?_slot (name := Str.ofString "__getitem__") ht.typeIs PyProof.Rows.slot_tuple_getitem
    (wpAny_call_entry PyProof.Rows.slot_tuple_getitem ht.typeIs entry_tuple_getitem ?_ (args_tuple_getitem _ _)))
  show wpAny _ _ (Builtin.Tuple.tupleItemsOf (.ref t) >>= _) _ _ s
  refine wpAny_bind (tupleItemsOf_ ht ?_)
  refine wpAny_bind (wpAny_typeOf hTs ?_)
  rw [if_pos (by decide)]
  refine wpAny_bind (sliceApplied_rev hs pl pu ps ?_)
  show wpAny _ _ (if (((items.size : Int) - 1) == 0 && (-1 : Int) == 1 && items.size == items.size) = true then _ else _) _ _ s
  rw [if_neg (by simp), pick_rev]
  first
    | exact wpAny_bind (m := Builtin.Tuple.tupleExact _) (wpAny_newObj_type (wpAny_pure ⟨_, rfl, wpAny_pure h⟩) htake)
    | exact wpAny_bind (m := Builtin.Tuple.tupleExact _) (wpAny_newObj_type (wpAny_bind (wpAny_pure (wpAny_pure ⟨_, rfl, wpAny_pure h⟩))) htake)
    | exact wpAny_bind (wpAny_bind (m := Builtin.Tuple.tupleExact _) (wpAny_newObj_type (wpAny_pure (wpAny_pure ⟨_, rfl, wpAny_pure h⟩)) htake))
    | exact wpAny_bind (wpAny_bind (m := Builtin.Tuple.tupleExact _) (wpAny_newObj_type (wpAny_pure ⟨_, rfl, wpAny_pure h⟩) htake))
end
end HT
end
section
/-! Lay1: values, cells, how they lie in the heap; what a reading by a plain function is. -/
namespace Sky
open PySem PySem.Spec PyProof.Rows L2

/-! ### values -/
/-- a value of the layer: plain data, a cell of the store, the script -/
inductive D where
  | d (x : PyData)
  | r (i : Nat)
  | s (ns : List Int)
/-- a cell: what may be written -/
inductive Cell where
  | lst (xs : List PyData)
  | dct (kvs : List (Key × PyData))
  | ins (c : Str) (fs : List (Str × D))
  | mem (hf : MK → Int) (kvs : List (MK × PyData))
abbrev St := L2.St
abbrev Store := List Cell
abbrev Env := List (Option D)
structure Exc where
  cls : Str
  fs : List (Str × PyData)
/-- the end of an expression -/
inductive Res (α : Type) where
  | ok (a : α) (S : Store)
  | exc (e : Exc) (S : Store)
  | no
/-- the end of a statement -/
inductive SR where
  | nx (ρ : Env) (S : Store)
  | rt (d : D) (S : Store)
  | bk (ρ : Env) (S : Store)
  | ct (ρ : Env) (S : Store)
  | ex (e : Exc) (ρ : Env) (S : Store)
  | no
abbrev EM := Env → Store → Res D
abbrev BM := Env → Store → Res Bool
abbrev AM := Env → Store → Res (List D)
abbrev SM := Env → Store → SR
def keyD : Key → PyData
  | .inl i => .int i
  | .inr x => .str x

/-! ### how data lie in the heap: B, what they may not touch -/
mutual
inductive Rp (K : PySem.W.Frag) (H : Hp) (B : List Addr) : PyData → V → Prop
  | non : Rp K H B .none .non
  | bl (b : Bool) : Rp K H B (.bool b) (.bl b)
  | int (i : Int) : Rp K H B (.int i) (.int i)
  | str (x : Str) : Rp K H B (.str x) (.str x)
  | tup {a : Addr} {vs : List V} {ds : List PyData} : Rd H a (.tup vs) → a ∉ B → RpL K H B ds vs → Rp K H B (.tuple ds) (.ref a)
  | lst {a : Addr} {vs : List V} {ds : List PyData} : H a = some (.lst vs) → a ∉ B → RpL K H B ds vs → Rp K H B (.list ds) (.ref a)
  | dct {a : Addr} {od : Obj} {vs : List (Key × V)} {ds : List (PyData × PyData)} : H a = some (.frz od (.dK vs)) → a ∉ B → RpK K H B ds vs → Rp K H B (.dict ds) (.ref a)
inductive RpL (K : PySem.W.Frag) (H : Hp) (B : List Addr) : List PyData → List V → Prop
  | nil : RpL K H B [] []
  | cons {d : PyData} {v : V} {ds : List PyData} {vs : List V} : Rp K H B d v → RpL K H B ds vs → RpL K H B (d :: ds) (v :: vs)
inductive RpK (K : PySem.W.Frag) (H : Hp) (B : List Addr) : List (PyData × PyData) → List (Key × V) → Prop
  | nil : RpK K H B [] []
  | cons {k : Key} {d : PyData} {v : V} {ds : List (PyData × PyData)} {vs : List (Key × V)} : Rp K H B d v → RpK K H B ds vs → RpK K H B ((keyD k, d) :: ds) ((k, v) :: vs)
end
/-- what stands at an address that is not banned stands on -/
def Kp (H : Hp) (B : List Addr) (H' : Hp) (B' : List Addr) : Prop := ∀ a o, H a = some o → a ∉ B → a ∉ B' ∧ H' a = some o
section
variable {K : PySem.W.Frag} {H H' : Hp} {B B' : List Addr}
theorem Kp.rd {a : Addr} {u : HO} (k : Kp H B H' B') (h : Rd H a u) (n : a ∉ B) : Rd H' a u ∧ a ∉ B' := by
  rcases h with h | ⟨o, h⟩
  · exact ⟨.inl (k _ _ h n).2, (k _ _ h n).1⟩
  · exact ⟨.inr ⟨o, (k _ _ h n).2⟩, (k _ _ h n).1⟩
theorem Kp.sqL {a : Addr} {vs : List V} (k : Kp H B H' B') (h : Rd H a (.lst vs)) (n : a ∉ B) : Rd H' a (.lst vs) ∧ a ∉ B' := k.rd h n
mutual
theorem Rp.mono (k : Kp H B H' B') : ∀ (d : PyData) (v : V), Rp K H B d v → Rp K H' B' d v
  | .none, _, h => by cases h; exact .non
  | .bool b, _, h => by cases h; exact .bl b
  | .int i, _, h => by cases h; exact .int i
  | .str x, _, h => by cases h; exact .str x
  | .tuple ds, _, h => by
    cases h with
    | tup h1 h2 h3 => exact .tup (k.rd h1 h2).1 (k.rd h1 h2).2 (RpL.mono k ds _ h3)
  | .list ds, _, h => by
    cases h with
    | lst h1 h2 h3 => exact .lst (k _ _ h1 h2).2 (k _ _ h1 h2).1 (RpL.mono k ds _ h3)
  | .dict ds, _, h => by
    cases h with
    | dct h1 h2 h3 => exact .dct (k _ _ h1 h2).2 (k _ _ h1 h2).1 (RpK.mono k ds _ h3)
theorem RpL.mono (k : Kp H B H' B') : ∀ (ds : List PyData) (vs : List V), RpL K H B ds vs → RpL K H' B' ds vs
  | [], _, h => by cases h; exact .nil
  | d :: ds, _, h => by
    cases h with
    | cons h1 h2 => exact .cons (Rp.mono k d _ h1) (RpL.mono k ds _ h2)
theorem RpK.mono (k : Kp H B H' B') : ∀ (ds : List (PyData × PyData)) (vs : List (Key × V)), RpK K H B ds vs → RpK K H' B' ds vs
  | [], _, h => by cases h; exact .nil
  | (_, d) :: ds, _, h => by
    cases h with
    | cons h1 h2 => exact .cons (Rp.mono k d _ h1) (RpK.mono k ds _ h2)
end
/-! ### the store -/
/-- a list of ints of the written part -/
def KL (K : PySem.W.Frag) (a : Addr) (ns : List Int) : Prop := ∃ (o : Obj) (its : Array Value) (n : Nat), K.lookup a = some o ∧ o.cls = .type "list" ∧ o.dict = none ∧ o.data = .seq its n ∧ its.size ≤ sizeLine ∧ Vals (ns.map V.int) its.toList
/-- a value; O: banned for good, L: the cells' addresses -/
inductive RD (K : PySem.W.Frag) (H : Hp) (O L : List Addr) : D → V → Prop
  | d {x : PyData} {v : V} : Rp K H (O ++ L) x v → RD K H O L (.d x) v
  | r {i : Nat} {a : Addr} : L[i]? = some a → RD K H O L (.r i) (.ref a)
  | s {ns : List Int} {a : Addr} : ((Rd H a (.lst (ns.map V.int)) ∧ a ∉ O ++ L) ∨ KL K a ns) → RD K H O L (.s ns) (.ref a)
inductive RDL (K : PySem.W.Frag) (H : Hp) (O L : List Addr) : List D → List V → Prop
  | nil : RDL K H O L [] []
  | cons {d : D} {v : V} {ds : List D} {vs : List V} : RD K H O L d v → RDL K H O L ds vs → RDL K H O L (d :: ds) (v :: vs)
inductive RF (K : PySem.W.Frag) (H : Hp) (O L : List Addr) : List (Str × D) → List (Str × V) → Prop
  | nil : RF K H O L [] []
  | cons {f : Str} {d : D} {v : V} {ds : List (Str × D)} {vs : List (Str × V)} : RD K H O L d v → RF K H O L ds vs → RF K H O L ((f, d) :: ds) ((f, v) :: vs)
inductive RQ (K : PySem.W.Frag) (H : Hp) (B : List Addr) : List (Key × PyData) → List (Key × V) → Prop
  | nil : RQ K H B [] []
  | cons {k : Key} {d : PyData} {v : V} {ds : List (Key × PyData)} {vs : List (Key × V)} : Rp K H B d v → RQ K H B ds vs → RQ K H B ((k, d) :: ds) ((k, v) :: vs)
/-- a dict whose keys are MK's: its entries, the keys' tuples, the values -/
def memO (hf : MK → Int) (a : Addr) (vs : List (MK × Addr × V)) : HO := .ext fun h => (a == sysModules) = false ∧ vs.length ≤ sizeLine ∧ ∃ xs : List (MK × Addr × Value),
  Paired (fun (p : MK × Addr × V) (q : MK × Addr × Value) => p.1 = q.1 ∧ p.2.1 = q.2.1 ∧ RelV p.2.2 q.2.2) vs xs ∧
  (∃ o es ep, h.get? a = some o ∧ o.ExactDict ∧ o.data = .dict es ep ∧ es.toList = xs.map fun x => ⟨hf x.1, .ref x.2.1, x.2.2⟩) ∧ (xs.map (·.1)).Nodup
inductive RM (K : PySem.W.Frag) (H : Hp) (B : List Addr) : List (MK × PyData) → List (MK × Addr × V) → Prop
  | nil : RM K H B [] []
  | cons {k : MK} {a : Addr} {d : PyData} {v : V} {ds : List (MK × PyData)} {vs : List (MK × Addr × V)} : Rp K H B (mkD k) (.ref a) → Rp K H B d v → RM K H B ds vs → RM K H B ((k, d) :: ds) ((k, a, v) :: vs)
/-- the module's facts that cells ask: where a class stands -/
abbrev MG := Str → Option Value
inductive CellOk (K : PySem.W.Frag) (mg : MG) (H : Hp) (O L : List Addr) (a : Addr) : Cell → Prop
  | lst {xs : List PyData} {vs : List V} : H a = some (.lst vs) → RpL K H (O ++ L) xs vs → CellOk K mg H O L a (.lst xs)
  | dct {xs : List (Key × PyData)} {vs : List (Key × V)} : H a = some (.dK vs) → RQ K H (O ++ L) xs vs → CellOk K mg H O L a (.dct xs)
  | ins {c : Str} {C dx : Addr} {fs : List (Str × D)} {vs : List (Str × V)} : mg c = some (.ref C) → H a = some (.ins C dx vs) → RF K H O L fs vs → CellOk K mg H O L a (.ins c fs)
  | mem {hf : MK → Int} {xs : List (MK × PyData)} {vs : List (MK × Addr × V)} : H a = some (memO hf a vs) → RM K H (O ++ L) xs vs → CellOk K mg H O L a (.mem hf xs)
structure Sto (K : PySem.W.Frag) (mg : MG) (H : Hp) (O L : List Addr) (S : Store) : Prop where
  len : L.length = S.length
  nd : L.Nodup
  cell : ∀ (i : Nat) (c : Cell) (a : Addr), S[i]? = some c → L[i]? = some a → CellOk K mg H O L a c
  out : ∀ a, a ∈ O → ∃ o, H a = some o
/-- later -/
structure Ext (L : List Addr) (H : Hp) (L' : List Addr) (H' : Hp) : Prop where
  pre : ∀ (i : Nat) (a : Addr), L[i]? = some a → L'[i]? = some a
  new : ∀ a, a ∈ L' → a ∈ L ∨ H a = none
  keep : ∀ a o, H a = some o → a ∉ L → H' a = some o
theorem Ext.refl (L : List Addr) (H : Hp) : Ext L H L H := ⟨fun _ _ h => h, fun _ h => .inl h, fun _ _ h _ => h⟩
theorem Ext.trans {L L1 L2 : List Addr} {H H1 H2 : Hp} (a : Ext L H L1 H1) (b : Ext L1 H1 L2 H2) : Ext L H L2 H2 where
  pre := fun i x h => b.pre i x (a.pre i x h)
  new := fun x h => by
    rcases b.new x h with h1 | h1
    · exact a.new x h1
    · by_cases hx : x ∈ L
      · exact .inl hx
      · cases q : H x with
        | none => exact .inr rfl
        | some o => rw [a.keep x o q hx] at h1; cases h1
  keep := fun x o h n => b.keep x o (a.keep x o h n) fun h1 => by
    rcases a.new x h1 with h2 | h2
    · exact n h2
    · rw [h] at h2; cases h2
theorem Ext.kp {L L' O : List Addr} {H H' : Hp} (e : Ext L H L' H') : Kp H (O ++ L) H' (O ++ L') := fun a o h n => by
  have n1 : a ∉ O := fun z => n (List.mem_append_left _ z)
  have n2 : a ∉ L := fun z => n (List.mem_append_right _ z)
  refine ⟨fun z => ?_, e.keep a o h n2⟩
  rcases List.mem_append.mp z with z | z
  · exact n1 z
  · rcases e.new a z with z | z
    · exact n2 z
    · rw [h] at z; cases z
variable {O L L' : List Addr} {mg : MG}
theorem RD.mono (e : Ext L H L' H') {d : D} {v : V} (h : RD K H O L d v) : RD K H' O L' d v := by
  cases h with
  | d h => exact .d (Rp.mono e.kp _ _ h)
  | r h => exact .r (e.pre _ _ h)
  | s h => exact .s (h.imp (fun h => e.kp.rd h.1 h.2) id)
theorem RDL.mono (e : Ext L H L' H') : ∀ {ds : List D} {vs : List V}, RDL K H O L ds vs → RDL K H' O L' ds vs
  | _, _, .nil => .nil
  | _, _, .cons h t => .cons (h.mono e) (RDL.mono e t)
theorem RF.mono (e : Ext L H L' H') : ∀ {ds : List (Str × D)} {vs : List (Str × V)}, RF K H O L ds vs → RF K H' O L' ds vs
  | _, _, .nil => .nil
  | _, _, .cons h t => .cons (h.mono e) (RF.mono e t)
theorem RQ.mono (k : Kp H B H' B') : ∀ {ds : List (Key × PyData)} {vs : List (Key × V)}, RQ K H B ds vs → RQ K H' B' ds vs
  | _, _, .nil => .nil
  | _, _, .cons h t => .cons (Rp.mono k _ _ h) (RQ.mono k t)
theorem RM.mono (k : Kp H B H' B') : ∀ {ds : List (MK × PyData)} {vs : List (MK × Addr × V)}, RM K H B ds vs → RM K H' B' ds vs
  | _, _, .nil => .nil
  | _, _, .cons q r t => .cons (Rp.mono k _ _ q) (Rp.mono k _ _ r) (RM.mono k t)
/-- a cell that stands as it stood -/
theorem CellOk.mono (e : Ext L H L' H') {a : Addr} {c : Cell} (st : H' a = H a) (h : CellOk K mg H O L a c) : CellOk K mg H' O L' a c := by
  cases h with
  | lst h1 h2 => exact .lst (st.trans h1) (RpL.mono e.kp _ _ h2)
  | dct h1 h2 => exact .dct (st.trans h1) (h2.mono e.kp)
  | ins h1 h2 h3 => exact .ins h1 (st.trans h2) (h3.mono e)
  | mem h1 h2 => exact .mem (st.trans h1) (h2.mono e.kp)
/-! ### the frame's names -/
inductive RE (K : PySem.W.Frag) (H : Hp) (O L : List Addr) : Env → St → Prop
  | nil : RE K H O L [] []
  | unk {v : Option V} {ρ : Env} {σ : St} : RE K H O L ρ σ → RE K H O L (none :: ρ) (v :: σ)
  | cons {d : D} {v : V} {ρ : Env} {σ : St} : RD K H O L d v → RE K H O L ρ σ → RE K H O L (some d :: ρ) (some v :: σ)
theorem RE.mono (e : Ext L H L' H') : ∀ {ρ : Env} {σ : St}, RE K H O L ρ σ → RE K H' O L' ρ σ
  | _, _, .nil => .nil
  | _, _, .unk t => .unk (RE.mono e t)
  | _, _, .cons h t => .cons (h.mono e) (RE.mono e t)
theorem RE.get : ∀ {ρ : Env} {σ : St} {i : Nat} {d : D}, RE K H O L ρ σ → ρ[i]? = some (some d) → ∃ v, σ[i]? = some (some v) ∧ RD K H O L d v
  | _, _, _, _, .nil, h => by simp at h
  | _, _, 0, _, .unk t, h => by simp at h
  | _, _, i + 1, _, .unk t, h => by
    obtain ⟨v, h1, h2⟩ := RE.get (i := i) t (by simpa using h)
    exact ⟨v, by simpa using h1, h2⟩
  | _, _, 0, _, .cons r t, h => by simp at h; subst h; exact ⟨_, rfl, r⟩
  | _, _, i + 1, _, .cons r t, h => by
    obtain ⟨v, h1, h2⟩ := RE.get (i := i) t (by simpa using h)
    exact ⟨v, by simpa using h1, h2⟩
theorem RE.set {d : D} {v : V} (r : RD K H O L d v) : ∀ {ρ : Env} {σ : St} (i : Nat), RE K H O L ρ σ → RE K H O L (ρ.set i (some d)) (σ.set i (some v))
  | _, _, _, .nil => .nil
  | _, _, 0, .unk t => .cons r t
  | _, _, 0, .cons _ t => .cons r t
  | _, _, i + 1, .unk t => .unk (RE.set r i t)
  | _, _, i + 1, .cons q t => .cons q (RE.set r i t)
/-- slots forgotten on both sides -/
theorem RE.wipe1 : ∀ {ρ : Env} {σ : St} (i : Nat), RE K H O L ρ σ → RE K H O L (ρ.set i none) (σ.set i none)
  | _, _, _, .nil => .nil
  | _, _, 0, .unk t => .unk t
  | _, _, 0, .cons _ t => .unk t
  | _, _, i + 1, .unk t => .unk (RE.wipe1 i t)
  | _, _, i + 1, .cons q t => .cons q (RE.wipe1 i t)
end
end Sky
end
section
/-! Lay2: readings by plain functions; names, constants, operators by values, sequences. -/
namespace Sky
open PySem PySem.Spec PyProof.Rows L2
def Res.andThen {α β : Type} (r : Res α) (k : α → Store → Res β) : Res β := match r with
  | .ok a S => k a S
  | .exc e S => .exc e S
  | .no => .no
theorem andThen_ok {α β : Type} (a : α) (S : Store) (k : α → Store → Res β) : (Res.ok a S).andThen k = k a S := rfl
theorem andThen_exc {α β : Type} (e : Exc) (S : Store) (k : α → Store → Res β) : (Res.exc e S).andThen k = .exc e S := rfl
theorem andThen_no {α β : Type} (k : α → Store → Res β) : (Res.no : Res α).andThen k = .no := rfl
/-- the fields of an exception in flight -/
inductive XD (K : PySem.W.Frag) (H : Hp) : List (Str × PyData) → Option Addr → Prop
  | nil : XD K H [] none
  | one {f : Str} {x : PyData} {v : V} {a : Addr} : H a = some (.xd [(f, v)]) → Rp K H [] x v → XD K H [(f, x)] (some a)
/-- a wish by the exception -/
def WE1 (K : PySem.W.Frag) (mg : MG) (W : WX) (O L : List Addr) (H : Hp) (σ : St) (e : Exc) (S : Store) : Prop :=
  ∀ (C : Addr) (dd : Option Addr) (H' : Hp) (L' : List Addr), mg e.cls = some (.ref C) → Ext L H L' H' → Sto K mg H' O L' S → XD K H' e.fs dd → W (.ref C) dd σ H'
def EndG {α : Type} (K : PySem.W.Frag) (mg : MG) (W : WX) (O L : List Addr) (H : Hp) (σ : St) (P : α → Store → List Addr → Hp → Prop) : Res α → Prop
  | .ok a S => ∀ (H' : Hp) (L' : List Addr), Ext L H L' H' → Sto K mg H' O L' S → P a S L' H'
  | .exc e S => WE1 K mg W O L H σ e S
  | .no => False
section
variable {α β : Type} {K : PySem.W.Frag} {mg : MG} {W : WX} {O L L1 : List Addr} {H H1 : Hp} {σ : St}
theorem EndG.later {P : α → Store → List Addr → Hp → Prop} {r : Res α} (e : Ext L H L1 H1) (h : EndG K mg W O L H σ P r) : EndG K mg W O L1 H1 σ P r := by
  cases r with
  | ok a S => exact fun H' L' e' st => h H' L' (e.trans e') st
  | exc x S => exact fun C dd H' L' hm e' st hx => h C dd H' L' hm (e.trans e') st hx
  | no => exact h
theorem EndG.imp {P P' : α → Store → List Addr → Hp → Prop} {r : Res α} (h : EndG K mg W O L H σ P r) (hp : ∀ a S L' H', Ext L H L' H' → Sto K mg H' O L' S → P a S L' H' → P' a S L' H') : EndG K mg W O L H σ P' r := by
  cases r with
  | ok a S => exact fun H' L' e' st => hp _ _ _ _ e' st (h H' L' e' st)
  | exc x S => exact h
  | no => exact h
theorem EndG.bind {P : β → Store → List Addr → Hp → Prop} {r : Res α} {k : α → Store → Res β} (h : EndG K mg W O L H σ P (r.andThen k)) : EndG K mg W O L H σ (fun a S L' H' => EndG K mg W O L' H' σ P (k a S)) r := by
  cases r with
  | ok a S => exact fun H' L' e' st => EndG.later e' h
  | exc x S => exact h
  | no => exact h
end
/-! ### readings -/
/-- the state lies so -/
structure At (K : PySem.W.Frag) (mg : MG) (O L : List Addr) (S : Store) (ρ : Env) (σ : St) (H : Hp) : Prop where
  re : RE K H O L ρ σ
  st : Sto K mg H O L S
def tM (K : PySem.W.Frag) (mg : MG) (W : WX) (f : EM) : TE := fun σ H Q => ∃ (O L : List Addr) (S : Store) (ρ : Env), At K mg O L S ρ σ H ∧ EndG K mg W O L H σ (fun d _ L' H' => ∀ v, RD K H' O L' d v → Q v H') (f ρ S)
def tB (K : PySem.W.Frag) (mg : MG) (W : WX) (f : BM) : TT := fun σ H Q => ∃ (O L : List Addr) (S : Store) (ρ : Env), At K mg O L S ρ σ H ∧ EndG K mg W O L H σ (fun b _ L' H' => Q b H') (f ρ S)
def tA (K : PySem.W.Frag) (mg : MG) (W : WX) (f : AM) : TA := fun σ H Q => ∃ (O L : List Addr) (S : Store) (ρ : Env), At K mg O L S ρ σ H ∧ EndG K mg W O L H σ (fun ds _ L' H' => ∀ vs, RDL K H' O L' ds vs → Q vs H') (f ρ S)
abbrev PM (X : Cx) (W : WX) (e : Expr) (f : EM) : Prop := PE X e (tM X.K X.mg W f)
abbrev PMT (X : Cx) (W : WX) (e : Expr) (f : BM) : Prop := PT X e (tB X.K X.mg W f)
abbrev PMW (X : Cx) (W : WX) (e : Expr) (f : BM) : Prop := PW X e (tB X.K X.mg W f)
abbrev PMA (X : Cx) (W : WX) (es : List Expr) (f : AM) : Prop := PA X es (tA X.K X.mg W f)
section
variable {X : Cx} {e : Expr} {t t' : TE}
theorem PE.imp (h : PE X e t) (q : ∀ σ H Q, t' σ H Q → t σ H Q) : PE X e t' := ⟨fun pins s σ H Q I hw => h.run pins s σ H Q I (q σ H Q hw)⟩
theorem PT.imp {t t' : TT} (h : PT X e t) (q : ∀ σ H Q, t' σ H Q → t σ H Q) : PT X e t' := ⟨fun pins s σ H Q I hw => h.run pins s σ H Q I (q σ H Q hw)⟩
theorem PW.imp {t t' : TT} (h : PW X e t) (q : ∀ σ H Q, t' σ H Q → t σ H Q) : PW X e t' := ⟨fun wh pins s σ H Q I hw => h.run wh pins s σ H Q I (q σ H Q hw)⟩
theorem PA.imp {es : List Expr} {t t' : TA} (h : PA X es t) (q : ∀ σ H Q, t' σ H Q → t σ H Q) : PA X es t' := ⟨fun pos pins s σ H Q I hw => h.run pos pins s σ H Q I (q σ H Q hw)⟩
end
section
variable {K : PySem.W.Frag} {mg : MG} {W : WX} {O L : List Addr} {S : Store} {ρ : Env} {σ : St} {H : Hp}
theorem At.mono {L' : List Addr} {H' : Hp} {S' : Store} (a : At K mg O L S ρ σ H) (e : Ext L H L' H') (st : Sto K mg H' O L' S') : At K mg O L' S' ρ σ H' := ⟨a.re.mono e, st⟩
/-- a part of an expression, and what goes on behind it -/
theorem tM.part {β : Type} {f : EM} {k : D → Store → Res β} {P : β → Store → List Addr → Hp → Prop} {Q : VK} (a : At K mg O L S ρ σ H) (h : EndG K mg W O L H σ P ((f ρ S).andThen k))
    (q : ∀ d v S' L' H', At K mg O L' S' ρ σ H' → Ext L H L' H' → RD K H' O L' d v → EndG K mg W O L' H' σ P (k d S') → Q v H') : tM K mg W f σ H Q :=
  ⟨O, L, S, ρ, a, EndG.imp (EndG.bind h) fun d S' L' H' e st h' v r => q d v S' L' H' (a.mono e st) e r h'⟩
theorem tB.part {β : Type} {f : BM} {k : Bool → Store → Res β} {P : β → Store → List Addr → Hp → Prop} {Q : Bool → Hp → Prop} (a : At K mg O L S ρ σ H) (h : EndG K mg W O L H σ P ((f ρ S).andThen k))
    (q : ∀ d S' L' H', At K mg O L' S' ρ σ H' → Ext L H L' H' → EndG K mg W O L' H' σ P (k d S') → Q d H') : tB K mg W f σ H Q :=
  ⟨O, L, S, ρ, a, EndG.imp (EndG.bind h) fun d S' L' H' e st h' => q d S' L' H' (a.mono e st) e h'⟩
theorem tA.part {β : Type} {f : AM} {k : List D → Store → Res β} {P : β → Store → List Addr → Hp → Prop} {Q : List V → Hp → Prop} (a : At K mg O L S ρ σ H) (h : EndG K mg W O L H σ P ((f ρ S).andThen k))
    (q : ∀ ds vs S' L' H', At K mg O L' S' ρ σ H' → Ext L H L' H' → RDL K H' O L' ds vs → EndG K mg W O L' H' σ P (k ds S') → Q vs H') : tA K mg W f σ H Q :=
  ⟨O, L, S, ρ, a, EndG.imp (EndG.bind h) fun ds S' L' H' e st h' vs r => q ds vs S' L' H' (a.mono e st) e r h'⟩
/-- the end, nothing changed in the store, the heap grown -/
theorem Same.ext {H' : Hp} (s : Same H H') : Ext L H L H' := ⟨fun _ _ h => h, fun _ h => .inl h, fun a o h _ => s a o h⟩
theorem Sto.there (st : Sto K mg H O L S) {a : Addr} (h : a ∈ L) : ∃ (i : Nat) (c : Cell), S[i]? = some c ∧ L[i]? = some a ∧ CellOk K mg H O L a c := by
  obtain ⟨i, hi⟩ := List.mem_iff_getElem?.mp h
  have h1 : i < S.length := by rw [← st.len]; exact (List.getElem?_eq_some_iff.mp hi).1
  exact ⟨i, S[i], List.getElem?_eq_getElem h1, hi, st.cell i _ a (List.getElem?_eq_getElem h1) hi⟩
theorem CellOk.there {a : Addr} {c : Cell} (h : CellOk K mg H O L a c) : ∃ o, H a = some o := by
  cases h with
  | lst h1 _ => exact ⟨_, h1⟩
  | dct h1 _ => exact ⟨_, h1⟩
  | ins _ h1 _ => exact ⟨_, h1⟩
  | mem h1 _ => exact ⟨_, h1⟩
theorem Sto.cellAt (st : Sto K mg H O L S) {a : Addr} (h : a ∈ L) : ∃ o, H a = some o := by
  obtain ⟨i, c, _, _, k⟩ := st.there h
  exact k.there
theorem Sto.same {H' : Hp} (st : Sto K mg H O L S) (s : Same H H') : Sto K mg H' O L S := by
  refine ⟨st.len, st.nd, fun i c a h1 h2 => ?_, fun a h => (st.out a h).imp fun o q => s a o q⟩
  have k := st.cell i c a h1 h2
  obtain ⟨o, ho⟩ := k.there
  exact k.mono (Same.ext s) (by rw [ho]; exact s a o ho)
theorem Sto.fresh (st : Sto K mg H O L S) {p : Addr} (h : H p = none) : p ∉ O ++ L := fun z => by
  rcases List.mem_append.mp z with z | z
  · obtain ⟨o, q⟩ := st.out p z
    rw [h] at q; cases q
  · obtain ⟨o, q⟩ := st.cellAt z
    rw [h] at q; cases q
theorem same_upd {p : Addr} {o : HO} (h : H p = none) : Same H (upd H p o) := fun b x q => by
  rw [upd_ne (ne_of_none q h)]
  exact q
end
end Sky
end
section
/-! Lay3: expressions. -/
namespace Sky
open PySem PySem.Spec PyProof.Rows L2
/-! ### names and constants -/
def mVar (i : Nat) : EM := fun ρ S => match ρ[i]? with
  | some (some d) => .ok d S
  | _ => .no
def mC (x : PyData) : EM := fun _ S => .ok (.d x) S
/-- a list's items -/
def lk (S : Store) : D → Option (List PyData)
  | .d (.list xs) => some xs
  | .r i => match S[i]? with
    | some (.lst xs) => some xs
    | _ => none
  | _ => none
section
variable {X : Cx} {W : WX}
theorem pm_var (i : Nat) {x : Str} {pos : Pos} (hN : X.N[i]? = some x := by rfl) (hv : Vis X.env.scope x := by first | exact Or.inl rfl | exact Or.inr (Or.inl rfl) | exact Or.inr (Or.inr rfl)) (hd : (x == ("__debug__" : Str)) = false := by decide)
    (hcd : (x == ("__classdict__" : Str)) = false := by decide) : PM X W (.Name x pos) (mVar i) :=
  PE.imp (pe_var hN hv hd hcd) fun σ H Q ⟨O, L, S, ρ, a, h⟩ => by
    unfold mVar at h
    cases q : ρ[i]? with
    | none => rw [q] at h; exact h.elim
    | some o =>
      cases o with
      | none => rw [q] at h; exact h.elim
      | some d =>
        rw [q] at h
        obtain ⟨v, h1, h2⟩ := a.re.get q
        exact ⟨v, h1, h H L (Ext.refl L H) a.st v h2⟩
theorem pm_c {e : Expr} {x : PyData} {v : V} (he : PE X e (tC v)) (r : ∀ H B, Rp X.K H B x v) : PM X W e (mC x) :=
  PE.imp he fun σ H Q ⟨O, L, S, ρ, a, h⟩ => h H L (Ext.refl L H) a.st v (.d (r H _))
theorem pm_int {i : Int} {j : Nat} {pos : Pos} : PM X W (.Constant (.int i) j pos) (mC (.int i)) := pm_c pe_int fun _ _ => .int i
theorem pm_bl {i : Bool} {j : Nat} {pos : Pos} : PM X W (.Constant (.bool i) j pos) (mC (.bool i)) := pm_c pe_bl fun _ _ => .bl i
theorem pm_str {i : Str} {j : Nat} {pos : Pos} : PM X W (.Constant (.str i) j pos) (mC (.str i)) := pm_c pe_str fun _ _ => .str i
theorem pm_non {j : Nat} {pos : Pos} : PM X W (.Constant .none j pos) (mC .none) := pm_c pe_non fun _ _ => .non
/-- a number, a text of the module -/
theorem pm_gint {x : Str} {pos : Pos} {i : Int} (hg : Gl X x) (hm : ∃ t, X.mg x = some (.int i t)) (hd : (x == ("__debug__" : Str)) = false := by decide) : PM X W (.Name x pos) (mC (.int i)) := by
  obtain ⟨t, hm⟩ := hm
  exact pm_c (pe_glob hg hm (v := .int i) ⟨t, rfl⟩ hd) fun _ _ => .int i
theorem pm_gstr {x : Str} {pos : Pos} {i : Str} (hg : Gl X x) (hm : ∃ t, X.mg x = some (.str i t)) (hd : (x == ("__debug__" : Str)) = false := by decide) : PM X W (.Name x pos) (mC (.str i)) := by
  obtain ⟨t, hm⟩ := hm
  exact pm_c (pe_glob hg hm (v := .str i) ⟨t, rfl⟩ hd) fun _ _ => .str i
end
/-! ### operators by values -/
def rO (K : PySem.W.Frag) (mg : MG) (g : Store → D → D → Option D) : R2 := fun x y H Q => ∃ (O L : List Addr) (S : Store) (dx dy d : D), Sto K mg H O L S ∧ RD K H O L dx x ∧ RD K H O L dy y ∧ g S dx dy = some d ∧ ∀ v H', Same H H' → RD K H' O L d v → Q v H'
def Res.of {α : Type} (o : Option α) (S : Store) : Res α := match o with
  | some d => .ok d S
  | none => .no
def mOp (g : Store → D → D → Option D) (fa fb : EM) : EM := fun ρ S => (fa ρ S).andThen fun x S1 => (fb ρ S1).andThen fun y S2 => Res.of (g S2 x y) S2
section
variable {X : Cx} {W : WX} {a b c : Expr} {fa fb fc : EM} {pos : Pos}
theorem EndG.of_some {α : Type} {K : PySem.W.Frag} {mg : MG} {O L : List Addr} {S : Store} {σ : St} {H : Hp} {P : α → Store → List Addr → Hp → Prop} {o : Option α} (h : EndG K mg W O L H σ P (Res.of o S)) :
    ∃ d, o = some d ∧ ∀ (H' : Hp) (L' : List Addr), Ext L H L' H' → Sto K mg H' O L' S → P d S L' H' := by
  cases o with
  | none => exact h.elim
  | some d => exact ⟨d, rfl, h⟩
theorem rO.go {g : Store → D → D → Option D} (ha : tM X.K X.mg W (mOp g fa fb) σ H Q) : tOp (rO X.K X.mg g) (tM X.K X.mg W fa) (tM X.K X.mg W fb) σ H Q := by
  obtain ⟨O, L, S, ρ, a, h⟩ := ha
  refine tM.part a h fun dx x S1 L1 H1 a1 e1 r1 h1 => ?_
  refine tM.part a1 h1 fun dy y S2 L2 H2 a2 e2 r2 h2 => ?_
  obtain ⟨d, hd, h3⟩ := EndG.of_some h2
  exact ⟨O, L2, S2, dx, dy, d, a2.st, r1.mono e2, r2, hd, fun v H' sm r => h3 H' L2 (Same.ext sm) (a2.st.same sm) v r⟩
theorem pm_op {op : Operator} {g : Store → D → D → Option D} (ho : OpR X (binaryOp op) (rO X.K X.mg g)) (ha : PM X W a fa) (hb : PM X W b fb) : PM X W (.BinOp a op b pos) (mOp g fa fb) :=
  PE.imp (pe_op ho ha hb) fun σ H Q h => rO.go h
theorem pm_cmp {op : CmpOp} {g : Store → D → D → Option D} (ho : OpR X (compareOp op) (rO X.K X.mg g)) (ha : PM X W a fa) (hb : PM X W b fb) (hm : behindInMarks op b = false := by first | exact nomark _ | rfl) : PM X W (.Compare a [op] [b] pos) (mOp g fa fb) :=
  PE.imp (pe_cmpR ho ha hb hm) fun σ H Q h => rO.go h
/-- a value that must be a truth -/
def asB (f : EM) : BM := fun ρ S => (f ρ S).andThen fun d S1 => match d with
  | .d (.bool k) => .ok k S1
  | _ => .no
theorem asB.go {f : EM} (h : tB X.K X.mg W (asB f) σ H Q) : tM X.K X.mg W f σ H fun x H' => ∃ k, x = .bl k ∧ Q k H' := by
  obtain ⟨O, L, S, ρ, a, h⟩ := h
  refine tM.part a h fun d v S1 L1 H1 a1 e1 r1 h1 => ?_
  cases d with
  | d x =>
    cases x with
    | bool k =>
      cases r1 with
      | d r => cases r; exact ⟨k, rfl, h1 H1 L1 (Ext.refl _ _) a1.st⟩
    | _ => exact h1.elim
  | _ => exact h1.elim
theorem pmt_cmp {op : CmpOp} {g : Store → D → D → Option D} (ho : OpR X (compareOp op) (rO X.K X.mg g)) (ha : PM X W a fa) (hb : PM X W b fb) (hm : behindInMarks op b = false := by first | exact nomark _ | rfl) : PMT X W (.Compare a [op] [b] pos) (asB (mOp g fa fb)) :=
  PT.imp (pt_cmpR ho ha hb hm) fun σ H Q h => by
    have h2 := asB.go h
    exact rO.go h2
/-- an expression that is a truth, as a test -/
theorem pmt_val (ha : PM X W a fa) (he : ∀ whole, isTrue a X.env whole = (do let v ← whole; standAt a.pos; holding [v] (truthy v)) := by intro _; rfl) : PMT X W a (asB fa) :=
  PT.imp (pt_val ha he) fun σ H Q h => asB.go h
/-! ### chains -/
def mChain (g g' : Store → D → D → Option D) (fa fb fc : EM) : EM := fun ρ S => (fa ρ S).andThen fun x S1 => (fb ρ S1).andThen fun y S2 => match g S2 x y with
  | some (.d (.bool true)) => (fc ρ S2).andThen fun z S3 => Res.of (g' S3 y z) S3
  | some (.d (.bool false)) => .ok (.d (.bool false)) S2
  | _ => .no
theorem mChain.go {g g' : Store → D → D → Option D} {σ : St} {H : Hp} {Q : VK} (h : tM X.K X.mg W (mChain g g' fa fb fc) σ H Q) : tChain (rO X.K X.mg g) (rO X.K X.mg g') (tM X.K X.mg W fa) (tM X.K X.mg W fb) (tM X.K X.mg W fc) σ H Q := by
  obtain ⟨O, L, S, ρ, a, h⟩ := h
  refine tM.part a h fun dx x S1 L1 H1 a1 e1 r1 h1 => ?_
  refine tM.part a1 h1 fun dy y S2 L2 H2 a2 e2 r2 h2 => ?_
  cases hg : g S2 dx dy with
  | none => rw [hg] at h2; exact h2.elim
  | some z =>
    rw [hg] at h2
    refine ⟨O, L2, S2, dx, dy, z, a2.st, r1.mono e2, r2, hg, fun v H' sm r => ?_⟩
    cases z with
    | d z =>
      cases z with
      | bool k =>
        cases r with
        | d r =>
          cases r
          refine ⟨k, rfl, ?_⟩
          have a3 := a2.mono (Same.ext sm) (a2.st.same sm)
          cases k with
          | true =>
            refine iteT ?_
            refine tM.part a3 (EndG.later (Same.ext sm) h2) fun dz w' S3 L3 H3 a4 e4 r4 h3 => ?_
            obtain ⟨d, hd, h4⟩ := EndG.of_some h3
            exact ⟨O, L3, S3, dy, dz, d, a4.st, (r2.mono (Same.ext sm)).mono e4, r4, hd, fun v H' sm r => h4 H' L3 (Same.ext sm) (a4.st.same sm) v r⟩
          | false =>
            refine iteF ?_
            exact h2 H' L2 (Same.ext sm) a3.st _ (.d (.bl false))
      | _ => exact h2.elim
    | _ => exact h2.elim
theorem pm_chain {op op' : CmpOp} {g g' : Store → D → D → Option D} (ho : OpR X (compareOp op) (rO X.K X.mg g)) (ho' : OpR X (compareOp op') (rO X.K X.mg g')) (ha : PM X W a fa) (hb : PM X W b fb) (hc : PM X W c fc)
    (hm : lastMarks [op, op'] [b, c] = false := by with_unfolding_all rfl) : PM X W (.Compare a [op, op'] [b, c] pos) (mChain g g' fa fb fc) :=
  PE.imp (pe_chain ho ho' ha hb hc hm) fun σ H Q h => mChain.go h
theorem pmt_chain {op op' : CmpOp} {g g' : Store → D → D → Option D} (ho : OpR X (compareOp op) (rO X.K X.mg g)) (ho' : OpR X (compareOp op') (rO X.K X.mg g')) (ha : PM X W a fa) (hb : PM X W b fb) (hc : PM X W c fc)
    (hm : lastMarks [op, op'] [b, c] = false := by with_unfolding_all rfl) : PMT X W (.Compare a [op, op'] [b, c] pos) (asB (mChain g g' fa fb fc)) :=
  PT.imp (pt_chain ho ho' ha hb hc hm) fun σ H Q h => mChain.go (asB.go h)
/-! ### and, or, not; if else -/
def mAnd (fa fb : EM) : EM := fun ρ S => (fa ρ S).andThen fun x S1 => match x with
  | .d (.bool true) => fb ρ S1
  | .d (.bool false) => .ok (.d (.bool false)) S1
  | _ => .no
def mOr (fa fb : EM) : EM := fun ρ S => (fa ρ S).andThen fun x S1 => match x with
  | .d (.bool false) => fb ρ S1
  | .d (.bool true) => .ok (.d (.bool true)) S1
  | _ => .no
def mNot (fa : EM) : EM := fun ρ S => (fa ρ S).andThen fun x S1 => match x with
  | .d (.bool k) => .ok (.d (.bool (!k))) S1
  | _ => .no
def bAnd (fa fb : BM) : BM := fun ρ S => (fa ρ S).andThen fun c S1 => if c = true then fb ρ S1 else .ok false S1
def bOr (fa fb : BM) : BM := fun ρ S => (fa ρ S).andThen fun c S1 => if c = true then .ok true S1 else fb ρ S1
def bNot (fa : BM) : BM := fun ρ S => (fa ρ S).andThen fun c S1 => .ok (!c) S1
def mIf (fc : BM) (fa fb : EM) : EM := fun ρ S => (fc ρ S).andThen fun c S1 => if c = true then fa ρ S1 else fb ρ S1
variable {rest : List Expr} {ba bb : BM}
theorem pm_one {op : BoolOp} (h : PM X W a fa) : PM X W (.BoolOp op [a] pos) fa := pe_one h
theorem pm_and (ha : PM X W a fa) (hb : PM X W (.BoolOp .And (b :: rest) pos) fb) : PM X W (.BoolOp .And (a :: b :: rest) pos) (mAnd fa fb) :=
  PE.imp (pe_and ha hb) fun σ H Q ⟨O, L, S, ρ, a, h⟩ => by
    refine tM.part a h fun d v S1 L1 H1 a1 e1 r1 h1 => ?_
    cases d with
    | d x =>
      cases x with
      | bool k =>
        cases r1 with
        | d r =>
          cases r
          refine ⟨k, rfl, ?_⟩
          cases k with
          | true => exact iteT ⟨O, L1, S1, ρ, a1, h1⟩
          | false => exact iteF (h1 H1 L1 (Ext.refl _ _) a1.st _ (.d (.bl false)))
      | _ => exact h1.elim
    | _ => exact h1.elim
theorem pm_or (ha : PM X W a fa) (hb : PM X W (.BoolOp .Or (b :: rest) pos) fb) : PM X W (.BoolOp .Or (a :: b :: rest) pos) (mOr fa fb) :=
  PE.imp (pe_or ha hb) fun σ H Q ⟨O, L, S, ρ, a, h⟩ => by
    refine tM.part a h fun d v S1 L1 H1 a1 e1 r1 h1 => ?_
    cases d with
    | d x =>
      cases x with
      | bool k =>
        cases r1 with
        | d r =>
          cases r
          refine ⟨k, rfl, ?_⟩
          cases k with
          | false => exact iteF ⟨O, L1, S1, ρ, a1, h1⟩
          | true => exact iteT (h1 H1 L1 (Ext.refl _ _) a1.st _ (.d (.bl true)))
      | _ => exact h1.elim
    | _ => exact h1.elim
theorem pm_not (ha : PM X W a fa) : PM X W (.UnaryOp .Not a pos) (mNot fa) :=
  PE.imp (pe_not ha) fun σ H Q ⟨O, L, S, ρ, a, h⟩ => by
    refine tM.part a h fun d v S1 L1 H1 a1 e1 r1 h1 => ?_
    cases d with
    | d x =>
      cases x with
      | bool k =>
        cases r1 with
        | d r =>
          cases r
          exact ⟨k, rfl, h1 H1 L1 (Ext.refl _ _) a1.st _ (.d (.bl _))⟩
      | _ => exact h1.elim
    | _ => exact h1.elim
theorem pmw_and1 (ha : PMT X W a ba) : PMW X W (.BoolOp .And [a] pos) ba := pw_and1 ha
theorem pmw_or1 (ha : PMT X W a ba) : PMW X W (.BoolOp .Or [a] pos) ba := pw_or1 ha
theorem pmw_and (ha : PMT X W a ba) (hb : PMW X W (.BoolOp .And (b :: rest) pos) bb) : PMW X W (.BoolOp .And (a :: b :: rest) pos) (bAnd ba bb) :=
  PW.imp (pw_and ha hb) fun σ H Q ⟨O, L, S, ρ, a, h⟩ => by
    refine tB.part a h fun c S1 L1 H1 a1 e1 h1 => ?_
    cases c with
    | true => exact iteT ⟨O, L1, S1, ρ, a1, h1⟩
    | false => exact iteF (h1 H1 L1 (Ext.refl _ _) a1.st)
theorem pmw_or (ha : PMT X W a ba) (hb : PMW X W (.BoolOp .Or (b :: rest) pos) bb) : PMW X W (.BoolOp .Or (a :: b :: rest) pos) (bOr ba bb) :=
  PW.imp (pw_or ha hb) fun σ H Q ⟨O, L, S, ρ, a, h⟩ => by
    refine tB.part a h fun c S1 L1 H1 a1 e1 h1 => ?_
    cases c with
    | false => exact iteF ⟨O, L1, S1, ρ, a1, h1⟩
    | true => exact iteT (h1 H1 L1 (Ext.refl _ _) a1.st)
theorem pmt_bo {op : BoolOp} {vs : List Expr} (h : PMW X W (.BoolOp op vs pos) ba) : PMT X W (.BoolOp op vs pos) ba := h.pt
theorem pmt_not (ha : PMT X W a ba) : PMT X W (.UnaryOp .Not a pos) (bNot ba) :=
  PT.imp (pt_not ha) fun σ H Q ⟨O, L, S, ρ, a, h⟩ => tB.part a h fun c S1 L1 H1 a1 e1 h1 => h1 H1 L1 (Ext.refl _ _) a1.st
theorem pm_if (hc : PMT X W c ba) (ha : PM X W a fa) (hb : PM X W b fb) : PM X W (.IfExp c a b pos) (mIf ba fa fb) :=
  PE.imp (pe_ifExp hc ha hb) fun σ H Q ⟨O, L, S, ρ, a, h⟩ => by
    refine tB.part a h fun c S1 L1 H1 a1 e1 h1 => ?_
    cases c with
    | true => exact iteT ⟨O, L1, S1, ρ, a1, h1⟩
    | false => exact iteF ⟨O, L1, S1, ρ, a1, h1⟩
/-! ### argument lists, displays -/
def aNil : AM := fun _ S => .ok [] S
def aCons (fa : EM) (fr : AM) : AM := fun ρ S => (fa ρ S).andThen fun x S1 => (fr ρ S1).andThen fun xs S2 => .ok (x :: xs) S2
variable {es : List Expr} {fs : AM}
theorem pma_nil : PMA X W [] aNil := PA.imp pa_nil fun σ H Q ⟨O, L, S, ρ, a, h⟩ => h H L (Ext.refl _ _) a.st [] .nil
theorem pma_cons (ha : PM X W a fa) (hr : PMA X W es fs) (hs : starEach (a :: es) X.env = (false, eval a X.env) :: starEach es X.env := by rfl) : PMA X W (a :: es) (aCons fa fs) :=
  PA.imp (pa_cons ha hr hs) fun σ H Q ⟨O, L, S, ρ, a, h⟩ => by
    refine tM.part a h fun d v S1 L1 H1 a1 e1 r1 h1 => ?_
    refine tA.part a1 h1 fun ds vs S2 L2 H2 a2 e2 r2 h2 => ?_
    exact h2 H2 L2 (Ext.refl _ _) a2.st _ (.cons (r1.mono e2) r2)
/-- all plain -/
def allD : List D → Option (List PyData)
  | [] => some []
  | .d x :: r => (allD r).map (x :: ·)
  | _ => none
theorem allD_rp {K : PySem.W.Frag} {H : Hp} {O L : List Addr} : ∀ {ds : List D} {vs : List V} {xs : List PyData}, RDL K H O L ds vs → allD ds = some xs → RpL K H (O ++ L) xs vs
  | _, _, _, .nil, h => by cases h; exact .nil
  | _, _, xs, .cons (d := .d x) r t, h => by
    cases q : allD _ with
    | none => rw [allD, q] at h; cases h
    | some ys =>
      rw [allD, q] at h
      cases h
      cases r with
      | d r => exact .cons r (allD_rp t q)
  | _, _, _, .cons (d := .r _) _ _, h => by cases h
  | _, _, _, .cons (d := .s _) _ _, h => by cases h
theorem RpL.length {K : PySem.W.Frag} {H : Hp} {B : List Addr} : ∀ {ds : List PyData} {vs : List V}, RpL K H B ds vs → ds.length = vs.length
  | _, _, .nil => rfl
  | _, _, .cons _ t => by rw [List.length_cons, List.length_cons, RpL.length t]
theorem RDL.length {K : PySem.W.Frag} {H : Hp} {O L : List Addr} : ∀ {ds : List D} {vs : List V}, RDL K H O L ds vs → ds.length = vs.length
  | _, _, .nil => rfl
  | _, _, .cons _ t => by rw [List.length_cons, List.length_cons, RDL.length t]
theorem RpL.get {K : PySem.W.Frag} {H : Hp} {B : List Addr} : ∀ {ds : List PyData} {vs : List V} {i : Nat} {d : PyData}, RpL K H B ds vs → ds[i]? = some d → ∃ v, vs[i]? = some v ∧ Rp K H B d v
  | _, _, _, _, .nil, h => by simp at h
  | _, _, 0, _, .cons r t, h => by simp at h; subst h; exact ⟨_, rfl, r⟩
  | _, _, i + 1, _, .cons r t, h => by
    obtain ⟨v, h1, h2⟩ := RpL.get (i := i) t (by simpa using h)
    exact ⟨v, by simpa using h1, h2⟩
theorem RpL.append {K : PySem.W.Frag} {H : Hp} {B : List Addr} : ∀ {ds es : List PyData} {vs ws : List V}, RpL K H B ds vs → RpL K H B es ws → RpL K H B (ds ++ es) (vs ++ ws)
  | _, _, _, _, .nil, h => h
  | _, _, _, _, .cons r t, h => .cons r (RpL.append t h)
theorem RpL.take {K : PySem.W.Frag} {H : Hp} {B : List Addr} : ∀ {ds : List PyData} {vs : List V} (n : Nat), RpL K H B ds vs → RpL K H B (ds.take n) (vs.take n)
  | _, _, 0, _ => .nil
  | _, _, _ + 1, .nil => .nil
  | _, _, n + 1, .cons r t => .cons r (RpL.take n t)
theorem RpL.drop {K : PySem.W.Frag} {H : Hp} {B : List Addr} : ∀ {ds : List PyData} {vs : List V} (n : Nat), RpL K H B ds vs → RpL K H B (ds.drop n) (vs.drop n)
  | _, _, 0, h => h
  | _, _, _ + 1, .nil => .nil
  | _, _, n + 1, .cons _ t => RpL.drop n t
theorem RpL.set {K : PySem.W.Frag} {H : Hp} {B : List Addr} {d : PyData} {v : V} (r : Rp K H B d v) : ∀ {ds : List PyData} {vs : List V} (i : Nat), RpL K H B ds vs → RpL K H B (ds.set i d) (vs.set i v)
  | _, _, _, .nil => .nil
  | _, _, 0, .cons _ t => .cons r t
  | _, _, i + 1, .cons q t => .cons q (RpL.set r i t)
theorem RpL.reverse {K : PySem.W.Frag} {H : Hp} {B : List Addr} : ∀ {ds : List PyData} {vs : List V}, RpL K H B ds vs → RpL K H B ds.reverse vs.reverse
  | _, _, .nil => .nil
  | _, _, .cons r t => by
    rw [List.reverse_cons, List.reverse_cons]
    exact RpL.append (RpL.reverse t) (.cons r .nil)
/-- (a, b, ..) -/
def mTup (f : AM) : EM := fun ρ S => (f ρ S).andThen fun ds S1 => match allD ds with
  | some xs => if xs.length ≤ sizeLine then .ok (.d (.tuple xs)) S1 else .no
  | none => .no
/-- [a, b, ..], not to be written -/
def mLst (f : AM) : EM := fun ρ S => (f ρ S).andThen fun ds S1 => match allD ds with
  | some xs => if xs.length ≤ sizeLine then .ok (.d (.list xs)) S1 else .no
  | none => .no
/-- [a, b, ..], a cell -/
def mLstC (f : AM) : EM := fun ρ S => (f ρ S).andThen fun ds S1 => match allD ds with
  | some xs => if xs.length ≤ sizeLine then .ok (.r S1.length) (S1 ++ [.lst xs]) else .no
  | none => .no
theorem ite_of {c : Prop} [Decidable c] {α : Type} {K : PySem.W.Frag} {mg : MG} {O L : List Addr} {σ : St} {H : Hp} {P : α → Store → List Addr → Hp → Prop} {r : Res α} (h : EndG K mg W O L H σ P (if c then r else .no)) : c ∧ EndG K mg W O L H σ P r := by
  by_cases hc : c
  · rw [if_pos hc] at h; exact ⟨hc, h⟩
  · rw [if_neg hc] at h; exact h.elim
theorem pm_tup {x1 : Nat} (h : PMA X W es fs) : PM X W (.Tuple es x1 pos) (mTup fs) :=
  PE.imp (pe_tup h) fun σ H Q ⟨O, L, S, ρ, a, h⟩ => by
    refine tA.part a h fun ds vs S1 L1 H1 a1 e1 r1 h1 => ?_
    cases q : allD ds with
    | none => rw [q] at h1; exact h1.elim
    | some xs =>
      rw [q] at h1
      obtain ⟨hz, h1⟩ := ite_of h1
      have rp := allD_rp r1 q
      refine ⟨by rw [← rp.length]; exact hz, fun p hp => ?_⟩
      have sm := same_upd (o := .tup vs) hp
      exact h1 _ L1 (Same.ext sm) (a1.st.same sm) _ (.d (.tup (.inl upd_same) (a1.st.fresh hp) (RpL.mono (Ext.kp (Same.ext sm)) _ _ rp)))
theorem pm_lst (h : PMA X W es fs) : PM X W (.List es pos) (mLst fs) :=
  PE.imp (pe_lst h) fun σ H Q ⟨O, L, S, ρ, a, h⟩ => by
    refine tA.part a h fun ds vs S1 L1 H1 a1 e1 r1 h1 => ?_
    cases q : allD ds with
    | none => rw [q] at h1; exact h1.elim
    | some xs =>
      rw [q] at h1
      obtain ⟨hz, h1⟩ := ite_of h1
      have rp := allD_rp r1 q
      refine ⟨by rw [← rp.length]; exact hz, fun p hp => ?_⟩
      have sm := same_upd (o := .lst vs) hp
      exact h1 _ L1 (Same.ext sm) (a1.st.same sm) _ (.d (.lst upd_same (a1.st.fresh hp) (RpL.mono (Ext.kp (Same.ext sm)) _ _ rp)))
/-- a new cell -/
theorem Ext.push {L : List Addr} {H : Hp} {p : Addr} {o : HO} (hp : H p = none) : Ext L H (L ++ [p]) (upd H p o) where
  pre := fun i a h => by
    rw [List.getElem?_append_left (List.getElem?_eq_some_iff.mp h).1]
    exact h
  new := fun a h => by
    rcases List.mem_append.mp h with h | h
    · exact .inl h
    · rw [List.mem_singleton.mp h]; exact .inr hp
  keep := fun a u h _ => same_upd hp a u h
theorem Sto.push {K : PySem.W.Frag} {mg : MG} {O L : List Addr} {S : Store} {H : Hp} {p : Addr} {o : HO} {c : Cell} (st : Sto K mg H O L S) (hp : H p = none) (k : CellOk K mg (upd H p o) O (L ++ [p]) p c) : Sto K mg (upd H p o) O (L ++ [p]) (S ++ [c]) where
  len := by rw [List.length_append, List.length_append, st.len]; rfl
  nd := by
    refine List.nodup_append.mpr ⟨st.nd, by simp, fun a h b h' => ?_⟩
    rw [List.mem_singleton.mp h']
    rintro rfl
    exact st.fresh hp (List.mem_append_right _ h)
  cell := fun i c' a h1 h2 => by
    by_cases hi : i < S.length
    · rw [List.getElem?_append_left hi] at h1
      rw [List.getElem?_append_left (by rw [st.len]; exact hi)] at h2
      have k' := st.cell i c' a h1 h2
      obtain ⟨u, hu⟩ := k'.there
      exact k'.mono (Ext.push hp) (by rw [hu]; exact same_upd hp a u hu)
    · have e1 : i = S.length := by
        have := (List.getElem?_eq_some_iff.mp h1).1
        rw [List.length_append, List.length_singleton] at this
        omega
      subst e1
      rw [List.getElem?_append_right (Nat.le_refl _), Nat.sub_self] at h1
      rw [← st.len, List.getElem?_append_right (Nat.le_refl _), Nat.sub_self] at h2
      cases h1
      cases h2
      exact k
  out := fun a h => (st.out a h).imp fun u q => same_upd hp a u q
theorem RD.last {K : PySem.W.Frag} {mg : MG} {O L : List Addr} {S : Store} {H H' : Hp} {p : Addr} (st : Sto K mg H O L S) : RD K H' O (L ++ [p]) (.r S.length) (.ref p) := .r (by
  rw [← st.len, List.getElem?_append_right (Nat.le_refl _), Nat.sub_self]
  rfl)
theorem pm_lstC (h : PMA X W es fs) : PM X W (.List es pos) (mLstC fs) :=
  PE.imp (pe_lst h) fun σ H Q ⟨O, L, S, ρ, a, h⟩ => by
    refine tA.part a h fun ds vs S1 L1 H1 a1 e1 r1 h1 => ?_
    cases q : allD ds with
    | none => rw [q] at h1; exact h1.elim
    | some xs =>
      rw [q] at h1
      obtain ⟨hz, h1⟩ := ite_of h1
      have rp := allD_rp r1 q
      refine ⟨by rw [← rp.length]; exact hz, fun p hp => ?_⟩
      exact h1 _ _ (Ext.push hp) (a1.st.push hp (.lst upd_same (RpL.mono (Ext.kp (Ext.push hp)) _ _ rp))) _ (RD.last a1.st)
end
end Sky
end
section
/-! Lay4: operators on data, subscripts, slices. -/
namespace Sky
open PySem PySem.Spec PyProof.Rows L2
section
variable {K : PySem.W.Frag} {mg : MG} {H : Hp} {O L : List Addr} {S : Store}
theorem lk_at {d : D} {v : V} {xs : List PyData} (st : Sto K mg H O L S) (r : RD K H O L d v) (h : lk S d = some xs) : ∃ a vs, v = .ref a ∧ H a = some (.lst vs) ∧ RpL K H (O ++ L) xs vs := by
  cases r with
  | @d x _ r =>
    cases x with
    | list ys =>
      cases h
      cases r with
      | lst h1 h2 h3 => exact ⟨_, _, rfl, h1, h3⟩
    | _ => cases h
  | @r i a hi =>
    replace h : (match S[i]? with | some (.lst xs) => some xs | _ => none) = some xs := h
    cases q : S[i]? with
    | none => rw [q] at h; cases h
    | some c =>
      rw [q] at h
      cases c with
      | lst ys =>
        cases h
        cases st.cell i _ a q hi with
        | lst h1 h2 => exact ⟨_, _, rfl, h1, h2⟩
      | _ => cases h
  | s _ => cases h
/-- the result is a new object of plain data -/
theorem new_tup {xs : List PyData} {vs : List V} {p : Addr} (st : Sto K mg H O L S) (hp : H p = none) (r : RpL K H (O ++ L) xs vs) : RD K (upd H p (.tup vs)) O L (.d (.tuple xs)) (.ref p) :=
  .d (.tup (.inl upd_same) (st.fresh hp) (RpL.mono (Ext.kp (Same.ext (same_upd hp))) _ _ r))
theorem new_lst {xs : List PyData} {vs : List V} {p : Addr} (st : Sto K mg H O L S) (hp : H p = none) (r : RpL K H (O ++ L) xs vs) : RD K (upd H p (.lst vs)) O L (.d (.list xs)) (.ref p) :=
  .d (.lst upd_same (st.fresh hp) (RpL.mono (Ext.kp (Same.ext (same_upd hp))) _ _ r))
end
/-! ### + - * // % ** -/
def gAdd (S : Store) (x y : D) : Option D := match x, y with
  | .d (.int i), .d (.int j) => some (.d (.int (i + j)))
  | .d (.str i), .d (.str j) => if i.length + j.length ≤ sizeLine then some (.d (.str (i ++ j))) else none
  | .d (.tuple xs), .d (.tuple ys) => if xs.length + ys.length ≤ sizeLine then some (.d (.tuple (xs ++ ys))) else none
  | x, y => match lk S x, lk S y with
    | some xs, some ys => if xs.length + ys.length ≤ sizeLine then some (.d (.list (xs ++ ys))) else none
    | _, _ => none
def gSub (_ : Store) (x y : D) : Option D := match x, y with
  | .d (.int i), .d (.int j) => some (.d (.int (i - j)))
  | _, _ => none
def gMul (_ : Store) (x y : D) : Option D := match x, y with
  | .d (.int i), .d (.int j) => if (-(2 ^ 64) < i ∧ i < 2 ^ 64) ∨ (-(2 ^ 64) < j ∧ j < 2 ^ 64) then some (.d (.int (i * j))) else none
  | .d (.tuple xs), .d (.int k) => if xs ≠ [] ∧ 0 ≤ k ∧ k ≤ 1000 ∧ xs.length ≤ 1000 then some (.d (.tuple (List.replicate k.toNat xs).flatten)) else none
  | _, _ => none
def gDiv (_ : Store) (x y : D) : Option D := match x, y with
  | .d (.int i), .d (.int j) => if 0 < j ∧ j < 1073741824 then some (.d (.int (i / j))) else none
  | _, _ => none
def gMod (_ : Store) (x y : D) : Option D := match x, y with
  | .d (.int i), .d (.int j) => if 0 < j then some (.d (.int (i % j))) else none
  | _, _ => none
def gPow (_ : Store) (x y : D) : Option D := match x, y with
  | .d (.int i), .d (.int j) => if 0 ≤ j ∧ j ≤ 1000000 ∧ i.natAbs < 2 ^ 64 then some (.d (.int (i ^ j.toNat))) else none
  | _, _ => none
theorem some_of_ite {α : Type} {c : Prop} [Decidable c] {a b : α} (h : (if c then some a else none) = some b) : c ∧ a = b := by
  by_cases hc : c
  · rw [if_pos hc] at h; exact ⟨hc, Option.some.inj h⟩
  · rw [if_neg hc] at h; cases h
/-- two ints in -/
theorem ii {K : PySem.W.Frag} {H : Hp} {O L : List Addr} {i : Int} {v : V} (r : RD K H O L (.d (.int i)) v) : v = .int i := by
  cases r with | d r => cases r; rfl
theorem ss {K : PySem.W.Frag} {H : Hp} {O L : List Addr} {i : Str} {v : V} (r : RD K H O L (.d (.str i)) v) : v = .str i := by
  cases r with | d r => cases r; rfl
theorem bb {K : PySem.W.Frag} {H : Hp} {O L : List Addr} {i : Bool} {v : V} (r : RD K H O L (.d (.bool i)) v) : v = .bl i := by
  cases r with | d r => cases r; rfl
theorem tt {K : PySem.W.Frag} {H : Hp} {O L : List Addr} {xs : List PyData} {v : V} (r : RD K H O L (.d (.tuple xs)) v) : ∃ a vs, v = .ref a ∧ SqT K H a vs ∧ a ∉ O ++ L ∧ RpL K H (O ++ L) xs vs ∧ Rp K H (O ++ L) (.tuple xs) (.ref a) := by
  cases r with
  | d r =>
    have r' := r
    cases r with
    | tup h1 h2 h3 => exact ⟨_, _, rfl, .inl h1, h2, h3, r'⟩
section
variable {X : Cx}
theorem o_add : OpR X (binaryOp .Add) (rO X.K X.mg gAdd) := by
  intro pins s σ H x y v u Q I rx ry ⟨O, L, S, dx, dy, d, st, r1, r2, hg, q⟩
  have lists : ∀ {xs ys : List PyData}, lk S dx = some xs → lk S dy = some ys → (if xs.length + ys.length ≤ sizeLine then some (D.d (.list (xs ++ ys))) else none) = some d → wpAny (model X.prog X.w) X.A (binaryOp .Add v u) (EP X pins σ Q) X.xe s := fun {xs ys} h1 h2 h3 => by
    obtain ⟨hz, rfl⟩ := some_of_ite h3
    obtain ⟨a, vs, rfl, ha, ra⟩ := lk_at st r1 h1
    obtain ⟨b, ws, rfl, hb, rb⟩ := lk_at st r2 h2
    refine op_cat pins s σ H _ _ v u Q I rx ry ⟨a, b, vs, ws, rfl, rfl, ha, hb, by rw [← ra.length, ← rb.length]; exact hz, fun p hp => ?_⟩
    exact q _ _ (same_upd hp) (new_lst st hp (ra.append rb))
  have go : ∀ {r : Option D}, r = some d → (r = (match lk S dx, lk S dy with
    | some xs, some ys => if xs.length + ys.length ≤ sizeLine then some (.d (.list (xs ++ ys))) else none
    | _, _ => none)) → wpAny (model X.prog X.w) X.A (binaryOp .Add v u) (EP X pins σ Q) X.xe s := fun {r} h1 h2 => by
    rw [h1] at h2
    cases e1 : lk S dx with
    | none => rw [e1] at h2; cases h2
    | some xs =>
      cases e2 : lk S dy with
      | none => rw [e1, e2] at h2; cases h2
      | some ys =>
        rw [e1, e2] at h2
        exact lists e1 e2 h2.symm
  unfold gAdd at hg
  split at hg
  · cases hg
    obtain rfl := ii r1
    obtain rfl := ii r2
    exact op_add pins s σ H _ _ v u Q I rx ry ⟨_, _, rfl, rfl, q _ H (Same.refl H) (.d (.int _))⟩
  · obtain ⟨hz, rfl⟩ := some_of_ite hg
    obtain rfl := ss r1
    obtain rfl := ss r2
    exact op_add_str pins s σ H _ _ v u Q I rx ry ⟨_, _, rfl, rfl, hz, q _ H (Same.refl H) (.d (.str _))⟩
  · obtain ⟨hz, rfl⟩ := some_of_ite hg
    obtain ⟨a, vs, rfl, ha, na, ra, wa⟩ := tt r1
    obtain ⟨b, ws, rfl, hb, nb, rb, wb⟩ := tt r2
    refine op_catA pins s σ H _ _ v u Q I rx ry ⟨a, b, vs, ws, rfl, rfl, ha, hb, by rw [← ra.length, ← rb.length]; exact hz, fun e => ?_, fun _ e => ?_, fun _ _ p hp => ?_⟩
    · subst e
      cases ra
      exact q _ H (Same.refl H) (.d wb)
    · subst e
      cases rb
      rw [List.append_nil] at q
      exact q _ H (Same.refl H) (.d wa)
    · exact q _ _ (same_upd hp) (new_tup st hp (ra.append rb))
  · exact go hg rfl
theorem o_sub : OpR X (binaryOp .Sub) (rO X.K X.mg gSub) := by
  intro pins s σ H x y v u Q I rx ry ⟨O, L, S, dx, dy, d, st, r1, r2, hg, q⟩
  unfold gSub at hg
  split at hg
  · cases hg
    obtain rfl := ii r1
    obtain rfl := ii r2
    exact op_sub pins s σ H _ _ v u Q I rx ry ⟨_, _, rfl, rfl, q _ H (Same.refl H) (.d (.int _))⟩
  · cases hg
theorem rpl_rep {K : PySem.W.Frag} {H : Hp} {B : List Addr} {ds : List PyData} {vs : List V} (h : RpL K H B ds vs) : ∀ n : Nat, RpL K H B (List.replicate n ds).flatten (List.replicate n vs).flatten
  | 0 => .nil
  | n + 1 => by
    rw [List.replicate_succ, List.replicate_succ, List.flatten_cons, List.flatten_cons]
    exact h.append (rpl_rep h n)
theorem o_mul : OpR X (binaryOp .Mult) (rO X.K X.mg gMul) := by
  intro pins s σ H x y v u Q I rx ry ⟨O, L, S, dx, dy, d, st, r1, r2, hg, q⟩
  unfold gMul at hg
  split at hg
  · obtain ⟨hz, rfl⟩ := some_of_ite hg
    obtain rfl := ii r1
    obtain rfl := ii r2
    exact op_mul pins s σ H _ _ v u Q I rx ry ⟨_, _, rfl, rfl, hz, q _ H (Same.refl H) (.d (.int _))⟩
  · rename_i xs k
    obtain ⟨⟨h1, h2, h3, h4⟩, rfl⟩ := some_of_ite hg
    obtain ⟨a, vs, rfl, ha, na, ra, wa⟩ := tt r1
    obtain rfl := ii r2
    have hne : vs ≠ [] := by
      rintro rfl
      cases ra
      exact h1 rfl
    by_cases k0 : k = 0
    · subst k0
      exact op_rep01 pins s σ H _ _ v u Q I rx ry ⟨a, 0, vs, rfl, rfl, ha, hne, .inl ⟨rfl, fun p hp => q _ _ (same_upd hp) (new_tup st hp .nil)⟩⟩
    · by_cases k1 : k = 1
      · subst k1
        refine op_rep01 pins s σ H _ _ v u Q I rx ry ⟨a, 1, vs, rfl, rfl, ha, hne, .inr ⟨rfl, q _ H (Same.refl H) ?_⟩⟩
        have e : (List.replicate (1 : Int).toNat xs).flatten = xs := by simp
        rw [e]
        exact r1
      · exact op_repT pins s σ H _ _ v u Q I rx ry ⟨a, _, vs, rfl, rfl, ha, hne, by omega, h3, by rw [← ra.length]; exact h4, fun p hp => q _ _ (same_upd hp) (new_tup st hp (rpl_rep ra _))⟩
  · cases hg
theorem o_div : OpR X (binaryOp .FloorDiv) (rO X.K X.mg gDiv) := by
  intro pins s σ H x y v u Q I rx ry ⟨O, L, S, dx, dy, d, st, r1, r2, hg, q⟩
  unfold gDiv at hg
  split at hg
  · obtain ⟨hz, rfl⟩ := some_of_ite hg
    obtain rfl := ii r1
    obtain rfl := ii r2
    exact op_fdiv pins s σ H _ _ v u Q I rx ry ⟨_, _, rfl, rfl, hz, q _ H (Same.refl H) (.d (.int _))⟩
  · cases hg
theorem o_mod : OpR X (binaryOp .Mod) (rO X.K X.mg gMod) := by
  intro pins s σ H x y v u Q I rx ry ⟨O, L, S, dx, dy, d, st, r1, r2, hg, q⟩
  unfold gMod at hg
  split at hg
  · obtain ⟨hz, rfl⟩ := some_of_ite hg
    obtain rfl := ii r1
    obtain rfl := ii r2
    exact op_mod pins s σ H _ _ v u Q I rx ry ⟨_, _, rfl, rfl, hz, q _ H (Same.refl H) (.d (.int _))⟩
  · cases hg
theorem o_pow : OpR X (binaryOp .Pow) (rO X.K X.mg gPow) := by
  intro pins s σ H x y v u Q I rx ry ⟨O, L, S, dx, dy, d, st, r1, r2, hg, q⟩
  unfold gPow at hg
  split at hg
  · obtain ⟨hz, rfl⟩ := some_of_ite hg
    obtain rfl := ii r1
    obtain rfl := ii r2
    exact op_pow pins s σ H _ _ v u Q I rx ry ⟨_, _, rfl, rfl, hz, q _ H (Same.refl H) (.d (.int _))⟩
  · cases hg
end
/-! ### -a -/
def mNeg (fa : EM) : EM := fun ρ S => (fa ρ S).andThen fun x S1 => match x with
  | .d (.int i) => .ok (.d (.int (-i))) S1
  | _ => .no
theorem pm_neg {X : Cx} {W : WX} {a : Expr} {fa : EM} {pos : Pos} (ha : PM X W a fa) : PM X W (.UnaryOp .USub a pos) (mNeg fa) :=
  PE.imp (pe_un un_neg ha) fun σ H Q ⟨O, L, S, ρ, a, h⟩ => by
    refine tM.part a h fun d v S1 L1 H1 a1 e1 r1 h1 => ?_
    split at h1
    · obtain rfl := ii r1
      exact ⟨_, rfl, h1 H1 L1 (Ext.refl _ _) a1.st _ (.d (.int _))⟩
    · exact h1.elim
/-! ### comparisons -/
/-- the value that stands there, as data -/
def rf (S : Store) : D → Option PyData
  | .d x => some x
  | .r i => match S[i]? with
    | some (.lst xs) => some (.list xs)
    | _ => none
  | .s _ => none
/-- no dict within, at most n deep -/
def dp : Nat → PyData → Bool
  | _, .none => true
  | _, .bool _ => true
  | _, .int _ => true
  | _, .str _ => true
  | n + 1, .list xs => xs.all (dp n)
  | n + 1, .tuple xs => xs.all (dp n)
  | _, _ => false
mutual
theorem dp_plain : ∀ (d : PyData) (n : Nat), dp n d = true → d.plain = true ∧ d.depth ≤ n
  | .none, n, _ => ⟨rfl, Nat.zero_le _⟩
  | .bool _, n, _ => ⟨rfl, Nat.zero_le _⟩
  | .int _, n, _ => ⟨rfl, Nat.zero_le _⟩
  | .str _, n, _ => ⟨rfl, Nat.zero_le _⟩
  | .list xs, 0, h => by cases h
  | .list xs, n + 1, h => by
    have := dp_plainAll xs n h
    exact ⟨by rw [PyData.plain]; exact this.1, by rw [PyData.depth]; omega⟩
  | .tuple xs, 0, h => by cases h
  | .tuple xs, n + 1, h => by
    have := dp_plainAll xs n h
    exact ⟨by rw [PyData.plain]; exact this.1, by rw [PyData.depth]; omega⟩
  | .dict _, 0, h => by cases h
  | .dict _, _ + 1, h => by cases h
theorem dp_plainAll : ∀ (xs : List PyData) (n : Nat), xs.all (dp n) = true → PyData.plainAll xs = true ∧ PyData.depthAll xs ≤ n
  | [], n, _ => ⟨rfl, Nat.zero_le _⟩
  | x :: xs, n, h => by
    rw [List.all_cons, Bool.and_eq_true] at h
    have h1 := dp_plain x n h.1
    have h2 := dp_plainAll xs n h.2
    exact ⟨by rw [PyData.plainAll, h1.1, h2.1]; rfl, by rw [PyData.depthAll]; exact Nat.max_le.mpr ⟨h1.2, h2.2⟩⟩
end
end Sky
end
section
/-! Lay5: comparisons, subscripts, slices. -/
namespace Sky
open PySem PySem.Spec PyProof.Rows L2
/-! ### what is read as data -/
mutual
theorem Rp.dp {K : PySem.W.Frag} {H : Hp} {B : List Addr} : ∀ (d : PyData) (v : V), d.plain = true → Rp K H B d v → Dp K H v d
  | .none, _, _, h => by cases h; exact .non
  | .bool b, _, _, h => by cases h; exact .bl b
  | .int i, _, _, h => by cases h; exact .int i
  | .str x, _, _, h => by cases h; exact .str x
  | .tuple ds, _, p, h => by
    cases h with
    | tup h1 h2 h3 => exact .tup (.inl h1) (RpL.dp ds _ p h3)
  | .list ds, _, p, h => by
    cases h with
    | lst h1 h2 h3 => exact .lst (.inl (.inl h1)) (RpL.dp ds _ p h3)
  | .dict ds, _, p, _ => by cases p
theorem RpL.dp {K : PySem.W.Frag} {H : Hp} {B : List Addr} : ∀ (ds : List PyData) (vs : List V), PyData.plainAll ds = true → RpL K H B ds vs → DpAll K H vs ds
  | [], _, _, h => by cases h; exact .nil
  | d :: ds, _, p, h => by
    rw [PyData.plainAll, Bool.and_eq_true] at p
    cases h with
    | cons h1 h2 => exact .cons (Rp.dp d _ p.1 h1) (RpL.dp ds _ p.2 h2)
end
section
variable {K : PySem.W.Frag} {mg : MG} {H : Hp} {O L : List Addr} {S : Store}
theorem rp_free {B : List Addr} {d : PyData} {v : V} (h : Rp K H B d v) : Rp K H [] d v := Rp.mono (fun a o e _ => ⟨by simp, e⟩) _ _ h
theorem rpl_free {B : List Addr} {d : List PyData} {v : List V} (h : RpL K H B d v) : RpL K H [] d v := RpL.mono (fun a o e _ => ⟨by simp, e⟩) _ _ h
theorem rq_k {B : List Addr} : ∀ {ds : List (Key × PyData)} {vs : List (Key × V)}, RQ K H B ds vs → RpK K H [] (ds.map fun kv => (keyD kv.1, kv.2)) vs
  | _, _, .nil => .nil
  | _, _, .cons r t => .cons (rp_free r) (rq_k t)
theorem rf_rp {d : D} {v : V} {x : PyData} (st : Sto K mg H O L S) (r : RD K H O L d v) (h : rf S d = some x) : Rp K H [] x v := by
  cases r with
  | d r => cases h; exact rp_free r
  | @r i a hi =>
    replace h : (match S[i]? with | some (.lst xs) => some (PyData.list xs) | _ => none) = some x := h
    cases q : S[i]? with
    | none => rw [q] at h; cases h
    | some c =>
      rw [q] at h
      have k := st.cell i c a q hi
      cases c with
      | lst ys =>
        cases h
        cases k with
        | lst h1 h2 => exact .lst h1 (by simp) (rpl_free h2)
      | dct _ => cases h
      | ins _ _ => cases h
      | mem _ _ => cases h
  | s _ => cases h
end
theorem reads_of {X : Cx} {pins : List (Addr × Obj)} {σ : St} {H : Hp} {s : Shared} {B : List Addr} {x : PyData} {v : V} {u : Value} (I : Inv X pins σ H s) (p : x.plain = true) (r : Rp X.K H B x v) (ru : RelV v u) : ∃ as, Reads s.heap u x as :=
  Dp.reads I x v u (Rp.dp x v p r) ru
/-! ### == and != -/
def gEq (S : Store) (x y : D) : Option D := match rf S x, rf S y with
  | some a, some b => if dp 60 a = true ∧ dp 60 b = true then some (.d (.bool (PyData.eqv a b))) else none
  | _, _ => none
def gNe (S : Store) (x y : D) : Option D := match rf S x, rf S y with
  | some a, some b => if dp 60 a = true ∧ dp 60 b = true then some (.d (.bool (!PyData.eqv a b))) else none
  | _, _ => none
section
variable {X : Cx}
theorem o_eq (hu : X.A.units + 64 < cLine) : OpR X (compareOp .Eq) (rO X.K X.mg gEq) := by
  intro pins s σ H x y v u Q I rx ry ⟨O, L, S, dx, dy, d, st, r1, r2, hg, q⟩
  unfold gEq at hg
  split at hg
  · rename_i a b ha hb
    obtain ⟨⟨h1, h2⟩, rfl⟩ := some_of_ite hg
    have p1 := dp_plain _ _ h1
    have p2 := dp_plain _ _ h2
    obtain ⟨as, ra⟩ := reads_of I p1.1 (rf_rp st r1 ha) rx
    obtain ⟨bs, rb⟩ := reads_of I p2.1 (rf_rp st r2 hb) ry
    exact SeqAt.eq_plain ra rb p1.1 p2.1 (by have := Nat.min_le_left a.depth b.depth; omega) ⟨.bl _, H, I, rfl, q _ H (Same.refl H) (.d (.bl _))⟩
  · cases hg
theorem o_ne (hu : X.A.units + 64 < cLine) : OpR X (compareOp .NotEq) (rO X.K X.mg gNe) := by
  intro pins s σ H x y v u Q I rx ry ⟨O, L, S, dx, dy, d, st, r1, r2, hg, q⟩
  unfold gNe at hg
  split at hg
  · rename_i a b ha hb
    obtain ⟨⟨h1, h2⟩, rfl⟩ := some_of_ite hg
    have p1 := dp_plain _ _ h1
    have p2 := dp_plain _ _ h2
    obtain ⟨as, ra⟩ := reads_of I p1.1 (rf_rp st r1 ha) rx
    obtain ⟨bs, rb⟩ := reads_of I p2.1 (rf_rp st r2 hb) ry
    exact SeqAt.ne_plain ra rb p1.1 p2.1 (by have := Nat.min_le_left a.depth b.depth; omega) ⟨.bl _, H, I, rfl, q _ H (Same.refl H) (.d (.bl _))⟩
  · cases hg
/-! ### < <= > >= of numbers -/
def gC (p : Int → Int → Bool) (_ : Store) (x y : D) : Option D := match x, y with
  | .d (.int i), .d (.int j) => some (.d (.bool (p i j)))
  | _, _ => none
abbrev gLt := gC fun i j => decide (i < j)
abbrev gLe := gC fun i j => decide (i ≤ j)
abbrev gGt := gC fun i j => decide (j < i)
abbrev gGe := gC fun i j => decide (j ≤ i)
theorem o_c {f : Value → Value → Sem Value} {p : Int → Int → Bool} (h : OpR X f (rI0 fun i j => .bl (p i j))) : OpR X f (rO X.K X.mg (gC p)) := by
  intro pins s σ H x y v u Q I rx ry ⟨O, L, S, dx, dy, d, st, r1, r2, hg, q⟩
  unfold gC at hg
  split at hg
  · cases hg
    obtain rfl := ii r1
    obtain rfl := ii r2
    exact h pins s σ H _ _ v u Q I rx ry ⟨_, _, rfl, rfl, q _ H (Same.refl H) (.d (.bl _))⟩
  · cases hg
theorem o_lt : OpR X (compareOp .Lt) (rO X.K X.mg gLt) := o_c op_lt
theorem o_le : OpR X (compareOp .LtE) (rO X.K X.mg gLe) := o_c op_le
theorem o_gt : OpR X (compareOp .Gt) (rO X.K X.mg gGt) := o_c op_gt
theorem o_ge : OpR X (compareOp .GtE) (rO X.K X.mg gGe) := o_c op_ge
/-! ### is None -/
def isN : D → Bool
  | .d .none => true
  | _ => false
theorem isN_v {K : PySem.W.Frag} {H : Hp} {O L : List Addr} {d : D} {v : V} (r : RD K H O L d v) : decide (v = .non) = isN d := by
  cases r with
  | @d x v r => cases r <;> simp [isN]
  | r _ => simp [isN]
  | s _ => simp [isN]
def gIs (_ : Store) (x y : D) : Option D := match y with
  | .d .none => some (.d (.bool (isN x)))
  | _ => none
def gIsN (_ : Store) (x y : D) : Option D := match y with
  | .d .none => some (.d (.bool (!isN x)))
  | _ => none
theorem o_is : OpR X (compareOp .Is) (rO X.K X.mg gIs) := by
  intro pins s σ H x y v u Q I rx ry ⟨O, L, S, dx, dy, d, st, r1, r2, hg, q⟩
  unfold gIs at hg
  split at hg
  · cases hg
    cases r2 with
    | d r2 =>
      cases r2
      refine op_isN pins s σ H _ _ v u Q I rx ry ⟨rfl, q _ H (Same.refl H) ?_⟩
      rw [isN_v r1]
      exact .d (.bl _)
  · cases hg
theorem o_isn : OpR X (compareOp .IsNot) (rO X.K X.mg gIsN) := by
  intro pins s σ H x y v u Q I rx ry ⟨O, L, S, dx, dy, d, st, r1, r2, hg, q⟩
  unfold gIsN at hg
  split at hg
  · cases hg
    cases r2 with
    | d r2 =>
      cases r2
      refine op_notN pins s σ H _ _ v u Q I rx ry ⟨rfl, q _ H (Same.refl H) ?_⟩
      rw [isN_v r1]
      exact .d (.bl _)
  · cases hg
end
/-! ### subscripts -/
def isKey : Key → PyData → Bool
  | .inl i, .int j => decide (i = j)
  | .inr x, .str y => decide (x = y)
  | _, _ => false
theorem isKey_keyD (k j : Key) : isKey k (keyD j) = decide (j = k) := by
  cases k with
  | inl i =>
    cases j with
    | inl j =>
      show decide (i = j) = decide ((Sum.inl j : Key) = Sum.inl i)
      by_cases h : i = j
      · subst h; simp
      · rw [decide_eq_false h, decide_eq_false (fun q => h (Sum.inl.inj q).symm)]
    | inr y => exact (decide_eq_false (fun q => nomatch q)).symm
  | inr x =>
    cases j with
    | inl j => exact (decide_eq_false (fun q => nomatch q)).symm
    | inr y =>
      show decide (x = y) = decide ((Sum.inr y : Key) = Sum.inr x)
      by_cases h : x = y
      · subst h; simp
      · rw [decide_eq_false h, decide_eq_false (fun q => h (Sum.inr.inj q).symm)]
def keyOf : D → Option Key
  | .d (.int i) => some (.inl i)
  | .d (.str x) => some (.inr x)
  | _ => none
theorem keyOf_v {K : PySem.W.Frag} {H : Hp} {O L : List Addr} {d : D} {v : V} {k : Key} (r : RD K H O L d v) (h : keyOf d = some k) : v = kV k := by
  cases d with
  | d x =>
    cases x with
    | int i => cases h; exact ii r
    | str x => cases h; exact ss r
    | _ => cases h
  | _ => cases h
/-- a dict's value -/
def dlook (kvs : List (PyData × PyData)) (k : Key) : Option PyData := (kvs.find? fun p => isKey k p.1).map (·.2)
def valD (kvs : List (Key × PyData)) (k : Key) : Option PyData := (kvs.find? fun p => decide (p.1 = k)).map (·.2)
section
variable {K : PySem.W.Frag} {H : Hp} {B : List Addr}
theorem RpK.look {k : Key} : ∀ {ds : List (PyData × PyData)} {vs : List (Key × V)}, RpK K H B ds vs → (∀ d, dlook ds k = some d → ∃ v, valV vs k = some v ∧ Rp K H B d v) ∧ (dlook ds k = none → valV vs k = none)
  | _, _, .nil => ⟨fun _ h => (by cases h), fun _ => rfl⟩
  | _, _, .cons (k := j) (d := d) (v := v) (ds := ds) (vs := vs) r t => by
    have ih := RpK.look (k := k) t
    have e1 : dlook ((keyD j, d) :: ds) k = if j = k then some d else dlook ds k := by
      unfold dlook
      rw [List.find?_cons, isKey_keyD]
      by_cases h : j = k
      · rw [if_pos h, decide_eq_true h]; rfl
      · rw [if_neg h, decide_eq_false h]
    by_cases h : j = k
    · rw [e1, if_pos h, valV_pos h]
      exact ⟨fun x q => ⟨v, rfl, by cases q; exact r⟩, fun q => by cases q⟩
    · rw [e1, if_neg h, valV_neg h]
      exact ih
theorem RQ.look {k : Key} : ∀ {ds : List (Key × PyData)} {vs : List (Key × V)}, RQ K H B ds vs → (∀ d, valD ds k = some d → ∃ v, valV vs k = some v ∧ Rp K H B d v) ∧ (valD ds k = none → valV vs k = none)
  | _, _, .nil => ⟨fun _ h => (by cases h), fun _ => rfl⟩
  | _, _, .cons (k := j) (d := d) (v := v) (ds := ds) (vs := vs) r t => by
    have ih := RQ.look (k := k) t
    have e1 : valD ((j, d) :: ds) k = if j = k then some d else valD ds k := by
      unfold valD
      rw [List.find?_cons]
      by_cases h : j = k
      · rw [if_pos h, decide_eq_true h]; rfl
      · rw [if_neg h, decide_eq_false h]
    by_cases h : j = k
    · rw [e1, if_pos h, valV_pos h]
      exact ⟨fun x q => ⟨v, rfl, by cases q; exact r⟩, fun q => by cases q⟩
    · rw [e1, if_neg h, valV_neg h]
      exact ih
end
/-- a dict (a value's, a cell's): what it holds at a key; none: no dict -/
def dget (S : Store) (x : D) (k : Key) : Option (Option PyData) := match x with
  | .d (.dict kvs) => some (dlook kvs k)
  | .r i => match S[i]? with
    | some (.dct kvs) => some (valD kvs k)
    | _ => none
  | _ => none
theorem dget_at {K : PySem.W.Frag} {mg : MG} {H : Hp} {O L : List Addr} {S : Store} {x : D} {v : V} {k : Key} {o : Option PyData} (st : Sto K mg H O L S) (r : RD K H O L x v) (h : dget S x k = some o) :
    ∃ a w, v = .ref a ∧ DGet H a (kV k) w ∧ (match o, w with | some d, some v => Rp K H (O ++ L) d v | none, none => True | _, _ => False) := by
  have fin : ∀ {a : Addr} {vs : List (Key × V)}, Rd H a (.dK vs) → ((∀ d, o = some d → ∃ v, valV vs k = some v ∧ Rp K H (O ++ L) d v) ∧ (o = none → valV vs k = none)) →
      ∃ a' w, V.ref a = .ref a' ∧ DGet H a' (kV k) w ∧ (match o, w with | some d, some v => Rp K H (O ++ L) d v | none, none => True | _, _ => False) := fun {a vs} e q => by
    refine ⟨a, valV vs k, rfl, .inl ⟨vs, k, e, rfl, rfl⟩, ?_⟩
    cases o with
    | none => rw [q.2 rfl]; trivial
    | some d =>
      obtain ⟨v, h1, h2⟩ := q.1 d rfl
      rw [h1]
      exact h2
  cases r with
  | @d x _ r =>
    cases x with
    | dict kvs =>
      cases h
      cases r with
      | dct h1 h2 h3 => exact fin (.inr ⟨_, h1⟩) h3.look
    | _ => cases h
  | @r i a hi =>
    replace h : (match S[i]? with | some (.dct kvs) => some (valD kvs k) | _ => none) = some o := h
    cases q : S[i]? with
    | none => rw [q] at h; cases h
    | some c =>
      rw [q] at h
      cases c with
      | dct kvs =>
        cases h
        cases st.cell i _ a q hi with
        | dct h1 h2 => exact fin (.inl h1) h2.look
      | _ => cases h
  | s _ => cases h
def intOf : D → Option Int
  | .d (.int i) => some i
  | _ => none
def gIxR (S : Store) (x y : D) : Option D := match lk S x with
  | some xs => match intOf y with
    | some i => (atI xs i).map .d
    | none => none
  | none => match keyOf y with
    | some k => match dget S x k with
      | some (some d) => some (.d d)
      | _ => none
    | none => none
def gIx (S : Store) (x y : D) : Option D := match x, y with
  | .d (.tuple xs), .d (.int i) => (atI xs i).map .d
  | .d (.str z), .d (.int i) => if z.length ≤ sizeLine then (atI z.cps.toList i).map fun c => .d (.str ⟨#[c]⟩) else none
  | x, y => gIxR S x y
theorem intOf_v {K : PySem.W.Frag} {H : Hp} {O L : List Addr} {d : D} {v : V} {i : Int} (r : RD K H O L d v) (h : intOf d = some i) : v = .int i := by
  cases d with
  | d x =>
    cases x with
    | int i => cases h; exact ii r
    | _ => cases h
  | _ => cases h
theorem RpL.atI {K : PySem.W.Frag} {H : Hp} {B : List Addr} {ds : List PyData} {vs : List V} {i : Int} {d : PyData} (r : RpL K H B ds vs) (h : atI ds i = some d) : ∃ v, L2.atI vs i = some v ∧ Rp K H B d v := by
  unfold L2.atI at h ⊢
  rw [← r.length]
  cases q : ixN ds.length i with
  | none => rw [q] at h; cases h
  | some j =>
    rw [q] at h
    exact r.get h
theorem map_d {o : Option PyData} {d : D} (h : o.map D.d = some d) : ∃ x, o = some x ∧ d = .d x := by
  cases o with
  | none => cases h
  | some x => cases h; exact ⟨x, rfl, rfl⟩
theorem ix_dict {X : Cx} (hu : X.A.units + 1 < cLine) : IxR X (fun x y H Q => ∃ a v, x = .ref a ∧ DGet H a y (some v) ∧ Q v H) := by
  intro value slice pins s σ H x y v u Q I rx ry h hs
  obtain ⟨a, w, rfl, g, q⟩ := h
  cases rx
  exact tail_any (dict_typeIs I g) PySem.F.slot_dict_getitem.lookup (d_getItem hu I g ry fun w' s3 I3 rw' => ⟨w, H, I3, rw', q⟩) hs
theorem ix_all {X : Cx} (hu : X.A.units + 1 < cLine) : IxR X (rO X.K X.mg gIx) := by
  intro value slice pins s σ H x y v u Q I rx ry ⟨O, L, S, dx, dy, d, st, r1, r2, hg, q⟩ hs
  have rest : gIxR S dx dy = some d → wpAny (model X.prog X.w) X.A (subscriptTail value slice v u) (EP X pins σ Q) X.xe s := fun h2 => by
    unfold gIxR at h2
    cases e1 : lk S dx with
    | some xs =>
      rw [e1] at h2
      cases e2 : intOf dy with
      | none => rw [e2] at h2; cases h2
      | some i =>
        rw [e2] at h2
        obtain ⟨z, hz, rfl⟩ := map_d h2
        obtain rfl := intOf_v r2 e2
        obtain ⟨a, vs, rfl, ha, ra⟩ := lk_at st r1 e1
        obtain ⟨w, hw, rw'⟩ := ra.atI hz
        exact ix_list value slice pins s σ H _ _ v u Q I rx ry ⟨a, vs, i, w, rfl, rfl, .inl (.inl ha), hw, q _ H (Same.refl H) (.d rw')⟩ hs
    | none =>
      rw [e1] at h2
      cases e2 : keyOf dy with
      | none => rw [e2] at h2; cases h2
      | some k =>
        rw [e2] at h2
        replace h2 : (match dget S dx k with | some (some d) => some (D.d d) | _ => none) = some d := h2
        cases e3 : dget S dx k with
        | none => rw [e3] at h2; cases h2
        | some o =>
          rw [e3] at h2
          cases o with
          | none => cases h2
          | some z =>
            cases h2
            obtain ⟨a, w, rfl, g, m⟩ := dget_at st r1 e3
            cases w with
            | none => exact m.elim
            | some w =>
              obtain rfl := keyOf_v r2 e2
              exact ix_dict hu value slice pins s σ H _ _ v u Q I rx ry ⟨a, w, rfl, g, q _ H (Same.refl H) (.d m)⟩ hs
  unfold gIx at hg
  split at hg
  · rename_i xs i
    obtain ⟨z, hz, rfl⟩ := map_d hg
    obtain rfl := ii r2
    obtain ⟨a, vs, rfl, ha, na, ra, wa⟩ := tt r1
    obtain ⟨w, hw, rw'⟩ := ra.atI hz
    exact ix_tup value slice pins s σ H _ _ v u Q I rx ry ⟨a, vs, i, w, rfl, rfl, ha, hw, q _ H (Same.refl H) (.d rw')⟩ hs
  · rename_i z i
    replace hg : (if z.length ≤ sizeLine then (atI z.cps.toList i).map fun c => D.d (.str ⟨#[c]⟩) else none) = some d := hg
    by_cases hz : z.length ≤ sizeLine
    · rw [if_pos hz] at hg
      obtain rfl := ii r2
      obtain rfl := ss r1
      cases e : atI z.cps.toList i with
      | none => rw [e] at hg; cases hg
      | some c =>
        rw [e] at hg
        cases hg
        exact ix_str value slice pins s σ H _ _ v u Q I rx ry ⟨z, i, c, rfl, rfl, hz, e, q _ H (Same.refl H) (.d (.str _))⟩ hs
    · rw [if_neg hz] at hg; cases hg
  · exact rest hg
theorem pm_ix {X : Cx} {W : WX} {a b : Expr} {fa fb : EM} {pos : Pos} (hu : X.A.units + 1 < cLine) (ha : PM X W a fa) (hb : PM X W b fb) (hs : PlainIx b := by exact fun _ _ => rfl) : PM X W (.Subscript a b pos) (mOp gIx fa fb) :=
  PE.imp (pe_ix (ix_all hu) ha hb hs) fun σ H Q h => rO.go h
/-! ### slices -/
def cutD {α : Type} (xs : List α) (lo hi : Option Int) : List α := (xs.drop (HT.sIx xs.length 0 lo)).take (HT.sIx xs.length xs.length hi - HT.sIx xs.length 0 lo)
theorem RpL.cut {K : PySem.W.Frag} {H : Hp} {B : List Addr} {ds : List PyData} {vs : List V} (r : RpL K H B ds vs) (lo hi : Option Int) : RpL K H B (cutD ds lo hi) (cutV vs lo hi) := by
  unfold cutD cutV
  rw [← r.length]
  exact (r.drop _).take _
abbrev OM := Env → Store → Res (Option Int)
def tO (K : PySem.W.Frag) (mg : MG) (W : WX) (f : OM) : TO := fun σ H Q => ∃ (O L : List Addr) (S : Store) (ρ : Env), At K mg O L S ρ σ H ∧ EndG K mg W O L H σ (fun o _ L' H' => Q o H') (f ρ S)
def oNone : OM := fun _ S => .ok none S
def oSome (fa : EM) : OM := fun ρ S => (fa ρ S).andThen fun x S1 => match x with
  | .d (.int i) => .ok (some i) S1
  | _ => .no
def gSl (S : Store) (x : D) (lo hi : Option Int) : Option D := match x with
  | .d (.tuple xs) => some (.d (.tuple (cutD xs lo hi)))
  | .s ns => some (.d (.list ((cutD ns lo hi).map .int)))
  | x => match lk S x with
    | some xs => some (.d (.list (cutD xs lo hi)))
    | none => none
def mSl (fa : EM) (fl fh : OM) : EM := fun ρ S => (fa ρ S).andThen fun x S1 => (fl ρ S1).andThen fun l S2 => (fh ρ S2).andThen fun u S3 => Res.of (gSl S3 x l u) S3
section
variable {X : Cx} {W : WX} {e : Expr} {lo hi : Option Expr} {fe : EM} {fl fh : OM} {pos p2 : Pos}
theorem PO.imp {e : Option Expr} {t t' : TO} (h : PO X e t) (q : ∀ σ H Q, t' σ H Q → t σ H Q) : PO X e t' := ⟨fun pins s σ H Q I hw => h.run pins s σ H Q I (q σ H Q hw)⟩
theorem pmo_none : PO X none (tO X.K X.mg W oNone) := PO.imp po_none fun σ H Q ⟨O, L, S, ρ, a, h⟩ => h H L (Ext.refl _ _) a.st
theorem pmo_some (he : PM X W e fe) : PO X (some e) (tO X.K X.mg W (oSome fe)) := PO.imp (po_some he) fun σ H Q ⟨O, L, S, ρ, a, h⟩ => by
  refine tM.part a h fun d v S1 L1 H1 a1 e1 r1 h1 => ?_
  split at h1
  · obtain rfl := ii r1
    exact ⟨_, rfl, h1 H1 L1 (Ext.refl _ _) a1.st⟩
  · exact h1.elim
theorem tO.part {β : Type} {K : PySem.W.Frag} {mg : MG} {O L : List Addr} {S : Store} {ρ : Env} {σ : St} {H : Hp} {f : OM} {k : Option Int → Store → Res β} {P : β → Store → List Addr → Hp → Prop} {Q : Option Int → Hp → Prop} (a : At K mg O L S ρ σ H) (h : EndG K mg W O L H σ P ((f ρ S).andThen k))
    (q : ∀ d S' L' H', At K mg O L' S' ρ σ H' → Ext L H L' H' → EndG K mg W O L' H' σ P (k d S') → Q d H') : tO K mg W f σ H Q :=
  ⟨O, L, S, ρ, a, EndG.imp (EndG.bind h) fun d S' L' H' e st h' => q d S' L' H' (a.mono e st) e h'⟩
def rG (K : PySem.W.Frag) (mg : MG) : V → Option Int → Option Int → Hp → VK → Prop := fun x lo hi H Q => ∃ (O L : List Addr) (S : Store) (dx d : D), Sto K mg H O L S ∧ RD K H O L dx x ∧ gSl S dx lo hi = some d ∧ ∀ v H', Same H H' → RD K H' O L d v → Q v H'
theorem rpl_ints {K : PySem.W.Frag} {H : Hp} {B : List Addr} : ∀ ns : List Int, RpL K H B (ns.map .int) (ns.map V.int)
  | [] => .nil
  | n :: r => .cons (.int n) (rpl_ints r)
theorem cut_map {α β : Type} (f : α → β) (xs : List α) (lo hi : Option Int) : cutD (xs.map f) lo hi = (cutD xs lo hi).map f := by
  unfold cutD
  rw [List.length_map, List.map_take, List.map_drop]
theorem sl_all : SlR X (rG X.K X.mg) := by
  intro pins s σ H x v vl vu lo hi sl Q I rx hs pl pu ⟨O, L, S, dx, d, st, r1, hg, q⟩
  have go : ∀ {r : Option D}, r = some d → (r = (match lk S dx with | some xs => some (.d (.list (cutD xs lo hi))) | none => none)) → ∃ T id, typeLookup (.type T) "__getitem__" = pure (some (.builtin id)) ∧ s.TypeIs v T ∧ wpAny (model X.prog X.w) X.A (getItem v (.ref sl)) (EP X pins σ Q) X.xe s := fun {r} h1 h2 => by
    rw [h1] at h2
    split at h2
    · rename_i xs e
      cases h2
      obtain ⟨a, vs, rfl, ha, ra⟩ := lk_at st r1 e
      exact sl_list pins s σ H _ v vl vu lo hi sl Q I rx hs pl pu ⟨a, vs, rfl, .inl (.inl ha), fun p hp => q _ _ (same_upd hp) (new_lst st hp (ra.cut lo hi))⟩
    · cases h2
  unfold gSl at hg
  split at hg
  · cases hg
    obtain ⟨a, vs, rfl, ha, na, ra, wa⟩ := tt r1
    refine sl_tupA pins s σ H _ v vl vu lo hi sl Q I rx hs pl pu ⟨a, vs, rfl, ha, fun hw => ?_, fun hw p hp => q _ _ (same_upd hp) (new_tup st hp (ra.cut lo hi))⟩
    rename_i xs
    have e : cutD xs lo hi = xs := by
      unfold cutD
      rw [ra.length, hw.1, hw.2, List.drop_zero, Nat.sub_zero, ← ra.length, List.take_length]
    rw [e] at q
    exact q _ H (Same.refl H) (.d wa)
  · cases hg
    rename_i ns
    cases r1 with
    | s h1 =>
      refine sl_list pins s σ H _ v vl vu lo hi sl Q I rx hs pl pu ⟨_, _, rfl, h1.imp (fun z => z.1) id, fun p hp => q _ _ (same_upd hp) ?_⟩
      have e := cut_map V.int ns lo hi
      unfold cutD at e
      refine new_lst st hp ?_
      show RpL _ _ _ _ (cutV (ns.map V.int) lo hi)
      unfold cutV
      rw [e]
      exact rpl_ints _
  · exact go hg rfl
theorem pm_sl (he : PM X W e fe) (hl : PO X lo (tO X.K X.mg W fl)) (hh : PO X hi (tO X.K X.mg W fh)) : PM X W (.Subscript e (.Slice lo hi none p2) pos) (mSl fe fl fh) :=
  PE.imp (pe_slice sl_all he hl hh) fun σ H Q ⟨O, L, S, ρ, a, h⟩ => by
    refine tM.part a h fun d v S1 L1 H1 a1 e1 r1 h1 => ?_
    refine tO.part a1 h1 fun l S2 L2 H2 a2 e2 h2 => ?_
    refine tO.part a2 h2 fun u S3 L3 H3 a3 e3 h3 => ?_
    obtain ⟨d', hd, h4⟩ := EndG.of_some h3
    exact ⟨O, L3, S3, d, d', a3.st, (r1.mono e2).mono e3, hd, fun v H' sm r => h4 H' L3 (Same.ext sm) (a3.st.same sm) v r⟩
end
end Sky
end
section
/-! Lay6: statements, loops, comprehensions. -/
namespace Sky
open PySem PySem.Spec PyProof.Rows L2
/-! ### statements -/
def SR.ofE {α : Type} (r : Res α) (ρ : Env) (k : α → Store → SR) : SR := match r with
  | .ok a S => k a S
  | .exc e S => .ex e ρ S
  | .no => .no
theorem ofE_ok {α : Type} (a : α) (S : Store) (ρ : Env) (k : α → Store → SR) : SR.ofE (.ok a S) ρ k = k a S := rfl
theorem ofE_exc {α : Type} (e : Exc) (S : Store) (ρ : Env) (k : α → Store → SR) : SR.ofE (.exc e S) ρ k = .ex e ρ S := rfl
def EndS (K : PySem.W.Frag) (mg : MG) (W : WX) (O L : List Addr) (H : Hp) (D : Ends) : SR → Prop
  | .nx ρ S => ∀ (σ' : St) (H' : Hp) (L' : List Addr), Ext L H L' H' → At K mg O L' S ρ σ' H' → D.nx σ' H'
  | .rt d S => ∀ (v : V) (H' : Hp) (L' : List Addr), Ext L H L' H' → Sto K mg H' O L' S → RD K H' O L' d v → D.rt v H'
  | .bk ρ S => ∀ (σ' : St) (H' : Hp) (L' : List Addr), Ext L H L' H' → At K mg O L' S ρ σ' H' → D.bk σ' H'
  | .ct ρ S => ∀ (σ' : St) (H' : Hp) (L' : List Addr), Ext L H L' H' → At K mg O L' S ρ σ' H' → D.ct σ' H'
  | .ex e ρ S => ∀ (C : Addr) (dd : Option Addr) (σ' : St) (H' : Hp) (L' : List Addr), mg e.cls = some (.ref C) → Ext L H L' H' → At K mg O L' S ρ σ' H' → XD K H' e.fs dd → W (.ref C) dd σ' H'
  | .no => False
def tS (K : PySem.W.Frag) (mg : MG) (W : WX) (f : SM) : TS := fun D σ H => ∃ (O L : List Addr) (S : Store) (ρ : Env), At K mg O L S ρ σ H ∧ EndS K mg W O L H D (f ρ S)
abbrev PMS (X : Cx) (W : WX) (st : Stmt) (f : SM) : Prop := PS X st (tS X.K X.mg W f)
abbrev PMB (X : Cx) (W : WX) (st : List Stmt) (f : SM) : Prop := PSs X st (tS X.K X.mg W f)
section
variable {K : PySem.W.Frag} {mg : MG} {W : WX} {O L L1 : List Addr} {H H1 : Hp} {σ : St} {ρ : Env} {S : Store} {Dn : Ends}
theorem EndS.later {r : SR} (e : Ext L H L1 H1) (h : EndS K mg W O L H Dn r) : EndS K mg W O L1 H1 Dn r := by
  cases r with
  | nx ρ S => exact fun σ' H' L' e' => h σ' H' L' (e.trans e')
  | rt d S => exact fun v H' L' e' => h v H' L' (e.trans e')
  | bk ρ S => exact fun σ' H' L' e' => h σ' H' L' (e.trans e')
  | ct ρ S => exact fun σ' H' L' e' => h σ' H' L' (e.trans e')
  | ex x ρ S => exact fun C dd σ' H' L' hm e' => h C dd σ' H' L' hm (e.trans e')
  | no => exact h
theorem EndS.ofE {α : Type} {r : Res α} {k : α → Store → SR} (a : RE K H O L ρ σ) (h : EndS K mg W O L H Dn (SR.ofE r ρ k)) : EndG K mg W O L H σ (fun x S' L' H' => EndS K mg W O L' H' Dn (k x S')) r := by
  cases r with
  | ok x S => exact fun H' L' e st => EndS.later e h
  | exc x S => exact fun C dd H' L' hm e st hx => h C dd σ H' L' hm e ⟨a.mono e, st⟩ hx
  | no => exact h
theorem tM.stmt {f : EM} {k : D → Store → SR} {Q : VK} (a : At K mg O L S ρ σ H) (h : EndS K mg W O L H Dn (SR.ofE (f ρ S) ρ k))
    (q : ∀ d v S' L' H', At K mg O L' S' ρ σ H' → Ext L H L' H' → RD K H' O L' d v → EndS K mg W O L' H' Dn (k d S') → Q v H') : tM K mg W f σ H Q :=
  ⟨O, L, S, ρ, a, EndG.imp (EndS.ofE a.re h) fun d S' L' H' e st h' v r => q d v S' L' H' (a.mono e st) e r h'⟩
theorem tB.stmt {f : BM} {k : Bool → Store → SR} {Q : Bool → Hp → Prop} (a : At K mg O L S ρ σ H) (h : EndS K mg W O L H Dn (SR.ofE (f ρ S) ρ k))
    (q : ∀ d S' L' H', At K mg O L' S' ρ σ H' → Ext L H L' H' → EndS K mg W O L' H' Dn (k d S') → Q d H') : tB K mg W f σ H Q :=
  ⟨O, L, S, ρ, a, EndG.imp (EndS.ofE a.re h) fun d S' L' H' e st h' => q d S' L' H' (a.mono e st) e h'⟩
end
section
variable {X : Cx} {W : WX} {st : Stmt} {e c : Expr} {pos : Pos} {f fa : EM}
theorem PS.imp {t t' : TS} (h : PS X st t) (q : ∀ D σ H, t' D σ H → t D σ H) : PS X st t' := ⟨fun pins s σ H D I hw => h.run pins s σ H D I (q D σ H hw)⟩
theorem PSs.imp {sts : List Stmt} {t t' : TS} (h : PSs X sts t) (q : ∀ D σ H, t' D σ H → t D σ H) : PSs X sts t' := ⟨fun pins s σ H D I hw => h.run pins s σ H D I (q D σ H hw)⟩
def sNx : SM := fun ρ S => .nx ρ S
def sSeq (a b : SM) : SM := fun ρ S => match a ρ S with
  | .nx ρ' S' => b ρ' S'
  | r => r
theorem pmb_nil : PMB X W [] sNx := PSs.imp pss_nil fun D σ H ⟨O, L, S, ρ, a, h⟩ => h σ H L (Ext.refl _ _) a
theorem pmb_one {fa : SM} (h : PMS X W st fa) : PMB X W [st] fa := pss_one h
theorem pmb_cons {rest : List Stmt} {fa fb : SM} (h1 : PMS X W st fa) (h2 : PMB X W rest fb) : PMB X W (st :: rest) (sSeq fa fb) :=
  PSs.imp (pss_cons h1 h2) fun D σ H ⟨O, L, S, ρ, a, h⟩ => by
    refine ⟨O, L, S, ρ, a, ?_⟩
    unfold sSeq at h
    cases q : fa ρ S with
    | nx ρ' S' => rw [q] at h; exact fun σ' H' L' e a' => ⟨O, L', S', ρ', a', EndS.later e h⟩
    | rt d S' => rw [q] at h; exact h
    | bk ρ' S' => rw [q] at h; exact h
    | ct ρ' S' => rw [q] at h; exact h
    | ex x ρ' S' => rw [q] at h; exact h
    | no => rw [q] at h; exact h
theorem pms_pass : PMS X W (.Pass pos) sNx := PS.imp ps_pass fun D σ H ⟨O, L, S, ρ, a, h⟩ => h σ H L (Ext.refl _ _) a
def sSet (i : Nat) (f : EM) : SM := fun ρ S => SR.ofE (f ρ S) ρ fun d S1 => .nx (ρ.set i (some d)) S1
theorem pms_set (i : Nat) {x : Str} {pos' : Pos} (hN : X.N.Nodup) (he : PM X W e f) (hi : X.N[i]? = some x := by rfl) (hx : Loc X.env.scope x := by first | exact Or.inl rfl | exact Or.inr rfl) (hs : swapsWith e (some (.Name x pos')) pos.line X.env = pure false := by rfl)
    (hf : X.fn x = true ∨ X.env.scope.names.lookup x = some .local := by first | exact .inl rfl | exact .inr rfl) : PMS X W (.Assign [.Name x pos'] e pos) (sSet i f) :=
  PS.imp (ps_set hN hi hx he hs hf) fun D σ H ⟨O, L, S, ρ, a, h⟩ =>
    tM.stmt a h fun d v S' L' H' a' e' r h' => h' _ H' L' (Ext.refl _ _) ⟨a'.re.set r i, a'.st⟩
def sRet (f : EM) : SM := fun ρ S => SR.ofE (f ρ S) ρ fun d S1 => .rt d S1
theorem pms_ret (he : PM X W e f) : PMS X W (.Return (some e) pos) (sRet f) :=
  PS.imp (ps_ret he) fun D σ H ⟨O, L, S, ρ, a, h⟩ => tM.stmt a h fun d v S' L' H' a' e' r h' => h' v H' L' (Ext.refl _ _) a'.st r
def sExpr (f : EM) : SM := fun ρ S => SR.ofE (f ρ S) ρ fun _ S1 => .nx ρ S1
theorem pms_expr (he : PM X W e f) (hs : swapsWith e none pos.line X.env = pure false := by rfl) : PMS X W (.Expr e pos) (sExpr f) :=
  PS.imp (ps_expr he hs) fun D σ H ⟨O, L, S, ρ, a, h⟩ => tM.stmt a h fun d v S' L' H' a' e' r h' => h' σ H' L' (Ext.refl _ _) a'
def sIf (c : BM) (fa fb : SM) : SM := fun ρ S => SR.ofE (c ρ S) ρ fun b S1 => if b = true then fa ρ S1 else fb ρ S1
theorem pms_if {sa sb : List Stmt} {bc : BM} {fa fb : SM} (hc : PMT X W c bc) (ha : PMB X W sa fa) (hb : PMB X W sb fb) : PMS X W (.If c sa sb pos) (sIf bc fa fb) :=
  PS.imp (ps_if hc ha hb) fun D σ H ⟨O, L, S, ρ, a, h⟩ => tB.stmt a h fun b S' L' H' a' e' h' => by
    cases b with
    | true => exact iteT ⟨O, L', S', ρ, a', h'⟩
    | false => exact iteF ⟨O, L', S', ρ, a', h'⟩
/-! ### targets -/
abbrev TgM := PyData → Env → Option Env
abbrev TgsM := List PyData → Env → Option Env
/-- sl: the slots that are stored -/
def Wp (sl : List Nat) (σ σ' : St) : Prop := ∀ vs : List Nat, (∀ i ∈ sl, i ∈ vs) → wipe σ' vs = wipe σ vs
def tG (K : PySem.W.Frag) (mg : MG) (g : TgM) (sl : List Nat) : TG := fun v σ H Q => ∃ (O L : List Addr) (S : Store) (ρ ρ' : Env) (x : PyData), At K mg O L S ρ σ H ∧ Rp K H (O ++ L) x v ∧ g x ρ = some ρ' ∧ ∀ σ', At K mg O L S ρ' σ' H → Wp sl σ σ' → Q σ' H
def tGs (K : PySem.W.Frag) (mg : MG) (g : TgsM) (sl : List Nat) : TGs := fun vs σ H Q => ∃ (O L : List Addr) (S : Store) (ρ ρ' : Env) (xs : List PyData), At K mg O L S ρ σ H ∧ RpL K H (O ++ L) xs vs ∧ g xs ρ = some ρ' ∧ ∀ σ', At K mg O L S ρ' σ' H → Wp sl σ σ' → Q σ' H
abbrev PMG (X : Cx) (e : Expr) (g : TgM) (sl : List Nat) : Prop := PG X e (tG X.K X.mg g sl)
abbrev PMGs (X : Cx) (es : List Expr) (g : TgsM) (sl : List Nat) : Prop := PGs X es (tGs X.K X.mg g sl)
theorem PG.imp {t t' : TG} (h : PG X e t) (q : ∀ v σ H Q, t' v σ H Q → t v σ H Q) : PG X e t' := ⟨fun pins s σ H v u Q I r hw => h.run pins s σ H v u Q I r (q v σ H Q hw)⟩
theorem PGs.imp {es : List Expr} {t t' : TGs} (h : PGs X es t) (q : ∀ v σ H Q, t' v σ H Q → t v σ H Q) : PGs X es t' := ⟨fun pins s σ H v u Q I r hw => h.run pins s σ H v u Q I r (q v σ H Q hw)⟩
theorem wipe_get {σ : St} {j : Nat} : ∀ {vs : List Nat}, (wipe σ vs)[j]? = if j ∈ vs then (σ[j]?.map fun _ => none) else σ[j]?
  | [] => by simp [wipe]
  | v :: vs => by
    have ih := wipe_get (σ := σ) (j := j) (vs := vs)
    have hl := wipe_length σ vs
    unfold wipe
    by_cases hj : v = j
    · subst hj
      rw [if_pos List.mem_cons_self]
      by_cases hv : v < σ.length
      · rw [List.getElem?_set_self (by rw [hl]; exact hv), List.getElem?_eq_getElem hv]; rfl
      · rw [List.getElem?_eq_none (by rw [List.length_set, hl]; omega), List.getElem?_eq_none (by omega)]; rfl
    · rw [List.getElem?_set_ne hj, ih]
      have e : j ∈ v :: vs ↔ j ∈ vs := by simp [Ne.symm hj]
      by_cases h : j ∈ vs
      · rw [if_pos h, if_pos (e.mpr h)]
      · rw [if_neg h, if_neg fun z => h (e.mp z)]
theorem Wp.set (σ : St) (i : Nat) (v : Option V) : Wp [i] σ (σ.set i v) := fun vs h => by
  refine List.ext_getElem? fun j => ?_
  rw [wipe_get, wipe_get]
  by_cases hj : j = i
  · subst hj
    rw [if_pos (h j (by simp)), if_pos (h j (by simp))]
    by_cases hl : j < σ.length
    · rw [List.getElem?_set_self hl, List.getElem?_eq_getElem hl]; rfl
    · rw [List.getElem?_eq_none (by rw [List.length_set]; omega), List.getElem?_eq_none (by omega)]
  · rw [List.getElem?_set_ne (Ne.symm hj)]
theorem Wp.refl (σ : St) (sl : List Nat) : Wp sl σ σ := fun _ _ => rfl
theorem Wp.trans {σ σ1 σ2 : St} {s1 s2 : List Nat} (a : Wp s1 σ σ1) (b : Wp s2 σ1 σ2) : Wp (s1 ++ s2) σ σ2 := fun vs h => (b vs fun i hi => h i (List.mem_append_right _ hi)).trans (a vs fun i hi => h i (List.mem_append_left _ hi))
def gNm (i : Nat) : TgM := fun x ρ => some (ρ.set i (some (.d x)))
theorem pmg_nm (i : Nat) {x : Str} (hN : X.N.Nodup) (hi : X.N[i]? = some x := by rfl) (hx : Loc X.env.scope x := by first | exact Or.inl rfl | exact Or.inr rfl) (hf : X.fn x = true ∨ X.env.scope.names.lookup x = some .local := by first | exact .inl rfl | exact .inr rfl) : PMG X (.Name x pos) (gNm i) [i] :=
  PG.imp (pg_name hN hi hx hf) fun v σ H Q ⟨O, L, S, ρ, ρ', x, a, r, h, q⟩ => by
    cases h
    exact q _ ⟨a.re.set (.d r) i, a.st⟩ (Wp.set σ i _)
def gsNil : TgsM := fun xs ρ => match xs with
  | [] => some ρ
  | _ => none
def gsCons (g : TgM) (gs : TgsM) : TgsM := fun xs ρ => match xs with
  | x :: r => (g x ρ).bind fun ρ' => gs r ρ'
  | [] => none
theorem pmgs_nil : PMGs X [] gsNil [] := PGs.imp pgs_nil fun v σ H Q ⟨O, L, S, ρ, ρ', xs, a, r, h, q⟩ => by
  cases r with
  | nil => cases h; exact ⟨rfl, q _ a (Wp.refl _ _)⟩
  | cons _ _ => cases h
theorem pmgs_cons {es : List Expr} {g : TgM} {gs : TgsM} {s1 s2 : List Nat} (h1 : PMG X e g s1) (h2 : PMGs X es gs s2)
    (hs : (assignEach (e :: es) X.env).map (·.2) = assign e X.env :: (assignEach es X.env).map (·.2) := by rfl) : PMGs X (e :: es) (gsCons g gs) (s1 ++ s2) :=
  PGs.imp (pgs_cons h1 h2 hs) fun v σ H Q ⟨O, L, S, ρ, ρ', xs, a, r, h, q⟩ => by
    cases r with
    | nil => cases h
    | @cons x v xs vs r rr =>
      replace h : (g x ρ).bind (fun ρ' => gs xs ρ') = some ρ' := h
      obtain ⟨ρ1, g1, g2⟩ := Option.bind_eq_some_iff.mp h
      exact ⟨v, vs, rfl, O, L, S, ρ, ρ1, x, a, r, g1, fun σ1 a1 w1 => ⟨O, L, S, ρ1, ρ', xs, a1, rr, g2, fun σ2 a2 w2 => q σ2 a2 (w1.trans w2)⟩⟩
def gTp (n : Nat) (gs : TgsM) : TgM := fun x ρ => match x with
  | .tuple xs => if xs.length = n then gs xs ρ else none
  | _ => none
theorem pmg_tup {es : List Expr} {k n : Nat} {gs : TgsM} {sl : List Nat} (hc : X.calm = true) (h : PMGs X es gs sl)
    (hn : (assignEach es X.env).length = n := by rfl) (hst : (assignEach es X.env).findIdx? (·.1) = none := by rfl) : PMG X (.Tuple es k pos) (gTp n gs) sl :=
  PG.imp (pg_tup hc h hn hst) fun v σ H Q ⟨O, L, S, ρ, ρ', x, a, r, h, q⟩ => by
    cases x with
    | tuple xs =>
      replace h : (if xs.length = n then gs xs ρ else none) = some ρ' := h
      by_cases hl : xs.length = n
      · rw [if_pos hl] at h
        cases r with
        | tup h1 h2 h3 => exact ⟨_, _, rfl, .inl h1, by rw [← h3.length]; exact hl, O, L, S, ρ, ρ', xs, a, h3, h, q⟩
      · rw [if_neg hl] at h; cases h
    | _ => cases h
/-- a, b = e -/
def sAsg (f : EM) (g : TgM) : SM := fun ρ S => SR.ofE (f ρ S) ρ fun d S1 => match d with
  | .d x => match g x ρ with
    | some ρ' => .nx ρ' S1
    | none => .no
  | _ => .no
theorem pms_asg {tg : Expr} {g : TgM} {sl : List Nat} (he : PM X W e f) (hg : PMG X tg g sl) (hs : swapsWithSole [tg] e pos.line X.env = pure false := by rfl) (hw : swappedStores [tg] e X.env = pure none := by rfl)
    (h1 : (assignEach [tg] X.env).map (·.2) = [assign tg X.env] := by rfl) : PMS X W (.Assign [tg] e pos) (sAsg f g) :=
  PS.imp (ps_asg he hg hs hw h1) fun D σ H ⟨O, L, S, ρ, a, h⟩ => tM.stmt a h fun d v S' L' H' a' e' r h' => by
    cases d with
    | d x =>
      replace h' : EndS X.K X.mg W O L' H' D (match g x ρ with | some ρ' => .nx ρ' S' | none => .no) := h'
      cases hq : g x ρ with
      | none => rw [hq] at h'; exact h'.elim
      | some ρ' =>
        rw [hq] at h'
        cases r with
        | d r => exact ⟨O, L', S', ρ, ρ', x, a', r, hq, fun σ' a2 _ => h' σ' H' L' (Ext.refl _ _) a2⟩
    | _ => exact h'.elim
/-- a, b = x, y (plain local names) -/
def sPar (i j : Nat) (f : AM) : SM := fun ρ S => SR.ofE (f ρ S) ρ fun ds S1 => match ds with
  | [x, y] => .nx ((ρ.set i (some x)).set j (some y)) S1
  | _ => .no
theorem pms_par (i j : Nat) {x y : Str} {a b : Expr} {fs : AM} {px py pt : Pos} {kt k2 : Nat} {pt2 : Pos} (hc : X.calm = true) (hN : X.N.Nodup) (ha : PMA X W [a, b] fs) (hi : X.N[i]? = some x := by rfl) (hj : X.N[j]? = some y := by rfl) (hij : i ≠ j := by decide)
    (hx : X.env.scope.names.lookup x = some .local := by rfl) (hy : X.env.scope.names.lookup y = some .local := by rfl)
    (hw : swappedStores [.Tuple [.Name x px, .Name y py] kt pt] (.Tuple [a, b] k2 pt2) X.env = pure (some [x, y]) := by rfl)
    (hs : swapsWithSole [.Tuple [.Name x px, .Name y py] kt pt] (.Tuple [a, b] k2 pt2) pos.line X.env = pure false := by rfl) :
    PMS X W (.Assign [.Tuple [.Name x px, .Name y py] kt pt] (.Tuple [a, b] k2 pt2) pos) (sPar i j fs) :=
  PS.imp (ps_par hc hN hi hj hij hx hy ha hw hs) fun D σ H ⟨O, L, S, ρ, a, h⟩ =>
    ⟨O, L, S, ρ, a, EndG.imp (EndS.ofE a.re h) fun ds S' L' H' e st h' vs r => by
      cases r with
      | nil => exact h'.elim
      | cons r1 r =>
        cases r with
        | nil => exact h'.elim
        | cons r2 r =>
          cases r with
          | nil => exact ⟨_, _, rfl, h' _ H' L' (Ext.refl _ _) ⟨((a.re.mono e).set r1 i).set r2 j, st⟩⟩
          | cons _ _ => exact h'.elim⟩
end
end Sky
end
section
/-! Lay7: what is walked, loops, comprehensions. -/
namespace Sky
open PySem PySem.Spec PyProof.Rows L2
/-! ### other bans -/
section
variable {K : PySem.W.Frag} {mg : MG} {H H' : Hp} {O O' L L' : List Addr}
theorem RD.monoK (k : Kp H (O ++ L) H' (O' ++ L')) (p : ∀ (i : Nat) (a : Addr), L[i]? = some a → L'[i]? = some a) {d : D} {v : V} (h : RD K H O L d v) : RD K H' O' L' d v := by
  cases h with
  | d h => exact .d (Rp.mono k _ _ h)
  | r h => exact .r (p _ _ h)
  | s h => exact .s (h.imp (fun h => k.rd h.1 h.2) id)
theorem RDL.monoK (k : Kp H (O ++ L) H' (O' ++ L')) (p : ∀ (i : Nat) (a : Addr), L[i]? = some a → L'[i]? = some a) : ∀ {ds : List D} {vs : List V}, RDL K H O L ds vs → RDL K H' O' L' ds vs
  | _, _, .nil => .nil
  | _, _, .cons h t => .cons (h.monoK k p) (RDL.monoK k p t)
theorem RF.monoK (k : Kp H (O ++ L) H' (O' ++ L')) (p : ∀ (i : Nat) (a : Addr), L[i]? = some a → L'[i]? = some a) : ∀ {ds : List (Str × D)} {vs : List (Str × V)}, RF K H O L ds vs → RF K H' O' L' ds vs
  | _, _, .nil => .nil
  | _, _, .cons h t => .cons (h.monoK k p) (RF.monoK k p t)
theorem RE.monoK (k : Kp H (O ++ L) H' (O' ++ L')) (p : ∀ (i : Nat) (a : Addr), L[i]? = some a → L'[i]? = some a) : ∀ {ρ : Env} {σ : St}, RE K H O L ρ σ → RE K H' O' L' ρ σ
  | _, _, .nil => .nil
  | _, _, .unk t => .unk (RE.monoK k p t)
  | _, _, .cons h t => .cons (h.monoK k p) (RE.monoK k p t)
theorem CellOk.monoK (k : Kp H (O ++ L) H' (O' ++ L')) (p : ∀ (i : Nat) (a : Addr), L[i]? = some a → L'[i]? = some a) {a : Addr} {c : Cell} (st : H' a = H a) (h : CellOk K mg H O L a c) : CellOk K mg H' O' L' a c := by
  cases h with
  | lst h1 h2 => exact .lst (st.trans h1) (RpL.mono k _ _ h2)
  | dct h1 h2 => exact .dct (st.trans h1) (h2.mono k)
  | ins h1 h2 h3 => exact .ins h1 (st.trans h2) (h3.monoK k p)
  | mem h1 h2 => exact .mem (st.trans h1) (h2.mono k)
theorem Kp.sub {B B' : List Addr} (h : ∀ a, a ∈ B' → a ∈ B) : Kp H B H B' := fun a o e n => ⟨fun z => n (h a z), e⟩
end
/-! ### what is walked -/
/-- from (L, H) on, wherever it is later, J gives out xs -/
def Wk (K : PySem.W.Frag) (mg : MG) (O L : List Addr) (H : Hp) (J : It) (xs : List PyData) : Prop :=
  ∀ (O' L1 : List Addr) (H1 : Hp) (S1 : Store), Kp H (O ++ L) H1 (O' ++ L1) → Sto K mg H1 O' L1 S1 →
    (∀ (i : Nat) (x : PyData), xs[i]? = some x → J.go i H1 ∧ ∀ v H2, J.yld i H1 v H2 → Same H1 H2 ∧ Rp K H2 (O' ++ L1) x v) ∧ J.stop xs.length H1
abbrev IM := Env → Store → Res (List PyData)
def tI (K : PySem.W.Frag) (mg : MG) (W : WX) (f : IM) : TI := fun σ H R => ∃ (O L : List Addr) (S : Store) (ρ : Env), At K mg O L S ρ σ H ∧ EndG K mg W O L H σ (fun xs _ L' H' => ∀ J, Wk K mg O L' H' J xs → R J H') (f ρ S)
abbrev PMI (X : Cx) (W : WX) (tg e : Expr) (f : IM) : Prop := PI X tg e (tI X.K X.mg W f)
def signs (z : Str) : List PyData := z.cps.toList.map fun c => .str ⟨#[c]⟩
def iSeq (f : EM) : IM := fun ρ S => (f ρ S).andThen fun x S1 => match x with
  | .d (.list xs) => .ok xs S1
  | .d (.tuple xs) => .ok xs S1
  | .d (.str z) => .ok (signs z) S1
  | _ => .no
def rng (lo : Int) (n : Nat) : List PyData := (List.range n).map fun (i : Nat) => .int (lo + i)
def iRng1 (f : EM) : IM := fun ρ S => (f ρ S).andThen fun x S1 => match x with
  | .d (.int n) => if -(2 ^ 62) ≤ n ∧ n < 2 ^ 62 then .ok (rng 0 n.toNat) S1 else .no
  | _ => .no
def iRng2 (f g : EM) : IM := fun ρ S => (f ρ S).andThen fun x S1 => (g ρ S1).andThen fun y S2 => match x, y with
  | .d (.int i), .d (.int j) => if -(2 ^ 62) ≤ i ∧ i < 2 ^ 62 ∧ -(2 ^ 62) ≤ j ∧ j < 2 ^ 62 then .ok (rng i (j - i).toNat) S2 else .no
  | _, _ => .no
section
variable {X : Cx} {W : WX} {tg e e2 : Expr} {f f2 : EM} {te : TE}
def iAny (K : PySem.W.Frag) (te : TE) : TI := fun σ H R => te σ H fun x H1 => (∃ a xs, x = .ref a ∧ SqL K H1 a xs ∧ R (Itl K a) H1) ∨ (∃ a xs, x = .ref a ∧ SqT K H1 a xs ∧ R (Itt K a) H1) ∨ ∃ z, x = .str z ∧ R (Its z) H1
theorem pi_any (he : PE X e te) : PI X tg e (iAny X.K te) := by
  refine ⟨fun pins s σ H R I h => ?_⟩
  refine thn (he.run pins s σ H _ I h) fun v s1 ⟨x, H1, I1, r1, q1⟩ => ?_
  rcases q1 with ⟨a, xs, rfl, hq, q⟩ | ⟨a, xs, rfl, hq, q⟩ | ⟨z, rfl, q⟩
  · cases r1
    obtain ⟨its, rv, p, hz⟩ := I1.list hq
    refine wpAny_pyIter_list p.isList ?_
    refine ⟨s1.heap.objs.size, [s1.heap.objs.size], _, _, H1, rfl, I1.kept (t' := s1.toks) fun b o e => Heap.get?_push_of_some _ e, turn_list a _, ⟨_, Heap.get?_push_size _ rfl, rfl, rfl⟩, fun b hb => ?_, q⟩
    have e : b = s1.heap.objs.size := by simpa using hb
    subst e
    exact I1.fpOk (Nat.le_refl _) (I1.hok.fresh (Nat.le_refl _))
  · cases r1
    obtain ⟨its, rv, p, hz⟩ := I1.tuple hq
    refine wpAny_pyIter_tuple (show s1.heap.IsTuple a its.toArray from p) ?_
    refine ⟨s1.heap.objs.size, [s1.heap.objs.size], _, _, H1, rfl, I1.kept (t' := s1.toks) fun b o e => Heap.get?_push_of_some _ e, turn_tuple a _, ⟨_, Heap.get?_push_size _ rfl, rfl, rfl⟩, fun b hb => ?_, q⟩
    have e : b = s1.heap.objs.size := by simpa using hb
    subst e
    exact I1.fpOk (Nat.le_refl _) (I1.hok.fresh (Nat.le_refl _))
  · obtain ⟨t, rfl⟩ := r1
    cases ha : z.cps.all (· < 128)
    · exact wpAny_pyIter_wide ha (pi_one (tk := s1.toks) I1 _ (turn_str _ z t "str_iterator" (.inr rfl)) ⟨_, Heap.get?_push_size _ rfl, rfl, rfl⟩ q)
    · exact wpAny_pyIter_ascii ha (pi_one (tk := s1.toks) I1 _ (turn_str _ z t "str_ascii_iterator" (.inl rfl)) ⟨_, Heap.get?_push_size _ rfl, rfl, rfl⟩ q)
theorem PI.imp {t t' : TI} (h : PI X tg e t) (q : ∀ σ H R, t' σ H R → t σ H R) : PI X tg e t' := ⟨fun pins s σ H R I hw => h.run pins s σ H R I (q σ H R hw)⟩
theorem wk_list {K : PySem.W.Frag} {mg : MG} {O L : List Addr} {H : Hp} {a : Addr} {vs : List V} {xs : List PyData} (h1 : H a = some (.lst vs)) (h2 : a ∉ O ++ L) (h3 : RpL K H (O ++ L) xs vs) : Wk K mg O L H (Itl K a) xs := fun O' L1 H1 S1 k st => by
  have q : SqL K H1 a vs := .inl (.inl (k a _ h1 h2).2)
  have r := RpL.mono k _ _ h3
  refine ⟨fun i x hx => ?_, vs, q, by rw [r.length]; exact Nat.le_refl _⟩
  obtain ⟨v, hv, rv⟩ := r.get hx
  refine ⟨⟨vs, v, q, hv⟩, fun w H2 y => ?_⟩
  obtain ⟨rfl, y⟩ := y
  have e := y vs q
  rw [hv] at e
  cases e
  exact ⟨Same.refl _, rv⟩
theorem wk_tup {K : PySem.W.Frag} {mg : MG} {O L : List Addr} {H : Hp} {a : Addr} {vs : List V} {xs : List PyData} (h1 : Rd H a (.tup vs)) (h2 : a ∉ O ++ L) (h3 : RpL K H (O ++ L) xs vs) : Wk K mg O L H (Itt K a) xs := fun O' L1 H1 S1 k st => by
  have q : SqT K H1 a vs := .inl (k.rd h1 h2).1
  have r := RpL.mono k _ _ h3
  refine ⟨fun i x hx => ?_, vs, q, by rw [r.length]; exact Nat.le_refl _⟩
  obtain ⟨v, hv, rv⟩ := r.get hx
  refine ⟨⟨vs, v, q, hv⟩, fun w H2 y => ?_⟩
  obtain ⟨rfl, y⟩ := y
  have e := y vs q
  rw [hv] at e
  cases e
  exact ⟨Same.refl _, rv⟩
theorem wk_rng {K : PySem.W.Frag} {mg : MG} {O L : List Addr} {H : Hp} {lo : Int} {n : Nat} : Wk K mg O L H (Itr lo n) (rng lo n) := fun O' L1 H1 S1 k st => by
  have hl : (rng lo n).length = n := by unfold rng; rw [List.length_map, List.length_range]
  refine ⟨fun i x hx => ?_, Nat.le_of_eq hl.symm⟩
  have hi : i < n := by rw [← hl]; exact (List.getElem?_eq_some_iff.mp hx).1
  refine ⟨hi, fun w H2 y => ?_⟩
  obtain ⟨rfl, rfl⟩ := y
  unfold rng at hx
  rw [List.getElem?_map, List.getElem?_range hi] at hx
  cases hx
  exact ⟨Same.refl _, .int _⟩
theorem wk_str {K : PySem.W.Frag} {mg : MG} {O L : List Addr} {H : Hp} {z : Str} : Wk K mg O L H (Its z) (signs z) := fun O' L1 H1 S1 k st => by
  have hl : (signs z).length = z.cps.size := by unfold signs; rw [List.length_map, Array.length_toList]
  refine ⟨fun i x hx => ?_, Nat.le_of_eq hl.symm⟩
  have hi : i < z.cps.size := by rw [← hl]; exact (List.getElem?_eq_some_iff.mp hx).1
  refine ⟨hi, fun w H2 y => ?_⟩
  obtain ⟨rfl, c, hc, rfl⟩ := y
  unfold signs at hx
  rw [List.getElem?_map, Array.getElem?_toList, hc] at hx
  cases hx
  exact ⟨Same.refl _, .str _⟩
theorem pmi_seq (he : PM X W e f) : PMI X W tg e (iSeq f) := PI.imp (pi_any he) fun σ H R ⟨O, L, S, ρ, a, h⟩ => by
  refine tM.part a h fun d v S1 L1 H1 a1 e1 r1 h1 => ?_
  split at h1
  · cases r1 with
    | d r => cases r with
      | lst q1 q2 q3 => exact .inl ⟨_, _, rfl, .inl (.inl q1), h1 H1 L1 (Ext.refl _ _) a1.st _ (wk_list q1 q2 q3)⟩
  · cases r1 with
    | d r => cases r with
      | tup q1 q2 q3 => exact .inr (.inl ⟨_, _, rfl, .inl q1, h1 H1 L1 (Ext.refl _ _) a1.st _ (wk_tup q1 q2 q3)⟩)
  · obtain rfl := ss r1
    exact .inr (.inr ⟨_, rfl, h1 H1 L1 (Ext.refl _ _) a1.st _ wk_str⟩)
  · exact h1.elim
theorem pmi_range1 {p pos : Pos} (hg : Gl X "range") (hm : X.mg "range" = none) (ha : PM X W e f) (hs1 : starEach (e :: []) X.env = (false, eval e X.env) :: starEach [] X.env := by rfl) (hs : starEach [e] X.env = [(false, eval e X.env)] := by rfl) : PMI X W tg (.Call (.Name "range" p) [e] [] pos) (iRng1 f) :=
  PI.imp (pi_range1 hg hm (pa_cons ha pa_nil hs1) hs) fun σ H R ⟨O, L, S, ρ, a, h⟩ => by
    refine tM.part a h fun d v S1 L1 H1 a1 e1 r1 h1 => ?_
    split at h1
    · obtain rfl := ii r1
      obtain ⟨⟨b1, b2⟩, h1⟩ := ite_of h1
      exact ⟨_, rfl, b1, b2, h1 H1 L1 (Ext.refl _ _) a1.st _ wk_rng⟩
    · exact h1.elim
theorem pmi_range2 {p pos : Pos} (hg : Gl X "range") (hm : X.mg "range" = none) (ha : PM X W e f) (hb : PM X W e2 f2) (hs : starEach [e, e2] X.env = [(false, eval e X.env), (false, eval e2 X.env)] := by rfl) (hs2 : starEach [e2] X.env = [(false, eval e2 X.env)] := by rfl)
    (hs3 : starEach (e :: [e2]) X.env = (false, eval e X.env) :: starEach [e2] X.env := by rfl) (hs4 : starEach (e2 :: []) X.env = (false, eval e2 X.env) :: starEach [] X.env := by rfl) : PMI X W tg (.Call (.Name "range" p) [e, e2] [] pos) (iRng2 f f2) :=
  PI.imp (pi_range2 hg hm (pa_cons ha (pa_cons hb pa_nil hs4) hs3) hs hs2) fun σ H R ⟨O, L, S, ρ, a, h⟩ => by
    refine tM.part a h fun d v S1 L1 H1 a1 e1 r1 h1 => ?_
    refine tM.part a1 h1 fun d2 v2 S2 L2 H2 a2 e2 r2 h2 => ?_
    split at h2
    · obtain rfl := ii r1
      obtain rfl := ii r2
      obtain ⟨b, h2⟩ := ite_of h2
      exact ⟨_, _, rfl, b, h2 H2 L2 (Ext.refl _ _) a2.st _ wk_rng⟩
    · exact h2.elim
/-! ### for -/
def forL (g : TgM) (b : SM) : List PyData → Env → Store → SR
  | [], ρ, S => .nx ρ S
  | x :: xs, ρ, S => match g x ρ with
    | none => .no
    | some ρ1 => match b ρ1 S with
      | .nx ρ2 S2 => forL g b xs ρ2 S2
      | .ct ρ2 S2 => forL g b xs ρ2 S2
      | .bk ρ2 S2 => .nx ρ2 S2
      | .rt d S2 => .rt d S2
      | .ex x ρ2 S2 => .ex x ρ2 S2
      | .no => .no
def sFor (f : IM) (g : TgM) (b : SM) : SM := fun ρ S => SR.ofE (f ρ S) ρ fun xs S1 => forL g b xs ρ S1
theorem drop_at {α : Type} {xs : List α} {i : Nat} {x : α} (h : xs[i]? = some x) : xs.drop i = x :: xs.drop (i + 1) := by
  obtain ⟨h1, h2⟩ := List.getElem?_eq_some_iff.mp h
  rw [List.drop_eq_getElem_cons h1, h2]
theorem pms_for {fi : IM} {g : TgM} {sl : List Nat} {fb : SM} {body : List Stmt} {pos : Pos} (hp : PassesOwn (model X.prog X.w) X.A X.env X.xe) (hc : X.calm = true) (hi : PMI X W tg e fi) (hg : PMG X tg g sl) (hb : PMB X W body fb)
    (hs : ∀ x, foldedSetIterable e X.env x = pure x := by intro _; rfl) : PMS X W (.For tg e body [] pos) (sFor fi g fb) :=
  PS.imp (ps_for hp hc hi hg hb hs) fun Dn σ H ⟨O, L, S, ρ, a, h⟩ => by
    refine ⟨O, L, S, ρ, a, EndG.imp (EndS.ofE a.re h) fun xs S1 L1 H1 e1 st1 h1 J wk => ?_⟩
    refine ⟨fun i m σ' H' => m = xs.length - i ∧ i ≤ xs.length ∧ ∃ (L' : List Addr) (S' : Store) (ρ' : Env), Ext L1 H1 L' H' ∧ At X.K X.mg O L' S' ρ' σ' H' ∧ EndS X.K X.mg W O L' H' Dn (forL g fb (xs.drop i) ρ' S'), ⟨xs.length, by simp, Nat.zero_le _, L1, S1, ρ, Ext.refl _ _, a.mono e1 st1, h1⟩, ?_⟩
    rintro i m σ' H' ⟨rfl, hi, L', S', ρ', e', a', h'⟩
    obtain ⟨w1, w2⟩ := wk O L' H' S' e'.kp a'.st
    by_cases hlt : i < xs.length
    · have hx := List.getElem?_eq_getElem hlt
      obtain ⟨g1, g2⟩ := w1 i _ hx
      refine .inr ⟨g1, fun σ2 H2 => (xs.length - (i + 1) = xs.length - (i + 1) ∧ i + 1 ≤ xs.length ∧ ∃ (L' : List Addr) (S' : Store) (ρ' : Env), Ext L1 H1 L' H2 ∧ At X.K X.mg O L' S' ρ' σ2 H2 ∧ EndS X.K X.mg W O L' H2 Dn (forL g fb (xs.drop (i + 1)) ρ' S')), fun σ2 H2 q => ⟨xs.length - (i + 1), by omega, q⟩, fun v H2 y => ?_⟩
      obtain ⟨sm, rv⟩ := g2 v H2 y
      rw [drop_at hx] at h'
      unfold forL at h'
      cases hq : g xs[i] ρ' with
      | none => rw [hq] at h'; exact h'.elim
      | some ρ1 =>
        rw [hq] at h'
        have e2 := Same.ext (L := L') sm
        refine ⟨O, L', S', ρ', ρ1, xs[i], a'.mono e2 (a'.st.same sm), rv, hq, fun σ3 a3 _ => ⟨O, L', S', ρ1, a3, ?_⟩⟩
        have h2 := EndS.later e2 h'
        have next : ∀ {ρ2 : Env} {S2 : Store}, EndS X.K X.mg W O L' H2 Dn (forL g fb (xs.drop (i + 1)) ρ2 S2) → ∀ (σ4 : St) (H4 : Hp) (L4 : List Addr), Ext L' H2 L4 H4 → At X.K X.mg O L4 S2 ρ2 σ4 H4 →
            (xs.length - (i + 1) = xs.length - (i + 1) ∧ i + 1 ≤ xs.length ∧ ∃ (L' : List Addr) (S' : Store) (ρ' : Env), Ext L1 H1 L' H4 ∧ At X.K X.mg O L' S' ρ' σ4 H4 ∧ EndS X.K X.mg W O L' H4 Dn (forL g fb (xs.drop (i + 1)) ρ' S')) :=
          fun {ρ2 S2} q σ4 H4 L4 e4 a4 => ⟨rfl, hlt, L4, S2, ρ2, (e'.trans e2).trans e4, a4, EndS.later e4 q⟩
        cases hb : fb ρ1 S' with
        | nx ρ2 S2 => simp only [hb] at h2; exact next h2
        | ct ρ2 S2 => simp only [hb] at h2; exact next h2
        | bk ρ2 S2 => simp only [hb] at h2; exact h2
        | rt d S2 => simp only [hb] at h2; exact h2
        | ex x ρ2 S2 => simp only [hb] at h2; exact h2
        | no => simp only [hb] at h2; exact h2
    · have hi' : i = xs.length := by omega
      subst hi'
      rw [List.drop_length] at h'
      exact .inl ⟨w2, h' σ' H' L' (Ext.refl _ _) a'⟩
/-! ### list comprehensions -/
def wipeE (ρ : Env) : List Nat → Env
  | [] => ρ
  | v :: vs => (wipeE ρ vs).set v none
theorem RE.wipe {K : PySem.W.Frag} {H : Hp} {O L : List Addr} {ρ : Env} {σ : St} (r : RE K H O L ρ σ) : ∀ vs : List Nat, RE K H O L (wipeE ρ vs) (L2.wipe σ vs)
  | [] => r
  | v :: vs => (RE.wipe r vs).wipe1 v
def compL (g : TgM) (t : BM) (fe : EM) (ρ : Env) : List PyData → Store → Res (List PyData)
  | [], S => .ok [] S
  | x :: xs, S => match g x ρ with
    | none => .no
    | some ρ1 => match t ρ1 S with
      | .ok true S1 => match fe ρ1 S1 with
        | .ok (.d y) S2 => match compL g t fe ρ xs S2 with
          | .ok ys S3 => .ok (y :: ys) S3
          | _ => .no
        | _ => .no
      | .ok false S1 => compL g t fe ρ xs S1
      | _ => .no
def mComp (f : IM) (g : TgM) (t : BM) (fe : EM) (own : List Nat) : EM := fun ρ S => (f ρ S).andThen fun xs S1 => if xs.length < sizeLine then (match compL g t fe (wipeE ρ own) xs S1 with
  | .ok ys S2 => .ok (.d (.list ys)) S2
  | _ => .no) else .no
def W0 : WX := fun _ _ _ _ => False
def bYes : BM := fun _ S => .ok true S
abbrev PMTs (X : Cx) (W : WX) (ifs : List Expr) (t : BM) : Prop := PTs X ifs (tB X.K X.mg W t)
theorem PTs.imp {ifs : List Expr} {t t' : TT} (h : PTs X ifs t) (q : ∀ σ H Q, t' σ H Q → t σ H Q) : PTs X ifs t' := ⟨fun pins s σ H Q I hw => h.run pins s σ H Q I (q σ H Q hw)⟩
theorem pmts_nil : PMTs X W [] bYes := PTs.imp pts_nil fun σ H Q ⟨O, L, S, ρ, a, h⟩ => h H L (Ext.refl _ _) a.st
theorem pmts_one {c : Expr} {t : BM} (h : PMT X W c t) : PMTs X W [c] t := pts_one h
theorem EndG.okd {K : PySem.W.Frag} {mg : MG} {O L : List Addr} {H : Hp} {σ : St} {Q : VK} {r : Res D} {y : D} {S : Store} (e : r = .ok y S) (h : ∀ v H' L', Ext L H L' H' → Sto K mg H' O L' S → RD K H' O L' y v → Q v H') : EndG K mg W O L H σ (fun d _ L' H' => ∀ v, RD K H' O L' d v → Q v H') r := by
  subst e
  exact fun H' L' e st v r => h v H' L' e st r
theorem EndG.okb {K : PySem.W.Frag} {mg : MG} {O L : List Addr} {H : Hp} {σ : St} {Q : Bool → Hp → Prop} {r : Res Bool} {y : Bool} {S : Store} (e : r = .ok y S) (h : ∀ H' L', Ext L H L' H' → Sto K mg H' O L' S → Q y H') : EndG K mg W O L H σ (fun d _ L' H' => Q d H') r := by
  subst e
  exact h
end
end Sky
namespace Sky
open PySem PySem.Spec PyProof.Rows L2
section
variable {X : Cx} {W : WX} {tg e : Expr}
/-- one turn and what comes behind it -/
theorem compL_turn {g : TgM} {t : BM} {fe : EM} {ρ : Env} {x : PyData} {xs : List PyData} {S S' : Store} {ys : List PyData} (h : compL g t fe ρ (x :: xs) S = .ok ys S') :
    ∃ ρ1, g x ρ = some ρ1 ∧ ((∃ S1, t ρ1 S = .ok false S1 ∧ compL g t fe ρ xs S1 = .ok ys S') ∨ ∃ S1 y S2 zs, t ρ1 S = .ok true S1 ∧ fe ρ1 S1 = .ok (.d y) S2 ∧ compL g t fe ρ xs S2 = .ok zs S' ∧ ys = y :: zs) := by
  unfold compL at h
  cases hg : g x ρ with
  | none => simp only [hg] at h; cases h
  | some ρ1 =>
    simp only [hg] at h
    refine ⟨ρ1, rfl, ?_⟩
    cases ht : t ρ1 S with
    | no => simp only [ht] at h; cases h
    | exc _ _ => simp only [ht] at h; cases h
    | ok b S1 =>
      cases b with
      | false => simp only [ht] at h; exact .inl ⟨S1, rfl, h⟩
      | true =>
        simp only [ht] at h
        cases hf : fe ρ1 S1 with
        | no => simp only [hf] at h; cases h
        | exc _ _ => simp only [hf] at h; cases h
        | ok y S2 =>
          cases y with
          | d y =>
            simp only [hf] at h
            cases hr : compL g t fe ρ xs S2 with
            | no => simp only [hr] at h; cases h
            | exc _ _ => simp only [hr] at h; cases h
            | ok zs S3 =>
              simp only [hr] at h
              cases h
              exact .inr ⟨S1, y, S2, zs, rfl, hf, hr, rfl⟩
          | r _ => simp only [hf] at h; cases h
          | s _ => simp only [hf] at h; cases h
theorem wipe_wipe (σ : St) (vs : List Nat) : L2.wipe (L2.wipe σ vs) vs = L2.wipe σ vs := by
  refine List.ext_getElem? fun j => ?_
  rw [wipe_get, wipe_get]
  by_cases h : j ∈ vs
  · rw [if_pos h, if_pos h]
    cases σ[j]? <;> rfl
  · rw [if_neg h, if_neg h]
theorem mComp.go {fi : IM} {g : TgM} {sl own : List Nat} {t : BM} {fe : EM} {K : PySem.W.Frag} {mg : MG} {σ : St} {H : Hp} {Q : VK} (hsl : ∀ i ∈ sl, i ∈ own) (h : tM K mg W (mComp fi g t fe own) σ H Q) :
    tLc (tI K mg W fi) (tG K mg g sl) (tB K mg W0 t) (tM K mg W0 fe) own σ H Q := by
  obtain ⟨O, L, S, ρ, a, h⟩ := h
  refine ⟨O, L, S, ρ, a, EndG.imp (EndG.bind h) fun xs S1 L1 H1 e1 st1 h1 J wk D hD => ?_⟩
  obtain ⟨hlen, h1⟩ := ite_of h1
  cases hc : compL g t fe (wipeE ρ own) xs S1 with
  | no => simp only [hc] at h1; exact h1.elim
  | exc _ _ => simp only [hc] at h1; exact h1.elim
  | ok ys S2 =>
    simp only [hc] at h1
    have hDn : D ∉ O ++ L1 := st1.fresh hD
    have sm0 := same_upd (o := .lst []) hD
    have k0 : Kp H1 (O ++ L1) (upd H1 D (.lst [])) ((D :: O) ++ L1) := fun b o q n => ⟨fun z => by
      rcases List.mem_cons.mp z with z | z
      · exact ne_of_none q hD z
      · exact n z, sm0 b o q⟩
    refine ⟨fun i m H' => m = xs.length - i ∧ i ≤ xs.length ∧ ∃ (L' : List Addr) (S' : Store) (acc zs : List PyData) (vs : List V), Ext L1 H1 L' H' ∧ Sto K mg H' (D :: O) L' S' ∧ RE K H' (D :: O) L' (wipeE ρ own) (L2.wipe σ own) ∧ Kp H1 (O ++ L1) H' ((D :: O) ++ L') ∧
      H' D = some (.lst vs) ∧ D ∉ O ++ L' ∧ RpL K H' ((D :: O) ++ L') acc vs ∧ acc.length ≤ i ∧ compL g t fe (wipeE ρ own) (xs.drop i) S' = .ok zs S2 ∧ ys = acc ++ zs, ?_, ?_⟩
    · refine ⟨xs.length, by simp, Nat.zero_le _, L1, S1, [], ys, [], Same.ext sm0, ?_, ?_, k0, upd_same, hDn, .nil, Nat.le_refl _, hc, rfl⟩
      · refine ⟨st1.len, st1.nd, fun i c b q1 q2 => ?_, fun b hb => ?_⟩
        · have ck := st1.cell i c b q1 q2
          obtain ⟨o, ho⟩ := ck.there
          exact ck.monoK k0 (fun _ _ z => z) (by rw [ho]; exact sm0 b o ho)
        · rcases List.mem_cons.mp hb with rfl | hb
          · exact ⟨_, upd_same⟩
          · exact (st1.out b hb).imp fun o q => sm0 b o q
      · exact ((a.re.mono e1).wipe own).monoK k0 fun _ _ z => z
    · rintro i m H' ⟨rfl, hi, L', S', acc, zs, vs, e', st', re', kp', hv, hn, rp, hal, hz, hy⟩
      obtain ⟨w1, w2⟩ := wk (D :: O) L' H' S' kp' st'
      by_cases hlt : i < xs.length
      · have hx := List.getElem?_eq_getElem hlt
        obtain ⟨g1, g2⟩ := w1 i _ hx
        rw [drop_at hx] at hz
        obtain ⟨ρ1, hg, ht⟩ := compL_turn hz
        refine .inr ⟨g1, fun H2 => xs.length - (i + 1) = xs.length - (i + 1) ∧ i + 1 ≤ xs.length ∧ ∃ (L' : List Addr) (S' : Store) (acc zs : List PyData) (vs : List V), Ext L1 H1 L' H2 ∧ Sto K mg H2 (D :: O) L' S' ∧ RE K H2 (D :: O) L' (wipeE ρ own) (L2.wipe σ own) ∧ Kp H1 (O ++ L1) H2 ((D :: O) ++ L') ∧
          H2 D = some (.lst vs) ∧ D ∉ O ++ L' ∧ RpL K H2 ((D :: O) ++ L') acc vs ∧ acc.length ≤ i + 1 ∧ compL g t fe (wipeE ρ own) (xs.drop (i + 1)) S' = .ok zs S2 ∧ ys = acc ++ zs, fun H2 q => ⟨_, by omega, q⟩, fun v H2 y => ?_⟩
        obtain ⟨sm, rv⟩ := g2 v H2 y
        have e2 := Same.ext (L := L') sm
        have st2 := st'.same sm
        refine ⟨D :: O, L', S', wipeE ρ own, ρ1, xs[i], ⟨re'.mono e2, st2⟩, rv, hg, fun σ3 a3 wp => ⟨(wp own hsl).trans (wipe_wipe σ own), ?_⟩⟩
        have kp2 : Kp H1 (O ++ L1) H2 ((D :: O) ++ L') := fun b o q n => ⟨(kp' b o q n).1, sm b o (kp' b o q n).2⟩
        -- what a later state is
        have later : ∀ {H4 : Hp} {L4 : List Addr}, Ext L' H2 L4 H4 → Kp H1 (O ++ L1) H4 ((D :: O) ++ L4) ∧ H4 D = some (.lst vs) ∧ D ∉ O ++ L4 := fun {H4 L4} e4 => by
          have kk := e4.kp (O := D :: O)
          have hD2 : H2 D = some (.lst vs) := sm D _ hv
          refine ⟨fun b o q n => kk b o (kp2 b o q n).2 (kp2 b o q n).1, e4.keep D _ hD2 fun z => hn (List.mem_append_right _ z), fun z => ?_⟩
          rcases List.mem_append.mp z with z | z
          · exact hn (List.mem_append_left _ z)
          · rcases e4.new D z with z | z
            · exact hn (List.mem_append_right _ z)
            · rw [hD2] at z; cases z
        rcases ht with ⟨S3, ht, hr⟩ | ⟨S3, y, S4, ws, ht, hf, hr, rfl⟩
        · refine ⟨D :: O, L', S', ρ1, a3, EndG.okb ht fun H4 L4 e4 st4 => ?_⟩
          refine iteF ⟨rfl, hlt, L4, S3, acc, zs, vs, (e'.trans e2).trans e4, st4, (re'.mono e2).mono e4, (later e4).1, (later e4).2.1, (later e4).2.2, RpL.mono (e2.trans e4).kp _ _ rp, by omega, hr, hy⟩
        · refine ⟨D :: O, L', S', ρ1, a3, EndG.okb ht fun H4 L4 e4 st4 => ?_⟩
          refine iteT ⟨D :: O, L4, S3, ρ1, a3.mono e4 st4, EndG.okd hf fun w H5 L5 e5 st5 r5 => ?_⟩
          have e45 := e4.trans e5
          have lt := later e45
          have lr : acc.length = vs.length := rp.length
          refine ⟨vs, lt.2.1, by omega, rfl, hlt, L5, S4, acc ++ [y], ws, vs ++ [w], ?_, ?_, ?_, ?_, upd_same, lt.2.2, ?_, by rw [List.length_append, List.length_singleton]; omega, hr, by rw [hy, List.append_assoc]; rfl⟩
          all_goals have k6 : Kp H5 ((D :: O) ++ L5) (upd H5 D (.lst (vs ++ [w]))) ((D :: O) ++ L5) := fun b o q n => ⟨n, by rw [upd_ne (fun z => n (by rw [z]; exact List.mem_cons_self))]; exact q⟩
          · have E := (e'.trans e2).trans e45
            exact ⟨E.pre, E.new, fun b o q n => by rw [upd_ne (ne_of_none q hD)]; exact E.keep b o q n⟩
          · refine ⟨st5.len, st5.nd, fun i c b q1 q2 => ?_, fun b hb => ?_⟩
            · have nb : b ≠ D := fun z => lt.2.2 (List.mem_append_right _ (by rw [← z]; exact List.mem_of_getElem? q2))
              exact (st5.cell i c b q1 q2).monoK k6 (fun _ _ z => z) (upd_ne nb)
            · by_cases hbD : b = D
              · rw [hbD]; exact ⟨_, upd_same⟩
              · rw [upd_ne hbD]; exact st5.out b hb
          · exact ((re'.mono e2).mono e45).monoK k6 fun _ _ z => z
          · exact fun b o q n => ⟨(lt.1 b o q n).1, by rw [upd_ne (ne_of_none q hD)]; exact (lt.1 b o q n).2⟩
          · refine RpL.append (RpL.mono k6 _ _ (RpL.mono (e2.trans e45).kp _ _ rp)) (.cons ?_ .nil)
            cases r5 with
            | d r5 => exact Rp.mono k6 _ _ r5
      · have hi' : i = xs.length := by omega
        subst hi'
        rw [List.drop_length] at hz
        cases hz
        rw [List.append_nil] at hy
        subst hy
        refine .inl ⟨w2, h1 H' L' e' ?_ _ (.d (.lst hv hn (RpL.mono (Kp.sub fun b hb => List.mem_cons_of_mem _ hb) _ _ rp)))⟩
        refine ⟨st'.len, st'.nd, fun i c b q1 q2 => (st'.cell i c b q1 q2).monoK (Kp.sub fun b hb => List.mem_cons_of_mem _ hb) (fun _ _ z => z) rfl, fun b hb => st'.out b (List.mem_cons_of_mem _ hb)⟩
theorem pm_comp {elt iter : Expr} {ifs : List Expr} {scope : Scope} {own : List (Str × Nat)} {pos : Pos} {fi : IM} {g : TgM} {sl : List Nat} {t : BM} {fe : EM} (hc : X.calm = true) (hN : X.N.Nodup) (hi : PMI X W tg iter fi) (ok : BlkOk X.N X.env.scope scope own)
    (hg : ∀ (s : Shared) (H : Hp) (C : Addr) (cl : List (Str × Addr)) (fp : List Addr), PG (X.blk s H scope (compEnvC scope cl C X.env) fp) tg (tG X.K X.mg g sl)) (ht : ∀ (s : Shared) (H : Hp) (C : Addr) (cl : List (Str × Addr)) (fp : List Addr), PTs (X.blk s H scope (compEnvC scope cl C X.env) fp) ifs (tB X.K X.mg W0 t))
    (he : ∀ (s : Shared) (H : Hp) (C : Addr) (cl : List (Str × Addr)) (fp : List Addr), PE (X.blk s H scope (compEnvC scope cl C X.env) fp) elt (tM X.K X.mg W0 fe)) (hsl : ∀ i ∈ sl, i ∈ own.map (·.2) := by decide) (hs : ∀ x, foldedSetIterable iter X.env x = pure x := by intro _; rfl) :
    PM X W (.ListComp elt [⟨tg, iter, ifs, 0⟩] scope pos) (mComp fi g t fe (own.map (·.2))) :=
  PE.imp (pe_lc hc hN hi ok hg ht he hs) fun σ H Q h => mComp.go hsl h
/-- name = [..] on one line -/
theorem pms_setLc (i : Nat) {y : Str} {py : Pos} {elt iter : Expr} {ifs : List Expr} {scope : Scope} {own : List (Str × Nat)} {pos spos : Pos} {fi : IM} {g : TgM} {sl : List Nat} {t : BM} {fe : EM} (hc : X.calm = true) (hN : X.N.Nodup) (hi : PMI X W tg iter fi) (ok : BlkOk X.N X.env.scope scope own)
    (hsw : swapsWith (.ListComp elt [⟨tg, iter, ifs, 0⟩] scope pos) (some (.Name y py)) spos.line X.env = pure true)
    (hg : ∀ (s : Shared) (H : Hp) (C : Addr) (cl : List (Str × Addr)) (fp : List Addr), PG (X.blk s H scope (compEnvC scope cl C X.env) fp) tg (tG X.K X.mg g sl)) (ht : ∀ (s : Shared) (H : Hp) (C : Addr) (cl : List (Str × Addr)) (fp : List Addr), PTs (X.blk s H scope (compEnvC scope cl C X.env) fp) ifs (tB X.K X.mg W0 t))
    (he : ∀ (s : Shared) (H : Hp) (C : Addr) (cl : List (Str × Addr)) (fp : List Addr), PE (X.blk s H scope (compEnvC scope cl C X.env) fp) elt (tM X.K X.mg W0 fe)) (hy : X.N[i]? = some y := by rfl) (hyl : X.env.scope.names.lookup y = some .local := by rfl) (hsl : ∀ i ∈ sl, i ∈ own.map (·.2) := by decide) (hs : ∀ x, foldedSetIterable iter X.env x = pure x := by intro _; rfl) :
    PMS X W (.Assign [.Name y py] (.ListComp elt [⟨tg, iter, ifs, 0⟩] scope pos) spos) (sSet i (mComp fi g t fe (own.map (·.2)))) :=
  PS.imp (ps_setLc hc hN hy hyl hsw hi ok hg ht he hs) fun Dn σ H ⟨O, L, S, ρ, a, h⟩ => by
    have h2 : tM X.K X.mg W (mComp fi g t fe (own.map (·.2))) σ H (fun x H1 => gName i x σ H1 Dn.nx) :=
      tM.stmt a h fun d v S' L' H' a' e' r h' => h' _ H' L' (Ext.refl _ _) ⟨a'.re.set r i, a'.st⟩
    exact mComp.go hsl h2
end
end Sky
end
section
/-! Lay8: calls of built-ins, cells changed, defs. -/
namespace Sky
open PySem PySem.Spec PyProof.Rows L2
/-! ### a cell is written -/
section
variable {K : PySem.W.Frag} {mg : MG} {H : Hp} {O L : List Addr} {S : Store} {i : Nat} {a : Addr} {c : Cell} {o : HO}
theorem Ext.upd (h : L[i]? = some a) : Ext L H L (upd H a o) := ⟨fun _ _ z => z, fun _ z => .inl z, fun b u q n => by
  rw [upd_ne (fun z => n (by rw [z]; exact List.mem_of_getElem? h))]
  exact q⟩
theorem Sto.upd (st : Sto K mg H O L S) (h : L[i]? = some a) (k : CellOk K mg (upd H a o) O L a c) : Sto K mg (upd H a o) O L (S.set i c) where
  len := by rw [List.length_set]; exact st.len
  nd := st.nd
  cell := fun j c' b h1 h2 => by
    by_cases hj : i = j
    · subst hj
      rw [h] at h2
      cases h2
      have hl : i < S.length := by rw [← st.len]; exact (List.getElem?_eq_some_iff.mp h).1
      rw [List.getElem?_set_self hl] at h1
      cases h1
      exact k
    · rw [List.getElem?_set_ne hj] at h1
      have nb : b ≠ a := fun z => hj ((List.getElem?_inj (List.getElem?_eq_some_iff.mp h).1 st.nd).mp (by rw [h, h2, z]))
      exact (st.cell j c' b h1 h2).mono (Ext.upd h) (upd_ne nb)
  out := fun b hb => by
    by_cases hba : b = a
    · rw [hba]; exact ⟨_, upd_same⟩
    · rw [upd_ne hba]; exact st.out b hb
end
/-! ### built-ins by values -/
def rCl (K : PySem.W.Frag) (mg : MG) (g : Store → List D → Option D) : List V → Hp → VK → Prop := fun vs H Q => ∃ (O L : List Addr) (S : Store) (ds : List D) (d : D), Sto K mg H O L S ∧ RDL K H O L ds vs ∧ g S ds = some d ∧ ∀ v H', Same H H' → RD K H' O L d v → Q v H'
def mCl (g : Store → List D → Option D) (f : AM) : EM := fun ρ S => (f ρ S).andThen fun ds S1 => Res.of (g S1 ds) S1
section
variable {X : Cx} {W : WX} {x : Str} {p pos : Pos} {e : Expr} {es : List Expr} {f : AM} {g : Store → List D → Option D} {id T : String}
theorem mCl.go {σ : St} {H : Hp} {Q : VK} (h : tM X.K X.mg W (mCl g f) σ H Q) : tCB (rCl X.K X.mg g) (tA X.K X.mg W f) σ H Q := by
  obtain ⟨O, L, S, ρ, a, h⟩ := h
  refine tA.part a h fun ds vs S1 L1 H1 a1 e1 r1 h1 => ?_
  obtain ⟨d, hd, h2⟩ := EndG.of_some h1
  exact ⟨O, L1, S1, ds, d, a1.st, r1, hd, fun v H' sm r => h2 H' L1 (Same.ext sm) (a1.st.same sm) v r⟩
theorem pm_callB (hc : CallR X (.builtin id) (rCl X.K X.mg g)) (hg : Gl X x) (hm : X.mg x = none) (hv : bootBuiltins x = some (.builtin id)) (ha : PMA X W (e :: es) f) (hn : x ≠ "__name__" := by decide) (hdb : (x == ("__debug__" : Str)) = false := by decide)
    (he : starEach (e :: es) X.env = (false, eval e X.env) :: starEach es X.env := by rfl) (hpl : (backTo pos (starEach es X.env)).any (·.1) = false := by rfl) : PM X W (.Call (.Name x p) (e :: es) [] pos) (mCl g f) :=
  PE.imp (pe_callB hc hg hm hv ha hn hdb he hpl) fun σ H Q h => mCl.go h
theorem pm_callT (hc : CallR X (.type T) (rCl X.K X.mg g)) (hg : Gl X x) (hm : X.mg x = none) (hv : bootBuiltins x = some (.type T)) (ha : PMA X W (e :: es) f) (hn : x ≠ "__name__" := by decide) (hdb : (x == ("__debug__" : Str)) = false := by decide)
    (he : starEach (e :: es) X.env = (false, eval e X.env) :: starEach es X.env := by rfl) (hpl : (backTo pos (starEach es X.env)).any (·.1) = false := by rfl) : PM X W (.Call (.Name x p) (e :: es) [] pos) (mCl g f) :=
  PE.imp (pe_callTy hc hg hm hv ha hn hdb he hpl) fun σ H Q h => mCl.go h
def cAbs (_ : Store) (ds : List D) : Option D := match ds with
  | [.d (.int i)] => some (.d (.int (if i < 0 then -i else i)))
  | _ => none
def cMin2 (_ : Store) (ds : List D) : Option D := match ds with
  | [.d (.int i), .d (.int j)] => some (.d (.int (if j < i then j else i)))
  | _ => none
def cMax2 (_ : Store) (ds : List D) : Option D := match ds with
  | [.d (.int i), .d (.int j)] => some (.d (.int (if j > i then j else i)))
  | _ => none
/-- how many -/
def lenOf (S : Store) : D → Option Nat
  | .d (.str z) => if z.length ≤ sizeLine then some z.length else none
  | .d (.tuple xs) => some xs.length
  | x => (lk S x).map (·.length)
def cLen (S : Store) (ds : List D) : Option D := match ds with
  | [x] => (lenOf S x).map fun (n : Nat) => .d (.int (n : Int))
  | _ => none
def cTup (S : Store) (ds : List D) : Option D := match ds with
  | [.d (.tuple xs)] => some (.d (.tuple xs))
  | [x] => (lk S x).map fun xs => .d (.tuple xs)
  | _ => none
def cLst (S : Store) (ds : List D) : Option D := match ds with
  | [.d (.tuple xs)] => some (.d (.list xs))
  | [x] => (lk S x).map fun xs => .d (.list xs)
  | _ => none
def cInt (_ : Store) (ds : List D) : Option D := match ds with
  | [.d (.int i)] => some (.d (.int i))
  | [.d (.bool k)] => some (.d (.int (if k = true then 1 else 0)))
  | _ => none
/-- a list of ints, of truths -/
def intsOf : List PyData → Option (List Int)
  | [] => some []
  | .int i :: r => (intsOf r).map (i :: ·)
  | _ => none
def blsOf : List PyData → Option (List Bool)
  | [] => some []
  | .bool i :: r => (blsOf r).map (i :: ·)
  | _ => none
def cSum (S : Store) (ds : List D) : Option D := match ds with
  | [x] => ((lk S x).bind intsOf).map fun ns => .d (.int ns.sum)
  | _ => none
def cAll (S : Store) (ds : List D) : Option D := match ds with
  | [x] => ((lk S x).bind blsOf).map fun bs => .d (.bool (bs.all _root_.id))
  | _ => none
theorem intsOf_v {K : PySem.W.Frag} {H : Hp} {B : List Addr} : ∀ {ds : List PyData} {vs : List V} {ns : List Int}, RpL K H B ds vs → intsOf ds = some ns → vs = ns.map V.int
  | _, _, _, .nil, h => by cases h; rfl
  | _, _, ns, .cons (d := .int i) r t, h => by
    cases q : intsOf _ with
    | none => rw [intsOf, q] at h; cases h
    | some ms =>
      rw [intsOf, q] at h
      cases h
      cases r
      rw [intsOf_v t q]
      rfl
  | _, _, _, .cons (d := .none) _ _, h => by cases h
  | _, _, _, .cons (d := .bool _) _ _, h => by cases h
  | _, _, _, .cons (d := .str _) _ _, h => by cases h
  | _, _, _, .cons (d := .list _) _ _, h => by cases h
  | _, _, _, .cons (d := .tuple _) _ _, h => by cases h
  | _, _, _, .cons (d := .dict _) _ _, h => by cases h
theorem blsOf_v {K : PySem.W.Frag} {H : Hp} {B : List Addr} : ∀ {ds : List PyData} {vs : List V} {ns : List Bool}, RpL K H B ds vs → blsOf ds = some ns → vs = ns.map V.bl
  | _, _, _, .nil, h => by cases h; rfl
  | _, _, ns, .cons (d := .bool i) r t, h => by
    cases q : blsOf _ with
    | none => rw [blsOf, q] at h; cases h
    | some ms =>
      rw [blsOf, q] at h
      cases h
      cases r
      rw [blsOf_v t q]
      rfl
  | _, _, _, .cons (d := .none) _ _, h => by cases h
  | _, _, _, .cons (d := .int _) _ _, h => by cases h
  | _, _, _, .cons (d := .str _) _ _, h => by cases h
  | _, _, _, .cons (d := .list _) _ _, h => by cases h
  | _, _, _, .cons (d := .tuple _) _ _, h => by cases h
  | _, _, _, .cons (d := .dict _) _ _, h => by cases h
theorem map_some {α β : Type} {f : α → β} {o : Option α} {d : β} (h : o.map f = some d) : ∃ x, o = some x ∧ d = f x := by
  cases o with
  | none => cases h
  | some x => cases h; exact ⟨x, rfl, rfl⟩
theorem k_abs : CallR X (.builtin "abs") (rCl X.K X.mg cAbs) := by
  intro pins s σ H vs us Q I rv ⟨O, L, S, ds, d, st, r, hg, q⟩
  unfold cAbs at hg
  split at hg
  · cases hg
    cases r with
    | cons r t => cases t; obtain rfl := ii r; exact call_abs pins s σ H _ us Q I rv ⟨_, rfl, q _ H (Same.refl H) (.d (.int _))⟩
  · cases hg
theorem k_min2 (hc : X.calm = true) : CallR X (.builtin "min") (rCl X.K X.mg cMin2) := by
  intro pins s σ H vs us Q I rv ⟨O, L, S, ds, d, st, r, hg, q⟩
  unfold cMin2 at hg
  split at hg
  · cases hg
    cases r with
    | cons r t =>
      cases t with
      | cons r2 t =>
        cases t
        obtain rfl := ii r
        obtain rfl := ii r2
        exact call_min2 hc pins s σ H _ us Q I rv ⟨_, _, rfl, q _ H (Same.refl H) (.d (.int _))⟩
  · cases hg
theorem k_max2 (hc : X.calm = true) : CallR X (.builtin "max") (rCl X.K X.mg cMax2) := by
  intro pins s σ H vs us Q I rv ⟨O, L, S, ds, d, st, r, hg, q⟩
  unfold cMax2 at hg
  split at hg
  · cases hg
    cases r with
    | cons r t =>
      cases t with
      | cons r2 t =>
        cases t
        obtain rfl := ii r
        obtain rfl := ii r2
        exact call_max2 hc pins s σ H _ us Q I rv ⟨_, _, rfl, q _ H (Same.refl H) (.d (.int _))⟩
  · cases hg
theorem k_len : CallR X (.builtin "len") (rCl X.K X.mg cLen) := by
  intro pins s σ H vs us Q I rv ⟨O, L, S, ds, d, st, r, hg, q⟩
  unfold cLen at hg
  split at hg
  · rename_i dx
    obtain ⟨n, hn, rfl⟩ := map_some hg
    cases r with
    | cons r t =>
      cases t
      have fin : ∀ {v : V}, LenV X.K v H n → us = us → Vals [v] us → wpAny (model X.prog X.w) X.A (call (.builtin "len") us) (EP X pins σ Q) X.xe s := fun {v} lv _ rv => call_len pins s σ H _ us Q I rv ⟨v, n, rfl, lv, q _ H (Same.refl H) (.d (.int _))⟩
      unfold lenOf at hn
      split at hn
      · obtain ⟨hz, rfl⟩ := some_of_ite hn
        obtain rfl := ss r
        exact fin (v := .str _) (And.intro hz rfl) rfl rv
      · cases hn
        obtain ⟨a, vs, rfl, ha, _, ra, _⟩ := tt r
        exact fin (v := .ref a) (Or.inr ⟨vs, ha, ra.length⟩) rfl rv
      · obtain ⟨xs, hx, rfl⟩ := map_some hn
        obtain ⟨a, vs, rfl, ha, ra⟩ := lk_at st r hx
        exact fin (v := .ref a) (Or.inl ⟨vs, .inl (.inl ha), ra.length⟩) rfl rv
  · cases hg
theorem k_tup : CallR X (.type "tuple") (rCl X.K X.mg cTup) := by
  intro pins s σ H vs us Q I rv ⟨O, L, S, ds, d, st, r, hg, q⟩
  unfold cTup at hg
  split at hg
  · cases hg
    cases r with
    | cons r t =>
      cases t
      obtain ⟨a, vs, rfl, ha, _, ra, wa⟩ := tt r
      exact call_tuple_of pins s σ H _ us Q I rv ⟨a, vs, rfl, .inr ⟨ha, q _ H (Same.refl H) (.d wa)⟩⟩
  · obtain ⟨xs, hx, rfl⟩ := map_some hg
    cases r with
    | cons r t =>
      cases t
      obtain ⟨a, vs, rfl, ha, ra⟩ := lk_at st r hx
      exact call_tuple_of pins s σ H _ us Q I rv ⟨a, vs, rfl, .inl ⟨.inl (.inl ha), fun p hp => q _ _ (same_upd hp) (new_tup st hp ra)⟩⟩
  · cases hg
theorem k_lst : CallR X (.type "list") (rCl X.K X.mg cLst) := by
  intro pins s σ H vs us Q I rv ⟨O, L, S, ds, d, st, r, hg, q⟩
  unfold cLst at hg
  split at hg
  · cases hg
    cases r with
    | cons r t =>
      cases t
      obtain ⟨a, vs, rfl, ha, _, ra, wa⟩ := tt r
      exact call_list_of pins s σ H _ us Q I rv ⟨a, vs, rfl, .inr ha, fun p hp => q _ _ (same_upd hp) (new_lst st hp ra)⟩
  · obtain ⟨xs, hx, rfl⟩ := map_some hg
    cases r with
    | cons r t =>
      cases t
      obtain ⟨a, vs, rfl, ha, ra⟩ := lk_at st r hx
      exact call_list_of pins s σ H _ us Q I rv ⟨a, vs, rfl, .inl (.inl (.inl ha)), fun p hp => q _ _ (same_upd hp) (new_lst st hp ra)⟩
  · cases hg
theorem k_int : CallR X (.type "int") (rCl X.K X.mg cInt) := by
  intro pins s σ H vs us Q I rv ⟨O, L, S, ds, d, st, r, hg, q⟩
  unfold cInt at hg
  split at hg
  · cases hg
    cases r with
    | cons r t => cases t; obtain rfl := ii r; exact call_int1 pins s σ H _ us Q I rv (.inl ⟨_, rfl, q _ H (Same.refl H) (.d (.int _))⟩)
  · cases hg
    cases r with
    | cons r t => cases t; obtain rfl := bb r; exact call_int1 pins s σ H _ us Q I rv (.inr ⟨_, rfl, q _ H (Same.refl H) (.d (.int _))⟩)
  · cases hg
theorem k_sum (hc : X.calm = true) : CallR X (.builtin "sum") (rCl X.K X.mg cSum) := by
  intro pins s σ H vs us Q I rv ⟨O, L, S, ds, d, st, r, hg, q⟩
  unfold cSum at hg
  split at hg
  · obtain ⟨ns, hx, rfl⟩ := map_some hg
    obtain ⟨xs, h1, h2⟩ := Option.bind_eq_some_iff.mp hx
    cases r with
    | cons r t =>
      cases t
      obtain ⟨a, vs, rfl, ha, ra⟩ := lk_at st r h1
      obtain rfl := intsOf_v ra h2
      exact cr_sum hc pins s σ H _ us Q I rv ⟨a, ns, rfl, .inl (.inl ha), q _ H (Same.refl H) (.d (.int _))⟩
  · cases hg
theorem k_all (hc : X.calm = true) : CallR X (.builtin "all") (rCl X.K X.mg cAll) := by
  intro pins s σ H vs us Q I rv ⟨O, L, S, ds, d, st, r, hg, q⟩
  unfold cAll at hg
  split at hg
  · obtain ⟨ns, hx, rfl⟩ := map_some hg
    obtain ⟨xs, h1, h2⟩ := Option.bind_eq_some_iff.mp hx
    cases r with
    | cons r t =>
      cases t
      obtain ⟨a, vs, rfl, ha, ra⟩ := lk_at st r h1
      obtain rfl := blsOf_v ra h2
      exact cr_all hc pins s σ H _ us Q I rv ⟨a, ns, rfl, .inl (.inl ha), q _ H (Same.refl H) (.d (.bl _))⟩
  · cases hg
/-! ### isinstance -/
def isT (T : String) : PyData → Bool := fun d => match T with
  | "int" => d.isInt
  | "bool" => d.isBool
  | "str" => d.isStr
  | "tuple" => d.isTuple
  | "list" => d.isList
  | _ => false
def mIsi (T : String) (f : EM) : EM := fun ρ S => (f ρ S).andThen fun d S1 => match rf S1 d with
  | some x => if dp 60 x = true then .ok (.d (.bool (isT T x))) S1 else .no
  | none => .no
/-- what the library says of T -/
def IsiOk (X : Cx) (T : String) : Prop := ∀ (s : Shared) (v : Value) (d : PyData) (as : List Addr) (Q : Value → Shared → Prop) (E : Value → Shared → Prop), Reads s.heap v d as → (∀ tk, s.toks ≤ tk → Q (.bool (isT T d)) { s with toks := tk }) → wpAny (model X.prog X.w) X.A (call (.builtin "isinstance") [v, .type T]) Q E s
theorem isi_int : IsiOk X "int" := fun _ _ _ _ _ _ r h => PySem.W.isinstance_int_data r h
theorem isi_bool : IsiOk X "bool" := fun _ _ _ _ _ _ r h => PySem.W.isinstance_bool_data r h
theorem isi_str : IsiOk X "str" := fun _ _ _ _ _ _ r h => PySem.W.isinstance_str_data r h
theorem isi_tuple : IsiOk X "tuple" := fun _ _ _ _ _ _ r h => PySem.W.isinstance_tuple_data r h
theorem isi_list : IsiOk X "list" := fun _ _ _ _ _ _ r h => PySem.W.isinstance_list_data r h
theorem pm_isi {y : Str} {py : Pos} {fa : EM} (ok : IsiOk X T) (hg : Gl X "isinstance") (hm : X.mg "isinstance" = none) (hgy : Gl X y) (hmy : X.mg y = none) (hvy : bootBuiltins y = some (.type T)) (ha : PM X W e fa) (hny : y ≠ "__name__" := by decide) (hdy : (y == ("__debug__" : Str)) = false := by decide)
    (he : starEach (e :: [.Name y py]) X.env = (false, eval e X.env) :: starEach [.Name y py] X.env := by rfl) (he2 : starEach (.Name y py :: []) X.env = (false, eval (.Name y py) X.env) :: starEach [] X.env := by rfl) (hpl : (backTo pos (starEach [.Name y py] X.env)).any (·.1) = false := by rfl) :
    PM X W (.Call (.Name "isinstance" p) [e, .Name y py] [] pos) (mIsi T fa) := by
  have hc : CallR X (.builtin "isinstance") (fun vs H Q => ∃ (x : V) (d : PyData), vs = [x, .ty T] ∧ d.plain = true ∧ Rp X.K H [] d x ∧ Q (.bl (isT T d)) H) := by
    intro pins s σ H vs us Q I rv ⟨x, d, ev, pd, rd, q⟩
    subst ev
    obtain ⟨u, w', rfl, r1, r2⟩ := vals2 rv
    cases r2
    obtain ⟨as, rr⟩ := reads_of I pd rd r1
    exact ok s u d as _ _ rr fun tk _ => ⟨.bl _, H, I.tok tk, rfl, q⟩
  refine PE.imp (pe_callB hc hg hm (by decide +kernel) (pa_cons ha (pa_cons (pe_bltn (v := .ty T) hgy hmy hvy rfl hny hdy) pa_nil he2) he) (by decide) (by decide) he hpl) fun σ H Q ⟨O, L, S, ρ, a, h⟩ => ?_
  refine tM.part a h fun d v S1 L1 H1 a1 e1 r1 h1 => ?_
  show ∃ (x : V) (d : PyData), [v, V.ty T] = [x, .ty T] ∧ d.plain = true ∧ Rp X.K H1 [] d x ∧ Q (.bl (isT T d)) H1
  cases hr : rf S1 d with
  | none => simp only [hr] at h1; exact h1.elim
  | some y =>
    simp only [hr] at h1
    obtain ⟨hd, h1⟩ := ite_of h1
    exact ⟨v, y, rfl, (dp_plain _ _ hd).1, rf_rp a1.st r1 hr, h1 H1 L1 (Ext.refl _ _) a1.st _ (.d (.bl _))⟩
/-! ### xs.append(e), xs.pop() -/
def mApp (fo fa : EM) : EM := fun ρ S => (fo ρ S).andThen fun o S1 => match o with
  | .r i => match S1[i]? with
    | some (.lst _) => (fa ρ S1).andThen fun y S2 => match y with
      | .d y => match S2[i]? with
        | some (.lst xs) => if xs.length < sizeLine then .ok (.d .none) (S2.set i (.lst (xs ++ [y]))) else .no
        | _ => .no
      | _ => .no
    | _ => .no
  | _ => .no
theorem pm_app {o : Expr} {apos cpos : Pos} {fo fa : EM} (ho : PM X W o fo) (ha : PM X W e fa) (hs : starEach (e :: []) X.env = (false, eval e X.env) :: starEach [] X.env := by rfl)
    (hbase : attributeBase o "append" X.env (eval o X.env) = eval o X.env := by rfl)
    (hfew : ((backTo cpos (starEach (e :: []) X.env)).all (fun x => !x.1) && (backToKw cpos (keywordEach [] X.env)).all (fun x => x.1.isSome)
      && decide ((e :: []).length + ([] : List Keyword).length + (if ([] : List Keyword).isEmpty then 0 else 1) < 30)) = true := by rfl)
    (hline : (apos.endLine == cpos.line) = true := by rfl) (hplain : (backTo cpos (starEach [] X.env)).any (·.1) = false := by rfl) :
    PM X W (.Call (.Attribute o "append" apos) [e] [] cpos) (mApp fo fa) :=
  PE.imp (pe_bm PySem.F.plainAttrs_list PySem.F.slot_list_append PySem.F.type_list_append mt_append ho (pa_cons ha pa_nil hs) hbase hfew hline hs hplain) fun σ H Q ⟨O, L, S, ρ, a, h⟩ => by
    refine tM.part a h fun d v S1 L1 H1 a1 e1 r1 h1 => ?_
    cases d with
    | r i =>
      cases r1 with
      | @r _ b hb =>
        cases hk : S1[i]? with
        | none => simp only [hk] at h1; exact h1.elim
        | some c =>
          cases c with
          | lst xs0 =>
            simp only [hk] at h1
            cases a1.st.cell i _ b hk hb with
            | @lst _ vs0 q1 q2 =>
              refine ⟨.inl ⟨rfl, vs0, .inl (.inl q1)⟩, ?_⟩
              refine tM.part a1 h1 fun y w S2 L2 H2 a2 e2 r2 h2 => ?_
              cases y with
              | d y =>
                have hb2 := e2.pre i b hb
                cases hk2 : S2[i]? with
                | none => simp only [hk2] at h2; exact h2.elim
                | some c2 =>
                  cases c2 with
                  | lst xs =>
                    simp only [hk2] at h2
                    obtain ⟨hz, h2⟩ := ite_of h2
                    cases a2.st.cell i _ b hk2 hb2 with
                    | @lst _ vs q1 q2 =>
                      cases r2 with
                      | d r2 =>
                        refine ⟨b, vs, w, rfl, rfl, q1, by rw [← q2.length]; exact hz, ?_⟩
                        refine h2 _ L2 (Ext.upd hb2) (a2.st.upd hb2 (.lst upd_same ?_)) _ (.d .non)
                        have kk := (Ext.upd (H := H2) (o := .lst (vs ++ [w])) hb2).kp (O := O)
                        exact RpL.append (RpL.mono kk _ _ q2) (.cons (Rp.mono kk _ _ r2) .nil)
                  | dct _ => simp only [hk2] at h2; exact h2.elim
                  | ins _ _ => simp only [hk2] at h2; exact h2.elim
                  | mem _ _ => simp only [hk2] at h2; exact h2.elim
              | r _ => exact h2.elim
              | s _ => exact h2.elim
          | dct _ => simp only [hk] at h1; exact h1.elim
          | ins _ _ => simp only [hk] at h1; exact h1.elim
          | mem _ _ => simp only [hk] at h1; exact h1.elim
    | d _ => exact h1.elim
    | s _ => exact h1.elim
/-! ### xs[i] = e, d[k] = e -/
def putD (kvs : List (Key × PyData)) (k : Key) (v : PyData) : List (Key × PyData) :=
  if kvs.any (fun kv => decide (kv.1 = k)) then kvs.map fun kv => if kv.1 = k then (kv.1, v) else kv else kvs ++ [(k, v)]
def gSet (S : Store) (o x y : D) : Option Store := match o, y with
  | .r i, .d y => match S[i]? with
    | some (.lst xs) => (intOf x).bind fun n => (ixN xs.length n).map fun j => S.set i (.lst (xs.set j y))
    | some (.dct kvs) => (keyOf x).bind fun k => if kvs.length < sizeLine then some (S.set i (.dct (putD kvs k y))) else none
    | _ => none
  | _, _ => none
def rSet (K : PySem.W.Frag) (mg : MG) : V → V → V → Hp → (Hp → Prop) → Prop := fun o x y H Q => ∃ (O L : List Addr) (S S' : Store) (do' dx dy : D), Sto K mg H O L S ∧ RD K H O L do' o ∧ RD K H O L dx x ∧ RD K H O L dy y ∧ gSet S do' dx dy = some S' ∧ ∀ H', Ext L H L H' → Sto K mg H' O L S' → Q H'
theorem RQ.length {K : PySem.W.Frag} {H : Hp} {B : List Addr} : ∀ {ds : List (Key × PyData)} {vs : List (Key × V)}, RQ K H B ds vs → ds.length = vs.length
  | _, _, .nil => rfl
  | _, _, .cons _ t => by rw [List.length_cons, List.length_cons, RQ.length t]
theorem RQ.any {K : PySem.W.Frag} {H : Hp} {B : List Addr} (k : Key) : ∀ {ds : List (Key × PyData)} {vs : List (Key × V)}, RQ K H B ds vs → (ds.any fun kv => decide (kv.1 = k)) = vs.any fun kv => decide (kv.1 = k)
  | _, _, .nil => rfl
  | _, _, .cons _ t => by rw [List.any_cons, List.any_cons, RQ.any k t]
theorem RQ.put {K : PySem.W.Frag} {H : Hp} {B : List Addr} (k : Key) {d : PyData} {v : V} (r : Rp K H B d v) {ds : List (Key × PyData)} {vs : List (Key × V)} (h : RQ K H B ds vs) : RQ K H B (putD ds k d) (putK vs k v) := by
  have m : ∀ {ds : List (Key × PyData)} {vs : List (Key × V)}, RQ K H B ds vs → RQ K H B (ds.map fun kv => if kv.1 = k then (kv.1, d) else kv) (vs.map fun kv => if kv.1 = k then (kv.1, v) else kv) := by
    intro ds vs h
    induction h with
    | nil => exact .nil
    | @cons j d' v' ds vs r' t ih =>
      rw [List.map_cons, List.map_cons]
      by_cases hj : j = k
      · rw [if_pos hj, if_pos hj]; exact .cons r ih
      · rw [if_neg hj, if_neg hj]; exact .cons r' ih
  have ap : ∀ {ds : List (Key × PyData)} {vs : List (Key × V)}, RQ K H B ds vs → RQ K H B (ds ++ [(k, d)]) (vs ++ [(k, v)]) := by
    intro ds vs h
    induction h with
    | nil => exact .cons r .nil
    | cons r' t ih => exact .cons r' ih
  unfold putD putK
  rw [h.any k]
  by_cases hc : (vs.any fun kv => decide (kv.1 = k)) = true
  · rw [if_pos hc, if_pos hc]; exact m h
  · rw [if_neg hc, if_neg hc]; exact ap h
theorem set_all (hu : X.A.units + 1 < cLine) : PSet X (rSet X.K X.mg) := by
  intro pins s σ H o x y ov iv u Q I ro rx ry ⟨O, L, S, S', do', dx, dy, st, r1, r2, r3, hg, q⟩
  unfold gSet at hg
  split at hg
  · rename_i i y'
    cases r1 with
    | @r _ b hb =>
      cases r3 with
      | d r3 =>
        cases hk : S[i]? with
        | none => simp only [hk] at hg; cases hg
        | some c =>
          cases c with
          | lst xs =>
            simp only [hk] at hg
            obtain ⟨n, h1, h2⟩ := Option.bind_eq_some_iff.mp hg
            obtain ⟨j, h3, rfl⟩ := map_some h2
            obtain rfl := intOf_v r2 h1
            cases st.cell i _ b hk hb with
            | @lst _ vs q1 q2 =>
              refine set_list pins s σ H _ _ _ ov iv u Q I ro rx ry ⟨b, vs, n, j, rfl, rfl, q1, by rw [← q2.length]; exact h3, q _ (Ext.upd hb) (st.upd hb (.lst upd_same ?_))⟩
              have kk := (Ext.upd (H := H) (o := .lst (vs.set j y)) hb).kp (O := O)
              exact RpL.set (Rp.mono kk _ _ r3) j (RpL.mono kk _ _ q2)
          | dct kvs =>
            simp only [hk] at hg
            obtain ⟨k, h1, h2⟩ := Option.bind_eq_some_iff.mp hg
            obtain ⟨hz, rfl⟩ := some_of_ite h2
            obtain rfl := keyOf_v r2 h1
            cases st.cell i _ b hk hb with
            | @dct _ vs q1 q2 =>
              cases ro
              refine d_setItem hu I (DPut.k q1 (by rw [← q2.length]; exact hz)) rx ry fun s' I' => ⟨_, I', q _ (Ext.upd hb) (st.upd hb (.dct upd_same ?_))⟩
              have kk := (Ext.upd (H := H) (o := .dK (putK vs k y)) hb).kp (O := O)
              exact RQ.put k (Rp.mono kk _ _ r3) (q2.mono kk)
          | ins _ _ => simp only [hk] at hg; cases hg
          | mem _ _ => simp only [hk] at hg; cases hg
  · cases hg
def sSub (fo fi fe : EM) : SM := fun ρ S => SR.ofE (fe ρ S) ρ fun y S1 => SR.ofE (fo ρ S1) ρ fun o S2 => SR.ofE (fi ρ S2) ρ fun x S3 => match gSet S3 o x y with
  | some S' => .nx ρ S'
  | none => .no
theorem pms_sub {o i : Expr} {tpos : Pos} {fo fi fe : EM} (hu : X.A.units + 1 < cLine) (ho : PM X W o fo) (hi : PM X W i fi) (he : PM X W e fe)
    (ha : ∀ v, assign (.Subscript o i tpos) X.env v = (do
      let ov ← holding [v] (eval o X.env)
      let iv ← holding [v, ov] (eval i X.env)
      standAt tpos
      holding [v, ov, iv] (setItem ov iv v)
      release [v, ov, iv] []) := by intro _; rfl)
    (hs : swapsWithSole [.Subscript o i tpos] e pos.line X.env = pure false := by rfl) (hw : swappedStores [.Subscript o i tpos] e X.env = pure none := by rfl)
    (h1 : (assignEach [.Subscript o i tpos] X.env).map (·.2) = [assign (.Subscript o i tpos) X.env] := by rfl) : PMS X W (.Assign [.Subscript o i tpos] e pos) (sSub fo fi fe) :=
  PS.imp (ps_asg he (pg_sub ho hi (set_all hu) ha) hs hw h1) fun Dn σ H ⟨O, L, S, ρ, a, h⟩ => by
    refine tM.stmt a h fun y v S1 L1 H1 a1 e1 r1 h1 => ?_
    refine tM.stmt a1 h1 fun o w S2 L2 H2 a2 e2 r2 h2 => ?_
    refine tM.stmt a2 h2 fun x z S3 L3 H3 a3 e3 r3 h3 => ?_
    cases hg : gSet S3 o x y with
    | none => simp only [hg] at h3; exact h3.elim
    | some S' =>
      simp only [hg] at h3
      exact ⟨O, L3, S3, S', o, x, y, a3.st, r2.mono e3, r3, r1.mono (e2.trans e3), hg, fun H' e' st' => h3 σ H' L3 e' (a3.mono e' st')⟩
end
end Sky
end
section
/-! Lay9: defs of the text: what they promise, their calls. -/
namespace Sky
open PySem PySem.Spec PyProof.Rows L2
abbrev Fn := List D → Store → Res D
/-- n arguments; the answer is F's -/
def spM (K : PySem.W.Frag) (mg : MG) (n : Nat) (F : Fn) : Sp := fun vs H Q E => vs.length = n ∧ ∃ (O L : List Addr) (S : Store) (ds : List D), RDL K H O L ds vs ∧ Sto K mg H O L S ∧ EndG K mg (fun c d _ H => E c d H) O L H [] (fun d _ L' H' => ∀ v, RD K H' O L' d v → Q v H') (F ds S)
def pad (n : Nat) (ds : List D) : Env := ds.map some ++ List.replicate (n - ds.length) none
def runF (n : Nat) (body : SM) : Fn := fun ds S => match body (pad n ds) S with
  | .nx _ S' => .ok (.d .none) S'
  | .rt d S' => .ok d S'
  | .ex e _ S' => .exc e S'
  | _ => .no
def runP (n : Nat) (body : SM) (xs : List PyData) : Option PyData := match body (pad n (xs.map .d)) [] with
  | .nx _ _ => some .none
  | .rt d S' => rf S' d
  | _ => none
def pureF (F : List PyData → Option PyData) : Fn := fun ds S => match allD ds with
  | some xs => Res.of ((F xs).map .d) S
  | none => .no
def runD (n : Nat) (body : SM) (dk xs : List PyData) : Option (PyData × List PyData) := match body (pad n (.r 0 :: xs.map .d)) [.lst dk] with
  | .nx _ S' => match (S'[0]? : Option Cell) with
    | some (.lst dk') => some (.none, dk')
    | _ => none
  | .rt d S' => match (S'[0]? : Option Cell), d with
    | some (.lst dk'), .d x => some (x, dk')
    | some (.lst dk'), .r (i + 1) => (rf S' (.r (i + 1))).map fun x => (x, dk')
    | _, _ => none
  | _ => none
def deckF (F : List PyData → List PyData → Option (PyData × List PyData)) : Fn := fun ds S => match ds with
  | .r i :: rest => match S[i]?, allD rest with
    | some (.lst dk), some xs => match F dk xs with
      | some (x, dk') => .ok (.d x) (S.set i (.lst dk'))
      | none => .no
    | _, _ => .no
  | _ => .no
section
variable {K : PySem.W.Frag} {mg : MG} {H : Hp} {O L : List Addr}
theorem re_pad {N : List Str} : ∀ {ds : List D} {vs : List V}, RDL K H O L ds vs → ∀ n, RE K H O L (ds.map some ++ List.replicate n none) (vs.map some ++ List.replicate n none)
  | _, _, .nil, n => by
    show RE K H O L (List.replicate n none) (List.replicate n none)
    induction n with
    | zero => exact .nil
    | succ n ih => rw [List.replicate_succ, List.replicate_succ]; exact .unk ih
  | _, _, .cons r t, n => .cons r (re_pad (N := N) t n)
theorem re_start {N : List Str} {ds : List D} {vs : List V} (r : RDL K H O L ds vs) : RE K H O L (pad N.length ds) (L2.start N vs) := by
  unfold pad L2.start
  rw [r.length]
  exact re_pad (N := N) r _
end
section
variable {P : Program} {w : World} {K : PySem.W.Frag} {mg : MG} {base : Heap}
abbrev WE0 (E : XK) : WX := fun c d _ H => E c d H
/-- what a body's walk may use -/
structure Cw (X : Cx) (W : WX) (k : Nat) : Prop where
  calm : X.calm = true
  nd : X.N.Nodup
  room : Room k X.A
  tk : Takes X W
  own : PassesOwn (model X.prog X.w) X.A X.env X.xe
theorem Cw.hu {X : Cx} {W : WX} {k : Nat} (c : Cw X W k) : X.A.units + 64 < cLine := c.room.units
theorem Cw.hu1 {X : Cx} {W : WX} {k : Nat} (c : Cw X W k) : X.A.units + 1 < cLine := by have := c.room.units; omega
def BodyOk (P : Program) (w : World) (K : PySem.W.Frag) (mg : MG) (base : Heap) (k : Nat) (N : List Str) (qual : Str) (st : Stmt) (body : SM) : Prop :=
  ∀ (f : Addr) (cdv : Value) (A : Around) (outer : List PySem.Env) (s : Shared) (H : Hp) (E : XK), Cw (cxOf (L2.CX P w) P w K mg base N qual (defScope st) f cdv A outer s H E) (WE0 E) k →
    PSs (cxOf (L2.CX P w) P w K mg base N qual (defScope st) f cdv A outer s H E) (defBody st) (tS K mg (WE0 E) body)
theorem cw_of {N : List Str} {qual : Str} {st : Stmt} {f : Addr} {cdv : Value} {A : Around} {outer : List PySem.Env} {s : Shared} {H : Hp} {E : XK} {k : Nat} {ps : List Str} (S : FnScope N ps (defScope st)) (hr : Room k (A.deeper (envOfC qual (defScope st) s.heap.objs.size f cdv))) :
    Cw (cxOf (L2.CX P w) P w K mg base N qual (defScope st) f cdv A outer s H E) (WE0 E) k :=
  ⟨rfl, S.nd, hr, takes_of rfl rfl rfl rfl, passes_of rfl⟩
theorem fn_full {x qual : Str} {st : Stmt} {f : Addr} {fd : FuncData} {N ps : List Str} {k n : Nat} {body : SM} (F : Fun K x qual st f fd) (S : FnScope N ps (defScope st)) (hn : N.length = n) (h : BodyOk P w K mg base k N qual st body) :
    FnOk P w K mg base (L2.CX P w) (k + 1) f fd ps (spM K mg ps.length (runF n body)) := by
  subst hn
  refine F.okX S (fun vs H Q E q => q.1) fun cdv A outer s H vs Q E hr q => ⟨_, h f cdv A outer s H E (cw_of S hr), ?_⟩
  obtain ⟨hl, O, L, S, ds, rdl, st, he⟩ := q
  refine ⟨O, L, S, pad N.length ds, ⟨re_start rdl, st⟩, ?_⟩
  unfold runF at he
  cases hb : body (pad N.length ds) S with
  | nx ρ S' => rw [hb] at he; exact fun σ' H' L' e a => he H' L' e a.st _ (.d .non)
  | rt d S' => rw [hb] at he; exact fun v H' L' e st r => he H' L' e st v r
  | bk ρ S' => rw [hb] at he; exact he.elim
  | ct ρ S' => rw [hb] at he; exact he.elim
  | ex x ρ S' => rw [hb] at he; exact fun C dd σ' H' L' hm e a hx => he C dd H' L' hm e a.st hx
  | no => rw [hb] at he; exact he.elim
theorem ext_nil {L1 : List Addr} {H H' : Hp} (e : Ext [] H L1 H') : Same H H' := fun a o q => e.keep a o q (by simp)
theorem rp_sub {H : Hp} {B B' : List Addr} {x : PyData} {v : V} (h : ∀ a, a ∈ B' → a ∈ B) (r : Rp K H B x v) : Rp K H B' x v := Rp.mono (Kp.sub h) _ _ r
theorem rpl_sub {H : Hp} {B B' : List Addr} {x : List PyData} {v : List V} (h : ∀ a, a ∈ B' → a ∈ B) (r : RpL K H B x v) : RpL K H B' x v := RpL.mono (Kp.sub h) _ _ r
theorem rq_sub {H : Hp} {B B' : List Addr} {x : List (Key × PyData)} {v : List (Key × V)} (h : ∀ a, a ∈ B' → a ∈ B) (r : RQ K H B x v) : RQ K H B' x v := r.mono (Kp.sub h)
/-- a cell's content as a value: a is not banned -/
theorem rf_new {H : Hp} {O L : List Addr} {S : Store} {d : D} {v : V} {x : PyData} {B : List Addr} (st : Sto K mg H O L S) (r : RD K H O L d v) (h : rf S d = some x) (hB : ∀ a, a ∈ B → a ∈ O ++ L) (hn : ∀ (i : Nat) (a : Addr), d = .r i → L[i]? = some a → a ∉ B) : Rp K H B x v := by
  cases r with
  | d r => cases h; exact rp_sub hB r
  | @r i a hi =>
    replace h : (match S[i]? with | some (.lst xs) => some (PyData.list xs) | _ => none) = some x := h
    cases q : S[i]? with
    | none => rw [q] at h; cases h
    | some c =>
      rw [q] at h
      have k := st.cell i c a q hi
      cases c with
      | lst ys =>
        cases h
        cases k with
        | lst h1 h2 => exact .lst h1 (hn i a rfl hi) (rpl_sub hB h2)
      | dct _ => cases h
      | ins _ _ => cases h
      | mem _ _ => cases h
  | s _ => cases h
theorem rdl_allD {H : Hp} {O L O' L' : List Addr} {ds : List D} {vs : List V} {xs : List PyData} (k : ∀ a, a ∈ O' ++ L' → a ∈ O ++ L) : RDL K H O L ds vs → allD ds = some xs → RDL K H O' L' (xs.map .d) vs := fun r h => by
  have q := allD_rp r h
  have go : ∀ {xs : List PyData} {vs : List V}, RpL K H (O ++ L) xs vs → RDL K H O' L' (xs.map .d) vs := by
    intro xs
    induction xs with
    | nil => intro vs z; cases z; exact .nil
    | cons x xs ih => intro vs z; cases z with | cons z1 z2 => exact .cons (.d (rp_sub k z1)) (ih z2)
  exact go q
theorem fn_pure {x qual : Str} {st : Stmt} {f : Addr} {fd : FuncData} {N ps : List Str} {k n : Nat} {body : SM} (F : Fun K x qual st f fd) (S : FnScope N ps (defScope st)) (hn : N.length = n) (h : BodyOk P w K mg base k N qual st body) :
    FnOk P w K mg base (L2.CX P w) (k + 1) f fd ps (spM K mg ps.length (pureF (runP n body))) := by
  subst hn
  refine F.okX S (fun vs H Q E q => q.1) fun cdv A outer s H vs Q E hr q => ⟨_, h f cdv A outer s H E (cw_of S hr), ?_⟩
  obtain ⟨hl, O, L, S, ds, rdl, st, he⟩ := q
  unfold pureF at he
  cases ha : allD ds with
  | none => rw [ha] at he; exact he.elim
  | some xs =>
    rw [ha] at he
    obtain ⟨d0, h0, he⟩ := EndG.of_some he
    obtain ⟨r, hr0, rfl⟩ := map_some h0
    have st0 : Sto K mg H (O ++ L) [] [] := ⟨rfl, List.nodup_nil, fun i c a z _ => by simp at z, fun a z => (List.mem_append.mp z).elim (st.out a) (st.cellAt)⟩
    refine ⟨O ++ L, [], [], pad N.length (xs.map .d), ⟨re_start (rdl_allD (by simp) rdl ha), st0⟩, ?_⟩
    unfold runP at hr0
    have fin : ∀ {v : V} {H' : Hp} {L1 : List Addr}, Ext [] H L1 H' → Rp K H' (O ++ L) r v → Q v H' := fun {v H' L1} e rp => he H' L (Same.ext (ext_nil e)) (st.same (ext_nil e)) v (.d rp)
    cases hb : body (pad N.length (xs.map .d)) [] with
    | nx ρ S' => rw [hb] at hr0; cases hr0; exact fun σ' H' L' e a => fin e .non
    | rt d S' =>
      rw [hb] at hr0
      refine fun v H' L' e st' rd => fin e (rf_new st' rd hr0 (fun a z => List.mem_append_left _ z) fun i a ed hi z => ?_)
      obtain ⟨o, ho⟩ := st0.out a z
      rcases e.new a (List.mem_of_getElem? hi) with q | q
      · cases q
      · rw [ho] at q; cases q
    | bk ρ S' => rw [hb] at hr0; cases hr0
    | ct ρ S' => rw [hb] at hr0; cases hr0
    | ex x ρ S' => rw [hb] at hr0; cases hr0
    | no => rw [hb] at hr0; cases hr0
theorem fn_deck {x qual : Str} {st : Stmt} {f : Addr} {fd : FuncData} {N ps : List Str} {k n : Nat} {body : SM} (F : Fun K x qual st f fd) (S : FnScope N ps (defScope st)) (hn : N.length = n) (h : BodyOk P w K mg base k N qual st body) :
    FnOk P w K mg base (L2.CX P w) (k + 1) f fd ps (spM K mg ps.length (deckF (runD n body))) := by
  subst hn
  refine F.okX S (fun vs H Q E q => q.1) fun cdv A outer s H vs Q E hr q => ⟨_, h f cdv A outer s H E (cw_of S hr), ?_⟩
  obtain ⟨hl, O, L, S, ds, rdl, st, he⟩ := q
  unfold deckF at he
  cases rdl with
  | nil => exact he.elim
  | @cons d v ds vs r rdl =>
    cases r with
    | d _ => exact he.elim
    | s _ => exact he.elim
    | @r i a hi =>
      cases hk : S[i]? with
      | none => simp only [hk] at he; exact he.elim
      | some c =>
        cases c with
        | dct _ => simp only [hk] at he; exact he.elim
        | ins _ _ => simp only [hk] at he; exact he.elim
        | mem _ _ => simp only [hk] at he; exact he.elim
        | lst dk =>
          cases ha : allD ds with
          | none => simp only [hk, ha] at he; exact he.elim
          | some xs =>
            simp only [hk, ha] at he
            cases hF : runD N.length body dk xs with
            | none => simp only [hF] at he; exact he.elim
            | some q =>
              obtain ⟨x, dk'⟩ := q
              simp only [hF] at he
              have sub : ∀ b, b ∈ (O ++ L) ++ [a] → b ∈ O ++ L := fun b z => (List.mem_append.mp z).elim id fun z => by
                rw [List.mem_singleton.mp z]; exact List.mem_append_right _ (List.mem_of_getElem? hi)
              have st0 : Sto K mg H (O ++ L) [a] [.lst dk] := by
                refine ⟨rfl, by simp, fun j c b z1 z2 => ?_, fun b z => (List.mem_append.mp z).elim (st.out b) (st.cellAt)⟩
                cases j with
                | zero =>
                  cases z1
                  cases z2
                  cases st.cell i _ a hk hi with
                  | lst q1 q2 => exact .lst q1 (rpl_sub sub q2)
                | succ j => simp at z1
              refine ⟨O ++ L, [a], [.lst dk], pad N.length (.r 0 :: xs.map .d), ⟨re_start (.cons (.r rfl) (rdl_allD sub rdl ha)), st0⟩, ?_⟩
              -- the end
              have fin : ∀ {v : V} {H' : Hp} {L1 : List Addr} {S1 : Store}, Ext [a] H L1 H' → Sto K mg H' (O ++ L) L1 S1 → S1[0]? = some (.lst dk') → Rp K H' (O ++ L) x v → Q v H' := fun {v H' L1 S1} e st1 h0 rp => by
                have eL : Ext L H L H' := ⟨fun _ _ z => z, fun _ z => .inl z, fun b o z n => e.keep b o z fun z2 => n (by rw [List.mem_singleton.mp z2]; exact List.mem_of_getElem? hi)⟩
                have hz : L1[0]? = some a := e.pre 0 a rfl
                refine he H' L eL ⟨by rw [List.length_set]; exact st.len, st.nd, fun j c b z1 z2 => ?_, fun b z => ?_⟩ v (.d rp)
                · by_cases hj : i = j
                  · subst hj
                    rw [hi] at z2
                    cases z2
                    rw [List.getElem?_set_self (by rw [← st.len]; exact (List.getElem?_eq_some_iff.mp hi).1)] at z1
                    cases z1
                    cases st1.cell 0 _ a h0 hz with
                    | lst q1 q2 => exact .lst q1 (rpl_sub (fun b z => List.mem_append_left _ z) q2)
                  · rw [List.getElem?_set_ne hj] at z1
                    have nb : b ≠ a := fun z => hj ((List.getElem?_inj (List.getElem?_eq_some_iff.mp hi).1 st.nd).mp (by rw [hi, z2, z]))
                    have ck := st.cell j c b z1 z2
                    obtain ⟨o, ho⟩ := ck.there
                    exact ck.mono eL (by rw [ho]; exact e.keep b o ho (by simpa using nb))
                · by_cases hb : b = a
                  · rw [hb]; exact st1.cellAt (List.mem_of_getElem? hz)
                  · obtain ⟨o, ho⟩ := st.out b z
                    exact ⟨o, e.keep b o ho (by simpa using hb)⟩
              unfold runD at hF
              cases hb : body (pad N.length (.r 0 :: xs.map .d)) [.lst dk] with
              | nx ρ S' =>
                rw [hb] at hF
                refine fun σ' H' L' e a' => ?_
                cases h0 : S'[0]? with
                | none => simp only [h0] at hF; cases hF
                | some c =>
                  cases c with
                  | lst dk2 => simp only [h0] at hF; cases hF; exact fin e a'.st h0 .non
                  | dct _ => simp only [h0] at hF; cases hF
                  | ins _ _ => simp only [h0] at hF; cases hF
                  | mem _ _ => simp only [h0] at hF; cases hF
              | rt d S' =>
                rw [hb] at hF
                refine fun v H' L' e st' rd => ?_
                cases h0 : S'[0]? with
                | none => simp only [h0] at hF; cases hF
                | some c =>
                  cases c with
                  | lst dk2 =>
                    cases d with
                    | d y =>
                      simp only [h0] at hF
                      cases hF
                      cases rd with
                      | d rd => exact fin e st' h0 (rp_sub (fun b z => List.mem_append_left _ z) rd)
                    | s _ => simp only [h0] at hF; cases hF
                    | r j =>
                      cases j with
                      | zero => simp only [h0] at hF; cases hF
                      | succ j =>
                        simp only [h0] at hF
                        obtain ⟨y, hy, e2⟩ := map_some hF
                        injection e2 with e3 e4
                        subst e3
                        subst e4
                        refine fin e st' h0 (rf_new st' rd hy (fun b z => List.mem_append_left _ z) fun i' b ed hi' z => ?_)
                        cases ed
                        obtain ⟨o, ho⟩ := st0.out b z
                        rcases e.new b (List.mem_of_getElem? hi') with q | q
                        · rw [List.mem_singleton.mp q] at hi'
                          have := (List.getElem?_inj (List.getElem?_eq_some_iff.mp hi').1 st'.nd).mp (hi'.trans (e.pre 0 a rfl).symm)
                          omega
                        · rw [ho] at q; cases q
                  | dct _ => simp only [h0] at hF; cases hF
                  | ins _ _ => simp only [h0] at hF; cases hF
                  | mem _ _ => simp only [h0] at hF; cases hF
              | bk ρ S' => rw [hb] at hF; cases hF
              | ct ρ S' => rw [hb] at hF; cases hF
              | ex x ρ S' => rw [hb] at hF; cases hF
              | no => rw [hb] at hF; cases hF
/-! ### calls -/
/-- the def of that name keeps F's promise by at most level k -/
def FM (P : Program) (w : World) (K : PySem.W.Frag) (mg : MG) (base : Heap) (k : Nat) (x : Str) (n : Nat) (F : Fn) : Prop :=
  ∃ (f : Addr) (fd : FuncData) (ps : List Str), mg x = some (.ref f) ∧ PySem.W.keepIn K (.ref f) = true ∧ Binds K fd ps [] ∧ FnOk P w K mg base (L2.CX P w) k f fd ps (spM K mg n F)
theorem FM.mono {j k : Nat} {x : Str} {n : Nat} {F : Fn} (h : FM P w K mg base j x n F) (l : j ≤ k) : FM P w K mg base k x n F := by
  obtain ⟨f, fd, ps, h1, h2, h3, h4⟩ := h
  exact ⟨f, fd, ps, h1, h2, h3, h4.mono l⟩
def mCall (n : Nat) (F : Fn) (fs : AM) : EM := fun ρ S => (fs ρ S).andThen fun ds S1 => if ds.length = n then F ds S1 else .no
variable {X : Cx} {W : WX} {x : Str} {p pos : Pos} {e : Expr} {es : List Expr} {fs : AM} {F : Fn} {n k : Nat}
theorem pm_call (c : Cw X W k) (h : FM X.prog X.w X.K X.mg X.base k x n F) (ha : PMA X W (e :: es) fs) (hg : Gl X x := by rfl)
    (hdb : (x == ("__debug__" : Str)) = false := by decide) (he : starEach (e :: es) X.env = (false, eval e X.env) :: starEach es X.env := by rfl) (hpl : (backTo pos (starEach es X.env)).any (·.1) = false := by rfl) : PM X W (.Call (.Name x p) (e :: es) [] pos) (mCall n F fs) := by
  obtain ⟨f, fd, ps, hm, hk, hb, ok⟩ := h
  refine PE.imp (pe_callSD (E := fun σ c d H => W c d σ H) ok c.room hg hm hk hb .nil (fun σ => fun pins H s e s' I cx => c.tk e s' (XE.of_call I (fun cls d H' h => h) cx)) ha hdb he hpl) fun σ H Q ⟨O, L, S, ρ, a, h⟩ => ?_
  refine tA.part a h fun ds vs S1 L1 H1 a1 e1 r1 h1 => ?_
  obtain ⟨hl, h1⟩ := ite_of h1
  show spM X.K X.mg n F (vs ++ []) H1 Q fun c d H => W c d σ H
  rw [List.append_nil]
  refine ⟨by rw [← r1.length]; exact hl, O, L1, S1, ds, r1, a1.st, ?_⟩
  cases hF : F ds S1 with
  | ok d S2 => rw [hF] at h1; exact h1
  | exc x S2 => rw [hF] at h1; exact h1
  | no => rw [hF] at h1; exact h1
/-- a comprehension's block -/
theorem Cw.blk (c : Cw X W k) {s : Shared} {H : Hp} {scope : Scope} {cenv : PySem.Env} {fp : List Addr} : Cw (X.blk s H scope cenv fp) W0 k :=
  ⟨c.calm, c.nd, c.room, takes0, PassesOwn.never⟩
/-- a def as it stands behind the top -/
def TX (K : PySem.W.Frag) (mg : MG) (x qual : Str) (st : Stmt) (ps : List Str) : Prop := ∃ (f : Addr) (fd : FuncData), Fun K x qual st f fd ∧ mg x = some (.ref f) ∧ Binds K fd ps []
variable {qual : Str} {st : Stmt} {N ps : List Str} {body : SM} {m : Nat}
theorem fm_full (T : TX K mg x qual st ps) (S : FnScope N ps (defScope st)) (hn : N.length = n) (hm : ps.length = m) (h : BodyOk P w K mg base k N qual st body) : FM P w K mg base (k + 1) x m (runF n body) := by
  obtain ⟨f, fd, F, g, b⟩ := T
  subst hm
  exact ⟨f, fd, ps, g, F.kp, b, fn_full F S hn h⟩
theorem fm_pure (T : TX K mg x qual st ps) (S : FnScope N ps (defScope st)) (hn : N.length = n) (hm : ps.length = m) (h : BodyOk P w K mg base k N qual st body) : FM P w K mg base (k + 1) x m (pureF (runP n body)) := by
  obtain ⟨f, fd, F, g, b⟩ := T
  subst hm
  exact ⟨f, fd, ps, g, F.kp, b, fn_pure F S hn h⟩
theorem fm_deck (T : TX K mg x qual st ps) (S : FnScope N ps (defScope st)) (hn : N.length = n) (hm : ps.length = m) (h : BodyOk P w K mg base k N qual st body) : FM P w K mg base (k + 1) x m (deckF (runD n body)) := by
  obtain ⟨f, fd, F, g, b⟩ := T
  subst hm
  exact ⟨f, fd, ps, g, F.kp, b, fn_deck F S hn h⟩
end
end Sky
end
section
/-! Lay10: how the combinators compute; loops by their invariants; the law's end. -/
namespace Sky
open PySem PySem.Spec PyProof.Rows L2
/-! ### computing -/
@[simp] theorem get_z {α : Type} (a : α) (l : List α) : (a :: l)[0]? = some a := id rfl
theorem atI_nn {α : Type} {xs : List α} {i : Int} (h : 0 ≤ i) : L2.atI xs i = xs[i.toNat]? := by
  unfold L2.atI ixN
  rw [if_pos h]
  by_cases hl : i < xs.length
  · rw [if_pos hl]; rfl
  · rw [if_neg hl, List.getElem?_eq_none (by omega)]; rfl
theorem atI_neg1 {α : Type} {xs : List α} : L2.atI xs (-1) = xs.getLast? := by
  cases h : xs with
  | nil => rfl
  | cons x r =>
    rw [← h, List.getLast?_eq_getElem?]
    unfold L2.atI ixN
    have hl : xs.length = r.length + 1 := by rw [h]; rfl
    rw [if_neg (by omega), if_pos (by omega)]
    show xs[((-1 : Int) + (xs.length : Nat)).toNat]? = _
    congr 1
    omega
@[simp] theorem gAdd_ii (S : Store) (i j : Int) : gAdd S (.d (.int i)) (.d (.int j)) = some (.d (.int (i + j))) := id rfl
@[simp] theorem gAdd_ss (S : Store) (i j : Str) : gAdd S (.d (.str i)) (.d (.str j)) = if i.length + j.length ≤ 16777216 then some (.d (.str (i ++ j))) else none := by rw [← sizeLine_eq]; rfl
@[simp] theorem gAdd_tt (S : Store) (i j : List PyData) : gAdd S (.d (.tuple i)) (.d (.tuple j)) = if i.length + j.length ≤ 16777216 then some (.d (.tuple (i ++ j))) else none := by rw [← sizeLine_eq]; rfl
@[simp] theorem gAdd_ll (S : Store) (i j : List PyData) : gAdd S (.d (.list i)) (.d (.list j)) = if i.length + j.length ≤ 16777216 then some (.d (.list (i ++ j))) else none := by rw [← sizeLine_eq]; rfl
@[simp] theorem gSub_ii (S : Store) (i j : Int) : Sky.gSub S (.d (.int i)) (.d (.int j)) = some (.d (.int (i - j))) := id rfl
@[simp] theorem gMul_ii (S : Store) (i j : Int) (h : (-18446744073709551616 < i ∧ i < 18446744073709551616) ∨ (-18446744073709551616 < j ∧ j < 18446744073709551616)) : gMul S (.d (.int i)) (.d (.int j)) = some (.d (.int (i * j))) := if_pos h
@[simp] theorem gDiv_ii (S : Store) (i j : Int) (h : 0 < j ∧ j < 1073741824) : gDiv S (.d (.int i)) (.d (.int j)) = some (.d (.int (i / j))) := if_pos h
@[simp] theorem gMod_ii (S : Store) (i j : Int) (h : 0 < j) : gMod S (.d (.int i)) (.d (.int j)) = some (.d (.int (i % j))) := if_pos h
@[simp] theorem gPow_ii (S : Store) (i j : Int) (h : 0 ≤ j ∧ j ≤ 1000000 ∧ i.natAbs < 18446744073709551616) : gPow S (.d (.int i)) (.d (.int j)) = some (.d (.int (i ^ j.toNat))) := if_pos h
@[simp] theorem gC_ii (p : Int → Int → Bool) (S : Store) (i j : Int) : gC p S (.d (.int i)) (.d (.int j)) = some (.d (.bool (p i j))) := id rfl
@[simp] theorem gIs_n (S : Store) (x : D) : gIs S x (.d .none) = some (.d (.bool (isN x))) := id rfl
@[simp] theorem gIsN_n (S : Store) (x : D) : gIsN S x (.d .none) = some (.d (.bool (!isN x))) := id rfl
@[simp] theorem isN_none : isN (.d .none) = true := id rfl
@[simp] theorem isN_int (i : Int) : isN (.d (.int i)) = false := id rfl
@[simp] theorem isN_str (i : Str) : isN (.d (.str i)) = false := id rfl
@[simp] theorem isN_tup (i : List PyData) : isN (.d (.tuple i)) = false := id rfl
@[simp] theorem isN_lst (i : List PyData) : isN (.d (.list i)) = false := id rfl
@[simp] theorem isN_r (i : Nat) : isN (.r i) = false := id rfl
@[simp] theorem rf_d (S : Store) (x : PyData) : rf S (.d x) = some x := id rfl
def rfC : Option Cell → Option PyData
  | some (.lst xs) => some (.list xs)
  | _ => none
@[simp] theorem rf_r (S : Store) (i : Nat) : rf S (.r i) = rfC S[i]? := id rfl
@[simp] theorem rfC_l (xs : List PyData) : rfC (some (.lst xs)) = some (.list xs) := id rfl
@[simp] theorem lk_d (S : Store) (xs : List PyData) : lk S (.d (.list xs)) = some xs := id rfl
def lkC : Option Cell → Option (List PyData)
  | some (.lst xs) => some xs
  | _ => none
@[simp] theorem lk_r (S : Store) (i : Nat) : lk S (.r i) = lkC S[i]? := id rfl
@[simp] theorem lkC_l (xs : List PyData) : lkC (some (.lst xs)) = some xs := id rfl
theorem gEq_of (S : Store) {x y : D} {a b : PyData} (h1 : rf S x = some a) (h2 : rf S y = some b) (h3 : dp 60 a = true) (h4 : dp 60 b = true) : gEq S x y = some (.d (.bool (PyData.eqv a b))) := by
  unfold gEq
  rw [h1, h2]
  exact if_pos ⟨h3, h4⟩
theorem gNe_of (S : Store) {x y : D} {a b : PyData} (h1 : rf S x = some a) (h2 : rf S y = some b) (h3 : dp 60 a = true) (h4 : dp 60 b = true) : gNe S x y = some (.d (.bool (!PyData.eqv a b))) := by
  unfold gNe
  rw [h1, h2]
  exact if_pos ⟨h3, h4⟩
@[simp] theorem gEq_d (S : Store) (a b : PyData) : gEq S (.d a) (.d b) = if dp 60 a = true ∧ dp 60 b = true then some (.d (.bool (PyData.eqv a b))) else none := id rfl
@[simp] theorem gNe_d (S : Store) (a b : PyData) : gNe S (.d a) (.d b) = if dp 60 a = true ∧ dp 60 b = true then some (.d (.bool (!PyData.eqv a b))) else none := id rfl
@[simp] theorem dp_int (n : Nat) (i : Int) : dp n (.int i) = true := by cases n <;> rfl
@[simp] theorem dp_bool (n : Nat) (i : Bool) : dp n (.bool i) = true := by cases n <;> rfl
@[simp] theorem dp_str (n : Nat) (i : Str) : dp n (.str i) = true := by cases n <;> rfl
@[simp] theorem dp_none (n : Nat) : dp n .none = true := by cases n <;> rfl
theorem dp_tup (n : Nat) (xs : List PyData) : dp (n + 1) (.tuple xs) = xs.all (dp n) := rfl
theorem dp_lst (n : Nat) (xs : List PyData) : dp (n + 1) (.list xs) = xs.all (dp n) := rfl
theorem dp_up : ∀ (d : PyData) (n m : Nat), n ≤ m → dp n d = true → dp m d = true := by
  intro d n
  induction n generalizing d with
  | zero =>
    intro m _ h
    cases d <;> first | simp | cases h
  | succ n ih =>
    intro m hm h
    cases m with
    | zero => omega
    | succ m =>
      cases d with
      | list xs =>
        rw [dp_lst] at h ⊢
        exact List.all_eq_true.mpr fun x hx => ih x m (by omega) (List.all_eq_true.mp h x hx)
      | tuple xs =>
        rw [dp_tup] at h ⊢
        exact List.all_eq_true.mpr fun x hx => ih x m (by omega) (List.all_eq_true.mp h x hx)
      | dict _ => cases h
      | _ => simp
@[simp] theorem eqv_ii (i j : Int) : PyData.eqv (.int i) (.int j) = (i == j) := by rw [PyData.eqv]
@[simp] theorem eqv_bb (i j : Bool) : PyData.eqv (.bool i) (.bool j) = (i == j) := by rw [PyData.eqv]
@[simp] theorem eqv_ss (i j : Str) : PyData.eqv (.str i) (.str j) = (i == j) := by rw [PyData.eqv]
theorem eqv_same (d : PyData) (h : dp 60 d = true) : PyData.eqv d d = true := SeqAt.eqv_refl_plain d (dp_plain _ _ h).1
@[simp] theorem gIx_t (S : Store) (xs : List PyData) (i : Int) (h : 0 ≤ i) : gIx S (.d (.tuple xs)) (.d (.int i)) = xs[i.toNat]?.map .d := by
  show (L2.atI xs i).map D.d = _
  rw [atI_nn h]
@[simp] theorem gIx_l (S : Store) (xs : List PyData) (i : Int) (h : 0 ≤ i) : gIx S (.d (.list xs)) (.d (.int i)) = xs[i.toNat]?.map .d := by
  show (L2.atI xs i).map D.d = _
  rw [atI_nn h]
@[simp] theorem gIx_t1 (S : Store) (xs : List PyData) : gIx S (.d (.tuple xs)) (.d (.int (-1))) = xs.getLast?.map .d := by
  show (L2.atI xs (-1)).map D.d = _
  rw [atI_neg1]
def gIxC (c : Option Cell) (y : D) : Option D := match c with
  | some (.lst xs) => (intOf y).bind fun i => (L2.atI xs i).map .d
  | some (.dct kvs) => (keyOf y).bind fun k => (valD kvs k).map .d
  | _ => none
@[simp] theorem gIx_r (S : Store) (k : Nat) (y : D) : gIx S (.r k) y = gIxC S[k]? y := by
  have e : gIx S (.r k) y = gIxR S (.r k) y := by
    unfold gIx
    split <;> first | rfl | cases ‹D.r _ = _›
  rw [e]
  unfold gIxR
  rw [lk_r]
  cases h : S[k]? with
  | none =>
    show (match keyOf y with | some j => (match dget S (.r k) j with | some (some d) => some (D.d d) | _ => none) | none => none) = none
    cases keyOf y with
    | none => rfl
    | some j =>
      have : dget S (.r k) j = none := by
        show (match S[k]? with | some (.dct kvs) => some (valD kvs j) | _ => none) = none
        rw [h]
      simp only [this]
  | some c =>
    cases c with
    | lst xs =>
      show (match intOf y with | some i => (L2.atI xs i).map D.d | none => none) = (intOf y).bind fun i => (L2.atI xs i).map .d
      cases intOf y <;> rfl
    | dct kvs =>
      show (match keyOf y with | some j => (match dget S (.r k) j with | some (some d) => some (D.d d) | _ => none) | none => none) = (keyOf y).bind fun k => (valD kvs k).map .d
      cases keyOf y with
      | none => rfl
      | some j =>
        have : dget S (.r k) j = some (valD kvs j) := by
          show (match S[k]? with | some (.dct kvs) => some (valD kvs j) | _ => none) = some (valD kvs j)
          rw [h]
        simp only [this]
        show _ = (valD kvs j).map D.d
        cases valD kvs j <;> rfl
    | ins a b =>
      show (match keyOf y with | some j => (match dget S (.r k) j with | some (some d) => some (D.d d) | _ => none) | none => none) = none
      cases keyOf y with
      | none => rfl
      | some j =>
        have : dget S (.r k) j = none := by
          show (match S[k]? with | some (.dct kvs) => some (valD kvs j) | _ => none) = none
          rw [h]
        simp only [this]
    | mem a b =>
      show (match keyOf y with | some j => (match dget S (.r k) j with | some (some d) => some (D.d d) | _ => none) | none => none) = none
      cases keyOf y with
      | none => rfl
      | some j =>
        have : dget S (.r k) j = none := by
          show (match S[k]? with | some (.dct kvs) => some (valD kvs j) | _ => none) = none
          rw [h]
        simp only [this]
@[simp] theorem gIxC_l (xs : List PyData) (i : Int) (h : 0 ≤ i) : gIxC (some (.lst xs)) (.d (.int i)) = xs[i.toNat]?.map .d := by
  show (L2.atI xs i).map D.d = _
  rw [atI_nn h]
@[simp] theorem gIxC_l1 (xs : List PyData) : gIxC (some (.lst xs)) (.d (.int (-1))) = xs.getLast?.map .d := by
  show (L2.atI xs (-1)).map D.d = _
  rw [atI_neg1]
@[simp] theorem gIxC_di (kvs : List (Key × PyData)) (i : Int) : gIxC (some (.dct kvs)) (.d (.int i)) = (valD kvs (.inl i)).map .d := id rfl
@[simp] theorem gIxC_ds (kvs : List (Key × PyData)) (i : Str) : gIxC (some (.dct kvs)) (.d (.str i)) = (valD kvs (.inr i)).map .d := id rfl
def gSetC (S : Store) (k : Nat) (c : Option Cell) (x : D) (y : PyData) : Option Store := match c with
  | some (.lst xs) => (intOf x).bind fun n => (ixN xs.length n).map fun j => S.set k (.lst (xs.set j y))
  | some (.dct kvs) => (keyOf x).bind fun j => if kvs.length < sizeLine then some (S.set k (.dct (putD kvs j y))) else none
  | _ => none
@[simp] theorem gSet_r (S : Store) (k : Nat) (x : D) (y : PyData) : gSet S (.r k) x (.d y) = gSetC S k S[k]? x y := id rfl
@[simp] theorem gSetC_l (S : Store) (k : Nat) (xs : List PyData) (i : Int) (y : PyData) (h : 0 ≤ i) : gSetC S k (some (.lst xs)) (.d (.int i)) y = if i.toNat < xs.length then some (S.set k (.lst (xs.set i.toNat y))) else none := by
  show ((ixN xs.length i).map fun j => S.set k (.lst (xs.set j y))) = _
  unfold ixN
  rw [if_pos h]
  by_cases h2 : i < xs.length
  · rw [if_pos h2, if_pos (by omega)]; rfl
  · rw [if_neg h2, if_neg (by omega)]; rfl
@[simp] theorem gSetC_l1 (S : Store) (k : Nat) (xs : List PyData) (y : PyData) : gSetC S k (some (.lst xs)) (.d (.int (-1))) y = if 0 < xs.length then some (S.set k (.lst (xs.set (xs.length - 1) y))) else none := by
  show ((ixN xs.length (-1)).map fun j => S.set k (.lst (xs.set j y))) = _
  unfold ixN
  rw [if_neg (by omega)]
  by_cases h2 : 0 < xs.length
  · rw [if_pos h2, if_pos (by omega)]
    have e : ((-1 : Int) + (xs.length : Nat)).toNat = xs.length - 1 := by omega
    show some (S.set k (.lst (xs.set ((-1 : Int) + (xs.length : Nat)).toNat y))) = _
    rw [e]
  · rw [if_neg h2, if_neg (by omega)]; rfl
@[simp] theorem cAbs_i (S : Store) (i : Int) : cAbs S [.d (.int i)] = some (.d (.int (if i < 0 then -i else i))) := id rfl
@[simp] theorem cMin2_i (S : Store) (i j : Int) : cMin2 S [.d (.int i), .d (.int j)] = some (.d (.int (if j < i then j else i))) := id rfl
@[simp] theorem cMax2_i (S : Store) (i j : Int) : cMax2 S [.d (.int i), .d (.int j)] = some (.d (.int (if j > i then j else i))) := id rfl
@[simp] theorem cInt_i (S : Store) (i : Int) : cInt S [.d (.int i)] = some (.d (.int i)) := id rfl
@[simp] theorem cInt_b (S : Store) (i : Bool) : cInt S [.d (.bool i)] = some (.d (.int (if i = true then 1 else 0))) := id rfl
@[simp] theorem cTup_l (S : Store) (xs : List PyData) : cTup S [.d (.list xs)] = some (.d (.tuple xs)) := id rfl
@[simp] theorem cTup_t (S : Store) (xs : List PyData) : cTup S [.d (.tuple xs)] = some (.d (.tuple xs)) := id rfl
@[simp] theorem cTup_r (S : Store) (k : Nat) : cTup S [.r k] = (lkC S[k]?).map fun xs => .d (.tuple xs) := id rfl
@[simp] theorem cLen_l (S : Store) (xs : List PyData) : cLen S [.d (.list xs)] = some (.d (.int (xs.length : Nat))) := id rfl
@[simp] theorem cLen_t (S : Store) (xs : List PyData) : cLen S [.d (.tuple xs)] = some (.d (.int (xs.length : Nat))) := id rfl
@[simp] theorem cLen_r (S : Store) (k : Nat) : cLen S [.r k] = ((lkC S[k]?).map (·.length)).map fun (n : Nat) => .d (.int (n : Int)) := id rfl
@[simp] theorem sizeLine_num : sizeLine = 16777216 := sizeLine_eq
/-! ### loops -/
/-- what a loop's body leaves: to the next turn, or out -/
def Bd (I : Env → Store → Prop) (R : SR → Prop) : SR → Prop
  | .nx ρ S => I ρ S
  | .ct ρ S => I ρ S
  | .bk ρ S => R (.nx ρ S)
  | .rt d S => R (.rt d S)
  | .ex x ρ S => R (.ex x ρ S)
  | .no => False
@[simp] theorem Bd_nx {I : Env → Store → Prop} {R : SR → Prop} {ρ : Env} {S : Store} : Bd I R (.nx ρ S) = I ρ S := id rfl
@[simp] theorem Bd_ct {I : Env → Store → Prop} {R : SR → Prop} {ρ : Env} {S : Store} : Bd I R (.ct ρ S) = I ρ S := id rfl
@[simp] theorem Bd_bk {I : Env → Store → Prop} {R : SR → Prop} {ρ : Env} {S : Store} : Bd I R (.bk ρ S) = R (.nx ρ S) := id rfl
@[simp] theorem Bd_rt {I : Env → Store → Prop} {R : SR → Prop} {d : D} {S : Store} : Bd I R (.rt d S) = R (.rt d S) := id rfl
theorem forL_inv {g : TgM} {b : SM} {R : SR → Prop} {ρ : Env} {S : Store} (xs : List PyData) (I : Nat → Env → Store → Prop) (h0 : I 0 ρ S)
    (hs : ∀ (i : Nat) (x : PyData) (ρ : Env) (S : Store), xs[i]? = some x → I i ρ S → ∃ ρ1, g x ρ = some ρ1 ∧ Bd (I (i + 1)) R (b ρ1 S)) (hd : ∀ ρ S, I xs.length ρ S → R (.nx ρ S)) : R (forL g b xs ρ S) := by
  induction xs generalizing I ρ S with
  | nil => exact hd ρ S h0
  | cons x xs ih =>
    obtain ⟨ρ1, h1, h2⟩ := hs 0 x ρ S rfl h0
    have go : ∀ ρ2 S2, I 1 ρ2 S2 → R (forL g b xs ρ2 S2) := fun ρ2 S2 q => ih (fun i => I (i + 1)) q (fun i y ρ S hy hi => hs (i + 1) y ρ S hy hi) fun ρ S q => hd ρ S q
    unfold forL
    simp only [h1]
    cases hb : b ρ1 S with
    | nx ρ2 S2 => simp only [hb] at h2 ⊢; exact go ρ2 S2 h2
    | ct ρ2 S2 => simp only [hb] at h2 ⊢; exact go ρ2 S2 h2
    | bk ρ2 S2 => simp only [hb] at h2 ⊢; exact h2
    | rt d S2 => simp only [hb] at h2 ⊢; exact h2
    | ex x ρ2 S2 => simp only [hb] at h2 ⊢; exact h2
    | no => simp only [hb] at h2; exact h2.elim
theorem rng_length (lo : Int) (n : Nat) : (rng lo n).length = n := by unfold rng; rw [List.length_map, List.length_range]
theorem rng_get {lo : Int} {n i : Nat} {x : PyData} (h : (rng lo n)[i]? = some x) : i < n ∧ x = .int (lo + i) := by
  have hi : i < n := by rw [← rng_length lo n]; exact (List.getElem?_eq_some_iff.mp h).1
  unfold rng at h
  rw [List.getElem?_map, List.getElem?_range hi] at h
  cases h
  exact ⟨hi, rfl⟩
/-- over a range -/
theorem forR_inv {g : TgM} {b : SM} {R : SR → Prop} {ρ : Env} {S : Store} {lo : Int} {n : Nat} (I : Nat → Env → Store → Prop) (h0 : I 0 ρ S)
    (hs : ∀ (i : Nat) (ρ : Env) (S : Store), i < n → I i ρ S → ∃ ρ1, g (.int (lo + i)) ρ = some ρ1 ∧ Bd (I (i + 1)) R (b ρ1 S)) (hd : ∀ ρ S, I n ρ S → R (.nx ρ S)) : R (forL g b (rng lo n) ρ S) := by
  refine forL_inv _ I h0 (fun i x ρ S hx hi => ?_) fun ρ S q => hd ρ S (by rw [rng_length] at q; exact q)
  obtain ⟨h1, rfl⟩ := rng_get hx
  exact hs i ρ S h1 hi
/-! ### the law's end -/
def spLaw (K : PySem.W.Frag) : Sp := fun vs H Q _ => ∃ (a : Addr) (ns : List Int), vs = [.ref a] ∧ SqL K H a (ns.map V.int) ∧ ns.length ≤ 63 ∧ ∀ H', Q (.bl true) H'
theorem sp_of {F : Fn} (h : ∀ ns : List Int, ns.length ≤ 63 → ∃ S, F [.s ns] [] = .ok (.d (.bool true)) S) {K : PySem.W.Frag} {mg : MG} {vs : List V} {H : Hp} {Q : VK} {E : XK} (q : spLaw K vs H Q E) : spM K mg 1 F vs H Q E := by
  obtain ⟨a, ns, rfl, hs, hl, hq⟩ := q
  obtain ⟨S, hS⟩ := h ns hl
  refine ⟨rfl, [], [], [], [.s ns], .cons (.s (hs.imp (fun z => ⟨z, by simp⟩) id)) .nil, ⟨rfl, List.nodup_nil, fun i c a z _ => by simp at z, fun a z => by simp at z⟩, ?_⟩
  rw [hS]
  intro H' L' _ _ v r
  cases r with
  | d r => cases r; exact hq H'
theorem walk_end {l : PySem.W.OpenLaw} {k : Nat} {q : Program} {loose : List Str} {XP : (Str → Option Value) → Heap → Prop} {YP : World → Heap → Prop} {d : DefRec} {K : Params → PySem.W.Frag} (hn : l.most = some 63) (hdf : d.params.defaults = []) (hr : Room k callerA)
    (hY : ∀ (w : World) (h : Heap), YP w h → (K w.params).In h)
    (F : ∀ (w : World) (mg : Str → Option Value) (fa : Addr) (h : Heap), (K w.params).In h → h.Ns mainGlobals mg → mg d.name = some (.ref fa) →
      ∃ fd : FuncData, (∀ (s : Shared) (u : Value), BindsTo s fd ⟨[u], []⟩ [("script", u)]) ∧ ∀ base : Heap, (K w.params).In base → base.Ns mainGlobals mg → FnOk l.prog w (K w.params) mg base (L2.CX l.prog w) k fa fd ["script"] (spLaw (K w.params))) :
    PySem.W.WalkO q loose XP YP l.row.toRowW d [] (fun f vs => PySem.call f vs) :=
  L2.walk_of (n := 63) (k := k) (x := "script") (CX := fun w => L2.CX l.prog w) (sp := fun w => spLaw (K w.params)) hn (by decide) hdf hr hY F (fun _ _ a ns hl _ hS => ⟨a, ns, rfl, hS, hl, fun _ => rfl⟩)
    fun _ _ _ _ _ h => by
      obtain ⟨_, _, _, _, _, _, _, _, _, _, _, _, z⟩ := h
      exact z.elim
end Sky
end
section
/-! Lay11: the combinators applied, step by step (each a simp rule; no rule goes under a binder). -/
namespace Sky
open PySem PySem.Spec PyProof.Rows L2
variable {ρ : Env} {S S1 : Store} {d x y z : D} {e : Exc} {a b : SM} {f fa fb fc fo fi fe : EM} {c ba bb : BM} {fs : AM} {ds : List D} {g g' : Store → D → D → Option D}
/-! ### names -/
@[simp] theorem mVar_z (d : D) : mVar 0 (some d :: ρ) S = .ok d S := id rfl
@[simp] theorem mVar_s (n : Nat) (o : Option D) : mVar (n + 1) (o :: ρ) S = mVar n ρ S := id rfl
@[simp] theorem mC_ap (x : PyData) : mC x ρ S = .ok (.d x) S := id rfl
@[simp] theorem of_some {α : Type} (x : α) : Res.of (some x) S = .ok x S := id rfl
@[simp] theorem of_none {α : Type} : Res.of (none : Option α) S = .no := id rfl
/-! ### a op b -/
def kOp2 (g : Store → D → D → Option D) (x : D) : Res D → Res D
  | .ok y S2 => Res.of (g S2 x y) S2
  | .exc e S => .exc e S
  | .no => .no
def kOp1 (g : Store → D → D → Option D) (fb : EM) (ρ : Env) : Res D → Res D
  | .ok x S1 => kOp2 g x (fb ρ S1)
  | .exc e S => .exc e S
  | .no => .no
@[simp] theorem mOp_ap : mOp g fa fb ρ S = kOp1 g fb ρ (fa ρ S) := by
  unfold mOp
  cases fa ρ S with
  | ok x S1 => show (fb ρ S1).andThen _ = kOp2 g x (fb ρ S1); cases fb ρ S1 <;> rfl
  | exc _ _ => rfl
  | no => rfl
@[simp] theorem kOp1_ok : kOp1 g fb ρ (.ok x S) = kOp2 g x (fb ρ S) := id rfl
@[simp] theorem kOp2_ok : kOp2 g x (.ok y S) = Res.of (g S x y) S := id rfl
/-! ### chains -/
def kCh3 (g' : Store → D → D → Option D) (y : D) : Res D → Res D
  | .ok z S3 => Res.of (g' S3 y z) S3
  | .exc e S => .exc e S
  | .no => .no
def kChB (g' : Store → D → D → Option D) (fc : EM) (ρ : Env) (y : D) (S2 : Store) : Option D → Res D
  | some (.d (.bool true)) => kCh3 g' y (fc ρ S2)
  | some (.d (.bool false)) => .ok (.d (.bool false)) S2
  | _ => .no
def kCh2 (g g' : Store → D → D → Option D) (fc : EM) (ρ : Env) (x : D) : Res D → Res D
  | .ok y S2 => kChB g' fc ρ y S2 (g S2 x y)
  | .exc e S => .exc e S
  | .no => .no
def kCh1 (g g' : Store → D → D → Option D) (fb fc : EM) (ρ : Env) : Res D → Res D
  | .ok x S1 => kCh2 g g' fc ρ x (fb ρ S1)
  | .exc e S => .exc e S
  | .no => .no
@[simp] theorem mChain_ap : mChain g g' fa fb fc ρ S = kCh1 g g' fb fc ρ (fa ρ S) := by
  unfold mChain
  cases fa ρ S with
  | ok x S1 =>
    show (fb ρ S1).andThen _ = kCh2 g g' fc ρ x (fb ρ S1)
    cases fb ρ S1 with
    | ok y S2 =>
      show _ = kChB g' fc ρ y S2 (g S2 x y)
      cases hg : g S2 x y with
      | none => simp only [Res.andThen, hg]; rfl
      | some d => cases d with
        | d v => cases v with
          | bool k => cases k with
            | true => simp only [Res.andThen, hg]; show _ = kCh3 g' y (fc ρ S2); cases fc ρ S2 <;> rfl
            | false => simp only [Res.andThen, hg]; rfl
          | _ => simp only [Res.andThen, hg]; rfl
        | _ => simp only [Res.andThen, hg]; rfl
    | exc _ _ => rfl
    | no => rfl
  | exc _ _ => rfl
  | no => rfl
@[simp] theorem kCh1_ok : kCh1 g g' fb fc ρ (.ok x S) = kCh2 g g' fc ρ x (fb ρ S) := id rfl
@[simp] theorem kCh2_ok : kCh2 g g' fc ρ x (.ok y S) = kChB g' fc ρ y S (g S x y) := id rfl
@[simp] theorem kChB_b (k : Bool) : kChB g' fc ρ y S (some (.d (.bool k))) = if k = true then kCh3 g' y (fc ρ S) else .ok (.d (.bool false)) S := by cases k <;> rfl
@[simp] theorem kCh3_ok : kCh3 g' y (.ok z S) = Res.of (g' S y z) S := id rfl
/-! ### and, or, not -/
def kAnd (fb : EM) (ρ : Env) : Res D → Res D
  | .ok (.d (.bool true)) S1 => fb ρ S1
  | .ok (.d (.bool false)) S1 => .ok (.d (.bool false)) S1
  | .exc e S => .exc e S
  | _ => .no
def kOr (fb : EM) (ρ : Env) : Res D → Res D
  | .ok (.d (.bool false)) S1 => fb ρ S1
  | .ok (.d (.bool true)) S1 => .ok (.d (.bool true)) S1
  | .exc e S => .exc e S
  | _ => .no
def kNot : Res D → Res D
  | .ok (.d (.bool k)) S1 => .ok (.d (.bool (!k))) S1
  | .exc e S => .exc e S
  | _ => .no
def kNeg : Res D → Res D
  | .ok (.d (.int k)) S1 => .ok (.d (.int (-k))) S1
  | .exc e S => .exc e S
  | _ => .no
def kAsB : Res D → Res Bool
  | .ok (.d (.bool k)) S1 => .ok k S1
  | .exc e S => .exc e S
  | _ => .no
theorem byD {α : Type} {P : Res D → Prop} (r : Res D) (h1 : ∀ k S, P (.ok (.d (.bool k)) S)) (h2 : ∀ d S, (∀ k, d ≠ .d (.bool k)) → P (.ok d S)) (h3 : ∀ e S, P (.exc e S)) (h4 : P .no) : P r := by
  cases r with
  | ok d S =>
    cases d with
    | d x =>
      cases x with
      | bool k => exact h1 k S
      | _ => exact h2 _ S (fun k z => by cases z)
    | _ => exact h2 _ S (fun k z => by cases z)
  | exc e S => exact h3 e S
  | no => exact h4
@[simp] theorem mAnd_ap : mAnd fa fb ρ S = kAnd fb ρ (fa ρ S) := by
  unfold mAnd
  cases fa ρ S with
  | ok d S => cases d with
    | d x => cases x with
      | bool k => cases k <;> rfl
      | _ => rfl
    | _ => rfl
  | _ => rfl
@[simp] theorem mOr_ap : mOr fa fb ρ S = kOr fb ρ (fa ρ S) := by
  unfold mOr
  cases fa ρ S with
  | ok d S => cases d with
    | d x => cases x with
      | bool k => cases k <;> rfl
      | _ => rfl
    | _ => rfl
  | _ => rfl
@[simp] theorem mNot_ap : mNot fa ρ S = kNot (fa ρ S) := by
  unfold mNot
  cases fa ρ S with
  | ok d S => cases d with
    | d x => cases x <;> rfl
    | _ => rfl
  | _ => rfl
@[simp] theorem mNeg_ap : mNeg fa ρ S = kNeg (fa ρ S) := by
  unfold mNeg
  cases fa ρ S with
  | ok d S => cases d with
    | d x => cases x <;> rfl
    | _ => rfl
  | _ => rfl
@[simp] theorem asB_ap : asB fa ρ S = kAsB (fa ρ S) := by
  unfold asB
  cases fa ρ S with
  | ok d S => cases d with
    | d x => cases x <;> rfl
    | _ => rfl
  | _ => rfl
@[simp] theorem kAnd_b (k : Bool) : kAnd fb ρ (.ok (.d (.bool k)) S) = if k = true then fb ρ S else .ok (.d (.bool false)) S := by cases k <;> rfl
@[simp] theorem kOr_b (k : Bool) : kOr fb ρ (.ok (.d (.bool k)) S) = if k = true then .ok (.d (.bool true)) S else fb ρ S := by cases k <;> rfl
@[simp] theorem kNot_b (k : Bool) : kNot (.ok (.d (.bool k)) S) = .ok (.d (.bool (!k))) S := id rfl
@[simp] theorem kNeg_i (k : Int) : kNeg (.ok (.d (.int k)) S) = .ok (.d (.int (-k))) S := id rfl
@[simp] theorem kAsB_b (k : Bool) : kAsB (.ok (.d (.bool k)) S) = .ok k S := id rfl
def kbAnd (fb : BM) (ρ : Env) : Res Bool → Res Bool
  | .ok k S => if k = true then fb ρ S else .ok false S
  | .exc e S => .exc e S
  | .no => .no
def kbOr (fb : BM) (ρ : Env) : Res Bool → Res Bool
  | .ok k S => if k = true then .ok true S else fb ρ S
  | .exc e S => .exc e S
  | .no => .no
def kbNot : Res Bool → Res Bool
  | .ok k S => .ok (!k) S
  | .exc e S => .exc e S
  | .no => .no
@[simp] theorem bAnd_ap : bAnd ba bb ρ S = kbAnd bb ρ (ba ρ S) := by unfold bAnd; cases ba ρ S <;> rfl
@[simp] theorem bOr_ap : bOr ba bb ρ S = kbOr bb ρ (ba ρ S) := by unfold bOr; cases ba ρ S <;> rfl
@[simp] theorem bNot_ap : bNot ba ρ S = kbNot (ba ρ S) := by unfold bNot; cases ba ρ S <;> rfl
@[simp] theorem kbAnd_ok (k : Bool) : kbAnd bb ρ (.ok k S) = if k = true then bb ρ S else .ok false S := id rfl
@[simp] theorem kbOr_ok (k : Bool) : kbOr bb ρ (.ok k S) = if k = true then .ok true S else bb ρ S := id rfl
@[simp] theorem kbNot_ok (k : Bool) : kbNot (.ok k S) = .ok (!k) S := id rfl
def kIf (fa fb : EM) (ρ : Env) : Res Bool → Res D
  | .ok k S => if k = true then fa ρ S else fb ρ S
  | .exc e S => .exc e S
  | .no => .no
@[simp] theorem mIf_ap : mIf c fa fb ρ S = kIf fa fb ρ (c ρ S) := by unfold mIf; cases c ρ S <;> rfl
@[simp] theorem kIf_ok (k : Bool) : kIf fa fb ρ (.ok k S) = if k = true then fa ρ S else fb ρ S := id rfl
/-! ### argument lists, displays -/
def kCons2 (x : D) : Res (List D) → Res (List D)
  | .ok xs S => .ok (x :: xs) S
  | .exc e S => .exc e S
  | .no => .no
def kCons1 (fr : AM) (ρ : Env) : Res D → Res (List D)
  | .ok x S => kCons2 x (fr ρ S)
  | .exc e S => .exc e S
  | .no => .no
@[simp] theorem aNil_ap : aNil ρ S = .ok [] S := id rfl
@[simp] theorem aCons_ap : aCons fa fs ρ S = kCons1 fs ρ (fa ρ S) := by
  unfold aCons
  cases fa ρ S with
  | ok x S1 => show (fs ρ S1).andThen _ = kCons2 x (fs ρ S1); cases fs ρ S1 <;> rfl
  | exc _ _ => rfl
  | no => rfl
@[simp] theorem kCons1_ok : kCons1 fs ρ (.ok x S) = kCons2 x (fs ρ S) := id rfl
@[simp] theorem kCons2_ok : kCons2 x (.ok ds S) = .ok (x :: ds) S := id rfl
@[simp] theorem allD_nil : allD [] = some [] := id rfl
@[simp] theorem allD_cons (x : PyData) (r : List D) : allD (.d x :: r) = (allD r).map (x :: ·) := id rfl
def kTup : Res (List D) → Res D
  | .ok ds S => match allD ds with
    | some xs => if xs.length ≤ sizeLine then .ok (.d (.tuple xs)) S else .no
    | none => .no
  | .exc e S => .exc e S
  | .no => .no
def kLst : Res (List D) → Res D
  | .ok ds S => match allD ds with
    | some xs => if xs.length ≤ sizeLine then .ok (.d (.list xs)) S else .no
    | none => .no
  | .exc e S => .exc e S
  | .no => .no
def kLstC : Res (List D) → Res D
  | .ok ds S => match allD ds with
    | some xs => if xs.length ≤ sizeLine then .ok (.r S.length) (S ++ [.lst xs]) else .no
    | none => .no
  | .exc e S => .exc e S
  | .no => .no
@[simp] theorem mTup_ap : mTup fs ρ S = kTup (fs ρ S) := by unfold mTup; cases fs ρ S <;> rfl
@[simp] theorem mLst_ap : mLst fs ρ S = kLst (fs ρ S) := by unfold mLst; cases fs ρ S <;> rfl
@[simp] theorem mLstC_ap : mLstC fs ρ S = kLstC (fs ρ S) := by unfold mLstC; cases fs ρ S <;> rfl
@[simp] theorem kTup_ok : kTup (.ok ds S) = match allD ds with
    | some xs => if xs.length ≤ 16777216 then .ok (.d (.tuple xs)) S else .no
    | none => .no := by rw [← sizeLine_eq]; rfl
@[simp] theorem kLst_ok : kLst (.ok ds S) = match allD ds with
    | some xs => if xs.length ≤ 16777216 then .ok (.d (.list xs)) S else .no
    | none => .no := by rw [← sizeLine_eq]; rfl
@[simp] theorem kLstC_ok : kLstC (.ok ds S) = match allD ds with
    | some xs => if xs.length ≤ 16777216 then .ok (.r S.length) (S ++ [.lst xs]) else .no
    | none => .no := by rw [← sizeLine_eq]; rfl
/-! ### calls -/
def kCl (g : Store → List D → Option D) : Res (List D) → Res D
  | .ok ds S => Res.of (g S ds) S
  | .exc e S => .exc e S
  | .no => .no
def kCall (n : Nat) (F : Fn) : Res (List D) → Res D
  | .ok ds S => if ds.length = n then F ds S else .no
  | .exc e S => .exc e S
  | .no => .no
@[simp] theorem mCl_ap {g : Store → List D → Option D} : mCl g fs ρ S = kCl g (fs ρ S) := by unfold mCl; cases fs ρ S <;> rfl
@[simp] theorem kCl_ok {g : Store → List D → Option D} : kCl g (.ok ds S) = Res.of (g S ds) S := id rfl
@[simp] theorem mCall_ap {n : Nat} {F : Fn} : mCall n F fs ρ S = kCall n F (fs ρ S) := by unfold mCall; cases fs ρ S <;> rfl
@[simp] theorem kCall_ok {n : Nat} {F : Fn} : kCall n F (.ok ds S) = if ds.length = n then F ds S else .no := id rfl
@[simp] theorem pureF_ap {F : List PyData → Option PyData} : pureF F ds S = match allD ds with
    | some xs => Res.of ((F xs).map .d) S
    | none => .no := id rfl
theorem deckF_ap {F : List PyData → List PyData → Option (PyData × List PyData)} {i : Nat} {rest : List D} {dk dk' xs : List PyData} {x : PyData} (h1 : S[i]? = some (.lst dk)) (h2 : allD rest = some xs) (h3 : F dk xs = some (x, dk')) :
    deckF F (.r i :: rest) S = .ok (.d x) (S.set i (.lst dk')) := by
  unfold deckF
  simp only [h1, h2, h3]
def kDeck2 (S : Store) (i : Nat) : Option (PyData × List PyData) → Res D
  | some (x, dk') => .ok (.d x) (S.set i (.lst dk'))
  | none => .no
def kDeck (F : List PyData → List PyData → Option (PyData × List PyData)) (S : Store) (i : Nat) : Option Cell → Option (List PyData) → Res D
  | some (.lst dk), some xs => kDeck2 S i (F dk xs)
  | _, _ => .no
@[simp] theorem deckF_r {F : List PyData → List PyData → Option (PyData × List PyData)} {i : Nat} {rest : List D} : deckF F (.r i :: rest) S = kDeck F S i S[i]? (allD rest) := by
  unfold deckF kDeck kDeck2
  cases h : S[i]? with
  | none => simp only [h]
  | some c => cases c with
    | lst dk => cases ha : allD rest with
      | none => simp only [h, ha]
      | some xs => cases hf : F dk xs <;> simp only [h, ha, hf]
    | _ => simp only [h]
@[simp] theorem kDeck_ok {F : List PyData → List PyData → Option (PyData × List PyData)} {i : Nat} {dk xs : List PyData} : kDeck F S i (some (.lst dk)) (some xs) = kDeck2 S i (F dk xs) := id rfl
@[simp] theorem kDeck2_ok {i : Nat} {dk : List PyData} {x : PyData} : kDeck2 S i (some (x, dk)) = .ok (.d x) (S.set i (.lst dk)) := id rfl
def kIsi (T : String) : Res D → Res D
  | .ok d S => match rf S d with
    | some x => if dp 60 x = true then .ok (.d (.bool (isT T x))) S else .no
    | none => .no
  | .exc e S => .exc e S
  | .no => .no
@[simp] theorem mIsi_ap {T : String} : mIsi T fa ρ S = kIsi T (fa ρ S) := by unfold mIsi; cases fa ρ S <;> rfl
@[simp] theorem kIsi_ok {T : String} : kIsi T (.ok d S) = match rf S d with
    | some x => if dp 60 x = true then .ok (.d (.bool (isT T x))) S else .no
    | none => .no := id rfl
def kApp2 (i : Nat) : Res D → Res D
  | .ok (.d y) S => match S[i]? with
    | some (.lst xs) => if xs.length < sizeLine then .ok (.d .none) (S.set i (.lst (xs ++ [y]))) else .no
    | _ => .no
  | .exc e S => .exc e S
  | _ => .no
def kAppC (fa : EM) (ρ : Env) (i : Nat) (S : Store) : Option Cell → Res D
  | some (.lst _) => kApp2 i (fa ρ S)
  | _ => .no
def kApp1 (fa : EM) (ρ : Env) : Res D → Res D
  | .ok (.r i) S => kAppC fa ρ i S S[i]?
  | .exc e S => .exc e S
  | _ => .no
@[simp] theorem mApp_ap : mApp fo fa ρ S = kApp1 fa ρ (fo ρ S) := by
  unfold mApp
  cases fo ρ S with
  | ok o S1 =>
    cases o with
    | r i =>
      show (match S1[i]? with | some (.lst _) => _ | _ => _) = kAppC fa ρ i S1 S1[i]?
      cases S1[i]? with
      | none => rfl
      | some c =>
        cases c with
        | lst xs =>
          show (fa ρ S1).andThen _ = kApp2 i (fa ρ S1)
          cases fa ρ S1 with
          | ok y S2 => cases y <;> rfl
          | exc _ _ => rfl
          | no => rfl
        | _ => rfl
    | _ => rfl
  | exc _ _ => rfl
  | no => rfl
@[simp] theorem kApp1_r (i : Nat) : kApp1 fa ρ (.ok (.r i) S) = kAppC fa ρ i S S[i]? := id rfl
@[simp] theorem kAppC_l (i : Nat) (xs : List PyData) : kAppC fa ρ i S (some (.lst xs)) = kApp2 i (fa ρ S) := id rfl
def kApp3 (S : Store) (i : Nat) (y : PyData) : Option Cell → Res D
  | some (.lst xs) => if xs.length < 16777216 then .ok (.d .none) (S.set i (.lst (xs ++ [y]))) else .no
  | _ => .no
@[simp] theorem kApp2_d (i : Nat) (y : PyData) : kApp2 i (.ok (.d y) S) = kApp3 S i y S[i]? := by
  show (match S[i]? with | some (.lst xs) => if xs.length < sizeLine then _ else _ | _ => _) = _
  unfold kApp3
  rw [sizeLine_eq]
@[simp] theorem kApp3_l (i : Nat) (y : PyData) (xs : List PyData) : kApp3 S i y (some (.lst xs)) = if xs.length < 16777216 then .ok (.d .none) (S.set i (.lst (xs ++ [y]))) else .no := id rfl
/-! ### slices -/
def kSl3 (x : D) (l : Option Int) : Res (Option Int) → Res D
  | .ok u S => Res.of (gSl S x l u) S
  | .exc e S => .exc e S
  | .no => .no
def kSl2 (fh : OM) (ρ : Env) (x : D) : Res (Option Int) → Res D
  | .ok l S => kSl3 x l (fh ρ S)
  | .exc e S => .exc e S
  | .no => .no
def kSl1 (fl fh : OM) (ρ : Env) : Res D → Res D
  | .ok x S => kSl2 fh ρ x (fl ρ S)
  | .exc e S => .exc e S
  | .no => .no
@[simp] theorem mSl_ap {fl fh : OM} : mSl fa fl fh ρ S = kSl1 fl fh ρ (fa ρ S) := by
  unfold mSl
  cases fa ρ S with
  | ok x S1 =>
    show (fl ρ S1).andThen _ = kSl2 fh ρ x (fl ρ S1)
    cases fl ρ S1 with
    | ok l S2 => show (fh ρ S2).andThen _ = kSl3 x l (fh ρ S2); cases fh ρ S2 <;> rfl
    | exc _ _ => rfl
    | no => rfl
  | exc _ _ => rfl
  | no => rfl
@[simp] theorem kSl1_ok {fl fh : OM} : kSl1 fl fh ρ (.ok x S) = kSl2 fh ρ x (fl ρ S) := id rfl
@[simp] theorem kSl2_ok {fh : OM} {l : Option Int} : kSl2 fh ρ x (.ok l S) = kSl3 x l (fh ρ S) := id rfl
@[simp] theorem kSl3_ok {l u : Option Int} : kSl3 x l (.ok u S) = Res.of (gSl S x l u) S := id rfl
def kSome : Res D → Res (Option Int)
  | .ok (.d (.int i)) S => .ok (some i) S
  | .exc e S => .exc e S
  | _ => .no
@[simp] theorem oNone_ap : oNone ρ S = .ok none S := id rfl
@[simp] theorem oSome_ap : oSome fa ρ S = kSome (fa ρ S) := by
  unfold oSome
  cases fa ρ S with
  | ok d S => cases d with
    | d x => cases x <;> rfl
    | _ => rfl
  | _ => rfl
@[simp] theorem kSome_i (i : Int) : kSome (.ok (.d (.int i)) S) = .ok (some i) S := id rfl
@[simp] theorem gSl_t (S : Store) (xs : List PyData) (l u : Option Int) : gSl S (.d (.tuple xs)) l u = some (.d (.tuple (cutD xs l u))) := id rfl
@[simp] theorem gSl_l (S : Store) (xs : List PyData) (l u : Option Int) : gSl S (.d (.list xs)) l u = some (.d (.list (cutD xs l u))) := id rfl
@[simp] theorem gSl_s (S : Store) (xs : List Int) (l u : Option Int) : gSl S (.s xs) l u = some (.d (.list ((cutD xs l u).map .int))) := id rfl
@[simp] theorem gSl_r (S : Store) (i : Nat) (l u : Option Int) : gSl S (.r i) l u = (lkC S[i]?).map fun xs => .d (.list (cutD xs l u)) := by
  show (match lk S (.r i) with | some xs => some (D.d (.list (cutD xs l u))) | none => none) = _
  rw [lk_r]
  cases lkC S[i]? <;> rfl
theorem sIx_neg {n d k : Nat} (h : k ≤ n) (h0 : 0 < k) : HT.sIx n d (some (-(k : Int))) = n - k := by
  unfold HT.sIx
  simp only []
  split <;> omega
theorem cut_none {α : Type} (xs : List α) : cutD xs none none = xs := by
  unfold cutD
  rw [HT.sIx_none, HT.sIx_none, List.drop_zero, Nat.sub_zero, List.take_length]
theorem cut_to {α : Type} (xs : List α) (k : Nat) : cutD xs none (some (k : Int)) = xs.take k := by
  unfold cutD
  rw [HT.sIx_none, HT.sIx_nat, List.drop_zero, Nat.sub_zero]
  by_cases h : k ≤ xs.length
  · rw [Nat.min_eq_left h]
  · rw [Nat.min_eq_right (by omega), List.take_length, List.take_of_length_le (by omega)]
theorem cut_from {α : Type} (xs : List α) (k : Nat) : cutD xs (some (k : Int)) none = xs.drop k := by
  unfold cutD
  rw [HT.sIx_none, HT.sIx_nat]
  by_cases h : k ≤ xs.length
  · rw [Nat.min_eq_left h, List.take_of_length_le (by rw [List.length_drop]; exact Nat.le_refl _)]
  · rw [Nat.min_eq_right (by omega), List.drop_length, List.drop_eq_nil_of_le (by omega), List.take_nil]
theorem cut_last {α : Type} (xs : List α) (x : α) : cutD (xs ++ [x]) none (some (-1)) = xs := by
  unfold cutD
  rw [HT.sIx_none, List.drop_zero, Nat.sub_zero]
  have e : HT.sIx (xs ++ [x]).length (xs ++ [x]).length (some (-1)) = xs.length := by
    have := sIx_neg (n := (xs ++ [x]).length) (d := (xs ++ [x]).length) (k := 1) (by simp) (by decide)
    rw [show (-((1 : Nat) : Int)) = -1 by rfl] at this
    rw [this]
    simp
  rw [e, List.take_left']
  rfl
/-! ### statements -/
def SR.seq (r : SR) (b : SM) : SR := match r with
  | .nx ρ S => b ρ S
  | r => r
@[simp] theorem sSeq_ap : sSeq a b ρ S = (a ρ S).seq b := id rfl
@[simp] theorem seq_nx : (SR.nx ρ S).seq b = b ρ S := id rfl
@[simp] theorem seq_rt : (SR.rt d S).seq b = .rt d S := id rfl
@[simp] theorem seq_bk : (SR.bk ρ S).seq b = .bk ρ S := id rfl
@[simp] theorem seq_ct : (SR.ct ρ S).seq b = .ct ρ S := id rfl
@[simp] theorem seq_ex : (SR.ex e ρ S).seq b = .ex e ρ S := id rfl
@[simp] theorem seq_no : SR.no.seq b = .no := id rfl
@[simp] theorem sNx_ap : sNx ρ S = .nx ρ S := id rfl
def qSet (ρ : Env) (i : Nat) : Res D → SR
  | .ok d S => .nx (ρ.set i (some d)) S
  | .exc e S => .ex e ρ S
  | .no => .no
@[simp] theorem sSet_ap {i : Nat} : sSet i f ρ S = qSet ρ i (f ρ S) := by unfold sSet; cases f ρ S <;> rfl
@[simp] theorem qSet_ok {i : Nat} : qSet ρ i (.ok d S) = .nx (ρ.set i (some d)) S := id rfl
@[simp] theorem qSet_exc {i : Nat} : qSet ρ i (.exc e S) = .ex e ρ S := id rfl
def qRet (ρ : Env) : Res D → SR
  | .ok d S => .rt d S
  | .exc e S => .ex e ρ S
  | .no => .no
@[simp] theorem sRet_ap : sRet f ρ S = qRet ρ (f ρ S) := by unfold sRet; cases f ρ S <;> rfl
@[simp] theorem qRet_ok : qRet ρ (.ok d S) = .rt d S := id rfl
@[simp] theorem qRet_exc : qRet ρ (.exc e S) = .ex e ρ S := id rfl
def qExpr (ρ : Env) : Res D → SR
  | .ok _ S => .nx ρ S
  | .exc e S => .ex e ρ S
  | .no => .no
@[simp] theorem sExpr_ap : sExpr f ρ S = qExpr ρ (f ρ S) := by unfold sExpr; cases f ρ S <;> rfl
@[simp] theorem qExpr_ok : qExpr ρ (.ok d S) = .nx ρ S := id rfl
@[simp] theorem qExpr_exc : qExpr ρ (.exc e S) = .ex e ρ S := id rfl
def qIf (a b : SM) (ρ : Env) : Res Bool → SR
  | .ok k S => if k = true then a ρ S else b ρ S
  | .exc e S => .ex e ρ S
  | .no => .no
@[simp] theorem sIf_ap : sIf c a b ρ S = qIf a b ρ (c ρ S) := by unfold sIf; cases c ρ S <;> rfl
@[simp] theorem qIf_ok (k : Bool) : qIf a b ρ (.ok k S) = if k = true then a ρ S else b ρ S := id rfl
@[simp] theorem qIf_exc : qIf a b ρ (.exc e S) = .ex e ρ S := id rfl
def qAsg (g : TgM) (ρ : Env) : Res D → SR
  | .ok (.d x) S => match g x ρ with
    | some ρ' => .nx ρ' S
    | none => .no
  | .exc e S => .ex e ρ S
  | _ => .no
@[simp] theorem sAsg_ap {g : TgM} : sAsg f g ρ S = qAsg g ρ (f ρ S) := by
  unfold sAsg
  cases f ρ S with
  | ok d S => cases d <;> rfl
  | _ => rfl
@[simp] theorem qAsg_d {g : TgM} (x : PyData) : qAsg g ρ (.ok (.d x) S) = match g x ρ with
    | some ρ' => .nx ρ' S
    | none => .no := id rfl
@[simp] theorem gNm_ap (i : Nat) (x : PyData) : gNm i x ρ = some (ρ.set i (some (.d x))) := id rfl
@[simp] theorem gsNil_ap : gsNil [] ρ = some ρ := id rfl
def qGs (gs : TgsM) (r : List PyData) : Option Env → Option Env
  | some ρ' => gs r ρ'
  | none => none
@[simp] theorem gsCons_ap (g : TgM) (gs : TgsM) (x : PyData) (r : List PyData) : gsCons g gs (x :: r) ρ = qGs gs r (g x ρ) := by
  show (g x ρ).bind (fun ρ' => gs r ρ') = _
  cases g x ρ <;> rfl
@[simp] theorem qGs_some (gs : TgsM) (r : List PyData) : qGs gs r (some ρ) = gs r ρ := id rfl
@[simp] theorem gTp_t (n : Nat) (gs : TgsM) (xs : List PyData) : gTp n gs (.tuple xs) ρ = if xs.length = n then gs xs ρ else none := id rfl
def qPar (i j : Nat) (ρ : Env) : Res (List D) → SR
  | .ok [x, y] S => .nx ((ρ.set i (some x)).set j (some y)) S
  | .exc e S => .ex e ρ S
  | _ => .no
@[simp] theorem sPar_ap {i j : Nat} : sPar i j fs ρ S = qPar i j ρ (fs ρ S) := by
  unfold sPar
  cases fs ρ S with
  | ok ds S => match ds with
    | [] => rfl
    | [_] => rfl
    | [_, _] => rfl
    | _ :: _ :: _ :: _ => rfl
  | exc _ _ => rfl
  | no => rfl
@[simp] theorem qPar_ok {i j : Nat} : qPar i j ρ (.ok [x, y] S) = .nx ((ρ.set i (some x)).set j (some y)) S := id rfl
def qSub4 (ρ : Env) : Option Store → SR
  | some S => .nx ρ S
  | none => .no
def qSub3 (ρ : Env) (y o : D) : Res D → SR
  | .ok x S => qSub4 ρ (gSet S o x y)
  | .exc e S => .ex e ρ S
  | .no => .no
def qSub2 (fi : EM) (ρ : Env) (y : D) : Res D → SR
  | .ok o S => qSub3 ρ y o (fi ρ S)
  | .exc e S => .ex e ρ S
  | .no => .no
def qSub1 (fo fi : EM) (ρ : Env) : Res D → SR
  | .ok y S => qSub2 fi ρ y (fo ρ S)
  | .exc e S => .ex e ρ S
  | .no => .no
@[simp] theorem sSub_ap : sSub fo fi fe ρ S = qSub1 fo fi ρ (fe ρ S) := by
  unfold sSub
  cases fe ρ S with
  | ok y S1 =>
    show SR.ofE (fo ρ S1) ρ _ = qSub2 fi ρ y (fo ρ S1)
    cases fo ρ S1 with
    | ok o S2 =>
      show SR.ofE (fi ρ S2) ρ _ = qSub3 ρ y o (fi ρ S2)
      cases fi ρ S2 with
      | ok x S3 =>
        show (match gSet S3 o x y with | some S' => _ | none => _) = qSub4 ρ (gSet S3 o x y)
        cases gSet S3 o x y <;> rfl
      | exc _ _ => rfl
      | no => rfl
    | exc _ _ => rfl
    | no => rfl
  | exc _ _ => rfl
  | no => rfl
@[simp] theorem qSub1_ok : qSub1 fo fi ρ (.ok y S) = qSub2 fi ρ y (fo ρ S) := id rfl
@[simp] theorem qSub2_ok : qSub2 fi ρ y (.ok x S) = qSub3 ρ y x (fi ρ S) := id rfl
@[simp] theorem qSub3_ok : qSub3 ρ y x (.ok z S) = qSub4 ρ (gSet S x z y) := id rfl
@[simp] theorem qSub4_some : qSub4 ρ (some S) = .nx ρ S := id rfl
/-! ### loops -/
def qFor (g : TgM) (b : SM) (ρ : Env) : Res (List PyData) → SR
  | .ok xs S => forL g b xs ρ S
  | .exc e S => .ex e ρ S
  | .no => .no
@[simp] theorem sFor_ap {fi : IM} {g : TgM} : sFor fi g b ρ S = qFor g b ρ (fi ρ S) := by unfold sFor; cases fi ρ S <;> rfl
@[simp] theorem qFor_ok {g : TgM} (xs : List PyData) : qFor g b ρ (.ok xs S) = forL g b xs ρ S := id rfl
def kSeq : Res D → Res (List PyData)
  | .ok (.d (.list xs)) S => .ok xs S
  | .ok (.d (.tuple xs)) S => .ok xs S
  | .ok (.d (.str z)) S => .ok (signs z) S
  | .exc e S => .exc e S
  | _ => .no
@[simp] theorem iSeq_ap : iSeq f ρ S = kSeq (f ρ S) := by
  unfold iSeq
  cases f ρ S with
  | ok d S => cases d with
    | d x => cases x <;> rfl
    | _ => rfl
  | _ => rfl
@[simp] theorem kSeq_l (xs : List PyData) : kSeq (.ok (.d (.list xs)) S) = .ok xs S := id rfl
@[simp] theorem kSeq_t (xs : List PyData) : kSeq (.ok (.d (.tuple xs)) S) = .ok xs S := id rfl
@[simp] theorem kSeq_s (z : Str) : kSeq (.ok (.d (.str z)) S) = .ok (signs z) S := id rfl
def kRng1 : Res D → Res (List PyData)
  | .ok (.d (.int n)) S => if -(2 ^ 62) ≤ n ∧ n < 2 ^ 62 then .ok (rng 0 n.toNat) S else .no
  | .exc e S => .exc e S
  | _ => .no
@[simp] theorem iRng1_ap : Sky.iRng1 f ρ S = kRng1 (f ρ S) := by
  unfold Sky.iRng1
  cases f ρ S with
  | ok d S => cases d with
    | d x => cases x <;> rfl
    | _ => rfl
  | _ => rfl
@[simp] theorem kRng1_i (n : Int) (h : -4611686018427387904 ≤ n ∧ n < 4611686018427387904) : kRng1 (.ok (.d (.int n)) S) = .ok (rng 0 n.toNat) S := if_pos h
def kRng2 : Res D → Res D → Res (List PyData)
  | .ok (.d (.int i)) _, .ok (.d (.int j)) S2 => if -(2 ^ 62) ≤ i ∧ i < 2 ^ 62 ∧ -(2 ^ 62) ≤ j ∧ j < 2 ^ 62 then .ok (rng i (j - i).toNat) S2 else .no
  | .exc e S, _ => .exc e S
  | .ok _ _, .exc e S => .exc e S
  | _, _ => .no
def kRng2a (fb : EM) (ρ : Env) : Res D → Res (List PyData)
  | .ok x S => kRng2 (.ok x S) (fb ρ S)
  | .exc e S => .exc e S
  | .no => .no
@[simp] theorem iRng2_ap : Sky.iRng2 fa fb ρ S = kRng2a fb ρ (fa ρ S) := by
  unfold Sky.iRng2
  cases fa ρ S with
  | ok x S1 =>
    show (fb ρ S1).andThen _ = kRng2 (.ok x S1) (fb ρ S1)
    cases fb ρ S1 with
    | ok y S2 =>
      cases x with
      | d x =>
        cases x with
        | int i => cases y with
          | d y => cases y <;> rfl
          | _ => rfl
        | _ => cases y <;> rfl
      | _ => cases y <;> rfl
    | exc _ _ => cases x with
      | d x => cases x <;> rfl
      | _ => rfl
    | no => cases x with
      | d x => cases x <;> rfl
      | _ => rfl
  | exc _ _ => rfl
  | no => rfl
@[simp] theorem kRng2a_ok : kRng2a fb ρ (.ok x S) = kRng2 (.ok x S) (fb ρ S) := id rfl
@[simp] theorem kRng2_i (i j : Int) (h : -4611686018427387904 ≤ i ∧ i < 4611686018427387904 ∧ -4611686018427387904 ≤ j ∧ j < 4611686018427387904) : kRng2 (.ok (.d (.int i)) S1) (.ok (.d (.int j)) S) = .ok (rng i (j - i).toNat) S := if_pos h
/-! ### comprehensions -/
def kComp2 : Res (List PyData) → Res D
  | .ok ys S => .ok (.d (.list ys)) S
  | _ => .no
def kComp (g : TgM) (t : BM) (fe : EM) (own : List Nat) (ρ : Env) : Res (List PyData) → Res D
  | .ok xs S => if xs.length < sizeLine then kComp2 (compL g t fe (wipeE ρ own) xs S) else .no
  | .exc e S => .exc e S
  | .no => .no
@[simp] theorem mComp_ap {fi : IM} {g : TgM} {t : BM} {own : List Nat} : mComp fi g t fe own ρ S = kComp g t fe own ρ (fi ρ S) := by
  unfold mComp
  cases fi ρ S with
  | ok xs S1 =>
    show (if xs.length < sizeLine then _ else _) = if xs.length < sizeLine then _ else _
    congr 1
  | _ => rfl
@[simp] theorem kComp_ok {g : TgM} {t : BM} {own : List Nat} (xs : List PyData) : kComp g t fe own ρ (.ok xs S) = if xs.length < 16777216 then kComp2 (compL g t fe (wipeE ρ own) xs S) else .no := by rw [← sizeLine_eq]; rfl
@[simp] theorem kComp2_ok (ys : List PyData) : kComp2 (.ok ys S) = .ok (.d (.list ys)) S := id rfl
@[simp] theorem wipeE_nil : wipeE ρ [] = ρ := id rfl
@[simp] theorem wipeE_cons (v : Nat) (vs : List Nat) : wipeE ρ (v :: vs) = (wipeE ρ vs).set v none := id rfl
@[simp] theorem bYes_ap : bYes ρ S = .ok true S := id rfl
/-- a comprehension whose parts keep the store: a filter, then a map -/
theorem compL_pure {g : TgM} {t : BM} (p : PyData → Bool) (h : PyData → PyData) : ∀ (xs : List PyData), (∀ x ∈ xs, ∃ ρ1, g x ρ = some ρ1 ∧ t ρ1 S = .ok (p x) S ∧ (p x = true → fe ρ1 S = .ok (.d (h x)) S)) →
    compL g t fe ρ xs S = .ok ((xs.filter p).map h) S
  | [], _ => rfl
  | x :: xs, hx => by
    obtain ⟨ρ1, h1, h2, h3⟩ := hx x List.mem_cons_self
    have ih := compL_pure p h xs fun y hy => hx y (List.mem_cons_of_mem _ hy)
    unfold compL
    simp only [h1, h2]
    cases hp : p x with
    | false => rw [List.filter_cons_of_neg (by rw [hp]; exact Bool.false_ne_true)]; exact ih
    | true =>
      rw [List.filter_cons_of_pos hp, List.map_cons]
      simp only [h3 hp, ih]
/-! ### a def's run -/
@[simp] theorem pad_ap (n : Nat) (ds : List D) : pad n ds = ds.map some ++ List.replicate (n - ds.length) none := id rfl
def endF : SR → Res D
  | .nx _ S' => .ok (.d .none) S'
  | .rt d S' => .ok d S'
  | .ex e _ S' => .exc e S'
  | _ => .no
theorem runF_ap (n : Nat) (body : SM) : runF n body ds S = endF (body (pad n ds) S) := by unfold runF; cases body (pad n ds) S <;> rfl
@[simp] theorem endF_rt : endF (.rt d S) = .ok d S := id rfl
@[simp] theorem endF_nx : endF (.nx ρ S) = .ok (.d .none) S := id rfl
@[simp] theorem endF_ex : endF (.ex e ρ S) = .exc e S := id rfl
def endP : SR → Option PyData
  | .nx _ _ => some .none
  | .rt d S' => rf S' d
  | _ => none
theorem runP_ap (n : Nat) (body : SM) (xs : List PyData) : runP n body xs = endP (body (pad n (xs.map .d)) []) := by unfold runP; cases body (pad n (xs.map .d)) [] <;> rfl
@[simp] theorem endP_rt : endP (.rt d S) = rf S d := id rfl
@[simp] theorem endP_nx : endP (.nx ρ S) = some .none := id rfl
def endD : SR → Option (PyData × List PyData)
  | .nx _ S' => match (S'[0]? : Option Cell) with
    | some (.lst dk') => some (.none, dk')
    | _ => none
  | .rt d S' => match (S'[0]? : Option Cell), d with
    | some (.lst dk'), .d x => some (x, dk')
    | some (.lst dk'), .r (i + 1) => (rf S' (.r (i + 1))).map fun x => (x, dk')
    | _, _ => none
  | _ => none
theorem runD_ap (n : Nat) (body : SM) (dk xs : List PyData) : runD n body dk xs = endD (body (pad n (.r 0 :: xs.map .d)) [.lst dk]) := by unfold runD; cases body (pad n (.r 0 :: xs.map .d)) [.lst dk] <;> rfl
@[simp] theorem endD_d (x : PyData) (dk : List PyData) (S : Store) : endD (.rt (.d x) (.lst dk :: S)) = some (x, dk) := id rfl
@[simp] theorem endD_r (i : Nat) (dk : List PyData) (S : Store) : endD (.rt (.r (i + 1)) (.lst dk :: S)) = (rfC (S[i]? : Option Cell)).map fun x => (x, dk) := id rfl
@[simp] theorem endD_nx (dk : List PyData) (S : Store) : endD (.nx ρ (.lst dk :: S)) = some (.none, dk) := id rfl
/-! ### items of written lists at a drawn place -/
@[simp] theorem ix2i (a b v : Int) (h : v = 0 ∨ v = 1) : ([.int a, .int b] : List PyData)[v.toNat]? = some (.int (if v = 0 then a else b)) := by rcases h with rfl | rfl <;> rfl
@[simp] theorem ix3i (a b c v : Int) (h : v = 0 ∨ v = 1 ∨ v = 2) : ([.int a, .int b, .int c] : List PyData)[v.toNat]? = some (.int (if v = 0 then a else if v = 1 then b else c)) := by rcases h with rfl | rfl | rfl <;> rfl
@[simp] theorem ix4i (a b c d v : Int) (h : v = 0 ∨ v = 1 ∨ v = 2 ∨ v = 3) : ([.int a, .int b, .int c, .int d] : List PyData)[v.toNat]? = some (.int (if v = 0 then a else if v = 1 then b else if v = 2 then c else d)) := by rcases h with rfl | rfl | rfl | rfl <;> rfl
@[simp] theorem ix2s (a b : Str) (v : Int) (h : v = 0 ∨ v = 1) : ([.str a, .str b] : List PyData)[v.toNat]? = some (.str (if v = 0 then a else b)) := by rcases h with rfl | rfl <;> rfl
@[simp] theorem ix3s (a b c : Str) (v : Int) (h : v = 0 ∨ v = 1 ∨ v = 2) : ([.str a, .str b, .str c] : List PyData)[v.toNat]? = some (.str (if v = 0 then a else if v = 1 then b else c)) := by rcases h with rfl | rfl | rfl <;> rfl
theorem app_get {α : Type} {S T : List α} {i : Nat} {x : α} (h : S[i]? = some x) : (S ++ T)[i]? = some x := by
  rw [List.getElem?_append_left (List.getElem?_eq_some_iff.mp h).1]
  exact h
abbrev InvT := Nat → Sky.Env → Store → Prop
theorem hide (J : InvT) : ∃ I : InvT, I = J := ⟨_, rfl⟩
end Sky
end
section
/-! Lay12: equality of plain data; more rules on cells. -/
namespace Sky
open PySem PySem.Spec PyProof.Rows L2
/-- numbers, names, None, tuples and lists of such -/
def dq : Nat → PyData → Bool
  | _, .int _ => true
  | _, .str _ => true
  | _, .none => true
  | n + 1, .tuple xs => xs.all (dq n)
  | n + 1, .list xs => xs.all (dq n)
  | _, _ => false
@[simp] theorem dq_int (n : Nat) (i : Int) : dq n (.int i) = true := by cases n <;> rfl
@[simp] theorem dq_str (n : Nat) (i : Str) : dq n (.str i) = true := by cases n <;> rfl
@[simp] theorem dq_none (n : Nat) : dq n .none = true := by cases n <;> rfl
@[simp] theorem dq_tup (n : Nat) (xs : List PyData) : dq (n + 1) (.tuple xs) = xs.all (dq n) := id rfl
@[simp] theorem dq_lst (n : Nat) (xs : List PyData) : dq (n + 1) (.list xs) = xs.all (dq n) := id rfl
theorem dq_dp : ∀ (n : Nat) (d : PyData), dq n d = true → dp n d = true := by
  intro n
  induction n with
  | zero => intro d h; cases d <;> first | (cases h; done) | simp
  | succ n ih =>
    intro d h
    cases d with
    | tuple xs => exact List.all_eq_true.mpr fun x hx => ih x (List.all_eq_true.mp h x hx)
    | list xs => exact List.all_eq_true.mpr fun x hx => ih x (List.all_eq_true.mp h x hx)
    | _ => first | (cases h; done) | simp
theorem eqvAll_iff {n : Nat} (ih : ∀ a b, dq n a = true → dq n b = true → (PyData.eqv a b = true ↔ a = b)) : ∀ xs ys : List PyData, xs.all (dq n) = true → ys.all (dq n) = true → (PyData.eqvAll xs ys = true ↔ xs = ys)
  | [], [], _, _ => by simp [PyData.eqvAll]
  | [], _ :: _, _, _ => by simp [PyData.eqvAll]
  | _ :: _, [], _, _ => by simp [PyData.eqvAll]
  | x :: xs, y :: ys, hx, hy => by
    rw [List.all_cons, Bool.and_eq_true] at hx hy
    rw [PyData.eqvAll, Bool.and_eq_true, ih x y hx.1 hy.1, eqvAll_iff ih xs ys hx.2 hy.2]
    simp
theorem eqv_iff : ∀ (n : Nat) (a b : PyData), dq n a = true → dq n b = true → (PyData.eqv a b = true ↔ a = b) := by
  intro n
  induction n with
  | zero =>
    intro a b ha hb
    cases a <;> first | (cases ha; done) | skip
    all_goals cases b <;> first | (cases hb; done) | simp [PyData.eqv]
  | succ n ih =>
    intro a b ha hb
    cases a with
    | tuple xs => cases b with
      | tuple ys => rw [PyData.eqv, eqvAll_iff ih xs ys ha hb]; simp
      | _ => first | (cases hb; done) | simp [PyData.eqv]
    | list xs => cases b with
      | list ys => rw [PyData.eqv, eqvAll_iff ih xs ys ha hb]; simp
      | _ => first | (cases hb; done) | simp [PyData.eqv]
    | _ => first | (cases ha; done) | (cases b <;> first | (cases hb; done) | simp [PyData.eqv])
@[simp] theorem eqv_l_nil (xs : List PyData) : PyData.eqv (.list xs) (.list []) = xs.isEmpty := by cases xs <;> simp [PyData.eqv, PyData.eqvAll]
@[simp] theorem eqv_t_nil (xs : List PyData) : PyData.eqv (.tuple xs) (.tuple []) = xs.isEmpty := by cases xs <;> simp [PyData.eqv, PyData.eqvAll]
def kEq : Option PyData → Option PyData → Option D
  | some a, some b => if dp 60 a = true ∧ dp 60 b = true then some (.d (.bool (PyData.eqv a b))) else none
  | _, _ => none
def kNe : Option PyData → Option PyData → Option D
  | some a, some b => if dp 60 a = true ∧ dp 60 b = true then some (.d (.bool (!PyData.eqv a b))) else none
  | _, _ => none
theorem gEq_ap (S : Store) (x y : D) : gEq S x y = kEq (rf S x) (rf S y) := by unfold gEq kEq; cases rf S x <;> cases rf S y <;> rfl
theorem gNe_ap (S : Store) (x y : D) : gNe S x y = kNe (rf S x) (rf S y) := by unfold gNe kNe; cases rf S x <;> cases rf S y <;> rfl
@[simp] theorem gEq_r (S : Store) (i : Nat) (y : D) : gEq S (.r i) y = kEq (rfC S[i]?) (rf S y) := gEq_ap _ _ _
@[simp] theorem gNe_r (S : Store) (i : Nat) (y : D) : gNe S (.r i) y = kNe (rfC S[i]?) (rf S y) := gNe_ap _ _ _
@[simp] theorem gEq_dr (S : Store) (i : Nat) (y : PyData) : gEq S (.d y) (.r i) = kEq (some y) (rfC S[i]?) := gEq_ap _ _ _
@[simp] theorem gNe_dr (S : Store) (i : Nat) (y : PyData) : gNe S (.d y) (.r i) = kNe (some y) (rfC S[i]?) := gNe_ap _ _ _
@[simp] theorem kEq_ok (a b : PyData) : kEq (some a) (some b) = if dp 60 a = true ∧ dp 60 b = true then some (.d (.bool (PyData.eqv a b))) else none := id rfl
@[simp] theorem kNe_ok (a b : PyData) : kNe (some a) (some b) = if dp 60 a = true ∧ dp 60 b = true then some (.d (.bool (!PyData.eqv a b))) else none := id rfl
@[simp] theorem dp_tup' (n : Nat) (xs : List PyData) : dp (n + 1) (.tuple xs) = xs.all (dp n) := id rfl
@[simp] theorem dp_lst' (n : Nat) (xs : List PyData) : dp (n + 1) (.list xs) = xs.all (dp n) := id rfl
@[simp] theorem set_end {α : Type} (S : List α) (c d : α) : (S ++ [c]).set S.length d = S ++ [d] := by
  rw [List.set_append_right _ _ (Nat.le_refl _), Nat.sub_self]
  rfl
@[simp] theorem get_end {α : Type} (S : List α) (c : α) : (S ++ [c])[S.length]? = some c := by
  rw [List.getElem?_append_right (Nat.le_refl _), Nat.sub_self]
  rfl
@[simp] theorem get_end0 {α : Type} (S T : List α) (c : α) : (S ++ c :: T)[S.length]? = some c := by
  rw [List.getElem?_append_right (Nat.le_refl _), Nat.sub_self]
  rfl
@[simp] theorem get_end1 {α : Type} (S T : List α) (b c : α) : (S ++ b :: c :: T)[S.length + 1]? = some c := by
  rw [List.getElem?_append_right (by omega), show S.length + 1 - S.length = 1 by omega]
  rfl
@[simp] theorem get_end2 {α : Type} (S T : List α) (a b c : α) : (S ++ a :: b :: c :: T)[S.length + 2]? = some c := by
  rw [List.getElem?_append_right (by omega), show S.length + 2 - S.length = 2 by omega]
  rfl
@[simp] theorem set_end0 {α : Type} (S T : List α) (c d : α) : (S ++ c :: T).set S.length d = S ++ d :: T := by
  rw [List.set_append_right _ _ (Nat.le_refl _), Nat.sub_self]
  rfl
@[simp] theorem set_end1 {α : Type} (S T : List α) (b c d : α) : (S ++ b :: c :: T).set (S.length + 1) d = S ++ b :: d :: T := by
  rw [List.set_append_right _ _ (by omega), show S.length + 1 - S.length = 1 by omega]
  rfl
@[simp] theorem get_set_same {α : Type} {S : List α} {j : Nat} (c : α) (h : j < S.length) : (S.set j c)[j]? = some c := List.getElem?_set_self h
theorem lt_of_get {α : Type} {S : List α} {j : Nat} {c : α} (h : S[j]? = some c) : j < S.length := (List.getElem?_eq_some_iff.mp h).1
@[simp] theorem isT_int_none  : isT "int" .none = false := id rfl
@[simp] theorem isT_int_bool (b : Bool) : isT "int" (.bool b) = true := id rfl
@[simp] theorem isT_int_int (b : Int) : isT "int" (.int b) = true := id rfl
@[simp] theorem isT_int_str (b : Str) : isT "int" (.str b) = false := id rfl
@[simp] theorem isT_int_list (b : List PyData) : isT "int" (.list b) = false := id rfl
@[simp] theorem isT_int_tuple (b : List PyData) : isT "int" (.tuple b) = false := id rfl
@[simp] theorem isT_int_dict (b : List (PyData × PyData)) : isT "int" (.dict b) = false := id rfl
@[simp] theorem isT_bool_none  : isT "bool" .none = false := id rfl
@[simp] theorem isT_bool_bool (b : Bool) : isT "bool" (.bool b) = true := id rfl
@[simp] theorem isT_bool_int (b : Int) : isT "bool" (.int b) = false := id rfl
@[simp] theorem isT_bool_str (b : Str) : isT "bool" (.str b) = false := id rfl
@[simp] theorem isT_bool_list (b : List PyData) : isT "bool" (.list b) = false := id rfl
@[simp] theorem isT_bool_tuple (b : List PyData) : isT "bool" (.tuple b) = false := id rfl
@[simp] theorem isT_bool_dict (b : List (PyData × PyData)) : isT "bool" (.dict b) = false := id rfl
@[simp] theorem isT_str_none  : isT "str" .none = false := id rfl
@[simp] theorem isT_str_bool (b : Bool) : isT "str" (.bool b) = false := id rfl
@[simp] theorem isT_str_int (b : Int) : isT "str" (.int b) = false := id rfl
@[simp] theorem isT_str_str (b : Str) : isT "str" (.str b) = true := id rfl
@[simp] theorem isT_str_list (b : List PyData) : isT "str" (.list b) = false := id rfl
@[simp] theorem isT_str_tuple (b : List PyData) : isT "str" (.tuple b) = false := id rfl
@[simp] theorem isT_str_dict (b : List (PyData × PyData)) : isT "str" (.dict b) = false := id rfl
@[simp] theorem isT_tuple_none  : isT "tuple" .none = false := id rfl
@[simp] theorem isT_tuple_bool (b : Bool) : isT "tuple" (.bool b) = false := id rfl
@[simp] theorem isT_tuple_int (b : Int) : isT "tuple" (.int b) = false := id rfl
@[simp] theorem isT_tuple_str (b : Str) : isT "tuple" (.str b) = false := id rfl
@[simp] theorem isT_tuple_list (b : List PyData) : isT "tuple" (.list b) = false := id rfl
@[simp] theorem isT_tuple_tuple (b : List PyData) : isT "tuple" (.tuple b) = true := id rfl
@[simp] theorem isT_tuple_dict (b : List (PyData × PyData)) : isT "tuple" (.dict b) = false := id rfl
@[simp] theorem isT_list_none  : isT "list" .none = false := id rfl
@[simp] theorem isT_list_bool (b : Bool) : isT "list" (.bool b) = false := id rfl
@[simp] theorem isT_list_int (b : Int) : isT "list" (.int b) = false := id rfl
@[simp] theorem isT_list_str (b : Str) : isT "list" (.str b) = false := id rfl
@[simp] theorem isT_list_list (b : List PyData) : isT "list" (.list b) = true := id rfl
@[simp] theorem isT_list_tuple (b : List PyData) : isT "list" (.tuple b) = false := id rfl
@[simp] theorem isT_list_dict (b : List (PyData × PyData)) : isT "list" (.dict b) = false := id rfl
end Sky
end
section
/-! Lay13: instances: fields, methods, making; cells forgotten behind a call. -/
namespace Sky
open PySem PySem.Spec PyProof.Rows L2
section
variable {K : PySem.W.Frag} {mg : MG} {H H' : Hp} {O L : List Addr} {S : Store}
theorem RF.lookup {f : Str} {d : D} : ∀ {ds : List (Str × D)} {vs : List (Str × V)}, RF K H O L ds vs → ds.lookup f = some d → ∃ v, vs.lookup f = some v ∧ RD K H O L d v
  | _, _, .nil, h => by cases h
  | _, _, .cons (f := g) (v := v) (ds := ds) (vs := vs) r t, h => by
    rw [List.lookup_cons] at h ⊢
    cases hg : (f == g) with
    | true => rw [hg] at h; cases h; exact ⟨v, rfl, r⟩
    | false => rw [hg] at h; exact RF.lookup t h
theorem RF.lookup_none {f : Str} : ∀ {ds : List (Str × D)} {vs : List (Str × V)}, RF K H O L ds vs → ds.lookup f = none → vs.lookup f = none
  | _, _, .nil, _ => rfl
  | _, _, .cons (f := g) r t, h => by
    rw [List.lookup_cons] at h ⊢
    cases hg : (f == g) with
    | true => rw [hg] at h; cases h
    | false => rw [hg] at h; exact RF.lookup_none t h
theorem RF.len : ∀ {ds : List (Str × D)} {vs : List (Str × V)}, RF K H O L ds vs → ds.length = vs.length
  | _, _, .nil => rfl
  | _, _, .cons _ t => by rw [List.length_cons, List.length_cons, RF.len t]
def putFD (f : Str) (d : D) : List (Str × D) → List (Str × D)
  | [] => [(f, d)]
  | (g, x) :: r => if g = f then (g, d) :: r else (g, x) :: putFD f d r
theorem RF.put {f : Str} {d : D} {v : V} (r : RD K H O L d v) : ∀ {ds : List (Str × D)} {vs : List (Str × V)}, RF K H O L ds vs → RF K H O L (putFD f d ds) (putF f v vs)
  | _, _, .nil => .cons r .nil
  | _, _, .cons (f := g) q t => by
    unfold putFD putF
    by_cases hg : g = f
    · rw [if_pos hg, if_pos hg]; exact .cons r t
    · rw [if_neg hg, if_neg hg]; exact .cons q (RF.put r t)
/-- an instance of c at a -/
theorem ins_at {i : Nat} {c : Str} {fs : List (Str × D)} {v : V} (st : Sto K mg H O L S) (r : RD K H O L (.r i) v) (h : S[i]? = some (.ins c fs)) : ∃ (a C dx : Addr) (vs : List (Str × V)), v = .ref a ∧ L[i]? = some a ∧ mg c = some (.ref C) ∧ H a = some (.ins C dx vs) ∧ RF K H O L fs vs := by
  cases r with
  | @r _ a ha =>
    cases st.cell i _ a h ha with
    | ins h1 h2 h3 => exact ⟨a, _, _, _, rfl, ha, h1, h2, h3⟩
end
/-! ### fields -/
def fldOf (S : Store) (c f : Str) : D → Option D
  | .r i => match S[i]? with
    | some (.ins c' fs) => if c' = c then fs.lookup f else none
    | _ => none
  | _ => none
def mFld (c f : Str) (fa : EM) : EM := fun ρ S => (fa ρ S).andThen fun o S1 => Res.of (fldOf S1 c f o) S1
def putOf (S : Store) (c f : Str) (y : D) : D → Option Store
  | .r i => match S[i]? with
    | some (.ins c' fs) => if c' = c ∧ fs.length < 1000 then some (S.set i (.ins c (putFD f y fs))) else none
    | _ => none
  | _ => none
def sFl (c f : Str) (fo fe : EM) : SM := fun ρ S => SR.ofE (fe ρ S) ρ fun y S1 => SR.ofE (fo ρ S1) ρ fun o S2 => match putOf S2 c f y o with
  | some S3 => .nx ρ S3
  | none => .no
/-- the class c, that has no attribute f -/
def TC (K : PySem.W.Frag) (mg : MG) (c f : Str) : Prop := ∃ C, mg c = some (.ref C) ∧ Cls K C ∧ NoAttr K C f
section
variable {X : Cx} {W : WX} {e o : Expr} {es : List Expr} {pos apos pos' : Pos} {fa fo fe : EM} {fs : AM} {c f m : Str} {F : Fn} {n k : Nat}
theorem fldOf_some {S : Store} {o d : D} (h : fldOf S c f o = some d) : ∃ i fs, o = .r i ∧ S[i]? = some (.ins c fs) ∧ fs.lookup f = some d := by
  unfold fldOf at h
  split at h
  · rename_i i
    split at h
    · rename_i c' fs hs
      split at h
      · rename_i hc
        subst hc
        exact ⟨i, fs, rfl, hs, h⟩
      · cases h
    · cases h
  · cases h
theorem putOf_some {S S' : Store} {o y : D} (h : putOf S c f y o = some S') : ∃ i fs, o = .r i ∧ S[i]? = some (.ins c fs) ∧ fs.length < 1000 ∧ S' = S.set i (.ins c (putFD f y fs)) := by
  unfold putOf at h
  split at h
  · rename_i i
    split at h
    · rename_i c' fs hs
      split at h
      · rename_i hc
        obtain ⟨rfl, hl⟩ := hc
        cases h
        exact ⟨i, fs, rfl, hs, hl, rfl⟩
      · cases h
    · cases h
  · cases h
theorem pm_fld (T : TC X.K X.mg c f) (ha : PM X W e fa) (hb : attributeBase e f X.env (eval e X.env) = eval e X.env := by rfl) : PM X W (.Attribute e f pos) (mFld c f fa) :=
  PE.imp (pe_fld ha hb) fun σ H Q ⟨O, L, S, ρ, a, h⟩ => by
    refine tM.part a h fun d v S1 L1 H1 a1 e1 r1 h1 => ?_
    obtain ⟨C, hC, hcl, hna⟩ := T
    obtain ⟨y, hy, h2⟩ := EndG.of_some h1
    obtain ⟨i, fs, rfl, hs, hl⟩ := fldOf_some hy
    obtain ⟨b, C', dx, vs, rfl, hb, hm, hH, hr⟩ := ins_at a1.st r1 hs
    rw [hC] at hm
    cases hm
    obtain ⟨w, hw, rw'⟩ := hr.lookup hl
    exact ⟨b, C, dx, vs, w, rfl, hH, hcl, hna, hw, h2 H1 L1 (Ext.refl _ _) a1.st w rw'⟩
theorem pms_fl (T : TC X.K X.mg c f) (ha : PM X W o fo) (he : PM X W e fe) (hs : swapsWith e (some (.Attribute o f pos')) pos.line X.env = pure false := by rfl) : PMS X W (.Assign [.Attribute o f pos'] e pos) (sFl c f fo fe) :=
  PS.imp (ps_fld ha he hs) fun Dn σ H ⟨O, L, S, ρ, a, h⟩ => by
    refine tM.stmt a h fun y v S1 L1 H1 a1 e1 r1 h1 => ?_
    refine tM.stmt a1 h1 fun o w S2 L2 H2 a2 e2 r2 h2 => ?_
    obtain ⟨C, hC, hcl, hna⟩ := T
    cases hp : putOf S2 c f y o with
    | none => simp only [hp] at h2; exact h2.elim
    | some S3 =>
      simp only [hp] at h2
      obtain ⟨i, fs, rfl, hs, hl, rfl⟩ := putOf_some hp
      obtain ⟨b, C', dx, vs, rfl, hb, hm, hH, hr⟩ := ins_at a2.st r2 hs
      rw [hC] at hm
      cases hm
      have st' := a2.st.upd (o := .ins C dx (putF f v vs)) hb (.ins hC upd_same ((hr.mono (Ext.upd hb)).put ((r1.mono e2).mono (Ext.upd hb))))
      exact ⟨b, C, dx, vs, rfl, hH, hcl, hna, by rw [← hr.len]; exact hl, h2 σ _ L2 (Ext.upd hb) (a2.mono (Ext.upd hb) st')⟩
end
end Sky
end
section
/-! Lay14: methods, making, cells forgotten behind a call. -/
namespace Sky
open PySem PySem.Spec PyProof.Rows L2
/-! ### methods -/
def isIns (S : Store) (c m : Str) : D → Bool
  | .r i => match S[i]? with
    | some (.ins c' fs) => decide (c' = c) && (fs.lookup m).isNone
    | _ => false
  | _ => false
theorem isIns_t {S : Store} {c m : Str} {o : D} (h : isIns S c m o = true) : ∃ i fs, o = .r i ∧ S[i]? = some (.ins c fs) ∧ fs.lookup m = none := by
  unfold isIns at h
  split at h
  · rename_i i
    split at h
    · rename_i c' fs hs
      rw [Bool.and_eq_true] at h
      obtain ⟨h1, h2⟩ := h
      have := of_decide_eq_true h1
      subst this
      exact ⟨i, fs, rfl, hs, Option.isNone_iff_eq_none.mp h2⟩
    · cases h
  · cases h
def FMM (P : Program) (w : World) (K : PySem.W.Frag) (mg : MG) (base : Heap) (k : Nat) (c m : Str) (n : Nat) (F : Fn) : Prop :=
  ∃ (C f : Addr) (fd : FuncData) (ps : List Str), mg c = some (.ref C) ∧ Cls K C ∧ Meth K C m f ∧ Binds K fd ps [] ∧ FnOk P w K mg base (L2.CX P w) k f fd ps (spM K mg n F)
theorem FMM.mono {P : Program} {w : World} {K : PySem.W.Frag} {mg : MG} {base : Heap} {j k : Nat} {c m : Str} {n : Nat} {F : Fn} (h : FMM P w K mg base j c m n F) (l : j ≤ k) : FMM P w K mg base k c m n F := by
  obtain ⟨C, f, fd, ps, h1, h2, h3, h4, h5⟩ := h
  exact ⟨C, f, fd, ps, h1, h2, h3, h4, h5.mono l⟩
def mMeth (c m : Str) (n : Nat) (F : Fn) (fo : EM) (fs : AM) : EM := fun ρ S => (fo ρ S).andThen fun o S1 => if isIns S1 c m o = true then (fs ρ S1).andThen fun ds S2 => if ds.length + 1 = n then F (o :: ds) S2 else .no else .no
def tMethM (C : Addr) (m : Str) (sp : Sp) (E : St → XK) (ta : TE) (t : TA) : TE := fun σ H Q => ta σ H fun x H1 => ∃ a dx fs, x = .ref a ∧ H1 a = some (.ins C dx fs) ∧ fs.lookup m = none ∧ t σ H1 fun vs H2 => sp (x :: vs) H2 Q (E σ)
section
variable {X : Cx} {W : WX} {CX : CXT} {k : Nat} {f C : Addr} {fd : FuncData} {ps : List Str} {sp : Sp} {E : St → XK} {x m c : Str} {p pos apos : Pos} {e o : Expr} {es : List Expr} {ta : TE} {t : TA} {fo : EM} {fs : AM} {F : Fn} {n : Nat}
theorem pe_methSD {pl : Sem Bool} (he : PE X o ta) (c : Cls X.K C) (hm : Meth X.K C m f) (F : FnOk X.prog X.w X.K X.mg X.base CX k f fd ps sp) (hr : Room k X.A) (hb : Binds X.K fd ps []) (hx : ∀ σ, PassesAt CX X σ (E σ)) (ha : PA X (e :: es) t)
    (hst : starEach (e :: es) X.env = (false, eval e X.env) :: starEach es X.env := by rfl) (hpl : (backTo pos (starEach es X.env)).any (·.1) = false := by rfl)
    (ht : eval (.Call (.Attribute o m apos) (e :: es) [] pos) X.env = (do
      let ov ← eval o X.env
      standAt apos.atName
      let (f, first) ← holding [ov] (getMethod ov m pl)
      callWith pos f first (backTo pos (starEach (e :: es) X.env)) (backToKw pos (keywordEach [] X.env))) := by rfl) :
    PE X (.Call (.Attribute o m apos) (e :: es) [] pos) (tMethM C m sp E ta t) := by
  refine ⟨fun pins s σ H Q I h => ?_⟩
  refine PySem.W.methodCall_KW (pl := pl) (thn (he.run pins s σ H _ I h) fun u s1 ⟨x, H1, I1, rx, a, dx, fs, ex, ea, l, q⟩ => ?_) ht
  subst ex
  obtain rfl : u = Value.ref a := rx
  refine getmeth_ok I1 ea c hm l ?_
  refine PySem.W.callWith_K (first := [.ref a]) (h₀ := X.base) I.ok.mod.kin hm.kp (thn (ha.run pos pins s1 σ H1 _ I1 q) fun us s2 ⟨vs, H2, I2, r, q2⟩ => ⟨I2.kIn, ?_⟩) hst hpl
  exact run_fnSD (us := .ref a :: us) (vs := .ref a :: vs) F hr hb .nil (hx σ) I2 (.cons rfl r) (by rw [List.append_nil]; exact q2)
theorem pe_methSD0 {pl : Sem Bool} (he : PE X o ta) (c : Cls X.K C) (hm : Meth X.K C m f) (F : FnOk X.prog X.w X.K X.mg X.base CX k f fd ps sp) (hr : Room k X.A) (hb : Binds X.K fd ps []) (hx : ∀ σ, PassesAt CX X σ (E σ))
    (ht : eval (.Call (.Attribute o m apos) [] [] pos) X.env = (do
      let ov ← eval o X.env
      standAt apos.atName
      let (f, first) ← holding [ov] (getMethod ov m pl)
      callWith pos f first (backTo pos (starEach [] X.env)) (backToKw pos (keywordEach [] X.env))) := by rfl) :
    PE X (.Call (.Attribute o m apos) [] [] pos) (tMethM C m sp E ta tNil) := by
  refine ⟨fun pins s σ H Q I h => ?_⟩
  refine PySem.W.methodCall_KW (pl := pl) (thn (he.run pins s σ H _ I h) fun u s1 ⟨x, H1, I1, rx, a, dx, fs, ex, ea, l, q⟩ => ?_) ht
  subst ex
  obtain rfl : u = Value.ref a := rx
  refine getmeth_ok I1 ea c hm l ?_
  exact PySem.W.callWith_K0 (first := [.ref a]) I1.kIn hm.kp (run_fnSD (us := [.ref a]) (vs := [.ref a]) F hr hb .nil (hx σ) I1 (.cons rfl .nil) q)
theorem mMeth.go {σ : St} {H : Hp} {Q : VK} (hC : X.mg c = some (.ref C)) (h : tM X.K X.mg W (mMeth c m n F fo fs) σ H Q) : tMethM C m (spM X.K X.mg n F) (fun σ c d H => W c d σ H) (tM X.K X.mg W fo) (tA X.K X.mg W fs) σ H Q := by
  obtain ⟨O, L, S, ρ, a, h⟩ := h
  refine tM.part a h fun d v S1 L1 H1 a1 e1 r1 h1 => ?_
  obtain ⟨hi, h1⟩ := ite_of h1
  obtain ⟨i, gs, rfl, hs, hl⟩ := isIns_t hi
  obtain ⟨b, C', dx, vs, rfl, hb, hm, hH, hr⟩ := ins_at a1.st r1 hs
  rw [hC] at hm
  cases hm
  refine ⟨b, dx, vs, rfl, hH, hr.lookup_none hl, ?_⟩
  refine tA.part a1 h1 fun ds ws S2 L2 H2 a2 e2 r2 h2 => ?_
  obtain ⟨hn, h2⟩ := ite_of h2
  refine ⟨by rw [List.length_cons, ← r2.length]; exact hn, O, L2, S2, .r i :: ds, .cons (r1.mono e2) r2, a2.st, ?_⟩
  cases hF : F (.r i :: ds) S2 with
  | ok d S2 => rw [hF] at h2; exact h2
  | exc x S2 => rw [hF] at h2; exact h2
  | no => rw [hF] at h2; exact h2
theorem pm_meth {pl : Sem Bool} (cw : Cw X W k) (h : FMM X.prog X.w X.K X.mg X.base k c m n F) (ho : PM X W o fo) (ha : PMA X W (e :: es) fs)
    (hst : starEach (e :: es) X.env = (false, eval e X.env) :: starEach es X.env := by rfl) (hpl : (backTo pos (starEach es X.env)).any (·.1) = false := by rfl)
    (ht : eval (.Call (.Attribute o m apos) (e :: es) [] pos) X.env = (do
      let ov ← eval o X.env
      standAt apos.atName
      let (f, first) ← holding [ov] (getMethod ov m pl)
      callWith pos f first (backTo pos (starEach (e :: es) X.env)) (backToKw pos (keywordEach [] X.env))) := by rfl) : PM X W (.Call (.Attribute o m apos) (e :: es) [] pos) (mMeth c m n F fo fs) := by
  obtain ⟨C, f, fd, ps, hC, hcl, hm, hb, ok⟩ := h
  exact PE.imp (pe_methSD (pl := pl) (E := fun σ c d H => W c d σ H) ho hcl hm ok cw.room hb (fun σ => fun pins H s e s' I cx => cw.tk e s' (XE.of_call I (fun cls d H' h => h) cx)) ha hst hpl ht) fun σ H Q h => mMeth.go hC h
theorem pm_meth0 {pl : Sem Bool} (cw : Cw X W k) (h : FMM X.prog X.w X.K X.mg X.base k c m n F) (ho : PM X W o fo)
    (ht : eval (.Call (.Attribute o m apos) [] [] pos) X.env = (do
      let ov ← eval o X.env
      standAt apos.atName
      let (f, first) ← holding [ov] (getMethod ov m pl)
      callWith pos f first (backTo pos (starEach [] X.env)) (backToKw pos (keywordEach [] X.env))) := by rfl) : PM X W (.Call (.Attribute o m apos) [] [] pos) (mMeth c m n F fo aNil) := by
  obtain ⟨C, f, fd, ps, hC, hcl, hm, hb, ok⟩ := h
  refine PE.imp (pe_methSD0 (pl := pl) (E := fun σ c d H => W c d σ H) ho hcl hm ok cw.room hb (fun σ => fun pins H s e s' I cx => cw.tk e s' (XE.of_call I (fun cls d H' h => h) cx)) ht) fun σ H Q h => ?_
  have g := mMeth.go hC h
  obtain ⟨O, L, S, ρ, a, g⟩ := g
  refine ⟨O, L, S, ρ, a, EndG.imp g fun d S1 L1 H1 e1 st1 q v r => ?_⟩
  obtain ⟨b, dx, vs, e1', e2', e3', q⟩ := q v r
  refine ⟨b, dx, vs, e1', e2', e3', ?_⟩
  obtain ⟨O, L, S, ρ, a, g⟩ := q
  exact g H1 L (Ext.refl _ _) a.st [] .nil
end
end Sky
end
section
/-! Lay15: making an instance; cells forgotten behind a call. -/
namespace Sky
open PySem PySem.Spec PyProof.Rows L2
def FMK (P : Program) (w : World) (K : PySem.W.Frag) (mg : MG) (base : Heap) (k : Nat) (c : Str) (n : Nat) (F : Fn) : Prop :=
  ∃ (C f : Addr) (fd : FuncData) (ps : List Str), mg c = some (.ref C) ∧ Mk K C f ∧ Binds K fd ps [] ∧ FnOk P w K mg base (L2.CX P w) k f fd ps (spM K mg (n + 1) F)
theorem FMK.mono {P : Program} {w : World} {K : PySem.W.Frag} {mg : MG} {base : Heap} {j k : Nat} {c : Str} {n : Nat} {F : Fn} (h : FMK P w K mg base j c n F) (l : j ≤ k) : FMK P w K mg base k c n F := by
  obtain ⟨C, f, fd, ps, h1, h2, h3, h4⟩ := h
  exact ⟨C, f, fd, ps, h1, h2, h3, h4.mono l⟩
/-- what __init__ left: the instance -/
def kMade (n : Nat) : Res D → Res D
  | .ok (.d .none) S => .ok (.r n) S
  | .exc e S => .exc e S
  | _ => .no
def mMake (c : Str) (n : Nat) (F : Fn) (fs : AM) : EM := fun ρ S => (fs ρ S).andThen fun ds S1 => if ds.length = n then kMade S1.length (F (.r S1.length :: ds) (S1 ++ [.ins c []])) else .no
def tMakeM (C : Addr) (sp : Sp) (E : St → XK) (t : TA) : TE := fun σ H Q => t σ H fun vs H1 => ∀ x dx, H1 x = none → H1 dx = none → dx ≠ x →
  sp (.ref x :: vs) (upd (upd H1 dx (.own x)) x (.ins C dx [])) (fun v H2 => v = .non ∧ Q (.ref x) H2) (E σ)
section
variable {X : Cx} {W : WX} {CX : CXT} {k : Nat} {f C : Addr} {fd : FuncData} {ps : List Str} {sp : Sp} {E : St → XK} {x c : Str} {p pos : Pos} {e : Expr} {es : List Expr} {t : TA} {fs : AM} {F : Fn} {n : Nat}
theorem make_run {pins : List (Addr × Obj)} {σ : St} {H : Hp} {s : Shared} {Q : VK} {us : List Value} {vs : List V} (M : Mk X.K C f) (G : FnOk X.prog X.w X.K X.mg X.base CX k f fd ps sp) (room : Room (k + 1) X.A) (bi : Binds X.K fd ps [])
    (pass : PassesAt CX X σ (E σ)) (I : Inv X pins σ H s) (rv : Vals vs us)
    (hyp : ∀ x dx, H x = none → H dx = none → dx ≠ x → sp (.ref x :: vs) (upd (upd H dx (.own x)) x (.ins C dx [])) (fun v H2 => v = .non ∧ Q (.ref x) H2) (E σ)) :
    wpAny (model X.prog X.w) X.A (call (.ref C) us) (EP X pins σ Q) X.xe s := by
  have fr1 := I.hok.fresh (Nat.le_succ s.heap.objs.size)
  have fr0 := I.hok.fresh (Nat.le_refl s.heap.objs.size)
  have q0 := hyp _ _ fr1 fr0 (Nat.ne_of_lt (Nat.lt_succ_self _))
  have J := Inv.made (C := C) I
  have rv2 : Vals (V.ref (s.heap.objs.size + 1) :: vs) (Value.ref (s.heap.objs.size + 1) :: us) := .cons rfl rv
  have len2 : ((Value.ref (s.heap.objs.size + 1) :: us) ++ []).length = ps.length := by
    rw [List.append_nil, ← rv2.length]
    exact G.len _ _ _ _ q0
  have run := G.run _ X.stack _ _ ⟨Value.ref (s.heap.objs.size + 1) :: us, []⟩ ((Value.ref (s.heap.objs.size + 1) :: us) ++ []) _ _ _ (room.make C us []) (J.env0.make C us []) (bi _ _ J.kIn len2) (by rw [List.append_nil]; exact rv2) q0
  refine wpAny_call (make_map (f := f) I.kIn M.makes M.init (beq_iff_eq.mp M.fn) (codeAny_mono run fun r s2 end2 => ?_))
  match r, end2 with
  | .error u, z => exact pass pins _ _ u s2 J z
  | .ok (.ret u), z =>
    obtain ⟨v, H2, I2, rel, rfl, z2⟩ := J.after z
    exact ⟨rel, V.ref (s.heap.objs.size + 1), H2, I2, rfl, z2⟩
  | .ok .next, z => exact False.elim z
  | .ok .brk, z => exact False.elim z
  | .ok .cont, z => exact False.elim z
theorem make_pe (M : Mk X.K C f) (G : FnOk X.prog X.w X.K X.mg X.base CX k f fd ps sp) (room : Room (k + 1) X.A) (gl : Gl X x) (hm : X.mg x = some (.ref C)) (bi : Binds X.K fd ps []) (pass : ∀ σ, PassesAt CX X σ (E σ))
    (ha : PA X (e :: es) t) (hdb : (x == ("__debug__" : Str)) = false := by decide) (he : starEach (e :: es) X.env = (false, eval e X.env) :: starEach es X.env := by rfl) (hpl : (backTo pos (starEach es X.env)).any (·.1) = false := by rfl) :
    PE X (.Call (.Name x p) (e :: es) [] pos) (tMakeM C sp E t) :=
  ⟨fun pins s σ H Q I q => wpAny_Call_Name_kw (ld_glob I gl hm (PySem.W.callWith_K (h₀ := X.base) I.ok.mod.kin M.kp (thn (ha.run pos pins s σ H _ I q) fun us s1 ⟨vs, H1, I1, r, q1⟩ => ⟨I1.kIn, make_run M G room bi (pass σ) I1 r q1⟩) he hpl) hdb)⟩
theorem pm_make (cw : Cw X W (k + 1)) (h : FMK X.prog X.w X.K X.mg X.base k x n F) (ha : PMA X W (e :: es) fs) (gl : Gl X x := by rfl)
    (hdb : (x == ("__debug__" : Str)) = false := by decide) (he : starEach (e :: es) X.env = (false, eval e X.env) :: starEach es X.env := by rfl) (hpl : (backTo pos (starEach es X.env)).any (·.1) = false := by rfl) : PM X W (.Call (.Name x p) (e :: es) [] pos) (mMake x n F fs) := by
  obtain ⟨C, f, fd, ps, hC, hmk, hb, ok⟩ := h
  refine PE.imp (make_pe (E := fun σ c d H => W c d σ H) hmk ok cw.room gl hC hb (fun σ => fun pins H s e s' I cx => cw.tk e s' (XE.of_call I (fun cls d H' h => h) cx)) ha hdb he hpl) fun σ H Q ⟨O, L, S, ρ, a, h⟩ => ?_
  refine tA.part a h fun ds vs S1 L1 H1 a1 e1 r1 h1 => ?_
  obtain ⟨hn, h1⟩ := ite_of h1
  intro y dy hy hdy hne
  have s1 : Same H1 (upd H1 dy (.own y)) := same_upd hdy
  have e2 : Ext L1 H1 L1 (upd H1 dy (.own y)) := Same.ext s1
  have hy2 : upd H1 dy (.own y) y = none := by rw [upd_ne (fun z => hne z.symm)]; exact hy
  have e3 := Ext.push (L := L1) (o := .ins C dy []) hy2
  have st3 := (a1.st.same s1).push (c := .ins x []) (o := .ins C dy []) hy2 (.ins hC upd_same .nil)
  refine ⟨by rw [List.length_cons, ← r1.length, hn], O, L1 ++ [y], S1 ++ [.ins x []], .r S1.length :: ds, .cons (RD.last a1.st) ((r1.mono e2).mono e3), st3, ?_⟩
  have e4 := e2.trans e3
  have hlast : (L1 ++ [y])[S1.length]? = some y := by rw [← a1.st.len, List.getElem?_append_right (Nat.le_refl _), Nat.sub_self]; rfl
  cases hF : F (.r S1.length :: ds) (S1 ++ [.ins x []]) with
  | ok d S2 =>
    rw [hF] at h1
    cases d with
    | d z =>
      cases z with
      | none =>
        intro H' L' e5 st5 v r5
        cases r5 with
        | d r5 =>
          cases r5
          exact ⟨rfl, h1 H' L' (e4.trans e5) st5 _ (.r (e5.pre _ _ hlast))⟩
      | _ => exact h1.elim
    | r _ => exact h1.elim
    | s _ => exact h1.elim
  | exc z S2 =>
    rw [hF] at h1
    exact fun C' dd H' L' hm e5 st5 xd => h1 C' dd H' L' hm (e4.trans e5) st5 xd
  | no => rw [hF] at h1; exact h1.elim
end
end Sky
end
section
/-! Lay16: cells forgotten behind a call; methods of the text. -/
namespace Sky
open PySem PySem.Spec PyProof.Rows L2
/-- no field of the cell is a cell from n on -/
def below (n : Nat) : Cell → Bool
  | .ins _ fs => fs.all fun fd => match fd.2 with
    | .r i => decide (i < n)
    | _ => true
  | _ => true
def gcOk (n : Nat) (S : Store) : Bool := decide (n ≤ S.length) && (S.take n).all (below n)
def newD (n : Nat) : D → Bool
  | .r i => decide (n ≤ i)
  | _ => true
/-- the answer as data, the cells that were there -/
def kGc (n : Nat) : Res D → Res D
  | .ok d S => if gcOk n S = true ∧ newD n d = true then Res.of ((rf S d).map .d) (S.take n) else .no
  | .exc e S => if gcOk n S = true then .exc e (S.take n) else .no
  | .no => .no
def gcF (F : Fn) : Fn := fun ds S => kGc S.length (F ds S)
section
variable {P : Program} {w : World} {K : PySem.W.Frag} {mg : MG} {base : Heap}
theorem rf_below {H : Hp} {O L L' : List Addr} {n : Nat} (hL : L = L'.take n) : ∀ {fs : List (Str × D)} {vs : List (Str × V)}, RF K H O L' fs vs → (fs.all fun fd => match fd.2 with
    | .r i => decide (i < n)
    | _ => true) = true → RF K H O L fs vs
  | _, _, .nil, _ => .nil
  | _, _, .cons (d := d) r t, h => by
    rw [List.all_cons, Bool.and_eq_true] at h
    have sub : ∀ a, a ∈ O ++ L → a ∈ O ++ L' := fun a z => by
      rcases List.mem_append.mp z with z | z
      · exact List.mem_append_left _ z
      · rw [hL] at z; exact List.mem_append_right _ (List.mem_of_mem_take z)
    refine .cons ?_ (rf_below hL t h.2)
    cases r with
    | d r => exact .d (rp_sub sub r)
    | @r i a hi =>
      have hlt : i < n := of_decide_eq_true h.1
      exact .r (by rw [hL, List.getElem?_take_of_lt hlt]; exact hi)
    | s r => exact .s (r.imp (fun q => ⟨q.1, fun z => q.2 (sub _ z)⟩) id)
/-- the first cells alone -/
theorem Sto.gc {H H' : Hp} {O L L' : List Addr} {S S' : Store} (st : Sto K mg H O L S) (e : Ext L H L' H') (st' : Sto K mg H' O L' S') (hg : gcOk S.length S' = true) : Sto K mg H' O L (S'.take S.length) ∧ Ext L H L H' ∧ L = L'.take S.length := by
  rw [gcOk, Bool.and_eq_true] at hg
  obtain ⟨hn, hb⟩ := hg
  have hn := of_decide_eq_true hn
  have hL : L = L'.take S.length := by
    apply List.ext_getElem?
    intro i
    by_cases hi : i < S.length
    · rw [List.getElem?_take_of_lt hi]
      have hi2 : i < L.length := by rw [st.len]; exact hi
      rw [List.getElem?_eq_getElem hi2]
      exact (e.pre i _ (List.getElem?_eq_getElem hi2)).symm
    · rw [List.getElem?_eq_none (by rw [st.len]; omega), List.getElem?_eq_none (by rw [List.length_take]; omega)]
  have sub : ∀ a, a ∈ O ++ L → a ∈ O ++ L' := fun a z => by
    rcases List.mem_append.mp z with z | z
    · exact List.mem_append_left _ z
    · rw [hL] at z; exact List.mem_append_right _ (List.mem_of_mem_take z)
  refine ⟨⟨by rw [List.length_take, st.len]; omega, st.nd, fun i c a h1 h2 => ?_, st'.out⟩, ⟨fun _ _ z => z, fun _ z => .inl z, e.keep⟩, hL⟩
  have hi : i < S.length := by
    rw [← st.len]; exact (List.getElem?_eq_some_iff.mp h2).1
  have hm := List.all_eq_true.mp hb c (List.mem_of_getElem? h1)
  rw [List.getElem?_take_of_lt hi] at h1
  have ck := st'.cell i c a h1 (e.pre _ _ h2)
  cases ck with
  | lst q1 q2 => exact .lst q1 (rpl_sub sub q2)
  | dct q1 q2 => exact .dct q1 (rq_sub sub q2)
  | ins q1 q2 q3 => exact .ins q1 q2 (rf_below hL q3 hm)
  | mem q1 q2 => exact .mem q1 (q2.mono (Kp.sub sub))
theorem spM_gc {n : Nat} {F : Fn} {vs : List V} {H : Hp} {Q : VK} {E : XK} (h : spM K mg n (gcF F) vs H Q E) : spM K mg n F vs H Q E := by
  obtain ⟨hl, O, L, S, ds, r, st, h⟩ := h
  refine ⟨hl, O, L, S, ds, r, st, ?_⟩
  unfold gcF at h
  cases hF : F ds S with
  | ok d S' =>
    rw [hF] at h
    obtain ⟨⟨hg, hd⟩, h⟩ := ite_of h
    cases hr : rf S' d with
    | none => rw [hr] at h; exact h.elim
    | some x =>
      rw [hr] at h
      intro H' L' e st' v rd
      obtain ⟨st2, e2, hL⟩ := st.gc e st' hg
      refine h H' L e2 st2 v (.d (rf_new st' rd hr (fun a z => ?_) fun i a ed hi z => ?_))
      · rcases List.mem_append.mp z with z | z
        · exact List.mem_append_left _ z
        · rw [hL] at z; exact List.mem_append_right _ (List.mem_of_mem_take z)
      · subst ed
        have hi2 : S.length ≤ i := of_decide_eq_true hd
        rcases List.mem_append.mp z with z | z
        · obtain ⟨o, ho⟩ := st.out a z
          rcases e.new a (List.mem_of_getElem? hi) with q | q
          · obtain ⟨j, hj⟩ := List.mem_iff_getElem?.mp q
            have hj2 := e.pre j a hj
            have hjl : j < S.length := by rw [← st.len]; exact (List.getElem?_eq_some_iff.mp hj).1
            have := (List.getElem?_inj (List.getElem?_eq_some_iff.mp hi).1 st'.nd).mp (hi.trans hj2.symm)
            omega
          · rw [ho] at q; cases q
        · obtain ⟨j, hj⟩ := List.mem_iff_getElem?.mp z
          have hj2 := e.pre j a hj
          have hjl : j < S.length := by rw [← st.len]; exact (List.getElem?_eq_some_iff.mp hj).1
          have := (List.getElem?_inj (List.getElem?_eq_some_iff.mp hi).1 st'.nd).mp (hi.trans hj2.symm)
          omega
  | exc x S' =>
    rw [hF] at h
    obtain ⟨hg, h⟩ := ite_of h
    intro C dd H' L' hm e st' xd
    obtain ⟨st2, e2, hL⟩ := st.gc e st' hg
    exact h C dd H' L hm e2 st2 xd
  | no => rw [hF] at h; exact h.elim
theorem FM.gc {k : Nat} {x : Str} {n : Nat} {F : Fn} (h : FM P w K mg base k x n F) : FM P w K mg base k x n (gcF F) := by
  obtain ⟨f, fd, ps, h1, h2, h3, h4⟩ := h
  exact ⟨f, fd, ps, h1, h2, h3, h4.imp fun _ _ _ _ q => spM_gc q⟩
theorem FMM.gc {k : Nat} {c m : Str} {n : Nat} {F : Fn} (h : FMM P w K mg base k c m n F) : FMM P w K mg base k c m n (gcF F) := by
  obtain ⟨C, f, fd, ps, h1, h2, h3, h4, h5⟩ := h
  exact ⟨C, f, fd, ps, h1, h2, h3, h4, h5.imp fun _ _ _ _ q => spM_gc q⟩
/-- a promise that is never asked -/
def noF : Fn := fun _ _ => .no
theorem spM_no {n : Nat} {F : Fn} {vs : List V} {H : Hp} {Q : VK} {E : XK} (h : spM K mg n noF vs H Q E) : spM K mg n F vs H Q E := by
  obtain ⟨hl, O, L, S, ds, r, st, h⟩ := h
  exact h.elim
theorem FM.none {k : Nat} {x : Str} {n : Nat} {F : Fn} (h : FM P w K mg base k x n F) : FM P w K mg base k x n noF := by
  obtain ⟨f, fd, ps, h1, h2, h3, h4⟩ := h
  exact ⟨f, fd, ps, h1, h2, h3, h4.imp fun _ _ _ _ q => spM_no q⟩
theorem FMM.none {k : Nat} {c m : Str} {n : Nat} {F : Fn} (h : FMM P w K mg base k c m n F) : FMM P w K mg base k c m n noF := by
  obtain ⟨C, f, fd, ps, h1, h2, h3, h4, h5⟩ := h
  exact ⟨C, f, fd, ps, h1, h2, h3, h4, h5.imp fun _ _ _ _ q => spM_no q⟩
/-! ### methods of the text -/
def TXM (K : PySem.W.Frag) (mg : MG) (c m qual : Str) (st : Stmt) (ps : List Str) : Prop := ∃ (C f : Addr) (fd : FuncData), mg c = some (.ref C) ∧ Cls K C ∧ Meth K C m f ∧ Fun K m qual st f fd ∧ Binds K fd ps []
variable {c m qual : Str} {st : Stmt} {N ps : List Str} {body : SM} {n k a : Nat}
theorem fmm_full (T : TXM K mg c m qual st ps) (S : FnScope N ps (defScope st)) (hn : N.length = n) (hm : ps.length = a) (h : BodyOk P w K mg base k N qual st body) : FMM P w K mg base (k + 1) c m a (runF n body) := by
  obtain ⟨C, f, fd, hC, hcl, hme, F, b⟩ := T
  subst hm
  exact ⟨C, f, fd, ps, hC, hcl, hme, b, fn_full F S hn h⟩
/-- nothing is promised of it -/
theorem fmm_no (T : TXM K mg c m qual st ps) (S : FnScope N ps (defScope st)) (hm : ps.length = a) : FMM P w K mg base k c m a noF := by
  obtain ⟨C, f, fd, hC, hcl, hme, F, b⟩ := T
  subst hm
  exact ⟨C, f, fd, ps, hC, hcl, hme, b, ⟨fun vs H Q E q => q.1, fun A outer s H args us vs Q E _ _ _ _ q => by
    obtain ⟨_, _, _, _, _, _, _, z⟩ := q
    exact z.elim⟩⟩
/-- __init__ of the text -/
def TXK (K : PySem.W.Frag) (mg : MG) (c qual : Str) (st : Stmt) (ps : List Str) : Prop := ∃ (C f : Addr) (fd : FuncData), mg c = some (.ref C) ∧ Mk K C f ∧ Fun K "__init__" qual st f fd ∧ Binds K fd ps []
theorem fmk_full (T : TXK K mg c qual st ps) (S : FnScope N ps (defScope st)) (hn : N.length = n) (hm : ps.length = a + 1) (h : BodyOk P w K mg base k N qual st body) : FMK P w K mg base (k + 1) c a (runF n body) := by
  obtain ⟨C, f, fd, hC, hmk, F, b⟩ := T
  refine ⟨C, f, fd, ps, hC, hmk, b, ?_⟩
  rw [← hm]
  exact fn_full F S hn h
end
end Sky
end
section
/-! Lay17: dicts whose keys are (number, None or text, texts). -/
namespace Sky
open PySem PySem.Spec PyProof.Rows L2
def strsOf : List PyData → Option (List Str)
  | [] => some []
  | .str x :: r => (strsOf r).map (x :: ·)
  | _ => none
def mkOf : D → Option MK
  | .d (.tuple [.int i, .none, .tuple xs]) => (strsOf xs).map fun ys => (i, none, ys)
  | .d (.tuple [.int i, .str x, .tuple xs]) => (strsOf xs).map fun ys => (i, some x, ys)
  | _ => none
theorem strsOf_map : ∀ {xs : List PyData} {ys : List Str}, strsOf xs = some ys → xs = ys.map .str
  | [], _, h => by cases h; rfl
  | .str x :: r, ys, h => by
    unfold strsOf at h
    cases q : strsOf r with
    | none => rw [q] at h; cases h
    | some zs => rw [q] at h; cases h; rw [strsOf_map q]; rfl
  | .none :: _, _, h => by cases h
  | .bool _ :: _, _, h => by cases h
  | .int _ :: _, _, h => by cases h
  | .list _ :: _, _, h => by cases h
  | .tuple _ :: _, _, h => by cases h
  | .dict _ :: _, _, h => by cases h
@[simp] theorem strsOf_strs (ys : List Str) : strsOf (ys.map .str) = some ys := by
  induction ys with
  | nil => rfl
  | cons y ys ih => rw [List.map_cons, strsOf, ih]; rfl
theorem mkOf_eq {d : D} {k : MK} (h : mkOf d = some k) : d = .d (mkD k) := by
  unfold mkOf at h
  split at h
  · obtain ⟨ys, h1, rfl⟩ := map_some h
    rw [strsOf_map h1]; rfl
  · obtain ⟨ys, h1, rfl⟩ := map_some h
    rw [strsOf_map h1]; rfl
  · cases h
@[simp] theorem mkOf_mkD (k : MK) : mkOf (.d (mkD k)) = some k := by
  obtain ⟨i, t, xs⟩ := k
  cases t with
  | none => show (strsOf (xs.map .str)).map _ = _; rw [strsOf_strs]; rfl
  | some x => show (strsOf (xs.map .str)).map _ = _; rw [strsOf_strs]; rfl
def getM (kvs : List (MK × PyData)) (k : MK) : Option PyData := (kvs.find? fun x => decide (x.1 = k)).map (·.2)
def putM (kvs : List (MK × PyData)) (k : MK) (v : PyData) : List (MK × PyData) := if (getM kvs k).isSome = true then kvs.map (fun x => if x.1 = k then (x.1, v) else x) else kvs ++ [(k, v)]
/-- the dict behind such a cell -/
structure MemAt (X : Cx) (s : Shared) (H : Hp) (B : List Addr) (a : Addr) (kvs : List (MK × PyData)) (vs : List (MK × Addr × V)) (xs : List (MK × Addr × Value)) : Prop where
  ns : (a == sysModules) = false
  len : vs.length ≤ sizeLine
  rm : RM X.K H B kvs vs
  pr : Paired (fun (p : MK × Addr × V) (q : MK × Addr × Value) => p.1 = q.1 ∧ p.2.1 = q.2.1 ∧ RelV p.2.2 q.2.2) vs xs
  dict : s.heap.DictOfH (mkKind X.prog X.w) a xs
section
variable {X : Cx} {pins : List (Addr × Obj)} {σ : L2.St} {H : Hp} {s : Shared} {B : List Addr}
theorem reads_mk (I : Inv X pins σ H s) {k : MK} {a : Addr} (r : Rp X.K H B (mkD k) (.ref a)) : ∃ as, Reads s.heap (.ref a) (mkD k) as := reads_of I (plain_mkD k) r rfl
theorem mem_at (I : Inv X pins σ H s) {a : Addr} {kvs : List (MK × PyData)} {vs : List (MK × Addr × V)} (h : H a = some (memO (mkHash X.prog X.w) a vs)) (rm : RM X.K H B kvs vs) : ∃ xs, MemAt X s H B a kvs vs xs := by
  obtain ⟨⟨h1, h2, xs, h3, ⟨o, es, ep, h4, h5, h6, h7⟩, h8⟩, _⟩ := I.hok a _ h
  refine ⟨xs, h1, h2, rm, h3, o, es, ep, h4, h5, h6, h7, ?_, h8⟩
  have go : ∀ {kvs : List (MK × PyData)} {vs : List (MK × Addr × V)} {xs : List (MK × Addr × Value)}, RM X.K H B kvs vs → Paired (fun (p : MK × Addr × V) (q : MK × Addr × Value) => p.1 = q.1 ∧ p.2.1 = q.2.1 ∧ RelV p.2.2 q.2.2) vs xs → ∀ x ∈ xs, ∃ as, Reads s.heap (.ref x.2.1) (mkD x.1) as := by
    intro kvs vs xs r
    induction r generalizing xs with
    | nil => intro p x hx; cases p; cases hx
    | cons r1 r2 _ ih =>
      intro p x hx
      cases p with
      | cons p1 p2 =>
        rcases List.mem_cons.mp hx with rfl | hx
        · obtain ⟨e1, e2, _⟩ := p1
          rw [← e1, ← e2]
          exact reads_mk I r1
        · exact ih p2 x hx
  exact go rm h3
theorem atKey_m {kvs : List (MK × PyData)} {vs : List (MK × Addr × V)} {xs : List (MK × Addr × Value)} (r : RM X.K H B kvs vs) (p : Paired (fun (p : MK × Addr × V) (q : MK × Addr × Value) => p.1 = q.1 ∧ p.2.1 = q.2.1 ∧ RelV p.2.2 q.2.2) vs xs) (k : MK) :
    (getM kvs k = none ∧ atKey xs k = none) ∨ ∃ d v b u, getM kvs k = some d ∧ atKey xs k = some (b, u) ∧ RelV v u ∧ Rp X.K H B d v := by
  induction r generalizing xs with
  | nil => cases p; exact .inl ⟨rfl, rfl⟩
  | @cons j a d v ds vs r1 r2 t ih =>
    cases p with
    | @cons _ q _ _ p1 p2 =>
      obtain ⟨j', a', u⟩ := q
      obtain ⟨e1, e2, e3⟩ := p1
      cases e1
      cases e2
      by_cases hj : j = k
      · refine .inr ⟨d, v, a, u, ?_, ?_, e3, r2⟩
        · simp [getM, hj]
        · simp [atKey, hj]
      · have := ih p2
        simpa [getM, atKey, hj] using this
end
/-! ### in, not in -/
noncomputable def memOf (S : Store) (hf : MK → Int) : D → Option (List (MK × PyData))
  | .r i => match S[i]? with
    | some (.mem hf' kvs) => @ite _ (hf' = hf) (Classical.propDecidable _) (some kvs) none
    | _ => none
  | _ => none
theorem memOf_some {S : Store} {hf : MK → Int} {d : D} {kvs : List (MK × PyData)} (h : memOf S hf d = some kvs) : ∃ i, d = .r i ∧ S[i]? = some (.mem hf kvs) := by
  unfold memOf at h
  split at h
  · rename_i i
    split at h
    · rename_i hf' kvs' hs
      by_cases hc : hf' = hf
      · rw [if_pos hc] at h
        cases h
        cases hc
        exact ⟨i, rfl, hs⟩
      · rw [if_neg hc] at h; cases h
    · cases h
  · cases h
noncomputable def gMin (hf : MK → Int) (S : Store) (x y : D) : Option D := (memOf S hf y).bind fun kvs => (mkOf x).map fun k => .d (.bool (getM kvs k).isSome)
noncomputable def gMnin (hf : MK → Int) (S : Store) (x y : D) : Option D := (memOf S hf y).bind fun kvs => (mkOf x).map fun k => .d (.bool (!(getM kvs k).isSome))
noncomputable def gMix (hf : MK → Int) (S : Store) (x y : D) : Option D := (memOf S hf x).bind fun kvs => (mkOf y).bind fun k => (getM kvs k).map .d
section
variable {X : Cx} {W : WX}
theorem room_mk (hu : X.A.units + 64 < cLine) : (mkKind X.prog X.w).room X.A.in1 := by
  show X.A.units + 1 + 8 < cLine
  omega
theorem mem_cell {K : PySem.W.Frag} {mg : MG} {H : Hp} {O L : List Addr} {S : Store} {hf : MK → Int} {kvs : List (MK × PyData)} {d : D} {v : V} (st : Sto K mg H O L S) (r : RD K H O L d v) (h : memOf S hf d = some kvs) :
    ∃ (i : Nat) (a : Addr) (vs : List (MK × Addr × V)), d = .r i ∧ v = .ref a ∧ S[i]? = some (.mem hf kvs) ∧ L[i]? = some a ∧ H a = some (memO hf a vs) ∧ RM K H (O ++ L) kvs vs := by
  obtain ⟨i, rfl, hs⟩ := memOf_some h
  cases r with
  | @r _ a ha =>
    cases st.cell i _ a hs ha with
    | mem h1 h2 => exact ⟨i, a, _, rfl, rfl, hs, ha, h1, h2⟩
theorem mk_ref {K : PySem.W.Frag} {H : Hp} {O L : List Addr} {k : MK} {v : V} (r : RD K H O L (.d (mkD k)) v) : ∃ a, v = .ref a ∧ Rp K H (O ++ L) (mkD k) (.ref a) := by
  cases r with
  | d r =>
    cases r with
    | tup h1 h2 h3 => exact ⟨_, rfl, .tup h1 h2 h3⟩
theorem o_min (hu : X.A.units + 64 < cLine) : OpR X (compareOp .In) (rO X.K X.mg (gMin (mkHash X.prog X.w))) := by
  intro pins s σ H x y v u Q I rx ry ⟨O, L, S, dx, dy, d, st, r1, r2, hg, q⟩
  obtain ⟨kvs, h1, h2⟩ := Option.bind_eq_some_iff.mp hg
  obtain ⟨k, h3, rfl⟩ := map_some h2
  obtain ⟨i, a, vs, rfl, rfl, hs, ha, hH, rm⟩ := mem_cell st r2 h1
  cases mkOf_eq h3
  obtain ⟨b, rfl, rk⟩ := mk_ref r1
  obtain ⟨xs, M⟩ := mem_at I hH rm
  cases rx
  cases ry
  refine wpAny_in_heap (knd := mkKind X.prog X.w) (room_mk hu) (reads_mk I rk) M.ns M.dict ?_
  refine ⟨.bl _, H, I.tok _, rfl, ?_⟩
  have e : (atKey xs k).isSome = (getM kvs k).isSome := by
    rcases atKey_m (X := X) M.rm M.pr k with ⟨e1, e2⟩ | ⟨_, _, _, _, e1, e2, _⟩ <;> rw [e1, e2] <;> rfl
  rw [e]
  exact q _ H (Same.refl H) (.d (.bl _))
theorem notin_heap {prog : Program} {w : World} {A : Around} {E : Value → Shared → Prop} {s : Shared} {K : Type} [DecidableEq K] {knd : HeapKind prog w K} {d a : Addr} {k : K} {xs : List (K × Addr × Value)} {Q : Value → Shared → Prop}
    (room : knd.room A.in1) (key : knd.is s.heap k a) (ns : (d == sysModules) = false) (dict : s.heap.DictOfH knd d xs)
    (q : Q (.bool (!(atKey xs k).isSome)) { s with toks := s.toks + knd.draws k }) : wpAny (model prog w) A (compareOp .NotIn (.ref a) (.ref d)) Q E s := by
  show wpAny _ _ (do return .bool (!(← contains (.ref d) (.ref a)))) Q E s
  refine wpAny_bind ?_
  unfold contains
  try with_reducible refine wpAny_holding ?_
  refine wpAny_bind (wpAny_specialOf dict.typeIs slot_dict_contains.lookup ?_)
  show wpAny _ _ (if (some (Value.builtin "dict.__contains__") == some Value.none) = true then _ else _) _ E s
  rw [if_neg (by rw [beq_builtin_none]; exact Bool.false_ne_true)]
  refine wpAny_bind (wpAny_callSpecialUnlessNone?_slot (name := Str.ofString "__contains__") dict.typeIs slot_dict_contains (wpAny_call_entry slot_dict_contains dict.typeIs entry_dict_contains ?_ (args_dict_contains _ _)))
  show wpAny _ _ (dictGet d (.ref a) >>= _) _ _ s
  refine wpAny_bind (wpAny_dictGet_heap room key dict ?_)
  cases at_ : atKey xs k with
  | some p =>
    rw [at_] at q
    show wpAny _ _ (ret (.bool true)) _ _ _
    exact wpAny_pure ⟨_, rfl, wpAny_truthy_bool (wpAny_pure q)⟩
  | none =>
    rw [at_] at q
    show wpAny _ _ (Builtin.Dict.pendingKey? d (.ref a) >>= _) _ _ _
    exact wpAny_bind (wpAny_pendingKey_other ns (wpAny_pure ⟨_, rfl, wpAny_truthy_bool (wpAny_pure q)⟩))
theorem o_mnin (hu : X.A.units + 64 < cLine) : OpR X (compareOp .NotIn) (rO X.K X.mg (gMnin (mkHash X.prog X.w))) := by
  intro pins s σ H x y v u Q I rx ry ⟨O, L, S, dx, dy, d, st, r1, r2, hg, q⟩
  obtain ⟨kvs, h1, h2⟩ := Option.bind_eq_some_iff.mp hg
  obtain ⟨k, h3, rfl⟩ := map_some h2
  obtain ⟨i, a, vs, rfl, rfl, hs, ha, hH, rm⟩ := mem_cell st r2 h1
  cases mkOf_eq h3
  obtain ⟨b, rfl, rk⟩ := mk_ref r1
  obtain ⟨xs, M⟩ := mem_at I hH rm
  cases rx
  cases ry
  refine notin_heap (knd := mkKind X.prog X.w) (room_mk hu) (reads_mk I rk) M.ns M.dict ?_
  refine ⟨.bl _, H, I.tok _, rfl, ?_⟩
  have e : (atKey xs k).isSome = (getM kvs k).isSome := by
    rcases atKey_m (X := X) M.rm M.pr k with ⟨e1, e2⟩ | ⟨_, _, _, _, e1, e2, _⟩ <;> rw [e1, e2] <;> rfl
  rw [e]
  exact q _ H (Same.refl H) (.d (.bl _))
theorem ix_mem (hu : X.A.units + 64 < cLine) : IxR X (rO X.K X.mg (gMix (mkHash X.prog X.w))) := by
  intro value slice pins s σ H x y v u Q I rx ry ⟨O, L, S, dx, dy, d, st, r1, r2, hg, q⟩ hs
  obtain ⟨kvs, h1, h2⟩ := Option.bind_eq_some_iff.mp hg
  obtain ⟨k, h3, h4⟩ := Option.bind_eq_some_iff.mp h2
  obtain ⟨z, h5, rfl⟩ := map_d h4
  obtain ⟨i, a, vs, rfl, rfl, hs', ha, hH, rm⟩ := mem_cell st r1 h1
  cases mkOf_eq h3
  obtain ⟨b, rfl, rk⟩ := mk_ref r2
  obtain ⟨xs, M⟩ := mem_at I hH rm
  cases rx
  cases ry
  rcases atKey_m (X := X) M.rm M.pr k with ⟨e1, _⟩ | ⟨z', v', b', u', e1, e2, rv, rz⟩
  · rw [h5] at e1; cases e1
  · rw [h5] at e1
    cases e1
    exact tail_any M.dict.typeIs PySem.F.slot_dict_getitem.lookup (wpAny_getItem_heap (knd := mkKind X.prog X.w) (room_mk hu) (reads_mk I rk) M.dict e2 ⟨v', H, I.tok _, rv, q _ H (Same.refl H) (.d rz)⟩) hs
theorem pm_mix {a b : Expr} {fa fb : EM} {pos : Pos} (hu : X.A.units + 64 < cLine) (ha : PM X W a fa) (hb : PM X W b fb) (hs : PlainIx b := by exact fun _ _ => rfl) : PM X W (.Subscript a b pos) (mOp (gMix (mkHash X.prog X.w)) fa fb) :=
  PE.imp (pe_ix (ix_mem hu) ha hb hs) fun σ H Q h => rO.go h
/-! ### {} -/
def mMem (hf : MK → Int) : EM := fun _ S => .ok (.r S.length) (S ++ [.mem hf []])
theorem pm_mem {pos : Pos} (hf : MK → Int) : PM X W (.Dict [] [] pos) (mMem hf) := by
  refine ⟨fun pins s σ H Q I ⟨O, L, S, ρ, a, h⟩ => ?_⟩
  have hp : H s.heap.objs.size = none := I.hok.fresh (Nat.le_refl _)
  have ns : (s.heap.objs.size == sysModules) = false := beq_eq_false_iff_ne.mpr (Ne.symm (Nat.ne_of_lt I.big))
  have new : ObjOk X.prog X.w (upd H s.heap.objs.size (memO hf s.heap.objs.size [])) (s.heap.push { cls := .type "dict", data := .dict #[] }) s.heap.objs.size (memO hf s.heap.objs.size []) := by
    refine ⟨⟨ns, Nat.zero_le _, [], .nil, ⟨_, #[], 0, Heap.get?_push_size _ rfl, ⟨rfl, rfl, rfl⟩, rfl, rfl⟩, List.nodup_nil⟩, ⟨_, Heap.get?_push_size _ rfl⟩, ?_⟩
    rintro h1 h2 ⟨g1, g2, xs, g3, ⟨o, es, ep, g4, g5⟩, g6⟩ k
    exact ⟨g1, g2, xs, g3, ⟨o, es, ep, k o g4, g5⟩, g6⟩
  refine wpAny_Dict_empty ⟨.ref s.heap.objs.size, _, I.laid (o := memO hf s.heap.objs.size []) (t' := s.toks) (fun _ _ z => Heap.get?_push_of_some _ z) (Nat.le_refl _) new, rfl, ?_⟩
  exact h _ _ (Ext.push hp) (a.st.push hp (.mem upd_same .nil)) _ (RD.last a.st)
end
end Sky
end
section
/-! Lay18: d[k] = v of such a dict. -/
namespace Sky
open PySem PySem.Spec PyProof.Rows L2
def putMV (vs : List (MK × Addr × V)) (k : MK) (b : Addr) (v : V) (old : Bool) : List (MK × Addr × V) := if old = true then vs.map (fun x => if x.1 = k then (x.1, x.2.1, v) else x) else vs ++ [(k, b, v)]
abbrev PrM (vs : List (MK × Addr × V)) (xs : List (MK × Addr × Value)) : Prop := Paired (fun (p : MK × Addr × V) (q : MK × Addr × Value) => p.1 = q.1 ∧ p.2.1 = q.2.1 ∧ RelV p.2.2 q.2.2) vs xs
theorem prM_put {k : MK} {b : Addr} {v : V} {u : Value} (r : RelV v u) : ∀ {vs : List (MK × Addr × V)} {xs : List (MK × Addr × Value)}, PrM vs xs → PrM (vs.map (fun x => if x.1 = k then (x.1, x.2.1, v) else x)) (xs.map (putAt k u))
  | _, _, .nil => .nil
  | _, _, .cons (a := p) (b := q) h t => by
    rw [List.map_cons, List.map_cons]
    refine .cons ?_ (prM_put (b := b) r t)
    obtain ⟨e1, e2, e3⟩ := h
    unfold putAt
    by_cases hk : p.1 = k
    · rw [if_pos hk, if_pos (e1 ▸ hk)]; exact ⟨e1, e2, r⟩
    · rw [if_neg hk, if_neg (e1 ▸ hk)]; exact ⟨e1, e2, e3⟩
theorem prM_app {k : MK} {b : Addr} {v : V} {u : Value} (r : RelV v u) : ∀ {vs : List (MK × Addr × V)} {xs : List (MK × Addr × Value)}, PrM vs xs → PrM (vs ++ [(k, b, v)]) (xs ++ [(k, b, u)])
  | _, _, .nil => .cons ⟨rfl, rfl, r⟩ .nil
  | _, _, .cons h t => .cons h (prM_app r t)
theorem rM_put {K : PySem.W.Frag} {H : Hp} {B : List Addr} {k : MK} {d : PyData} {v : V} (r : Rp K H B d v) : ∀ {ds : List (MK × PyData)} {vs : List (MK × Addr × V)}, RM K H B ds vs → RM K H B (ds.map (fun x => if x.1 = k then (x.1, d) else x)) (vs.map (fun x => if x.1 = k then (x.1, x.2.1, v) else x))
  | _, _, .nil => .nil
  | _, _, .cons (k := j) r1 r2 t => by
    rw [List.map_cons, List.map_cons]
    by_cases hk : j = k
    · rw [if_pos hk, if_pos hk]; exact .cons r1 r (rM_put r t)
    · rw [if_neg hk, if_neg hk]; exact .cons r1 r2 (rM_put r t)
theorem rM_app {K : PySem.W.Frag} {H : Hp} {B : List Addr} {k : MK} {b : Addr} {d : PyData} {v : V} (rk : Rp K H B (mkD k) (.ref b)) (r : Rp K H B d v) : ∀ {ds : List (MK × PyData)} {vs : List (MK × Addr × V)}, RM K H B ds vs → RM K H B (ds ++ [(k, d)]) (vs ++ [(k, b, v)])
  | _, _, .nil => .cons rk r .nil
  | _, _, .cons r1 r2 t => .cons r1 r2 (rM_app rk r t)
theorem rM_all {K : PySem.W.Frag} {H : Hp} {B : List Addr} {k : MK} {b : Addr} {d : PyData} {v : V} (rk : Rp K H B (mkD k) (.ref b)) (r : Rp K H B d v) {ds : List (MK × PyData)} {vs : List (MK × Addr × V)} (h : RM K H B ds vs) : RM K H B (putM ds k d) (putMV vs k b v (getM ds k).isSome) := by
  unfold putM putMV
  by_cases hc : (getM ds k).isSome = true
  · rw [if_pos hc, if_pos hc]; exact rM_put r h
  · rw [if_neg hc, if_neg hc]; exact rM_app rk r h
theorem RM.len {K : PySem.W.Frag} {H : Hp} {B : List Addr} : ∀ {ds : List (MK × PyData)} {vs : List (MK × Addr × V)}, RM K H B ds vs → ds.length = vs.length
  | _, _, .nil => rfl
  | _, _, .cons _ _ t => by rw [List.length_cons, List.length_cons, RM.len t]
theorem PrM.len : ∀ {vs : List (MK × Addr × V)} {xs : List (MK × Addr × Value)}, PrM vs xs → vs.length = xs.length
  | _, _, .nil => rfl
  | _, _, .cons _ t => by rw [List.length_cons, List.length_cons, PrM.len t]
noncomputable def gMset (hf : MK → Int) (S : Store) (o x y : D) : Option Store := match o, y with
  | .r i, .d y => (memOf S hf (.r i)).bind fun kvs => (mkOf x).bind fun k => if kvs.length < sizeLine then some (S.set i (.mem hf (putM kvs k y))) else none
  | _, _ => none
def rMset (K : PySem.W.Frag) (mg : MG) (hf : MK → Int) : V → V → V → Hp → (Hp → Prop) → Prop := fun o x y H Q => ∃ (O L : List Addr) (S S' : Store) (do' dx dy : D), Sto K mg H O L S ∧ RD K H O L do' o ∧ RD K H O L dx x ∧ RD K H O L dy y ∧ gMset hf S do' dx dy = some S' ∧ ∀ H', Ext L H L H' → Sto K mg H' O L S' → Q H'
section
variable {X : Cx} {W : WX}
theorem set_mem (hu : X.A.units + 64 < cLine) : PSet X (rMset X.K X.mg (mkHash X.prog X.w)) := by
  intro pins s σ H o x y ov iv u Q I ro rx ry ⟨O, L, S, S', do', dx, dy, st, r1, r2, r3, hg, q⟩
  unfold gMset at hg
  split at hg
  · rename_i i y'
    obtain ⟨kvs, h1, h2⟩ := Option.bind_eq_some_iff.mp hg
    obtain ⟨k, h3, h4⟩ := Option.bind_eq_some_iff.mp h2
    obtain ⟨hz, rfl⟩ := some_of_ite h4
    obtain ⟨i', a, vs, e, rfl, hs, ha, hH, rm⟩ := mem_cell st r1 h1
    cases e
    cases mkOf_eq h3
    obtain ⟨b, rfl, rk⟩ := mk_ref r2
    obtain ⟨xs, M⟩ := mem_at I hH rm
    cases ro
    cases rx
    cases r3 with
    | d r3 =>
      have lx : xs.length = kvs.length := by rw [← PrM.len M.pr, ← rm.len]
      refine wpAny_setItem_heap (knd := mkKind X.prog X.w) (room_mk hu) (reads_mk I rk) M.dict (fun h' d' sb => ?_) (by rw [lx]; omega)
      have old : (atKey xs k).isSome = (getM kvs k).isSome := by
        rcases atKey_m (X := X) M.rm M.pr k with ⟨e1, e2⟩ | ⟨_, _, _, _, e1, e2, _⟩ <;> rw [e1, e2] <;> rfl
      obtain ⟨oo, es, ep, g1, g2, g3, g4, g5, g6⟩ := d'
      have pr' : PrM (putMV vs k b y (getM kvs k).isSome) (storedH xs k b u) := by
        unfold putMV storedH
        rw [old]
        by_cases hc : (getM kvs k).isSome = true
        · rw [if_pos hc, if_pos hc]; exact prM_put (b := b) ry M.pr
        · rw [if_neg hc, if_neg hc]; exact prM_app ry M.pr
      have len' : (putMV vs k b y (getM kvs k).isSome).length ≤ sizeLine := by
        have lv := rm.len
        unfold putMV
        split
        · rw [List.length_map, ← lv]; omega
        · rw [List.length_append, ← lv]; exact hz
      have new : ObjOk X.prog X.w (upd H a (memO (mkHash X.prog X.w) a (putMV vs k b y (getM kvs k).isSome))) h' a (memO (mkHash X.prog X.w) a (putMV vs k b y (getM kvs k).isSome)) := by
        refine ⟨⟨M.ns, len', _, pr', ⟨oo, es, ep, g1, g2, g3, g4⟩, g6⟩, ⟨oo, g1⟩, ?_⟩
        rintro h1 h2 ⟨t1, t2, xs, t3, ⟨o, es, ep, t4, t5⟩, t6⟩ kk
        exact ⟨t1, t2, xs, t3, ⟨o, es, ep, kk o t4, t5⟩, t6⟩
      have I' : Inv X pins σ (upd H a (memO (mkHash X.prog X.w) a (putMV vs k b y (getM kvs k).isSome))) { s with heap := h', toks := s.toks + (mkKind X.prog X.w).draws k } :=
        I.write (e := a) (by rw [hH]; trivial) (.inl rfl) (fun c w hc hw => (sb.2 c hc).trans hw) ⟨oo, g1⟩ new
      refine ⟨_, I', q _ (Ext.upd ha) (st.upd ha (.mem upd_same ?_))⟩
      have kk := (Ext.upd (H := H) (o := memO (mkHash X.prog X.w) a (putMV vs k b y (getM kvs k).isSome)) ha).kp (O := O)
      have rm' := rm.mono kk
      have r3' := Rp.mono kk _ _ r3
      have rk' := Rp.mono kk _ _ rk
      exact rM_all rk' r3' rm'
  · cases hg
noncomputable def sMsub (hf : MK → Int) (fo fi fe : EM) : SM := fun ρ S => SR.ofE (fe ρ S) ρ fun y S1 => SR.ofE (fo ρ S1) ρ fun o S2 => SR.ofE (fi ρ S2) ρ fun x S3 => match gMset hf S3 o x y with
  | some S' => .nx ρ S'
  | none => .no
theorem pms_msub {o i e : Expr} {tpos pos : Pos} {fo fi fe : EM} (hu : X.A.units + 64 < cLine) (ho : PM X W o fo) (hi : PM X W i fi) (he : PM X W e fe)
    (ha : ∀ v, assign (.Subscript o i tpos) X.env v = (do
      let ov ← holding [v] (eval o X.env)
      let iv ← holding [v, ov] (eval i X.env)
      standAt tpos
      holding [v, ov, iv] (setItem ov iv v)
      release [v, ov, iv] []) := by intro _; rfl)
    (hs : swapsWithSole [.Subscript o i tpos] e pos.line X.env = pure false := by rfl) (hw : swappedStores [.Subscript o i tpos] e X.env = pure none := by rfl)
    (h1 : (assignEach [.Subscript o i tpos] X.env).map (·.2) = [assign (.Subscript o i tpos) X.env] := by rfl) : PMS X W (.Assign [.Subscript o i tpos] e pos) (sMsub (mkHash X.prog X.w) fo fi fe) :=
  PS.imp (ps_asg he (pg_sub ho hi (set_mem hu) ha) hs hw h1) fun Dn σ H ⟨O, L, S, ρ, a, h⟩ => by
    refine tM.stmt a h fun y v S1 L1 H1 a1 e1 r1 h1 => ?_
    refine tM.stmt a1 h1 fun o w S2 L2 H2 a2 e2 r2 h2 => ?_
    refine tM.stmt a2 h2 fun x z S3 L3 H3 a3 e3 r3 h3 => ?_
    cases hg : gMset (mkHash X.prog X.w) S3 o x y with
    | none => simp only [hg] at h3; exact h3.elim
    | some S' =>
      simp only [hg] at h3
      exact ⟨O, L3, S3, S', o, x, y, a3.st, r2.mono e3, r3, r1.mono (e2.trans e3), hg, fun H' e' st' => h3 σ H' L3 e' (a3.mono e' st')⟩
end
end Sky
end
section
/-! Lay19: in, not in; comparisons and least items of data. -/
namespace Sky
open PySem PySem.Spec PyProof.Rows L2
/-! ### in, not in -/
/-- is it in: data in lists and tuples, keys in dicts, signs in texts -/
def inOf (S : Store) (x y : D) : Option Bool := match y with
  | .d (.tuple xs) => (rf S x).bind fun a => if dp 60 a = true ∧ xs.all (dp 60) = true then some (xs.any fun z => PyData.eqv z a) else none
  | .d (.str z) => match x with
    | .d (.str ⟨⟨[c]⟩⟩) => some (decide (c ∈ z.cps.toList))
    | _ => none
  | y => match lk S y with
    | some xs => (rf S x).bind fun a => if dp 60 a = true ∧ xs.all (dp 60) = true then some (xs.any fun z => PyData.eqv z a) else none
    | none => (keyOf x).bind fun k => (dget S y k).map Option.isSome
def gIn (S : Store) (x y : D) : Option D := (inOf S x y).map fun b => .d (.bool b)
def gNin (S : Store) (x y : D) : Option D := (inOf S x y).map fun b => .d (.bool (!b))
section
variable {X : Cx} {W : WX}
theorem in_go (hu : X.A.units + 64 < cLine) {pins : List (Addr × Obj)} {s : Shared} {σ : L2.St} {H : Hp} {x y : V} {v u : Value} {Q : VK} {O L : List Addr} {S : Store} {dx dy : D} {b : Bool}
    (I : Inv X pins σ H s) (rx : RelV x v) (ry : RelV y u) (st : Sto X.K X.mg H O L S) (r1 : RD X.K H O L dx x) (r2 : RD X.K H O L dy y) (h : inOf S dx dy = some b) :
    (Q (.bl b) H → wpAny (model X.prog X.w) X.A (compareOp .In v u) (EP X pins σ Q) X.xe s) ∧ (Q (.bl (!b)) H → wpAny (model X.prog X.w) X.A (compareOp .NotIn v u) (EP X pins σ Q) X.xe s) := by
  unfold inOf at h
  split at h
  · rename_i xs
    obtain ⟨a, ha, h⟩ := Option.bind_eq_some_iff.mp h
    obtain ⟨⟨d1, d2⟩, rfl⟩ := some_of_ite h
    have p1 := dp_plain _ _ d1
    have p2 := dp_plainAll _ _ d2
    obtain ⟨as, ra⟩ := reads_of I p1.1 (rf_rp st r1 ha) rx
    obtain ⟨bs, rb⟩ := reads_of I (x := .tuple xs) (by simpa [PyData.plain] using p2.1) (rf_rp (x := .tuple xs) st r2 rfl) ry
    have room : X.A.units + 1 + min (PyData.depthAll xs) a.depth < cLine := by have := Nat.min_le_right (PyData.depthAll xs) a.depth; omega
    exact ⟨fun q => SeqAt.in_tuple_data rb ra p2.1 p1.1 room ⟨.bl _, H, I, rfl, q⟩, fun q => SeqAt.notIn_tuple_data rb ra p2.1 p1.1 room ⟨.bl _, H, I, rfl, q⟩⟩
  · rename_i z
    split at h
    · rename_i c
      cases h
      obtain rfl := ss r1
      obtain rfl := ss r2
      exact ⟨fun q => op_in_sign pins s σ H _ _ v u Q I rx ry ⟨c, z, rfl, rfl, q⟩, fun q => op_notIn_sign pins s σ H _ _ v u Q I rx ry ⟨c, z, rfl, rfl, q⟩⟩
    · cases h
  · cases hl : lk S dy with
    | some xs =>
      simp only [hl] at h
      obtain ⟨a, ha, h⟩ := Option.bind_eq_some_iff.mp h
      obtain ⟨⟨d1, d2⟩, rfl⟩ := some_of_ite h
      have p1 := dp_plain _ _ d1
      have p2 := dp_plainAll _ _ d2
      obtain ⟨as, ra⟩ := reads_of I p1.1 (rf_rp st r1 ha) rx
      obtain ⟨l, vs, rfl, hl2, rl⟩ := lk_at st r2 hl
      obtain ⟨bs, rb⟩ := reads_of (x := .list xs) I (by simpa [PyData.plain] using p2.1) (.lst (B := []) hl2 (by simp) (rpl_free rl)) ry
      have room : X.A.units + 1 + min (PyData.depthAll xs) a.depth < cLine := by have := Nat.min_le_right (PyData.depthAll xs) a.depth; omega
      exact ⟨fun q => SeqAt.in_list_data rb ra p2.1 p1.1 room ⟨.bl _, H, I, rfl, q⟩, fun q => SeqAt.notIn_list_data rb ra p2.1 p1.1 room ⟨.bl _, H, I, rfl, q⟩⟩
    | none =>
      simp only [hl] at h
      obtain ⟨k, hk, h⟩ := Option.bind_eq_some_iff.mp h
      obtain ⟨o, ho, rfl⟩ := map_some h
      obtain ⟨a, w, rfl, g, m⟩ := dget_at st r2 ho
      obtain rfl := keyOf_v r1 hk
      cases ry
      have e : w.isSome = o.isSome := by
        cases o <;> cases w <;> first | rfl | exact m.elim
      rw [← e]
      exact ⟨fun q => d_in (by omega) I g rx fun s3 I3 => ⟨.bl _, H, I3, rfl, q⟩, fun q => d_notIn (by omega) I g rx fun s3 I3 => ⟨.bl _, H, I3, rfl, q⟩⟩
theorem o_in (hu : X.A.units + 64 < cLine) : OpR X (compareOp .In) (rO X.K X.mg gIn) := by
  intro pins s σ H x y v u Q I rx ry ⟨O, L, S, dx, dy, d, st, r1, r2, hg, q⟩
  obtain ⟨b, hb, rfl⟩ := map_some hg
  exact (in_go hu I rx ry st r1 r2 hb).1 (q _ H (Same.refl H) (.d (.bl _)))
theorem o_nin (hu : X.A.units + 64 < cLine) : OpR X (compareOp .NotIn) (rO X.K X.mg gNin) := by
  intro pins s σ H x y v u Q I rx ry ⟨O, L, S, dx, dy, d, st, r1, r2, hg, q⟩
  obtain ⟨b, hb, rfl⟩ := map_some hg
  exact (in_go hu I rx ry st r1 r2 hb).2 (q _ H (Same.refl H) (.d (.bl _)))
/-! ### comparisons of alike data -/
def cmpOf (S : Store) (x y : D) : Option (PyData × PyData) := match rf S x, rf S y with
  | some a, some b => if PySem.W.alike a b = true ∧ dp 60 a = true ∧ dp 60 b = true ∧ isN (.d a) = false then some (a, b) else none
  | _, _ => none
def gLtA (S : Store) (x y : D) : Option D := (cmpOf S x y).map fun p => .d (.bool (PySem.W.dataLt p.1 p.2))
def gLeA (S : Store) (x y : D) : Option D := (cmpOf S x y).map fun p => .d (.bool (!PySem.W.dataLt p.2 p.1))
theorem cmp_go {pins : List (Addr × Obj)} {s : Shared} {σ : L2.St} {H : Hp} {x y : V} {v u : Value} {O L : List Addr} {S : Store} {dx dy : D} {p : PyData × PyData}
    (I : Inv X pins σ H s) (rx : RelV x v) (ry : RelV y u) (st : Sto X.K X.mg H O L S) (r1 : RD X.K H O L dx x) (r2 : RD X.K H O L dy y) (h : cmpOf S dx dy = some p) :
    ∃ as bs, Reads s.heap v p.1 as ∧ Reads s.heap u p.2 bs ∧ PySem.W.alike p.1 p.2 = true ∧ p.1 ≠ .none ∧ p.1.depth ≤ 60 := by
  unfold cmpOf at h
  split at h
  · rename_i a b ha hb
    obtain ⟨⟨h1, h2, h3, h4⟩, rfl⟩ := some_of_ite h
    have p1 := dp_plain _ _ h2
    have p2 := dp_plain _ _ h3
    obtain ⟨as, ra⟩ := reads_of I p1.1 (rf_rp st r1 ha) rx
    obtain ⟨bs, rb⟩ := reads_of I p2.1 (rf_rp st r2 hb) ry
    exact ⟨as, bs, ra, rb, h1, (fun z => by simp only [] at z; rw [z] at h4; cases h4), p1.2⟩
  · cases h
theorem o_ltA (hu : X.A.units + 64 < cLine) : OpR X (compareOp .Lt) (rO X.K X.mg gLtA) := by
  intro pins s σ H x y v u Q I rx ry ⟨O, L, S, dx, dy, d, st, r1, r2, hg, q⟩
  obtain ⟨p, hp, rfl⟩ := map_some hg
  obtain ⟨as, bs, ra, rb, al, nn, dl⟩ := cmp_go I rx ry st r1 r2 hp
  exact PySem.W.lt_data ra rb al nn (by have := Nat.min_le_left p.1.depth p.2.depth; omega) ⟨.bl _, H, I, rfl, q _ H (Same.refl H) (.d (.bl _))⟩
theorem o_leA (hu : X.A.units + 64 < cLine) : OpR X (compareOp .LtE) (rO X.K X.mg gLeA) := by
  intro pins s σ H x y v u Q I rx ry ⟨O, L, S, dx, dy, d, st, r1, r2, hg, q⟩
  obtain ⟨p, hp, rfl⟩ := map_some hg
  obtain ⟨as, bs, ra, rb, al, nn, dl⟩ := cmp_go I rx ry st r1 r2 hp
  exact PySem.W.le_data ra rb al nn (by have := Nat.min_le_left p.1.depth p.2.depth; omega) ⟨.bl _, H, I, rfl, q _ H (Same.refl H) (.d (.bl _))⟩
end
end Sky
end
section
/-! Lay20: least items of data. -/
namespace Sky
open PySem PySem.Spec PyProof.Rows L2
def alikeAllB (xs : List PyData) : Bool := xs.all fun x => !isN (.d x) && dp 60 x && xs.all fun y => PySem.W.alike x y
theorem alikeAllB_t {xs : List PyData} (h : alikeAllB xs = true) : PySem.W.AlikeAll xs ∧ xs.all (dp 60) = true := by
  have h := List.all_eq_true.mp h
  refine ⟨⟨fun x hx y hy => ?_, fun x hx z => ?_⟩, List.all_eq_true.mpr fun x hx => ?_⟩
  · have := h x hx
    rw [Bool.and_eq_true] at this
    exact List.all_eq_true.mp this.2 y hy
  · have := h x hx
    rw [z] at this
    cases this
  · have := h x hx
    rw [Bool.and_eq_true, Bool.and_eq_true] at this
    exact this.1.2
def minL : List PyData → Option PyData
  | [] => none
  | x :: xs => if alikeAllB (x :: xs) = true then some (PySem.W.minD x xs) else none
def cMinL (S : Store) (ds : List D) : Option D := match ds with
  | [.d (.tuple xs)] => (minL xs).map .d
  | [x] => ((lk S x).bind minL).map .d
  | _ => none
def cMinT (S : Store) (ds : List D) : Option D := match ds with
  | [.d x, .d y] => if alikeAllB [x, y] = true then some (.d (if PySem.W.dataLt y x = true then y else x)) else none
  | _ => none
section
variable {X : Cx} {W : WX}
theorem vals_at : ∀ {vs : List V} {us : List Value}, Vals vs us → ∀ {i : Nat} {u : Value}, us[i]? = some u → ∃ v, vs[i]? = some v ∧ RelV v u
  | _, _, .nil, i, u, h => by simp at h
  | _, _, .cons r t, 0, u, h => by simp at h; subst h; exact ⟨_, rfl, r⟩
  | _, _, .cons r t, i + 1, u, h => by
    obtain ⟨v, h1, h2⟩ := vals_at t (i := i) (by simpa using h)
    exact ⟨v, by simpa using h1, h2⟩
theorem rpl_at {K : PySem.W.Frag} {H : Hp} {B : List Addr} : ∀ {ds : List PyData} {vs : List V}, RpL K H B ds vs → ∀ {i : Nat} {v : V}, vs[i]? = some v → ∃ d, ds[i]? = some d ∧ Rp K H B d v
  | _, _, .nil, i, v, h => by simp at h
  | _, _, .cons r t, 0, v, h => by simp at h; subst h; exact ⟨_, rfl, r⟩
  | _, _, .cons r t, i + 1, v, h => by
    obtain ⟨d, h1, h2⟩ := rpl_at t (i := i) (by simpa using h)
    exact ⟨d, by simpa using h1, h2⟩
/-- an item found by what it reads as -/
theorem item_of {pins : List (Addr × Obj)} {s : Shared} {σ : L2.St} {H : Hp} {B : List Addr} (I : Inv X pins σ H s) {xs : List PyData} {vs : List V} {us : List Value} (rl : RpL X.K H B xs vs) (rv : Vals vs us) (hp : xs.all (dp 60) = true)
    {i : Nat} {u : Value} {h' : Heap} {m : PyData} {bs : List Addr} (hu : us[i]? = some u) (hr : Reads h' u m bs) (hk : ∀ b o, s.heap.get? b = some o → h'.get? b = some o) : ∃ v, RelV v u ∧ Rp X.K H B m v := by
  obtain ⟨v, hv, rvu⟩ := vals_at rv hu
  obtain ⟨d, hd, rd⟩ := rpl_at rl hv
  have pd := (dp_plain _ _ (List.all_eq_true.mp hp d (List.mem_of_getElem? hd))).1
  obtain ⟨as, ra⟩ := reads_of I pd rd rvu
  obtain rfl := SeqAt.plain_unique d m u as bs pd (PySem.W.reads_keeps hk ra) hr
  exact ⟨v, rvu, rd⟩
theorem k_minL (hc : X.calm = true) (hu : X.A.units + 64 < cLine) : CallR X (.builtin "min") (rCl X.K X.mg cMinL) := by
  intro pins s σ H vs us Q I rv ⟨O, L, S, ds, d, st, r, hg, q⟩
  unfold cMinL at hg
  split at hg
  · rename_i xs
    obtain ⟨m, h2, rfl⟩ := map_some hg
    cases r with
    | cons r t =>
      cases t
      cases r with
      | d r =>
        cases xs with
        | nil => cases h2
        | cons x xs =>
          obtain ⟨hal, rfl⟩ := some_of_ite h2
          obtain ⟨hal, hdp⟩ := alikeAllB_t hal
          have pl := dp_plainAll _ _ hdp
          have r0 := r
          cases r with
          | @tup a ws _ q1 q2 ra =>
            obtain ⟨as, rr⟩ := reads_of (x := .tuple (x :: xs)) I (by simpa [PyData.plain] using pl.1) (rp_free r0) (u := .ref a) rfl
            obtain ⟨its, rvi, p, hz⟩ := I.tuple (.inl q1)
            rw [Vals.ref1 rv]
            cases rr with
            | tuple g1 g2 g3 g4 =>
              have hl : s.heap.IsTuple a its.toArray := p
              obtain ⟨o, ho, hoc, n, hod⟩ := id hl
              obtain rfl := Option.some.inj (g1.symm.trans ho)
              rw [hod] at g3
              injection g3 with g3 _
              subst g3
              refine PySem.W.min_tuple_data (I.ok.hd hc) hl g4 hal (by have := pl.2; omega) fun i v h' tk bs hi hr hk => ?_
              obtain ⟨w', rw', rp'⟩ := item_of I ra rvi hdp (by simpa using hi) hr hk
              exact ⟨w', H, I.kept hk, rw', q _ H (Same.refl H) (.d rp')⟩
  · rename_i dx
    obtain ⟨m, hx, rfl⟩ := map_some hg
    obtain ⟨xs, h1, h2⟩ := Option.bind_eq_some_iff.mp hx
    cases r with
    | cons r t =>
      cases t
      obtain ⟨a, ws, rfl, ha, ra⟩ := lk_at st r h1
      cases xs with
      | nil => cases h2
      | cons x xs =>
        obtain ⟨hal, rfl⟩ := some_of_ite h2
        obtain ⟨hal, hdp⟩ := alikeAllB_t hal
        have pl := dp_plainAll _ _ hdp
        obtain ⟨as, rr⟩ := reads_of (x := .list (x :: xs)) I (by simpa [PyData.plain] using pl.1) (.lst (B := []) ha (by simp) (rpl_free ra)) (u := .ref a) rfl
        obtain ⟨its, rvi, hl, hz⟩ := I.list (.inl (.inl ha))
        rw [Vals.ref1 rv]
        cases rr with
        | list g1 g2 g3 g4 =>
          obtain ⟨o, ho, hoc, n, hod⟩ := hl.isList
          obtain rfl := Option.some.inj (g1.symm.trans ho)
          rw [hod] at g3
          injection g3 with g3 _
          subst g3
          refine PySem.W.min_list_data (I.ok.hd hc) hl.isList g4 hal (by have := pl.2; omega) fun i v h' tk bs hi hr hk => ?_
          obtain ⟨w', rw', rp'⟩ := item_of I ra rvi hdp (by simpa using hi) hr hk
          exact ⟨w', H, I.kept hk, rw', q _ H (Same.refl H) (.d rp')⟩
  · cases hg
theorem min2_walk {prog : Program} {w : World} {A : Around} {E : Value → Shared → Prop} {s : Shared} {a b : Value} {Q : Value → Shared → Prop}
    (hyp : wpAny (model prog w) A.in1 (pyIter (.ref s.heap.objs.size)) (fun it t => ∃ I fp wr G n P St H bt, it = .ref I ∧ WalksS prog w A.in1 I fp wr G n P St ∧ St 0 t ∧ (∀ b ∈ fp, b < t.heap.objs.size) ∧ 0 < n ∧
      (∀ b o, H.get? b = some o → b ∉ wr) ∧ (∀ b o, H.get? b = some o → t.heap.get? b = some o) ∧ CmpIn prog w A.in1 .Lt H P bt ∧ ∀ v s', P (argBest bt (n - 1)) v → Moved wr G t s' → Q v s') E { s with heap := s.heap.push { cls := .type "tuple", data := .seq #[a, b] } }) :
    wpAny (model prog w) A (call (.builtin "min") [a, b]) Q E s := by
  have nm : (toString "min" ++ toString ".loop" : String) = "min.loop" := by decide
  refine call_function_tree PySem.F.kind_min PySem.F.plain_min PySem.F.entry_min (PySem.F.args_min2 _ _) ?_
  show wpAny _ A.in1 (Builtin.Builtins.bindParams "min" ["key", "default"] 0 ⟨[], []⟩ >>= _) _ _ s
  refine wpAny_bind (wpAny_of_eq (show Builtin.Builtins.bindParams "min" ["key", "default"] 0 ⟨[], []⟩ = pure [none, none] from rfl) ?_)
  show wpAny _ A.in1 (newTuple [a, b] >>= _) _ _ s
  refine wpAny_bind (wpAny_newObj_type ?_)
  refine wpAny_bind (wpAny_mono hyp (fun it t ht => ?_) fun _ _ z => z)
  obtain ⟨I, fp, wr, G, n, P, St, H, bt, rfl, W, st0, fpl, pos, nw, keep, cmp, fin⟩ := ht
  refine wpAny_bind (wpAny_newObj_type ?_)
  have out : t.heap.objs.size ∉ fp := fun z => Nat.lt_irrefl _ (fpl _ z)
  rw [nm]
  refine wpAny_pure ⟨plainId_quiet PySem.F.plain_min_loop _, codeAny_min_loop_firstH W H nw bt cmp t.heap.objs.size out (fresh_in keep) _ pos (fun b o e => Heap.get?_push_of_some _ (keep b o e)) (W.frame 0 t _ t.toks st0 (Nat.le_refl _) fun b _ o e => Heap.get?_push_of_some _ e) (Heap.get?_push_size _ rfl) fun v s' hP m => ?_⟩
  exact fin v s' hP (Moved.drop_new (tk := t.toks) m (Nat.le_refl _))
theorem k_minT (hc : X.calm = true) (hu : X.A.units + 64 < cLine) : CallR X (.builtin "min") (rCl X.K X.mg cMinT) := by
  intro pins s σ H vs us Q I rv ⟨O, L, S, ds, d, st, r, hg, q⟩
  unfold cMinT at hg
  split at hg
  · rename_i x y
    obtain ⟨hal, rfl⟩ := some_of_ite hg
    obtain ⟨hal, hdp⟩ := alikeAllB_t hal
    have pl := dp_plainAll _ _ hdp
    cases r with
    | cons r t =>
      cases t with
      | cons r2 t =>
        cases t
        obtain ⟨u1, u2, rfl, rv1, rv2⟩ := vals2 rv
        cases r with
        | d r =>
          cases r2 with
          | d r2 =>
            have px := (dp_plain _ _ (List.all_eq_true.mp hdp x (by simp))).1
            have py := (dp_plain _ _ (List.all_eq_true.mp hdp y (by simp))).1
            obtain ⟨as, ra⟩ := reads_of I px r rv1
            obtain ⟨bs, rb⟩ := reads_of I py r2 rv2
            have h1 : ∀ b o, s.heap.get? b = some o → (s.heap.push { cls := .type "tuple", data := .seq #[u1, u2] }).get? b = some o := fun b o e => Heap.get?_push_of_some _ e
            have hT : (s.heap.push { cls := .type "tuple", data := .seq #[u1, u2] }).IsTuple s.heap.objs.size #[u1, u2] := ⟨_, Heap.get?_push_size _ rfl, rfl, 0, rfl⟩
            have rr : ReadsAll (s.heap.push { cls := .type "tuple", data := .seq #[u1, u2] }) (#[u1, u2] : Array Value).toList [x, y] (as ++ (bs ++ [])) := .cons (PySem.W.reads_keeps h1 ra) (.cons (PySem.W.reads_keeps h1 rb) .nil)
            have hd2 : X.A.in1.units + PyData.depthAll [x, y] < cLine := by
              have := pl.2
              show X.A.units + 1 + _ < _
              omega
            have hh : X.A.in1.handled = none := I.ok.hd hc
            refine min2_walk (PySem.W.iter_tupleW (A := X.A.in1) (s := { s with heap := s.heap.push { cls := .type "tuple", data := .seq #[u1, u2] } }) hh hT fun t e W st0 fpl nw keep => ?_)
            refine ⟨_, _, _, _, _, _, _, s.heap.push { cls := .type "tuple", data := .seq #[u1, u2] }, _, rfl, W, st0, fpl, by simp, nw, keep, PySem.W.cmpIn_lt (s := { s with heap := s.heap.push { cls := .type "tuple", data := .seq #[u1, u2] } }) (A := X.A.in1) rr hal hd2, fun v s' hP m => ?_⟩
            obtain ⟨h', tk, rfl, hk'⟩ := PySem.W.moved_old e rfl m
            have hkk : ∀ b o, s.heap.get? b = some o → h'.get? b = some o := fun b o z => hk' b o (h1 b o z)
            have e1 : argBest (fun i j => PySem.W.dataLt ([x, y].getD i .none) ([x, y].getD j .none)) 1 = if PySem.W.dataLt y x = true then 1 else 0 := rfl
            replace hP : (#[u1, u2] : Array Value)[argBest (fun i j => PySem.W.dataLt ([x, y].getD i .none) ([x, y].getD j .none)) 1]? = some v := hP
            rw [e1] at hP
            by_cases hlt : PySem.W.dataLt y x = true
            · rw [if_pos hlt] at hP
              cases hP
              exact ⟨_, H, I.kept hkk, rv2, q _ H (Same.refl H) (.d (by rw [if_pos hlt]; exact r2))⟩
            · rw [if_neg hlt] at hP
              cases hP
              exact ⟨_, H, I.kept hkk, rv1, q _ H (Same.refl H) (.d (by rw [if_neg hlt]; exact r))⟩
  · cases hg
end
end Sky
end
section
/-! Lay21: sorted. -/
namespace Sky
open PySem PySem.Spec PyProof.Rows L2
section
variable {prog : Program} {w : World} {A : Around} {E : Value → Shared → Prop} {s : Shared}
theorem collect_tup {l : Addr} {vs : List Value} {Q : List Value → Shared → Prop} (at_ : s.heap.IsTuple l vs.toArray) (sz : vs.length ≤ sizeLine)
    (q : Q vs { s with heap := (s.heap.push (seqObj "list" #[] 0)).update s.heap.objs.size (Obj.mapSeq (· ++ vs.toArray)) }) : wpAny (model prog w) A (collect (.ref l)) Q E s := by
  obtain ⟨ob, hob, hcl, k, hdat⟩ := id at_
  unfold collect
  refine wpAny_bind (wpAny_runValue (codeAny_builtin entry_proto_collect' ?_))
  show wpAny _ _ (do again (.builtin "list.__iadd__" ⟨[← newList [], .ref l], []⟩)) _ _ s
  refine wpAny_bind (wpAny_newList (wpAny_pure ⟨Code.quiet_builtin _ (by decide +kernel), codeAny_builtin entry_list_iadd' ?_⟩))
  show wpAny _ _ (Builtin.List.listExtendWith (.ref s.heap.objs.size) (.ref l) (.ref s.heap.objs.size)) _ _ { s with heap := s.heap.push (seqObj "list" #[] 0) }
  unfold Builtin.List.listExtendWith
  have hob2 : (s.heap.push (seqObj "list" #[] 0)).get? l = some ob := Heap.get?_push_of_some _ hob
  refine wpAny_bind (wpAny_typeOf (T := "tuple") ⟨ob, hob2, hcl⟩ ?_)
  have tt1 : (Value.type "tuple" == Value.type "tuple") = true := by rfl
  rw [if_pos (by rw [tt1]; simp)]
  refine wpAny_bind (listItems_at hob2 hdat ?_)
  refine wpAny_bind (listItems_at (xs := #[]) (n := 0) (Heap.get?_push_size _ rfl) rfl ?_)
  rw [if_neg (by simp)]
  refine wpAny_bind (listUpdate_at (xs := #[]) (n := 0) (Heap.get?_push_size _ rfl) rfl ?_ (Nat.zero_le _) (by show (#[] ++ vs.toArray).size ≤ sizeLine + 1; simp only [Array.size_append, List.size_toArray, List.length_nil]; omega))
  refine wpAny_pure ?_
  show wpAny (model prog w) A (do
      let o ← load s.heap.objs.size
      match o.data with
      | .seq xs _ => pure xs.toList
      | _ => unsupported "internal:collect") Q E { s with heap := (s.heap.push (seqObj "list" #[] 0)).update s.heap.objs.size (Obj.mapSeq (· ++ vs.toArray)) }
  refine wpAny_bind (wpAny_load (get?_update_seq (Heap.get?_push_size _ rfl) _) ?_)
  show wpAny _ _ (pure ((#[] : Array Value) ++ vs.toArray).toList) Q E _
  rw [show ((#[] : Array Value) ++ vs.toArray).toList = vs by simp]
  exact wpAny_pure q
theorem sorted_tup {l : Addr} {vs : List Value} {Q : Value → Shared → Prop} (at_ : s.heap.IsTuple l vs.toArray) (sz : vs.length ≤ sizeLine)
    (body : ∀ E' : Value → Shared → Prop, wpAny (model prog w) A.in1.in1 (Builtin.«list.sort» ⟨[.ref (s.heap.objs.size + 1)], []⟩) (fun f s' => f = .done (.ret .none) ∧ Q (.ref (s.heap.objs.size + 1)) s') E' { s with heap := PySem.W.copyHeap s.heap vs }) :
    wpAny (model prog w) A (call (.builtin "sorted") [.ref l]) Q E s := by
  refine call_function_entry_kw kind_sorted plain_sorted entry_sorted (args_sorted1 _) ?_
  unfold Builtin.«sorted»
  refine wpAny_bind (m := checkCount "sorted" 1 1 _) (wpAny_pure ?_)
  refine wpAny_bind (collect_tup at_ sz ?_)
  refine wpAny_bind (wpAny_newList ?_ sz)
  have z1 : ((s.heap.push (seqObj "list" #[] 0)).update s.heap.objs.size (Obj.mapSeq (· ++ vs.toArray))).objs.size = s.heap.objs.size + 1 := by
    rw [Heap.size_update, size_push']
  show wpAny _ _ _ _ _ { s with heap := PySem.W.copyHeap s.heap vs }
  rw [z1]
  refine wpAny_bind (wpAny_holding (wpAny_call_entry_kw slot_list_sort ⟨_, PySem.W.copyHeap_at s.heap vs, rfl⟩ entry_list_sort ?go (args_list_sort _)))
  case go =>
    show wpAny (model prog w) A.in1.in1 (Builtin.«list.sort» ⟨[.ref (s.heap.objs.size + 1)], []⟩) _ _ _
    refine wpAny_mono (body _) (fun f s' hf => ?_) fun _ _ e => e
    obtain ⟨rfl, hq⟩ := hf
    exact ⟨_, rfl, wpAny_pure ⟨_, rfl, hq⟩⟩
end
/-- data sorted, as Python does -/
def sortD (xs : List PyData) : List PyData := xs.mergeSort fun a b => !PySem.W.dataLt b a
/-- what sorted is asked of here -/
def sortOk (xs : List PyData) : Bool := alikeAllB xs && decide (xs.length ≤ sizeLine) && ((xs.all fun d => match d with | .tuple (_ :: _) => true | _ => false) || xs.all fun d => match d with | .tuple _ => false | _ => true)
theorem sortOk_t {xs : List PyData} (h : sortOk xs = true) : PySem.W.AllAlike xs ∧ PySem.W.Sortable xs ∧ xs.length ≤ sizeLine ∧ xs.all (dp 60) = true := by
  unfold sortOk at h
  rw [Bool.and_eq_true, Bool.and_eq_true] at h
  obtain ⟨⟨h1, h2⟩, h3⟩ := h
  obtain ⟨h1, h4⟩ := alikeAllB_t h1
  refine ⟨fun d hd d' hd' => h1.1 d hd d' hd', ?_, of_decide_eq_true h2, h4⟩
  rw [Bool.or_eq_true] at h3
  rcases h3 with h3 | h3
  · refine .inl fun d hd => ?_
    have := List.all_eq_true.mp h3 d hd
    split at this
    · exact ⟨_, _, rfl⟩
    · cases this
  · refine .inr fun d hd => ⟨h1.2 d hd, fun ys z => ?_⟩
    have := List.all_eq_true.mp h3 d hd
    rw [z] at this
    cases this
def itemsOf (S : Store) : D → Option (List PyData)
  | .d (.tuple xs) => some xs
  | x => lk S x
def cSorted (S : Store) (ds : List D) : Option D := match ds with
  | [x] => (itemsOf S x).bind fun xs => if sortOk xs = true then some (.d (.list (sortD xs))) else none
  | _ => none
section
variable {X : Cx}
theorem each_of {pins : List (Addr × Obj)} {s : Shared} {σ : L2.St} {H : Hp} {B : List Addr} (I : Inv X pins σ H s) : ∀ {xs : List PyData} {vs : List V} {us : List Value}, RpL X.K H B xs vs → Vals vs us → xs.all (dp 60) = true →
    PySem.W.EachIs (fun u (b : PyData × V) => RelV b.2 u ∧ Rp X.K H B b.1 b.2) us (xs.zip vs) ∧ PySem.W.EachIs (fun u (b : PyData × V) => ∃ as, Reads s.heap u b.1 as) us (xs.zip vs) ∧ (xs.zip vs).map Prod.fst = xs
  | _, _, _, .nil, r, _ => by cases r; exact ⟨.nil, .nil, rfl⟩
  | _, _, _, .cons q t, r, h => by
    cases r with
    | cons r1 r2 =>
      rw [List.all_cons, Bool.and_eq_true] at h
      obtain ⟨i1, i2, i3⟩ := each_of I t r2 h.2
      refine ⟨.cons ⟨r1, q⟩ i1, .cons (reads_of I (dp_plain _ _ h.1).1 q r1) i2, ?_⟩
      rw [List.zip_cons_cons, List.map_cons, i3]
theorem each_back {K : PySem.W.Frag} {H : Hp} {B : List Addr} : ∀ {us : List Value} {bs : List (PyData × V)}, PySem.W.EachIs (fun u (b : PyData × V) => RelV b.2 u ∧ Rp K H B b.1 b.2) us bs → Vals (bs.map Prod.snd) us ∧ RpL K H B (bs.map Prod.fst) (bs.map Prod.snd)
  | _, _, .nil => ⟨.nil, .nil⟩
  | _, _, .cons r t => by
    obtain ⟨i1, i2⟩ := each_back t
    exact ⟨.cons r.1 i1, .cons r.2 i2⟩
theorem sort_fst (bs : List (PyData × V)) : (bs.mergeSort (PySem.W.dataLe false Prod.fst)).map Prod.fst = sortD (bs.map Prod.fst) := by
  unfold sortD
  rw [List.map_mergeSort (s := fun a b => !PySem.W.dataLt b a) (fun a _ b _ => by rw [PySem.W.dataLe_eq]; rfl)]
theorem k_sorted (hu : X.A.units + 64 < cLine) : CallR X (.builtin "sorted") (rCl X.K X.mg cSorted) := by
  intro pins s σ H vs us Q I rv ⟨O, L, S, ds, d, st, r, hg, q⟩
  unfold cSorted at hg
  split at hg
  · rename_i dx
    obtain ⟨xs, h1, h2⟩ := Option.bind_eq_some_iff.mp hg
    obtain ⟨ok, rfl⟩ := some_of_ite h2
    obtain ⟨al, srt, len, hdp⟩ := sortOk_t ok
    have pl := dp_plainAll _ _ hdp
    cases r with
    | cons r t =>
      cases t
      -- the end, whatever holds the items
      have fin : ∀ {ws : List V} {its : List Value} {a : Addr}, RpL X.K H (O ++ L) xs ws → Vals ws its → ∀ (out : List Value), out.length = (xs.zip ws).length →
          PySem.W.EachIs (fun u (b : PyData × V) => RelV b.2 u ∧ Rp X.K H (O ++ L) b.1 b.2) out ((xs.zip ws).mergeSort (PySem.W.dataLe false Prod.fst)) → EP X pins σ Q (.ref (s.heap.objs.size + 1)) { s with heap := sortedAll s.heap its (List.toArray out) } := by
        intro ws its a ra rvi out ho he
        obtain ⟨b1, b2⟩ := each_back he
        rw [sort_fst, (each_of I ra rvi hdp).2.2] at b2
        obtain ⟨ep, at_⟩ := PyProof.Rows.sortedAll_at s.heap its (List.toArray out)
        have hz : (((xs.zip ws).mergeSort (PySem.W.dataLe false Prod.fst)).map Prod.snd).length ≤ sizeLine := by
          rw [List.length_map, List.length_mergeSort, List.length_zip, ← ra.length, Nat.min_self]
          exact len
        have hp := I.hok.fresh (Nat.le_succ s.heap.objs.size)
        refine ⟨.ref _, upd H (s.heap.objs.size + 1) (.lst (((xs.zip ws).mergeSort (PySem.W.dataLe false Prod.fst)).map Prod.snd)), I.laid (t' := s.toks) (fun _ _ => PyProof.Rows.sortedAll_old) (Nat.le_succ _) ⟨hz, out, ep, b1, at_⟩, rfl, ?_⟩
        exact q _ _ (same_upd hp) (new_lst st hp b2)
      unfold itemsOf at h1
      split at h1
      · cases h1
        obtain ⟨a, ws, rfl, ha, _, ra, _⟩ := tt r
        obtain ⟨its, rvi, hl, hz⟩ := I.tuple ha
        rw [Vals.ref1 rv]
        obtain ⟨e1, e2, e3⟩ := each_of I ra rvi hdp
        have e2' : PySem.W.EachIs (fun u (b : PyData × V) => ∃ as, Reads (PySem.W.sortingHeap (PySem.W.copyHeap s.heap its) (s.heap.objs.size + 1) its) u b.1 as) its (xs.zip ws) := e2.mono fun _ _ ⟨as, r⟩ => ⟨as, PyProof.Rows.Reads.keeps (fun _ _ => PySem.W.sorting_copy_old) r⟩
        refine sorted_tup hl (by rw [← rvi.length, ← ra.length]; exact len) fun E' => PySem.W.list_sort_vals (s := { s with heap := PySem.W.copyHeap s.heap its }) (PySem.W.copyHeap_at s.heap its) (PySem.W.SortsAt.data (s := { s with heap := PySem.W.sortingHeap (PySem.W.copyHeap s.heap its) (s.heap.objs.size + 1) its }) (PySem.W.each_map (R := fun v d => ∃ as, Reads (PySem.W.sortingHeap (PySem.W.copyHeap s.heap its) (s.heap.objs.size + 1) its) v d as) Prod.fst e2') (by rw [e3]; exact al) (by rw [e3]; exact srt) fun d hd => ?_) (by rw [← rvi.length, ← ra.length]; exact len) ⟨rfl, fin (a := a) ra rvi _ (by rw [PySem.W.sortVals_length false rfl]; exact e1.length) (PySem.W.sortVals_data false e1 e2' (by rw [e3]; exact al))⟩
        rw [e3] at hd
        have := (dp_plain _ _ (List.all_eq_true.mp hdp d hd)).2
        show X.A.units + 1 + 1 + _ < _
        omega
      · obtain ⟨a, ws, rfl, ha, ra⟩ := lk_at st r h1
        obtain ⟨its, rvi, hl, hz⟩ := I.list (.inl (.inl ha))
        rw [Vals.ref1 rv]
        obtain ⟨e1, e2, e3⟩ := each_of I ra rvi hdp
        exact PySem.W.sorted_data hl.isList e1 e2 (by rw [e3]; exact al) (by rw [e3]; exact srt) (by rw [List.length_zip, ← ra.length, Nat.min_self]; exact len) (fun b hb => by
          have : b.1 ∈ xs := by rw [← e3]; exact List.mem_map.mpr ⟨b, hb, rfl⟩
          have := (dp_plain _ _ (List.all_eq_true.mp hdp b.1 this)).2
          omega) (fun out ho he => fin (a := a) ra rvi out ho he)
  · cases hg
end
end Sky
end
section
/-! Lay22: dict comprehensions. -/
namespace Sky
open PySem PySem.Spec PyProof.Rows L2
/-- key: value, as a pair -/
def pairM (fk fv : EM) : EM := fun ρ S => (fk ρ S).andThen fun k S1 => (fv ρ S1).andThen fun v S2 => match keyOf k, v with
  | some kk, .d y => .ok (.d (.tuple [keyD kk, y])) S2
  | _, _ => .no
theorem pairM_ok {fk fv : EM} {ρ : Env} {S S' : Store} {y : PyData} (h : pairM fk fv ρ S = .ok (.d y) S') : ∃ dk S1 kk yv, fk ρ S = .ok dk S1 ∧ keyOf dk = some kk ∧ fv ρ S1 = .ok (.d yv) S' ∧ y = .tuple [keyD kk, yv] := by
  unfold pairM at h
  cases h1 : fk ρ S with
  | no => rw [h1] at h; cases h
  | exc _ _ => rw [h1] at h; cases h
  | ok k S1 =>
    rw [h1] at h
    replace h : ((fv ρ S1).andThen fun v S2 => match keyOf k, v with
      | some kk, .d y => Res.ok (D.d (.tuple [keyD kk, y])) S2
      | _, _ => .no) = .ok (.d y) S' := h
    cases h2 : fv ρ S1 with
    | no => rw [h2] at h; cases h
    | exc _ _ => rw [h2] at h; cases h
    | ok v S2 =>
      rw [h2] at h
      replace h : (match keyOf k, v with
        | some kk, .d y => Res.ok (D.d (.tuple [keyD kk, y])) S2
        | _, _ => .no) = .ok (.d y) S' := h
      cases hk : keyOf k with
      | none => simp only [hk] at h; cases h
      | some kk =>
        cases v with
        | d yv => simp only [hk] at h; cases h; exact ⟨k, S1, kk, yv, rfl, hk, h2, rfl⟩
        | r _ => simp only [hk] at h; cases h
        | s _ => simp only [hk] at h; cases h
def unKey : PyData → Key
  | .int i => .inl i
  | .str x => .inr x
  | _ => .inl 0
@[simp] theorem unKey_keyD (k : Key) : unKey (keyD k) = k := by cases k <;> rfl
/-- pairs stored one after the other -/
def foldP (acc : List (Key × PyData)) : List PyData → List (Key × PyData)
  | [] => acc
  | .tuple [k, v] :: r => foldP (putD acc (unKey k) v) r
  | _ :: r => foldP acc r
def dcOf (ys : List PyData) : List (Key × PyData) := foldP [] ys
theorem foldP_cons (acc : List (Key × PyData)) (k : Key) (v : PyData) (r : List PyData) : foldP acc (.tuple [keyD k, v] :: r) = foldP (putD acc k v) r := by
  rw [foldP, unKey_keyD]
theorem putD_len (kvs : List (Key × PyData)) (k : Key) (v : PyData) : (putD kvs k v).length ≤ kvs.length + 1 := by
  unfold putD
  split
  · rw [List.length_map]; omega
  · rw [List.length_append]; exact Nat.le_refl _
def dictD (kvs : List (Key × PyData)) : PyData := .dict (kvs.map fun kv => (keyD kv.1, kv.2))
def mDc (f : IM) (g : TgM) (t : BM) (fk fv : EM) (own : List Nat) : EM := fun ρ S => (f ρ S).andThen fun xs S1 => if xs.length < sizeLine then (match compL g t (pairM fk fv) (wipeE ρ own) xs S1 with
  | .ok ys S2 => .ok (.d (dictD (dcOf ys))) S2
  | _ => .no) else .no
theorem rq_kB {K : PySem.W.Frag} {H : Hp} {B : List Addr} : ∀ {ds : List (Key × PyData)} {vs : List (Key × V)}, RQ K H B ds vs → RpK K H B (ds.map fun kv => (keyD kv.1, kv.2)) vs
  | _, _, .nil => .nil
  | _, _, .cons r t => .cons r (rq_kB t)
section
variable {X : Cx} {W : WX} {tg e : Expr}
/-- what is new is never written again -/
def tFrz (t : TE) : TE := fun σ H Q => t σ H fun x H1 => ∃ d u, x = .ref d ∧ H1 d = some u ∧ Mut (some u) ∧ ∀ od, Q x (upd H1 d (.frz od u))
theorem pe_frz {X : Cx} {e : Expr} {t : TE} (h : PE X e t) : PE X e (tFrz t) := by
  refine ⟨fun pins s σ H Q I hw => ?_⟩
  refine thn (h.run pins s σ H _ I hw) fun v s1 ⟨x, H1, I1, r, d, u, e, hd, mu, q⟩ => ?_
  obtain ⟨od, I2⟩ := I1.lock hd mu
  exact ⟨x, _, I2, r, q od⟩
theorem mDc.go {fi : IM} {g : TgM} {sl own : List Nat} {t : BM} {fk fv : EM} {K : PySem.W.Frag} {mg : MG} {σ : St} {H : Hp} {Q : VK} (hsl : ∀ i ∈ sl, i ∈ own) (h : tM K mg W (mDc fi g t fk fv own) σ H Q) :
    tFrz (tDc (tI K mg W fi) (tG K mg g sl) (tB K mg W0 t) (tM K mg W0 fk) (tM K mg W0 fv) own) σ H Q := by
  obtain ⟨O, L, S, ρ, a, h⟩ := h
  refine ⟨O, L, S, ρ, a, EndG.imp (EndG.bind h) fun xs S1 L1 H1 e1 st1 h1 J wk D hD => ?_⟩
  obtain ⟨hlen, h1⟩ := ite_of h1
  cases hc : compL g t (pairM fk fv) (wipeE ρ own) xs S1 with
  | no => simp only [hc] at h1; exact h1.elim
  | exc _ _ => simp only [hc] at h1; exact h1.elim
  | ok ys S2 =>
    simp only [hc] at h1
    have hDn : D ∉ O ++ L1 := st1.fresh hD
    have sm0 := same_upd (o := .dK []) hD
    have k0 : Kp H1 (O ++ L1) (upd H1 D (.dK [])) ((D :: O) ++ L1) := fun b o q n => ⟨fun z => by
      rcases List.mem_cons.mp z with z | z
      · exact ne_of_none q hD z
      · exact n z, sm0 b o q⟩
    refine ⟨fun i m H' => m = xs.length - i ∧ i ≤ xs.length ∧ ∃ (L' : List Addr) (S' : Store) (acc : List (Key × PyData)) (zs : List PyData) (vs : List (Key × V)), Ext L1 H1 L' H' ∧ Sto K mg H' (D :: O) L' S' ∧ RE K H' (D :: O) L' (wipeE ρ own) (L2.wipe σ own) ∧ Kp H1 (O ++ L1) H' ((D :: O) ++ L') ∧
      H' D = some (.dK vs) ∧ D ∉ O ++ L' ∧ RQ K H' ((D :: O) ++ L') acc vs ∧ acc.length ≤ i ∧ compL g t (pairM fk fv) (wipeE ρ own) (xs.drop i) S' = .ok zs S2 ∧ dcOf ys = foldP acc zs, ?_, ?_⟩
    · refine ⟨xs.length, by simp, Nat.zero_le _, L1, S1, [], ys, [], Same.ext sm0, ?_, ?_, k0, upd_same, hDn, .nil, Nat.le_refl _, hc, rfl⟩
      · refine ⟨st1.len, st1.nd, fun i c b q1 q2 => ?_, fun b hb => ?_⟩
        · have ck := st1.cell i c b q1 q2
          obtain ⟨o, ho⟩ := ck.there
          exact ck.monoK k0 (fun _ _ z => z) (by rw [ho]; exact sm0 b o ho)
        · rcases List.mem_cons.mp hb with rfl | hb
          · exact ⟨_, upd_same⟩
          · exact (st1.out b hb).imp fun o q => sm0 b o q
      · exact ((a.re.mono e1).wipe own).monoK k0 fun _ _ z => z
    · rintro i m H' ⟨rfl, hi, L', S', acc, zs, vs, e', st', re', kp', hv, hn, rp, hal, hz, hy⟩
      obtain ⟨w1, w2⟩ := wk (D :: O) L' H' S' kp' st'
      by_cases hlt : i < xs.length
      · have hx := List.getElem?_eq_getElem hlt
        obtain ⟨g1, g2⟩ := w1 i _ hx
        rw [drop_at hx] at hz
        obtain ⟨ρ1, hg, ht⟩ := compL_turn hz
        refine .inr ⟨g1, fun H2 => xs.length - (i + 1) = xs.length - (i + 1) ∧ i + 1 ≤ xs.length ∧ ∃ (L' : List Addr) (S' : Store) (acc : List (Key × PyData)) (zs : List PyData) (vs : List (Key × V)), Ext L1 H1 L' H2 ∧ Sto K mg H2 (D :: O) L' S' ∧ RE K H2 (D :: O) L' (wipeE ρ own) (L2.wipe σ own) ∧ Kp H1 (O ++ L1) H2 ((D :: O) ++ L') ∧
          H2 D = some (.dK vs) ∧ D ∉ O ++ L' ∧ RQ K H2 ((D :: O) ++ L') acc vs ∧ acc.length ≤ i + 1 ∧ compL g t (pairM fk fv) (wipeE ρ own) (xs.drop (i + 1)) S' = .ok zs S2 ∧ dcOf ys = foldP acc zs, fun H2 q => ⟨_, by omega, q⟩, fun v H2 y => ?_⟩
        obtain ⟨sm, rv⟩ := g2 v H2 y
        have e2 := Same.ext (L := L') sm
        have st2 := st'.same sm
        refine ⟨D :: O, L', S', wipeE ρ own, ρ1, xs[i], ⟨re'.mono e2, st2⟩, rv, hg, fun σ3 a3 wp => ⟨(wp own hsl).trans (wipe_wipe σ own), ?_⟩⟩
        have kp2 : Kp H1 (O ++ L1) H2 ((D :: O) ++ L') := fun b o q n => ⟨(kp' b o q n).1, sm b o (kp' b o q n).2⟩
        -- what a later state is
        have later : ∀ {H4 : Hp} {L4 : List Addr}, Ext L' H2 L4 H4 → Kp H1 (O ++ L1) H4 ((D :: O) ++ L4) ∧ H4 D = some (.dK vs) ∧ D ∉ O ++ L4 := fun {H4 L4} e4 => by
          have kk := e4.kp (O := D :: O)
          have hD2 : H2 D = some (.dK vs) := sm D _ hv
          refine ⟨fun b o q n => kk b o (kp2 b o q n).2 (kp2 b o q n).1, e4.keep D _ hD2 fun z => hn (List.mem_append_right _ z), fun z => ?_⟩
          rcases List.mem_append.mp z with z | z
          · exact hn (List.mem_append_left _ z)
          · rcases e4.new D z with z | z
            · exact hn (List.mem_append_right _ z)
            · rw [hD2] at z; cases z
        rcases ht with ⟨S3, ht, hr⟩ | ⟨S3, y, S4, ws, ht, hf, hr, rfl⟩
        · refine ⟨D :: O, L', S', ρ1, a3, EndG.okb ht fun H4 L4 e4 st4 => ?_⟩
          refine iteF ⟨rfl, hlt, L4, S3, acc, zs, vs, (e'.trans e2).trans e4, st4, (re'.mono e2).mono e4, (later e4).1, (later e4).2.1, (later e4).2.2, rp.mono (e2.trans e4).kp, by omega, hr, hy⟩
        · refine ⟨D :: O, L', S', ρ1, a3, EndG.okb ht fun H4 L4 e4 st4 => ?_⟩
          obtain ⟨dk, Sk, kk, yv, hk1, hk2, hv1, rfl⟩ := pairM_ok hf
          refine iteT ⟨D :: O, L4, S3, ρ1, a3.mono e4 st4, EndG.okd hk1 fun wk5 H5 L5 e5 st5 r5 => ?_⟩
          refine ⟨D :: O, L5, Sk, ρ1, (a3.mono e4 st4).mono e5 st5, EndG.okd hv1 fun w H6 L6 e6 st6 r6 => ?_⟩
          have e45 := (e4.trans e5).trans e6
          have lt := later e45
          have lr : acc.length = vs.length := rp.length
          obtain rfl := keyOf_v r5 hk2
          refine ⟨vs, kk, rfl, lt.2.1, by omega, rfl, hlt, L6, S4, putD acc kk yv, ws, putK vs kk w, ?_, ?_, ?_, ?_, upd_same, lt.2.2, ?_, by have := putD_len acc kk yv; omega, hr, by rw [hy]; exact foldP_cons acc kk yv ws⟩
          all_goals have k6 : Kp H6 ((D :: O) ++ L6) (upd H6 D (.dK (putK vs kk w))) ((D :: O) ++ L6) := fun b o q n => ⟨n, by rw [upd_ne (fun z => n (by rw [z]; exact List.mem_cons_self))]; exact q⟩
          · have E := (e'.trans e2).trans e45
            exact ⟨E.pre, E.new, fun b o q n => by rw [upd_ne (ne_of_none q hD)]; exact E.keep b o q n⟩
          · refine ⟨st6.len, st6.nd, fun i c b q1 q2 => ?_, fun b hb => ?_⟩
            · have nb : b ≠ D := fun z => lt.2.2 (List.mem_append_right _ (by rw [← z]; exact List.mem_of_getElem? q2))
              exact (st6.cell i c b q1 q2).monoK k6 (fun _ _ z => z) (upd_ne nb)
            · by_cases hbD : b = D
              · rw [hbD]; exact ⟨_, upd_same⟩
              · rw [upd_ne hbD]; exact st6.out b hb
          · exact ((re'.mono e2).mono e45).monoK k6 fun _ _ z => z
          · exact fun b o q n => ⟨(lt.1 b o q n).1, by rw [upd_ne (ne_of_none q hD)]; exact (lt.1 b o q n).2⟩
          · refine RQ.put kk ?_ ((rp.mono (e2.trans e45).kp).mono k6)
            cases r6 with
            | d r6 => exact Rp.mono k6 _ _ r6
      · have hi' : i = xs.length := by omega
        subst hi'
        rw [List.drop_length] at hz
        cases hz
        rw [hy] at h1
        refine .inl ⟨w2, D, _, rfl, hv, trivial, fun od => ?_⟩
        have k7 : Kp H' ((D :: O) ++ L') (upd H' D (.frz od (.dK vs))) (O ++ L') := fun b o q n => ⟨fun z => n (List.mem_cons_of_mem _ z), by rw [upd_ne (fun z => n (by rw [z]; exact List.mem_cons_self))]; exact q⟩
        refine h1 _ L' ⟨e'.pre, e'.new, fun b o q n => by rw [upd_ne (ne_of_none q hD)]; exact e'.keep b o q n⟩ ?_ _ (.d (.dct upd_same hn (rq_kB (rp.mono k7))))
        refine ⟨st'.len, st'.nd, fun i c b q1 q2 => ?_, fun b hb => ?_⟩
        · have nb : b ≠ D := fun z => hn (List.mem_append_right _ (by rw [← z]; exact List.mem_of_getElem? q2))
          exact (st'.cell i c b q1 q2).monoK k7 (fun _ _ z => z) (upd_ne nb)
        · have nb : b ≠ D := fun z => hn (List.mem_append_left _ (by rw [← z]; exact hb))
          rw [upd_ne nb]
          exact st'.out b (List.mem_cons_of_mem _ hb)
theorem pm_dc {kx vx iter : Expr} {ifs : List Expr} {scope : Scope} {own : List (Str × Nat)} {pos : Pos} {fi : IM} {g : TgM} {sl : List Nat} {t : BM} {fk fv : EM} (hc : X.calm = true) (hN : X.N.Nodup) (hi : PMI X W tg iter fi) (ok : BlkOk X.N X.env.scope scope own)
    (hg : ∀ (s : Shared) (H : Hp) (C : Addr) (cl : List (Str × Addr)) (fp : List Addr), PG (X.blk s H scope (compEnvC scope cl C X.env) fp) tg (tG X.K X.mg g sl)) (ht : ∀ (s : Shared) (H : Hp) (C : Addr) (cl : List (Str × Addr)) (fp : List Addr), PTs (X.blk s H scope (compEnvC scope cl C X.env) fp) ifs (tB X.K X.mg W0 t))
    (hk : ∀ (s : Shared) (H : Hp) (C : Addr) (cl : List (Str × Addr)) (fp : List Addr), PE (X.blk s H scope (compEnvC scope cl C X.env) fp) kx (tM X.K X.mg W0 fk)) (he : ∀ (s : Shared) (H : Hp) (C : Addr) (cl : List (Str × Addr)) (fp : List Addr), PE (X.blk s H scope (compEnvC scope cl C X.env) fp) vx (tM X.K X.mg W0 fv)) (hsl : ∀ i ∈ sl, i ∈ own.map (·.2) := by decide) (hs : ∀ x, foldedSetIterable iter X.env x = pure x := by intro _; rfl) :
    PM X W (.DictComp kx vx [⟨tg, iter, ifs, 0⟩] scope pos) (mDc fi g t fk fv (own.map (·.2))) :=
  PE.imp (pe_frz (pe_dc hc hN hi ok hg ht hk he hs)) fun σ H Q h => mDc.go hsl h
end
end Sky
end
section
/-! Lay23: zip, while, pop, +=, list(range), dict(pairs), is True. -/
namespace Sky
open PySem PySem.Spec PyProof.Rows L2
def zipD (xs ys : List PyData) : List PyData := List.zipWith (fun x y => .tuple [x, y]) xs ys
theorem zipD_get {xs ys : List PyData} {i : Nat} {z : PyData} (h : (zipD xs ys)[i]? = some z) : ∃ x y, xs[i]? = some x ∧ ys[i]? = some y ∧ z = .tuple [x, y] := by
  unfold zipD at h
  rw [List.getElem?_zipWith] at h
  cases hx : xs[i]? with
  | none => rw [hx] at h; cases h
  | some x =>
    cases hy : ys[i]? with
    | none => rw [hx, hy] at h; cases h
    | some y => rw [hx, hy] at h; cases h; exact ⟨x, y, rfl, rfl, rfl⟩
theorem wk_zip {K : PySem.W.Frag} {mg : MG} {O L : List Addr} {H : Hp} {a b : Addr} {vs us : List V} {xs ys : List PyData} (h1 : H a = some (.lst vs)) (h2 : a ∉ O ++ L) (h3 : RpL K H (O ++ L) xs vs) (g1 : H b = some (.lst us)) (g2 : b ∉ O ++ L) (g3 : RpL K H (O ++ L) ys us) :
    Wk K mg O L H (Itz K a b) (zipD xs ys) := fun O' L1 H1 S1 k st => by
  have q1 : SqL K H1 a vs := .inl (.inl (k _ _ h1 h2).2)
  have q2 : SqL K H1 b us := .inl (.inl (k _ _ g1 g2).2)
  have r1 := RpL.mono k _ _ h3
  have r2 := RpL.mono k _ _ g3
  refine ⟨fun i z hz => ?_, vs, us, q1, q2, ?_⟩
  · obtain ⟨x, y, hx, hy, rfl⟩ := zipD_get hz
    obtain ⟨v, hv, rv⟩ := r1.get hx
    obtain ⟨u, hu, ru⟩ := r2.get hy
    refine ⟨⟨vs, us, v, u, q1, q2, hv, hu⟩, ?_⟩
    rintro w H2 ⟨T, v', u', rfl, hT, rfl, f1, f2⟩
    have e1 := f1 vs q1
    have e2 := f2 us q2
    rw [hv] at e1
    rw [hu] at e2
    cases e1
    cases e2
    have sm := same_upd (o := .tup [v, u]) hT
    have kk : Kp H1 (O' ++ L1) (upd H1 T (.tup [v, u])) (O' ++ L1) := fun c o q n => ⟨n, sm c o q⟩
    exact ⟨sm, .tup (.inl upd_same) (st.fresh hT) (.cons (Rp.mono kk _ _ rv) (.cons (Rp.mono kk _ _ ru) .nil))⟩
  · unfold zipD
    rw [List.length_zipWith, r1.length, r2.length]
    omega
theorem wk_zipT {K : PySem.W.Frag} {mg : MG} {O L : List Addr} {H : Hp} {a b : Addr} {vs us : List V} {xs ys : List PyData} (h1 : Rd H a (.tup vs)) (h2 : a ∉ O ++ L) (h3 : RpL K H (O ++ L) xs vs) (g1 : Rd H b (.tup us)) (g2 : b ∉ O ++ L) (g3 : RpL K H (O ++ L) ys us) :
    Wk K mg O L H (RZ.ItzT K a b) (zipD xs ys) := fun O' L1 H1 S1 k st => by
  have q1 : SqT K H1 a vs := .inl (k.rd h1 h2).1
  have q2 : SqT K H1 b us := .inl (k.rd g1 g2).1
  have r1 := RpL.mono k _ _ h3
  have r2 := RpL.mono k _ _ g3
  refine ⟨fun i z hz => ?_, vs, us, q1, q2, ?_⟩
  · obtain ⟨x, y, hx, hy, rfl⟩ := zipD_get hz
    obtain ⟨v, hv, rv⟩ := r1.get hx
    obtain ⟨u, hu, ru⟩ := r2.get hy
    refine ⟨⟨vs, us, v, u, q1, q2, hv, hu⟩, ?_⟩
    rintro w H2 ⟨T, v', u', rfl, hT, rfl, f1, f2⟩
    have e1 := f1 vs q1
    have e2 := f2 us q2
    rw [hv] at e1
    rw [hu] at e2
    cases e1
    cases e2
    have sm := same_upd (o := .tup [v, u]) hT
    have kk : Kp H1 (O' ++ L1) (upd H1 T (.tup [v, u])) (O' ++ L1) := fun c o q n => ⟨n, sm c o q⟩
    exact ⟨sm, .tup (.inl upd_same) (st.fresh hT) (.cons (Rp.mono kk _ _ rv) (.cons (Rp.mono kk _ _ ru) .nil))⟩
  · unfold zipD
    rw [List.length_zipWith, r1.length, r2.length]
    omega
def kZip : Res (List D) → Res (List PyData)
  | .ok [.d (.list xs), .d (.list ys)] S => .ok (zipD xs ys) S
  | .ok [.d (.tuple xs), .d (.tuple ys)] S => .ok (zipD xs ys) S
  | _ => .no
def iZip (fs : AM) : IM := fun ρ S => (fs ρ S).andThen fun ds S1 => kZip (.ok ds S1)
section
variable {X : Cx} {W : WX} {e e2 : Expr} {fs : AM}
theorem pmi_zip {p pos tpos : Pos} {elts : List Expr} {kk : Nat} (hg : Gl X "zip") (hm : X.mg "zip" = none) (ha : PMA X W [e, e2] fs) (hs : starEach [e, e2] X.env = (false, eval e X.env) :: starEach [e2] X.env := by rfl) (hpl : (backTo pos (starEach [e2] X.env)).any (·.1) = false := by rfl) :
    PMI X W (.Tuple elts kk tpos) (.Call (.Name "zip" p) [e, e2] [] pos) (iZip fs) := PI.imp (RZ.pi_zipA hg hm ha hs hpl) fun σ H R ⟨O, L, S, ρ, a, h⟩ => by
  refine tA.part a h fun ds vs S1 L1 H1 a1 e1 r1 h1 => ?_
  unfold kZip at h1
  split at h1
  · rename_i xs ys S2 heq
    cases heq
    cases r1 with
    | cons r t => cases t with
      | cons r2 t =>
        cases t
        cases r with
        | d r => cases r2 with
          | d r2 => cases r with
            | lst q1 q2 q3 => cases r2 with
              | lst p1 p2 p3 => exact ⟨_, _, _, _, rfl, .inl ⟨.inl (.inl q1), .inl (.inl p1), h1 H1 L1 (Ext.refl _ _) a1.st _ (wk_zip q1 q2 q3 p1 p2 p3)⟩⟩
  · rename_i xs ys S2 heq
    cases heq
    cases r1 with
    | cons r t => cases t with
      | cons r2 t =>
        cases t
        cases r with
        | d r => cases r2 with
          | d r2 => cases r with
            | tup q1 q2 q3 => cases r2 with
              | tup p1 p2 p3 => exact ⟨_, _, _, _, rfl, .inr ⟨.inl q1, .inl p1, h1 H1 L1 (Ext.refl _ _) a1.st _ (wk_zipT q1 q2 q3 p1 p2 p3)⟩⟩
  · exact h1.elim
end
/-! ### while -/
/-- at most n turns -/
def whL (c : BM) (b : SM) : Nat → Env → Store → Option SR
  | 0, _, _ => none
  | n + 1, ρ, S => match c ρ S with
    | .ok true S1 => match b ρ S1 with
      | .nx ρ2 S2 => whL c b n ρ2 S2
      | .ct ρ2 S2 => whL c b n ρ2 S2
      | .bk ρ2 S2 => some (.nx ρ2 S2)
      | r => some r
    | .ok false S1 => some (.nx ρ S1)
    | .exc e S1 => some (.ex e ρ S1)
    | .no => some .no
noncomputable def sWh (c : BM) (b : SM) : SM := fun ρ S => @dite _ (∃ n r, whL c b n ρ S = some r) (Classical.propDecidable _) (fun h => Classical.choose (Classical.choose_spec h)) fun _ => .no
theorem whL_mono {c : BM} {b : SM} : ∀ {n m : Nat} {ρ : Env} {S : Store} {r : SR}, whL c b n ρ S = some r → n ≤ m → whL c b m ρ S = some r
  | 0, _, _, _, _, h, _ => by cases h
  | n + 1, 0, _, _, _, _, l => by omega
  | n + 1, m + 1, ρ, S, r, h, l => by
    unfold whL at h ⊢
    cases hc : c ρ S with
    | ok k S1 =>
      cases k with
      | true =>
        simp only [hc] at h ⊢
        cases hb : b ρ S1 with
        | nx ρ2 S2 => simp only [hb] at h ⊢; exact whL_mono h (by omega)
        | ct ρ2 S2 => simp only [hb] at h ⊢; exact whL_mono h (by omega)
        | _ => simp only [hb] at h ⊢; exact h
      | false => simp only [hc] at h ⊢; exact h
    | _ => simp only [hc] at h ⊢; exact h
theorem sWh_of {c : BM} {b : SM} {n : Nat} {ρ : Env} {S : Store} {r : SR} (h : whL c b n ρ S = some r) : sWh c b ρ S = r := by
  have ex : ∃ n r, whL c b n ρ S = some r := ⟨n, r, h⟩
  unfold sWh
  rw [dif_pos ex]
  have h2 := Classical.choose_spec (Classical.choose_spec ex)
  have m1 := whL_mono h (Nat.le_max_left n (Classical.choose ex))
  have m2 := whL_mono h2 (Nat.le_max_right n (Classical.choose ex))
  rw [m1] at m2
  exact (Option.some.inj m2).symm
theorem sWh_has {c : BM} {b : SM} {ρ : Env} {S : Store} (h : sWh c b ρ S ≠ .no) : ∃ n, whL c b n ρ S = some (sWh c b ρ S) := by
  by_cases ex : ∃ n r, whL c b n ρ S = some r
  · obtain ⟨n, r, hr⟩ := ex
    exact ⟨n, by rw [sWh_of hr]; exact hr⟩
  · unfold sWh at h
    rw [dif_neg ex] at h
    exact absurd rfl h
section
variable {X : Cx} {W : WX} {c : Expr} {tc : BM} {fb : SM} {body : List Stmt} {pos : Pos}
theorem pms_while (hp : PassesOwn (model X.prog X.w) X.A X.env X.xe) (hc : PMT X W c tc) (hb : PMB X W body fb) : PMS X W (.While c body [] pos) (sWh tc fb) :=
  PS.imp (ps_while hp hc hb) fun Dn σ H ⟨O, L, S, ρ, a, h⟩ => by
    have hn : sWh tc fb ρ S ≠ .no := fun z => by rw [z] at h; exact h
    obtain ⟨n, hr⟩ := sWh_has hn
    refine ⟨fun m σ' H' => ∃ (O L : List Addr) (S : Store) (ρ : Env) (r : SR), At X.K X.mg O L S ρ σ' H' ∧ whL tc fb m ρ S = some r ∧ EndS X.K X.mg W O L H' Dn r, ⟨n, O, L, S, ρ, _, a, hr, h⟩, ?_⟩
    rintro m σ' H' ⟨O, L, S, ρ, r, a, hr, h⟩
    cases m with
    | zero => cases hr
    | succ m =>
      unfold whL at hr
      refine ⟨O, L, S, ρ, a, ?_⟩
      cases hcr : tc ρ S with
      | ok k S1 =>
        intro H1 L1 e1 st1
        cases k with
        | true =>
          simp only [hcr] at hr
          refine iteT ⟨fun σ2 H2 => ∃ (O L : List Addr) (S : Store) (ρ : Env) (r : SR), At X.K X.mg O L S ρ σ2 H2 ∧ whL tc fb m ρ S = some r ∧ EndS X.K X.mg W O L H2 Dn r, fun σ2 H2 q => ⟨m, Nat.lt_succ_self _, q⟩, O, L1, S1, ρ, a.mono e1 st1, ?_⟩
          have h1 := EndS.later e1 h
          cases hbr : fb ρ S1 with
          | nx ρ2 S2 => simp only [hbr] at hr; exact fun σ2 H2 L2 e2 a2 => ⟨O, L2, S2, ρ2, r, a2, hr, EndS.later e2 h1⟩
          | ct ρ2 S2 => simp only [hbr] at hr; exact fun σ2 H2 L2 e2 a2 => ⟨O, L2, S2, ρ2, r, a2, hr, EndS.later e2 h1⟩
          | bk ρ2 S2 => simp only [hbr] at hr; cases hr; exact h1
          | rt d S2 => simp only [hbr] at hr; cases hr; exact h1
          | ex x ρ2 S2 => simp only [hbr] at hr; cases hr; exact h1
          | no => simp only [hbr] at hr; cases hr; exact h1.elim
        | false =>
          simp only [hcr] at hr
          cases hr
          exact iteF (h _ H1 L1 e1 (a.mono e1 st1))
      | exc x S1 =>
        simp only [hcr] at hr
        cases hr
        exact fun C dd H1 L1 hm e1 st1 hx => h C dd σ' H1 L1 hm e1 (a.mono e1 st1) hx
      | no => simp only [hcr] at hr; cases hr; exact h.elim
end
end Sky
end
section
/-! Lay24: pop, +=, a slice as a cell, list(range), dict(pairs), is True. -/
namespace Sky
open PySem PySem.Spec PyProof.Rows L2
section
variable {X : Cx} {W : WX} {e o : Expr} {es : List Expr} {pos apos cpos p : Pos} {fo fa fe : EM} {fs : AM}
/-! ### xs.pop() -/
def mPop (fo : EM) : EM := fun ρ S => (fo ρ S).andThen fun o S1 => match o with
  | .r i => match S1[i]? with
    | some (.lst xs) => match xs.getLast? with
      | some y => .ok (.d y) (S1.set i (.lst xs.dropLast))
      | none => .no
    | _ => .no
  | _ => .no
theorem rpl_drop {K : PySem.W.Frag} {H : Hp} {B : List Addr} : ∀ {ds : List PyData} {vs : List V}, RpL K H B ds vs → RpL K H B ds.dropLast vs.dropLast
  | _, _, .nil => .nil
  | _, _, .cons _ .nil => .nil
  | _, _, .cons r (.cons r2 t) => by
    have := rpl_drop (.cons r2 t)
    exact .cons r this
theorem pm_pop (ho : PM X W o fo) (hbase : attributeBase o "pop" X.env (eval o X.env) = eval o X.env := by rfl) (hline : (apos.endLine == cpos.line) = true := by rfl) : PM X W (.Call (.Attribute o "pop" apos) [] [] cpos) (mPop fo) :=
  PE.imp (pe_bm0 PySem.F.plainAttrs_list PySem.F.slot_list_pop PySem.F.type_list_pop mt_pop ho hbase hline) fun σ H Q ⟨O, L, S, ρ, a, h⟩ => by
    refine tM.part a h fun d v S1 L1 H1 a1 e1 r1 h1 => ?_
    cases d with
    | r i =>
      cases r1 with
      | @r _ b hb =>
        cases hk : S1[i]? with
        | none => simp only [hk] at h1; exact h1.elim
        | some c =>
          cases c with
          | lst xs =>
            simp only [hk] at h1
            cases hy : xs.getLast? with
            | none => simp only [hy] at h1; exact h1.elim
            | some y =>
              simp only [hy] at h1
              cases a1.st.cell i _ b hk hb with
              | @lst _ vs q1 q2 =>
                have hy2 : xs[xs.length - 1]? = some y := by rw [← List.getLast?_eq_getElem?]; exact hy
                obtain ⟨w, hw, rw'⟩ := q2.get hy2
                refine ⟨.inl ⟨rfl, vs, .inl (.inl q1)⟩, b, vs, w, rfl, rfl, q1, by rw [← q2.length]; exact hw, ?_⟩
                have kk := (Ext.upd (H := H1) (o := .lst vs.dropLast) hb).kp (O := O)
                exact h1 _ L1 (Ext.upd hb) (a1.st.upd hb (.lst upd_same (RpL.mono kk _ _ (rpl_drop q2)))) _ (.d (Rp.mono kk _ _ rw'))
          | dct _ => simp only [hk] at h1; exact h1.elim
          | ins _ _ => simp only [hk] at h1; exact h1.elim
          | mem _ _ => simp only [hk] at h1; exact h1.elim
    | d _ => exact h1.elim
    | s _ => exact h1.elim
/-! ### xs += ys, of a name -/
def sAugL (i : Nat) (fe : EM) : SM := fun ρ S => SR.ofE (mVar i ρ S) ρ fun o S0 => SR.ofE (fe ρ S0) ρ fun y S1 => match o, y with
  | .r j, .d (.list ys) => match S1[j]? with
    | some (.lst xs) => if xs.length + ys.length ≤ sizeLine then .nx (ρ.set i (some (.r j))) (S1.set j (.lst (xs ++ ys))) else .no
    | _ => .no
  | _, _ => .no
theorem pms_augL (i : Nat) {x : Str} {pos' : Pos} (hN : X.N.Nodup) (he : PM X W e fe) (hi : X.N[i]? = some x := by rfl) (hx : Loc X.env.scope x := by first | exact Or.inl rfl | exact Or.inr rfl)
    (hf : X.fn x = true ∨ X.env.scope.names.lookup x = some .local := by first | exact .inl rfl | exact .inr rfl) : PMS X W (.AugAssign (.Name x pos') .Add e pos) (sAugL i fe) :=
  PS.imp (ps_aug hN hi hx he (op := .Add) (ti := rExt2) (fun pins s σ H x y v u Q I r1 r2 q => iop_ext pins s σ H x y v u Q I r1 r2 q) hf) fun Dn σ H ⟨O, L, S, ρ, a, h⟩ => by
    unfold sAugL at h
    cases hv : mVar i ρ S with
    | no => rw [hv] at h; exact h.elim
    | exc z S0 =>
      unfold mVar at hv
      split at hv <;> cases hv
    | ok d S0 =>
      rw [hv] at h
      have hd : ρ[i]? = some (some d) ∧ S0 = S := by
        unfold mVar at hv
        split at hv
        · cases hv; exact ⟨by assumption, rfl⟩
        · cases hv
      obtain ⟨hd, rfl⟩ := hd
      obtain ⟨v, hv2, rv⟩ := a.re.get hd
      refine ⟨v, hv2, ?_⟩
      refine tM.stmt a h fun y w S1 L1 H1 a1 e1 r1 h1 => ?_
      split at h1
      · rename_i j ys
        cases rv with
        | @r _ b hb =>
          have hb1 := e1.pre j b hb
          cases hk : S1[j]? with
          | none => simp only [hk] at h1; exact h1.elim
          | some c =>
            cases c with
            | lst xs =>
              simp only [hk] at h1
              cases a1.st.cell j _ b hk hb1 with
              | @lst _ vs q1 q2 =>
                cases r1 with
                | d r1 =>
                  cases r1 with
                  | @lst c us _ p1 p2 p3 =>
                    by_cases hz : xs.length + ys.length ≤ sizeLine
                    · rw [if_pos hz] at h1
                      refine ⟨b, _, vs, us, rfl, rfl, q1, p1, by rw [← q2.length, ← p3.length]; exact hz, ?_⟩
                      have kk := (Ext.upd (H := H1) (o := .lst (vs ++ us)) hb1).kp (O := O)
                      have rl : RpL X.K (upd H1 b (.lst (vs ++ us))) (O ++ L1) (xs ++ ys) (vs ++ us) := RpL.append (RpL.mono kk _ _ q2) (RpL.mono kk _ _ p3)
                      have st' := a1.st.upd hb1 (.lst upd_same rl)
                      exact h1 _ _ L1 (Ext.upd hb1) ⟨((a1.re.mono (Ext.upd hb1)).set (.r hb1) i), st'⟩
                    · rw [if_neg hz] at h1; exact h1.elim
            | dct _ => simp only [hk] at h1; exact h1.elim
            | ins _ _ => simp only [hk] at h1; exact h1.elim
            | mem _ _ => simp only [hk] at h1; exact h1.elim
      · exact h1.elim
/-! ### is True, is not True -/
def gIsT (_ : Store) (x y : D) : Option D := match x, y with
  | .d (.bool a), .d (.bool b) => some (.d (.bool (a == b)))
  | _, _ => none
def gIsNT (_ : Store) (x y : D) : Option D := match x, y with
  | .d (.bool a), .d (.bool b) => some (.d (.bool (!(a == b))))
  | _, _ => none
end
end Sky
end
section
/-! Lay25: is True; a slice as a cell; list(range); dict(pairs); sorted of a dict's texts. -/
namespace Sky
open PySem PySem.Spec PyProof.Rows L2
section
variable {X : Cx} {W : WX} {e e2 : Expr} {pos p p2 : Pos} {fe f2 : EM} {fl fh : OM}
theorem bl_of {K : PySem.W.Frag} {H : Hp} {O L : List Addr} {b : Bool} {v : V} (r : RD K H O L (.d (.bool b)) v) : v = .bl b := bb r
theorem o_isT : OpR X (compareOp .Is) (rO X.K X.mg gIsT) := by
  intro pins s σ H x y v u Q I rx ry ⟨O, L, S, dx, dy, d, st, r1, r2, hg, q⟩
  unfold gIsT at hg
  split at hg
  · cases hg
    obtain rfl := bb r1
    obtain rfl := bb r2
    rename_i a b
    refine op_isBl pins s σ H _ _ v u Q I rx ry ⟨a, b, rfl, rfl, ?_⟩
    have e : decide (a = b) = (a == b) := by cases a <;> cases b <;> rfl
    rw [e]
    exact q _ H (Same.refl H) (.d (.bl _))
  · cases hg
theorem o_isNT : OpR X (compareOp .IsNot) (rO X.K X.mg gIsNT) := by
  intro pins s σ H x y v u Q I rx ry ⟨O, L, S, dx, dy, d, st, r1, r2, hg, q⟩
  unfold gIsNT at hg
  split at hg
  · cases hg
    obtain rfl := bb r1
    obtain rfl := bb r2
    rename_i a b
    refine op_notBl pins s σ H _ _ v u Q I rx ry ⟨a, b, rfl, rfl, ?_⟩
    have e : decide (a = b) = (a == b) := by cases a <;> cases b <;> rfl
    rw [e]
    exact q _ H (Same.refl H) (.d (.bl _))
  · cases hg
/-! ### a slice of a list as a cell -/
def gSlL (S : Store) (x : D) (lo hi : Option Int) : Option (List PyData) := (lk S x).map fun xs => cutD xs lo hi
def mSlC (fa : EM) (fl fh : OM) : EM := fun ρ S => (fa ρ S).andThen fun x S1 => (fl ρ S1).andThen fun l S2 => (fh ρ S2).andThen fun u S3 => match gSlL S3 x l u with
  | some xs => .ok (.r S3.length) (S3 ++ [.lst xs])
  | none => .no
theorem pm_slC {lo hi : Option Expr} (he : PM X W e fe) (hl : PO X lo (tO X.K X.mg W fl)) (hh : PO X hi (tO X.K X.mg W fh)) : PM X W (.Subscript e (.Slice lo hi none p2) pos) (mSlC fe fl fh) :=
  PE.imp (pe_slice sl_list he hl hh) fun σ H Q ⟨O, L, S, ρ, a, h⟩ => by
    refine tM.part a h fun d v S1 L1 H1 a1 e1 r1 h1 => ?_
    refine tO.part a1 h1 fun l S2 L2 H2 a2 e2 h2 => ?_
    refine tO.part a2 h2 fun u S3 L3 H3 a3 e3 h3 => ?_
    cases hg : gSlL S3 d l u with
    | none => simp only [hg] at h3; exact h3.elim
    | some xs =>
      simp only [hg] at h3
      obtain ⟨ys, hy, rfl⟩ := map_some hg
      obtain ⟨b, vs, rfl, hb, rb⟩ := lk_at a3.st ((r1.mono e2).mono e3) hy
      refine ⟨b, vs, rfl, .inl (.inl hb), fun q hq => ?_⟩
      exact h3 _ _ (Ext.push hq) (a3.st.push hq (.lst upd_same (RpL.mono (Ext.kp (Ext.push hq)) _ _ (rb.cut l u)))) _ (RD.last a3.st)
/-! ### list(range(a, b)) -/
def mLrg2 (fe f2 : EM) : EM := fun ρ S => (fe ρ S).andThen fun x S1 => (f2 ρ S1).andThen fun y S2 => match x, y with
  | .d (.int i), .d (.int j) => if -(2 ^ 62) ≤ i ∧ i < 2 ^ 62 ∧ -(2 ^ 62) ≤ j ∧ j < 2 ^ 62 ∧ (j - i).toNat ≤ 2 ^ 24 then .ok (.d (.list (rng i (j - i).toNat))) S2 else .no
  | _, _ => .no
theorem rpl_rng {K : PySem.W.Frag} {H : Hp} {B : List Addr} (a b : Int) : RpL K H B (rng a (b - a).toNat) (rgV a b) := by
  unfold rng rgV
  have go : ∀ l : List Nat, RpL K H B (l.map fun (i : Nat) => .int (a + i)) (l.map fun (i : Nat) => V.int (a + (i : Nat))) := by
    intro l
    induction l with
    | nil => exact .nil
    | cons n l ih => exact .cons (.int _) ih
  exact go _
theorem pm_lrg2 {q pos2 : Pos} (hc : X.calm = true) (hg : Gl X "list") (hm : X.mg "list" = none) (hg2 : Gl X "range") (hm2 : X.mg "range" = none) (h1 : PM X W e fe) (h2 : PM X W e2 f2)
    (na : starEach [Expr.Call (.Name "range" q) [e, e2] [] pos2] X.env = (false, eval (Expr.Call (.Name "range" q) [e, e2] [] pos2) X.env) :: starEach [] X.env := by rfl)
    (s1 : starEach [e, e2] X.env = (false, eval e X.env) :: starEach [e2] X.env := by rfl) (s2 : starEach [e2] X.env = (false, eval e2 X.env) :: starEach [] X.env := by rfl) (s3 : (backTo pos2 (starEach [e2] X.env)).any (·.1) = false := by rfl) : PM X W (.Call (.Name "list" p) [.Call (.Name "range" q) [e, e2] [] pos2] [] pos) (mLrg2 fe f2) :=
  PE.imp (pe_listRg hc hg hm (prg_2 hg2 hm2 h1 h2 s1 s2 s3) na) fun σ H Q ⟨O, L, S, ρ, a, h⟩ => by
    refine tM.part a h fun x v S1 L1 H1 a1 e1 r1 h1 => ?_
    refine tM.part a1 h1 fun y u S2 L2 H2 a2 e2 r2 h2 => ?_
    split at h2
    · rename_i i j
      obtain ⟨hz, h2⟩ := ite_of h2
      obtain rfl := ii (r1.mono e2)
      obtain rfl := ii r2
      exact ⟨i, j, rfl, rfl, hz, fun q hq => h2 _ L2 (Same.ext (same_upd hq)) (a2.st.same (same_upd hq)) _ (new_lst a2.st hq (rpl_rng i j))⟩
    · exact h2.elim
end
end Sky
end
section
/-! Lay26: sorted of a dict's texts; dict(pairs). -/
namespace Sky
open PySem PySem.Spec PyProof.Rows L2
def leS (a b : Str) : Bool := decide (a.cps.toList ≤ b.cps.toList)
def sortS (ks : List Str) : List Str := ks.mergeSort leS
theorem leS_trans (a b c : Str) (h : leS a b = true) (h2 : leS b c = true) : leS a c = true := by
  unfold leS at *
  exact decide_eq_true (List.le_trans (of_decide_eq_true h) (of_decide_eq_true h2))
theorem leS_total (a b : Str) : (leS a b || leS b a) = true := by
  unfold leS
  rcases List.le_total a.cps.toList b.cps.toList with h | h <;> simp [h]
theorem leS_anti {a b : Str} (h : leS a b = true) (h2 : leS b a = true) : a = b :=
  PySem.W.str_of_cps (List.le_antisymm (of_decide_eq_true h) (of_decide_eq_true h2))
theorem risingS_pair : ∀ (r : List Str) (x : Str), risingS x r = true → (x :: r).Pairwise fun a b => leS a b = true
  | [], x, _ => by simp
  | y :: r, x, h => by
    rw [risingS, Bool.and_eq_true] at h
    have ih := risingS_pair r y h.2
    have hxy : leS x y = true := by
      have h1 := h.1
      rw [ltCps_eq] at h1
      unfold leS
      refine decide_eq_true (List.not_lt.mp fun z => ?_)
      rw [decide_eq_true z] at h1
      cases h1
    refine .cons (fun z hz => ?_) ih
    rcases List.mem_cons.mp hz with rfl | hz
    · exact hxy
    · exact leS_trans _ _ _ hxy (List.rel_of_pairwise_cons ih hz)
theorem sortS_only {ys ks : List Str} (p : ys.Perm ks) (h : sortedS ys = true) : ys = sortS ks := by
  have hp : ys.Pairwise fun a b => leS a b = true := by
    cases ys with
    | nil => exact .nil
    | cons y r => exact risingS_pair r y h
  have h2 : (sortS ks).Pairwise fun a b => leS a b = true := List.pairwise_mergeSort (fun a b c => leS_trans a b c) (fun a b => leS_total a b) ks
  exact List.Perm.eq_of_pairwise (fun a b _ _ h1 h2 => leS_anti h1 h2) hp h2 (p.trans (List.mergeSort_perm ks leS).symm)
/-- a dict's keys, texts -/
def dkeys : List (PyData × PyData) → Option (List Str)
  | [] => some []
  | (.str x, _) :: r => (dkeys r).map (x :: ·)
  | _ => none
def ckeys : List (Key × PyData) → Option (List Str)
  | [] => some []
  | (.inr x, _) :: r => (ckeys r).map (x :: ·)
  | _ => none
def keysOf (S : Store) : D → Option (List Str)
  | .d (.dict kvs) => dkeys kvs
  | .r i => match S[i]? with
    | some (.dct kvs) => ckeys kvs
    | _ => none
  | _ => none
theorem dkeys_v {K : PySem.W.Frag} {H : Hp} {B : List Addr} : ∀ {ds : List (PyData × PyData)} {vs : List (Key × V)} {ks : List Str}, RpK K H B ds vs → dkeys ds = some ks → vs.map (·.1) = ks.map Sum.inr
  | _, _, _, .nil, h => by cases h; rfl
  | _, _, ks, .cons (k := .inr x) r t, h => by
    have h : (dkeys _).map (x :: ·) = some ks := h
    obtain ⟨zs, h1, rfl⟩ := map_some h
    rw [List.map_cons, List.map_cons, dkeys_v t h1]
  | _, _, _, .cons (k := .inl i) r t, h => by cases h
theorem ckeys_v {K : PySem.W.Frag} {H : Hp} {B : List Addr} : ∀ {ds : List (Key × PyData)} {vs : List (Key × V)} {ks : List Str}, RQ K H B ds vs → ckeys ds = some ks → vs.map (·.1) = ks.map Sum.inr
  | _, _, _, .nil, h => by cases h; rfl
  | _, _, ks, .cons (k := .inr x) r t, h => by
    have h : (ckeys _).map (x :: ·) = some ks := h
    obtain ⟨zs, h1, rfl⟩ := map_some h
    rw [List.map_cons, List.map_cons, ckeys_v t h1]
  | _, _, _, .cons (k := .inl i) r t, h => by cases h
theorem rpl_strs {K : PySem.W.Frag} {H : Hp} {B : List Addr} : ∀ ys : List Str, RpL K H B (ys.map .str) (ys.map V.str)
  | [] => .nil
  | y :: r => .cons (.str y) (rpl_strs r)
def cSortedD (S : Store) (ds : List D) : Option D := match ds with
  | [x] => (keysOf S x).bind fun ks => if ks.length < 64 then some (.d (.list ((sortS ks).map .str))) else none
  | _ => none
section
variable {X : Cx} {W : WX}
theorem k_sortedD (hc : X.calm = true) : CallR X (.builtin "sorted") (rCl X.K X.mg cSortedD) := by
  intro pins s σ H vs us Q I rv ⟨O, L, S, ds, d, st, r, hg, q⟩
  unfold cSortedD at hg
  split at hg
  · rename_i dx
    obtain ⟨ks, h1, h2⟩ := Option.bind_eq_some_iff.mp hg
    obtain ⟨h64, rfl⟩ := some_of_ite h2
    have fin : ∀ {a : Addr} {kvs : List (Key × V)}, Rd H a (.dK kvs) → kvs.map (·.1) = ks.map Sum.inr → Vals [.ref a] us → wpAny (model X.prog X.w) X.A (call (.builtin "sorted") us) (EP X pins σ Q) X.xe s := fun {a kvs} ha hk rv => by
      refine call_sortedD hc pins s σ H _ us Q I rv ⟨a, kvs, ks, rfl, ha, hk, h64, fun ys p pm so hp => ?_⟩
      rw [sortS_only pm so]
      exact q _ _ (same_upd hp) (new_lst st hp (rpl_strs _))
    cases r with
    | cons r t =>
      cases t
      unfold keysOf at h1
      split at h1
      · cases r with
        | d r => cases r with
          | dct q1 q2 q3 => exact fin (.inr ⟨_, q1⟩) (dkeys_v q3 h1) rv
      · rename_i i
        split at h1
        · rename_i kvs hk
          cases r with
          | @r _ b hb =>
            cases st.cell i _ b hk hb with
            | dct q1 q2 => exact fin (.inl q1) (ckeys_v q2 h1) rv
        · cases h1
      · cases h1
  · cases hg
/-! ### dict(pairs) -/
def pairsOfD : List PyData → Option (List (Key × PyData))
  | [] => some []
  | .tuple [.int i, v] :: r => (pairsOfD r).map ((.inl i, v) :: ·)
  | .tuple [.str x, v] :: r => (pairsOfD r).map ((.inr x, v) :: ·)
  | _ => none
def cDict (S : Store) (ds : List D) : Option D := match ds with
  | [x] => ((lk S x).bind pairsOfD).map fun ps => .d (dictD (ps.foldl (fun acc kv => putD acc kv.1 kv.2) []))
  | _ => none
theorem pairs_v {K : PySem.W.Frag} {H : Hp} {B : List Addr} : ∀ {ds : List PyData} {vs : List V} {ps : List (Key × PyData)}, RpL K H B ds vs → pairsOfD ds = some ps →
    ∃ (as : List Addr) (kvs : List (Key × V)), vs = as.map V.ref ∧ Paired (fun p kv => SqT K H p [kV kv.1, kv.2]) as kvs ∧ RQ K H B ps kvs
  | _, _, _, .nil, h => by cases h; exact ⟨[], [], rfl, .nil, .nil⟩
  | _, _, ps, .cons (d := d) (v := v) r t, h => by
    unfold pairsOfD at h
    split at h
    · rename_i heq
      cases heq
    · rename_i i y r' heq
      cases heq
      obtain ⟨zs, h1, rfl⟩ := map_some h
      obtain ⟨as, kvs, rfl, hp, hq⟩ := pairs_v t h1
      cases r with
      | tup q1 q2 q3 =>
        cases q3 with
        | cons q3 q4 => cases q4 with
          | cons q5 q6 =>
            cases q6
            cases q3
            exact ⟨_ :: as, (.inl i, _) :: kvs, rfl, .cons (.inl q1) hp, .cons q5 hq⟩
    · rename_i x y r' heq
      cases heq
      obtain ⟨zs, h1, rfl⟩ := map_some h
      obtain ⟨as, kvs, rfl, hp, hq⟩ := pairs_v t h1
      cases r with
      | tup q1 q2 q3 =>
        cases q3 with
        | cons q3 q4 => cases q4 with
          | cons q5 q6 =>
            cases q6
            cases q3
            exact ⟨_ :: as, (.inr x, _) :: kvs, rfl, .cons (.inl q1) hp, .cons q5 hq⟩
    · cases h
theorem merge_rq {K : PySem.W.Frag} {H : Hp} {B : List Addr} : ∀ {ps : List (Key × PyData)} {kvs : List (Key × V)} {acc : List (Key × PyData)} {ac : List (Key × V)}, RQ K H B ps kvs → RQ K H B acc ac → RQ K H B (ps.foldl (fun acc kv => putD acc kv.1 kv.2) acc) (mergeK ac kvs)
  | _, _, _, _, .nil, h => h
  | _, _, acc, ac, .cons (k := k) (d := d) (v := v) (ds := ds) (vs := vs) r t, h => by
    show RQ K H B (ds.foldl (fun acc kv => putD acc kv.1 kv.2) (putD acc k d)) (mergeK (putK ac k v) vs)
    exact merge_rq t (RQ.put _ r h)
theorem k_dict (hc : X.calm = true) : CallR X (.type "dict") (rCl X.K X.mg cDict) := by
  intro pins s σ H vs us Q I rv ⟨O, L, S, ds, d, st, r, hg, q⟩
  unfold cDict at hg
  split at hg
  · obtain ⟨ps, h1, rfl⟩ := map_some hg
    obtain ⟨xs, h2, h3⟩ := Option.bind_eq_some_iff.mp h1
    cases r with
    | cons r t =>
      cases t
      obtain ⟨a, ws, rfl, ha, ra⟩ := lk_at st r h2
      obtain ⟨as, kvs, rfl, hp, hq⟩ := pairs_v ra h3
      refine thn (call_dictP hc pins s σ H _ us (fun x H1 => ∃ p, x = .ref p ∧ H p = none ∧ H1 = upd H p (.dK (mergeK [] kvs))) I rv ⟨a, as, kvs, rfl, .inl (.inl ha), hp, fun p hp => ⟨p, rfl, hp, rfl⟩⟩) ?_
      rintro v s1 ⟨x, H1, I1, rx, p, rfl, hp, rfl⟩
      obtain ⟨od, I2⟩ := I1.lock upd_same (u := .dK (mergeK [] kvs)) trivial
      have e2 : upd (upd H p (.dK (mergeK [] kvs))) p (.frz od (.dK (mergeK [] kvs))) = upd H p (.frz od (.dK (mergeK [] kvs))) := by
        funext b
        by_cases hb : b = p
        · rw [hb, upd_same, upd_same]
        · rw [upd_ne hb, upd_ne hb, upd_ne hb]
      rw [e2] at I2
      refine ⟨_, _, I2, rx, q _ _ (same_upd hp) (.d ?_)⟩
      have kk : Kp H (O ++ L) (upd H p (.frz od (.dK (mergeK [] kvs)))) (O ++ L) := fun b o q n => ⟨n, same_upd hp b o q⟩
      exact .dct upd_same (st.fresh hp) (rq_kB ((merge_rq hq .nil).mono kk))
  · cases hg
end
end Sky
end
section
/-! Lay27: set(texts). -/
namespace Sky
open PySem PySem.Spec PyProof.Rows L2
def stepS (σ : List Str) (x : Str) : List Str := if σ.any (· == x) then σ else σ ++ [x]
/-- each text once -/
def ddS (xs : List Str) : List Str := xs.foldl stepS []
theorem ddS_snoc (xs : List Str) (x : Str) : ddS (xs ++ [x]) = stepS (ddS xs) x := by unfold ddS; rw [List.foldl_append]; rfl
theorem stepS_any (σ : List Str) (x k : Str) : (stepS σ x).any (· == k) = (σ.any (· == k) || decide (k = x)) := by
  unfold stepS
  by_cases h : σ.any (· == x) = true
  · rw [if_pos h]
    by_cases e : k = x
    · subst e; rw [h]; simp
    · simp [e]
  · rw [if_neg h, List.any_append]
    congr 1
    by_cases e : k = x
    · subst e; simp
    · have : ¬ x = k := fun z => e z.symm
      simp [e, this]
theorem stepS_len (σ : List Str) (x : Str) : (stepS σ x).length = if σ.any (· == x) = true then σ.length else σ.length + 1 := by
  unfold stepS
  split <;> simp
theorem ddS_len (xs : List Str) : (ddS xs).length ≤ xs.length := by
  have go : ∀ (xs acc : List Str), (xs.foldl stepS acc).length ≤ acc.length + xs.length := by
    intro xs
    induction xs with
    | nil => intro acc; simp
    | cons x xs ih =>
      intro acc
      have := ih (stepS acc x)
      have h2 := stepS_len acc x
      rw [List.foldl_cons, List.length_cons]
      split at h2 <;> omega
  have := go xs []
  simpa [ddS] using this
section
variable {prog : Program} {w : World} {A : Around} {R : Result → Shared → Prop} {I : Addr} {fp wr : List Addr} {G : Array GenState → Array GenState → Prop} {n : Nat} {P : Nat → Value → Prop} {St : Nat → Shared → Prop}
theorem loop_strs (W : WalksS prog w A.in1 I fp wr G n P St) (S : Addr) (out : S ∉ fp) (xs : List Str) (len : xs.length = n) (room : n + 1 < scanBound) (val : ∀ (i : Nat) (v : Value), P i v → ∃ t, v = .str (xs.getD i Str.empty) t) :
    ∀ (k i : Nat) (s : Shared), n - i = k → i ≤ n → St i s → s.heap.SetOf (PySem.strKind prog w) S (fun z => (ddS (xs.take i)).any (· == z)) (ddS (xs.take i)).length →
      (∀ t, Moved (S :: wr) G s t → t.heap.SetOf (PySem.strKind prog w) S (fun z => (ddS xs).any (· == z)) (ddS xs).length → R (.ok (.ret .none)) t) →
      codeAny (model prog w) A (.builtin "set.update.loop" ⟨[.ref S, .ref I], []⟩) R s := by
  have nw : S ∉ wr := fun h => out (W.sub _ h)
  have sub : ∀ b ∈ wr, b ∈ S :: wr := fun b hb => List.mem_cons_of_mem _ hb
  intro k
  induction k with
  | zero =>
    intro i s hk hi hst hS fin
    have hin : i = xs.length := by omega
    subst hin
    rw [List.take_length] at hS
    refine codeAny_builtin PyProof.Rows.F.entry_set_update_loop ?_
    rw [Around.under_plainId PyProof.Rows.F.plain_set_update_loop _]
    show wpAny _ A.in1 (pyNext (.ref I) >>= _) _ _ s
    have hst' : St n s := by rw [← len]; exact hst
    refine wpAny_bind (W.done s _ _ hst' fun t hm => ?_)
    show wpAny _ A.in1 (ret Value.none) _ _ t
    obtain ⟨o, es, ep, tb, ho, rest⟩ := hS
    exact wpAny_pure (fin t (hm.mono sub) ⟨o, es, ep, tb, hm.heap S _ nw ho, rest⟩)
  | succ k ih =>
    intro i s hk hi hst hS fin
    have hlt : i < n := by omega
    refine codeAny_builtin PyProof.Rows.F.entry_set_update_loop ?_
    rw [Around.under_plainId PyProof.Rows.F.plain_set_update_loop _]
    show wpAny _ A.in1 (pyNext (.ref I) >>= _) _ _ s
    refine wpAny_bind (W.item i s _ _ hlt hst fun v t hP hst' hm => ?_)
    obtain ⟨tk, rfl⟩ := val i v hP
    have hS' : t.heap.SetOf (PySem.strKind prog w) S (fun z => (ddS (xs.take i)).any (· == z)) (ddS (xs.take i)).length := by
      obtain ⟨o, es, ep, tb, ho, rest⟩ := hS
      exact ⟨o, es, ep, tb, hm.heap S _ nw ho, rest⟩
    show wpAny _ A.in1 (holding [Value.str (xs.getD i Str.empty) tk] (setAdd S (.str (xs.getD i Str.empty) tk)) >>= _) _ _ t
    refine wpAny_bind (wpAny_holding ?_)
    unfold setAdd
    refine wpAny_holding ?_
    refine wpAny_bind ((PySem.strKind prog w).pyHash (k := xs.getD i Str.empty) (PySem.strKind_is _ _ _ _) ?_)
    have hr : (ddS (xs.take i)).length + 1 < scanBound := by
      have := ddS_len (xs.take i)
      rw [List.length_take] at this
      omega
    refine wpAny_setAddHashed_of (knd := PySem.strKind prog w) (s := { t with toks := t.toks + 1 }) (PySem.strKind_is _ _ _ _) rfl hS' hr fun h' sb hS2 => ?_
    have e : xs.take (i + 1) = xs.take i ++ [xs.getD i Str.empty] := by
      have hx : xs[i]? = some xs[i] := List.getElem?_eq_getElem (by omega)
      rw [List.take_add_one, hx, List.getD_eq_getElem?_getD, hx]
      rfl
    have hSi : h'.SetOf (PySem.strKind prog w) S (fun z => (ddS (xs.take (i + 1))).any (· == z)) (ddS (xs.take (i + 1))).length :=
      PyProof.Rows.SetOf_congr hS2 (fun z => by rw [e, ddS_snoc, stepS_any]) (by rw [e, ddS_snoc, stepS_len])
    refine wpAny_pure ⟨plainId_quiet PyProof.Rows.F.plain_set_update_loop _, ih (i + 1) _ (by omega) hlt (W.frame _ t _ _ hst' (Nat.le_succ _) fun b hb o z => ?_) hSi fun u hm2 hS3 => ?_⟩
    · rw [sb.2 b (fun h : b = S => out (by rw [← h]; exact hb))]; exact z
    · refine fin u (Moved.trans W.gtrans ((hm.mono sub).then_heap (Nat.le_succ _) fun b o hb z => ?_) hm2) hS3
      rw [sb.2 b (fun h : b = S => hb (by rw [h]; exact List.mem_cons_self))]; exact z
end
section
variable {prog : Program} {w : World} {A : Around} {E : Value → Shared → Prop} {s : Shared}
set_option maxHeartbeats 3200000 in
theorem set_strs {l : Addr} {items : Array Value} {xs : List Str} {Q : Value → Shared → Prop}
    (hh : A.handled = none) (hl : s.heap.IsList l items) (hi : PyProof.Rows.StrsAre items.toList xs) (hn1 : xs.length + 1 < scanBound)
    (h : ∀ (h' : Heap) (tk : Nat), h'.SetOf (PySem.strKind prog w) s.heap.objs.size (fun k' => (ddS xs).any (· == k')) (ddS xs).length →
      (∀ b o, b < s.heap.objs.size → s.heap.get? b = some o → h'.get? b = some o) → Q (.ref s.heap.objs.size) { s with heap := h', toks := tk }) :
    wpAny (model prog w) A (call (.type "set") [.ref l]) Q E s := by
  obtain ⟨c, tl, hy4⟩ := PySem.F.called_set.mro
  have hy2 := PySem.F.called_set.made
  have hy3 := PySem.F.called_set.sub
  refine wpAny_call (codeAny_of_tree ?_)
  show wpAny _ _ (callAny (.type "set") _) _ _ _
  refine wpAny_pure ⟨Code.quiet_builtin _ (by decide +kernel), codeAny_builtin PySem.F.entry_type_call ?_⟩
  rw [Around.under_plain (weight_type_call_type "set" [.ref l] []) rfl]
  have h1 := PySem.F.called_set.notType
  have h2 := PySem.F.called_set.canCreate
  have hy1 := PySem.F.typeCall_set_1 (.ref l)
  repeat (any_goals (first | assumption | wp_step))

  refine codeAny_mono (code_set_new_1 (.ref l) (E := E) (Q₁ := fun ob t1 => ∃ led : Bool, ob = .ref s.heap.objs.size ∧ t1 = { s with heap := s.heap.push { cls := .type "set", dict := none, data := .set #[] 0 (.fresh 0 0 led) } }) fun led => ⟨led, rfl, rfl⟩) fun r t1 hr => ?_
  cases r with
  | error e => exact hr
  | ok fl =>
    cases fl with
    | ret ob =>
      obtain ⟨led, rfl, rfl⟩ := hr
      have hS : (s.heap.push { cls := .type "set", dict := none, data := .set #[] 0 (.fresh 0 0 led) }).get? s.heap.objs.size = some { cls := .type "set", dict := none, data := .set #[] 0 (.fresh 0 0 led) } := Heap.get?_push_size _ rfl
      have hT : Shared.TypeIs { s with heap := s.heap.push { cls := .type "set", dict := none, data := .set #[] 0 (.fresh 0 0 led) } } (.ref s.heap.objs.size) "set" := ⟨_, hS, rfl⟩
      have hz9 := PySem.F.called_set.init.lookup
      have hz8 := PySem.F.called_set.init.bind (.ref s.heap.objs.size)
      repeat (any_goals (first | assumption | wp_step))

      refine codeAny_mono (codeAny_call_builtin (R := wants (fun r t2 => r = .none ∧ ∃ h' tk, t2 = { s with heap := h', toks := tk } ∧
          h'.SetOf (PySem.strKind prog w) s.heap.objs.size (fun k' => (ddS xs).any (· == k')) (ddS xs).length ∧
          (∀ b o, b < s.heap.objs.size → s.heap.get? b = some o → h'.get? b = some o)) E) PySem.F.called_set.init.plain PySem.F.entry_set_init (check_set_init_1 hT ?_)) fun y2 t2 hy5 => ?_
      · obtain ⟨o1, hb1, hc1, n1, hd1⟩ := hl
        obtain ⟨kc, kd, kt, ks⟩ := o1
        simp only at hc1 hd1
        subst hc1; subst hd1
        have hb2 : (s.heap.push { cls := .type "set", dict := none, data := .set #[] 0 (.fresh 0 0 led) }).get? l = some { cls := .type "list", dict := kd, data := .seq items n1, slots := ks } := Heap.get?_push_of_some _ hb1
        have hsls := PySem.F.sub_list_set
        have hslf := PySem.F.sub_list_frozenset
        have hne : (Value.type "list" == Value.type "dict") = false := by decide
        have hz6 : (s.heap.push { cls := .type "set", dict := none, data := .set #[] 0 (.fresh 0 0 led) }).IsList l items := ⟨_, hb2, rfl, n1, rfl⟩
        unfold Builtin.«set.__init__» noKeywords Builtin.Frozenset.updateFrom
        generalize hPI : pyIter = PI
        wp_walk
        subst hPI

        refine wpAny_pyIter_list hz6 ?_
        refine wpAny_bind (wpAny_runValue ?_)
        have hz1 : l < s.heap.objs.size := Heap.lt_size hb1
        have hz7 : A.in1.in1.in1.handled = none := by simp [hh]
        have hz2 : l ≠ (s.heap.push { cls := .type "set", dict := none, data := .set #[] 0 (.fresh 0 0 led) }).objs.size := by
          rw [Heap.size_push]; exact Nat.ne_of_lt (Nat.lt_succ_of_lt hz1)
        have hz3 : s.heap.objs.size ∉ [(s.heap.push { cls := .type "set", dict := none, data := .set #[] 0 (.fresh 0 0 led) }).objs.size, l] := by
          rw [Heap.size_push]; simp only [List.mem_cons, List.mem_singleton, List.not_mem_nil, or_false, not_or]
          exact ⟨Nat.ne_of_lt (Nat.lt_succ_self _), Nat.ne_of_gt hz1⟩
        have hz4 : xs.length = items.size := by rw [← StrsAre.len_eq hi, Array.length_toList]
        have hz5 : ∀ (i : Nat) (v : Value), items[i]? = some v → ∃ t, v = .str (xs.getD i Str.empty) t := fun i v hv => SS.strs_at hi i v (by rw [Array.getElem?_toList]; exact hv)
        refine loop_strs ((Walks.list hz7 _ l hz2 items).toS) s.heap.objs.size
          hz3 xs hz4 (by rw [← hz4]; exact hn1) hz5 (items.size - 0) 0 _ (by omega) (Nat.zero_le _)
          ⟨⟨_, Heap.get?_push_size _ rfl, rfl, rfl⟩, (hz6.push _)⟩ ?hS0 ?hR
        case hS0 =>
          have hget : ((s.heap.push { cls := .type "set", dict := none, data := .set #[] 0 (.fresh 0 0 led) }).push { cls := .type "list_iterator", data := .fields #[.ref l, .int 0 0] }).get? s.heap.objs.size
              = some { cls := .type "set", dict := none, data := .set #[] 0 (.fresh 0 0 led) } := Heap.get?_push_of_some _ hS
          exact PyProof.Rows.SetOf_congr ((PyProof.Rows.setObjOf_fresh (knd := PySem.strKind prog w) led).setOf hget (by unfold scanBound; omega)) (fun _ => rfl) rfl
        case hR =>
          intro s' hm hS'
          obtain ⟨h', g', d', tk', os'⟩ := s'
          have eg : g' = s.gens := hm.gens
          have ed : d' = s.drawn := hm.drawn
          have eo : os' = s.os := hm.os
          subst eg; subst ed; subst eo
          show wpAny _ _ _ _ _ _
          refine wpAny_pure ?_
          show wpAny _ _ (ret Value.none) _ _ _
          refine wpAny_pure ⟨rfl, h', tk', rfl, hS', fun b o hb e => ?_⟩
          have hb1 : b ≠ s.heap.objs.size := Nat.ne_of_lt hb
          have hb2 : b ≠ (s.heap.push { cls := .type "set", dict := none, data := .set #[] 0 (.fresh 0 0 led) }).objs.size := by
            rw [Heap.size_push]; exact Nat.ne_of_lt (Nat.lt_succ_of_lt hb)
          exact hm.heap b o (by simp only [List.mem_cons, List.mem_singleton, List.not_mem_nil, or_false, not_or]; exact ⟨hb1, hb2⟩) (Heap.get?_push_of_some _ (Heap.get?_push_of_some _ e))

      · cases y2 with
        | error e => exact hy5
        | ok fl₂ =>
          cases fl₂ with
          | ret r =>
            obtain ⟨rfl, h', tk, rfl, hS', hk'⟩ := hy5
            repeat (any_goals (first | assumption | wp_step))
            exact h _ _ hS' hk'
          | _ => exact hy5.elim
    | _ => exact hr.elim

end
/-! ### len(set(texts)) -/
def mLenSet (fa : EM) : EM := fun ρ S => (fa ρ S).andThen fun x S1 => match (lk S1 x).bind strsOf with
  | some ks => if ks.length + 1 < 64 then .ok (.d (.int (ddS ks).length)) S1 else .no
  | none => .no
section
variable {X : Cx} {W : WX} {a : Expr} {fa : EM} {p p2 q pos : Pos}
theorem strs_v {K : PySem.W.Frag} {H : Hp} {B : List Addr} : ∀ {ds : List PyData} {vs : List V} {us : List Value} {ks : List Str}, RpL K H B ds vs → Vals vs us → strsOf ds = some ks → StrsAre us ks
  | _, _, _, _, .nil, r, h => by cases h; cases r; exact .nil
  | _, _, _, ks, .cons (d := d) q t, r, h => by
    cases r with
    | cons r1 r2 =>
      unfold strsOf at h
      split at h
      · rename_i heq; cases heq
      · rename_i x r' heq
        cases heq
        obtain ⟨zs, h1, rfl⟩ := map_some h
        cases q
        obtain ⟨tk, rfl⟩ := r1
        exact .cons _ _ (strs_v t r2 h1)
      · cases h
theorem pm_lenset (hc : X.calm = true) (hg : Gl X "len") (hm : X.mg "len" = none) (hg2 : Gl X "set") (hm2 : X.mg "set" = none) (ha : PM X W a fa) (na : starEach [a] X.env = (false, eval a X.env) :: starEach [] X.env := by rfl) :
    PM X W (.Call (.Name "len" p) [.Call (.Name "set" p2) [a] [] q] [] pos) (mLenSet fa) := by
  refine ⟨fun pins s σ H Q I ⟨O, L, S, ρ, at_, h⟩ => ?_⟩
  refine Call_ (ld_blt I hg hm PySem.boot_len ?_)
  refine PyProof.Rows.callWith_builtin1 (PyProof.Rows.args_cons ?_ rfl) rfl rfl
  refine Call_ (ld_blt I hg2 hm2 PyProof.Rows.boot_set ?_)
  have part := tM.part (Q := fun x H1 => ∃ (l : Addr) (ws : List V) (ds : List PyData) (ks : List Str), x = V.ref l ∧ H1 l = some (.lst ws) ∧ RpL X.K H1 [] ds ws ∧ strsOf ds = some ks ∧ ks.length + 1 < 64 ∧ Q (.int (ddS ks).length) H1) at_ h fun d v S1 L1 H1 a1 e1 r1 h1 => by
    cases hs : (lk S1 d).bind strsOf with
    | none => simp only [hs] at h1; exact h1.elim
    | some ks =>
      simp only [hs] at h1
      obtain ⟨hz, h1⟩ := ite_of h1
      obtain ⟨ds, h2, h3⟩ := Option.bind_eq_some_iff.mp hs
      obtain ⟨l, ws, rfl, hl, rl⟩ := lk_at a1.st r1 h2
      exact ⟨l, ws, ds, ks, rfl, hl, rpl_free rl, h3, hz, h1 H1 L1 (Ext.refl _ _) a1.st _ (.d (.int _))⟩
  refine PyProof.Rows.callWith_type1 (PyProof.Rows.args_cons (thn (ha.run pins s σ H _ I part) fun v s1 ⟨x, H1, I1, r1, q1⟩ => PyProof.Rows.args_nil ?_) na) na rfl
  obtain ⟨l, ws, ds, ks, rfl, hl, rl, hks, hz, q1⟩ := q1
  cases r1
  obtain ⟨its, rv, pl, hsz⟩ := I1.list (.inl (.inl hl))
  refine set_strs (I1.ok.hd hc) pl.isList (xs := ks) (by simpa using strs_v rl rv hks) (by unfold scanBound; omega) fun h' tk hS hk => ?_
  refine PyProof.Rows.args_nil ?_
  obtain ⟨o, es, ep, t, ho, hex, hd, _, _, _, hf, hn⟩ := hS
  have I2 : Inv X pins σ H1 { s1 with heap := h', toks := tk } := I1.kept fun b o e => hk b o (Heap.lt_size e) e
  have := ddS_len ks
  exact call_len_set ho hex hd hf (by rw [hn]; omega) ⟨.int (ddS ks).length, H1, I2.tok _, ⟨_, by rw [hn]⟩, q1⟩
end
end Sky
end
section
/-! Lay28: what is never reached. -/
namespace Sky
open PySem PySem.Spec PyProof.Rows L2
def sNo : SM := fun _ _ => .no
theorem pms_no {X : Cx} {W : WX} {st : Stmt} : PMS X W st sNo := ⟨fun pins s σ H D I ⟨O, L, S, ρ, a, h⟩ => h.elim⟩
end Sky
end
section
/-! Lay29: how the later combinators compute. -/
namespace Sky
open PySem PySem.Spec PyProof.Rows L2
variable {ρ : Env} {S S1 : Store} {d x y z : D} {e : Exc} {a b : SM} {f fa fb fc fo fi fe fk fv : EM} {c ba bb : BM} {fs : AM} {ds : List D} {g g' : Store → D → D → Option D}
/-! ### fields -/
def kFld (c f : Str) : Res D → Res D
  | .ok o S => Res.of (fldOf S c f o) S
  | .exc e S => .exc e S
  | .no => .no
@[simp] theorem mFld_ap {c f : Str} : mFld c f fa ρ S = kFld c f (fa ρ S) := by unfold mFld; cases fa ρ S <;> rfl
@[simp] theorem kFld_ok {c f : Str} : kFld c f (.ok d S) = Res.of (fldOf S c f d) S := id rfl
def fldC (c f : Str) : Option Cell → Option D
  | some (.ins c' fs) => if c' = c then fs.lookup f else none
  | _ => none
@[simp] theorem fldOf_r {c f : Str} (i : Nat) : fldOf S c f (.r i) = fldC c f S[i]? := by
  show (match S[i]? with | some (.ins c' fs) => if c' = c then fs.lookup f else none | _ => none) = fldC c f S[i]?
  unfold fldC
  rfl
@[simp] theorem fldC_i {c f c' : Str} (fs : List (Str × D)) : fldC c f (some (.ins c' fs)) = if c' = c then fs.lookup f else none := id rfl
def qFl2 (c f : Str) (ρ : Env) (y : D) : Res D → SR
  | .ok o S => match putOf S c f y o with
    | some S3 => .nx ρ S3
    | none => .no
  | .exc e S => .ex e ρ S
  | .no => .no
def qFl1 (c f : Str) (fo : EM) (ρ : Env) : Res D → SR
  | .ok y S => qFl2 c f ρ y (fo ρ S)
  | .exc e S => .ex e ρ S
  | .no => .no
@[simp] theorem sFl_ap {c f : Str} : sFl c f fo fe ρ S = qFl1 c f fo ρ (fe ρ S) := by
  unfold sFl
  cases fe ρ S with
  | ok y S1 => show SR.ofE (fo ρ S1) ρ _ = qFl2 c f ρ y (fo ρ S1); cases fo ρ S1 <;> rfl
  | exc _ _ => rfl
  | no => rfl
@[simp] theorem qFl1_ok {c f : Str} : qFl1 c f fo ρ (.ok y S) = qFl2 c f ρ y (fo ρ S) := id rfl
def qFl4 (ρ : Env) : Option Store → SR
  | some S3 => .nx ρ S3
  | none => .no
@[simp] theorem qFl2_ok {c f : Str} : qFl2 c f ρ y (.ok x S) = qFl4 ρ (putOf S c f y x) := by
  show (match putOf S c f y x with | some S3 => SR.nx ρ S3 | none => .no) = qFl4 ρ (putOf S c f y x)
  cases putOf S c f y x <;> rfl
@[simp] theorem qFl4_some : qFl4 ρ (some S) = .nx ρ S := id rfl
def putC (S : Store) (i : Nat) (c f : Str) (y : D) : Option Cell → Option Store
  | some (.ins c' fs) => if c' = c ∧ fs.length < 1000 then some (S.set i (.ins c (putFD f y fs))) else none
  | _ => none
@[simp] theorem putOf_r {c f : Str} (i : Nat) : putOf S c f y (.r i) = putC S i c f y S[i]? := by
  show (match S[i]? with | some (.ins c' fs) => if c' = c ∧ fs.length < 1000 then some (S.set i (.ins c (putFD f y fs))) else none | _ => none) = putC S i c f y S[i]?
  unfold putC
  rfl
@[simp] theorem putC_i {c f c' : Str} (i : Nat) (fs : List (Str × D)) : putC S i c f y (some (.ins c' fs)) = if c' = c ∧ fs.length < 1000 then some (S.set i (.ins c (putFD f y fs))) else none := id rfl
@[simp] theorem putFD_nil (f : Str) (d : D) : putFD f d [] = [(f, d)] := id rfl
@[simp] theorem putFD_cons (f g : Str) (d v : D) (r : List (Str × D)) : putFD f d ((g, v) :: r) = if g = f then (g, d) :: r else (g, v) :: putFD f d r := id rfl
/-! ### methods, making -/
def kMeth2 (n : Nat) (F : Fn) (o : D) : Res (List D) → Res D
  | .ok ds S => if ds.length + 1 = n then F (o :: ds) S else .no
  | .exc e S => .exc e S
  | .no => .no
def kMeth1 (c m : Str) (n : Nat) (F : Fn) (fs : AM) (ρ : Env) : Res D → Res D
  | .ok o S => if isIns S c m o = true then kMeth2 n F o (fs ρ S) else .no
  | .exc e S => .exc e S
  | .no => .no
@[simp] theorem mMeth_ap {c m : Str} {n : Nat} {F : Fn} : mMeth c m n F fo fs ρ S = kMeth1 c m n F fs ρ (fo ρ S) := by
  unfold mMeth
  cases fo ρ S with
  | ok o S1 =>
    show (if isIns S1 c m o = true then _ else _) = if isIns S1 c m o = true then _ else _
    congr 1
    cases fs ρ S1 <;> rfl
  | exc _ _ => rfl
  | no => rfl
@[simp] theorem kMeth1_ok {c m : Str} {n : Nat} {F : Fn} : kMeth1 c m n F fs ρ (.ok d S) = if isIns S c m d = true then kMeth2 n F d (fs ρ S) else .no := id rfl
@[simp] theorem kMeth2_ok {n : Nat} {F : Fn} : kMeth2 n F d (.ok ds S) = if ds.length + 1 = n then F (d :: ds) S else .no := id rfl
def insC (c m : Str) : Option Cell → Bool
  | some (.ins c' fs) => decide (c' = c) && (fs.lookup m).isNone
  | _ => false
@[simp] theorem isIns_r {c m : Str} (i : Nat) : isIns S c m (.r i) = insC c m S[i]? := by
  show (match S[i]? with | some (.ins c' fs) => decide (c' = c) && (fs.lookup m).isNone | _ => false) = insC c m S[i]?
  unfold insC
  rfl
@[simp] theorem insC_i {c m c' : Str} (fs : List (Str × D)) : insC c m (some (.ins c' fs)) = (decide (c' = c) && (fs.lookup m).isNone) := id rfl
def kMake (c : Str) (n : Nat) (F : Fn) : Res (List D) → Res D
  | .ok ds S => if ds.length = n then kMade S.length (F (.r S.length :: ds) (S ++ [.ins c []])) else .no
  | .exc e S => .exc e S
  | .no => .no
@[simp] theorem mMake_ap {c : Str} {n : Nat} {F : Fn} : mMake c n F fs ρ S = kMake c n F (fs ρ S) := by unfold mMake; cases fs ρ S <;> rfl
@[simp] theorem kMake_ok {c : Str} {n : Nat} {F : Fn} : kMake c n F (.ok ds S) = if ds.length = n then kMade S.length (F (.r S.length :: ds) (S ++ [.ins c []])) else .no := id rfl
@[simp] theorem kMade_ok (n : Nat) : kMade n (.ok (.d .none) S) = .ok (.r n) S := id rfl
/-! ### cells forgotten -/
theorem gcF_ap {F : Fn} : gcF F ds S = kGc S.length (F ds S) := id rfl
@[simp] theorem kGc_d (n : Nat) (v : PyData) : kGc n (.ok (.d v) S) = if gcOk n S = true then .ok (.d v) (S.take n) else .no := by
  show (if gcOk n S = true ∧ newD n (.d v) = true then Res.of ((rf S (.d v)).map D.d) (S.take n) else .no) = _
  have : newD n (.d v) = true := rfl
  simp [this]
@[simp] theorem kGc_r (n i : Nat) : kGc n (.ok (.r i) S) = if gcOk n S = true ∧ n ≤ i then Res.of ((rfC (S[i]? : Option Cell)).map D.d) (S.take n) else .no := by
  show (if gcOk n S = true ∧ newD n (.r i) = true then Res.of ((rf S (.r i)).map D.d) (S.take n) else .no) = _
  have hn : newD n (.r i) = decide (n ≤ i) := rfl
  by_cases hi : n ≤ i
  · simp [hn, hi]
  · simp [hn, hi]
@[simp] theorem kGc_exc (n : Nat) : kGc n (.exc e S) = if gcOk n S = true then .exc e (S.take n) else .no := id rfl
/-! ### memo -/
@[simp] theorem mMem_ap (hf : MK → Int) : mMem hf ρ S = .ok (.r S.length) (S ++ [.mem hf []]) := id rfl
def memC : Option Cell → Option (List (MK × PyData))
  | some (.mem _ kvs) => some kvs
  | _ => none
theorem memOf_r {hf : MK → Int} {kvs : List (MK × PyData)} {i : Nat} (h : S[i]? = some (.mem hf kvs)) : memOf S hf (.r i) = some kvs := by
  unfold memOf
  simp [h]
/-! ### in, data -/
@[simp] theorem gIn_ap (S : Store) : gIn S x y = (inOf S x y).map fun b => .d (.bool b) := id rfl
@[simp] theorem gNin_ap (S : Store) : gNin S x y = (inOf S x y).map fun b => .d (.bool (!b)) := id rfl
@[simp] theorem inOf_t (S : Store) (xs : List PyData) : inOf S x (.d (.tuple xs)) = (rf S x).bind fun a => if dp 60 a = true ∧ xs.all (dp 60) = true then some (xs.any fun z => PyData.eqv z a) else none := id rfl
@[simp] theorem inOf_l (S : Store) (xs : List PyData) : inOf S x (.d (.list xs)) = (rf S x).bind fun a => if dp 60 a = true ∧ xs.all (dp 60) = true then some (xs.any fun z => PyData.eqv z a) else none := id rfl
@[simp] theorem inOf_d (S : Store) (kvs : List (PyData × PyData)) : inOf S x (.d (.dict kvs)) = (keyOf x).map fun k => (dlook kvs k).isSome := by
  show ((keyOf x).bind fun k => (dget S (.d (.dict kvs)) k).map Option.isSome) = _
  cases keyOf x <;> rfl
@[simp] theorem keyOf_i (i : Int) : keyOf (.d (.int i)) = some (.inl i) := id rfl
@[simp] theorem keyOf_s (i : Str) : keyOf (.d (.str i)) = some (.inr i) := id rfl
@[simp] theorem gIx_d (S : Store) (kvs : List (PyData × PyData)) : gIx S (.d (.dict kvs)) y = (keyOf y).bind fun k => (dlook kvs k).map .d := by
  have e : gIx S (.d (.dict kvs)) y = gIxR S (.d (.dict kvs)) y := by
    unfold gIx
    split <;> first | rfl | cases ‹D.d (PyData.dict _) = _›
  rw [e]
  unfold gIxR
  show (match keyOf y with | some k => (match dget S (.d (.dict kvs)) k with | some (some d) => some (D.d d) | _ => none) | none => none) = _
  cases keyOf y with
  | none => rfl
  | some k =>
    show (match (some (dlook kvs k) : Option (Option PyData)) with | some (some d) => some (D.d d) | _ => none) = (dlook kvs k).map .d
    cases dlook kvs k <;> rfl
@[simp] theorem gIsNT_b (S : Store) (a b : Bool) : gIsNT S (.d (.bool a)) (.d (.bool b)) = some (.d (.bool (!(a == b)))) := id rfl
@[simp] theorem gIsT_b (S : Store) (a b : Bool) : gIsT S (.d (.bool a)) (.d (.bool b)) = some (.d (.bool (a == b))) := id rfl
@[simp] theorem cMinL_t (S : Store) (xs : List PyData) : cMinL S [.d (.tuple xs)] = (minL xs).map .d := id rfl
@[simp] theorem cMinL_l (S : Store) (xs : List PyData) : cMinL S [.d (.list xs)] = (minL xs).map .d := id rfl
@[simp] theorem cMinT_d (S : Store) (a b : PyData) : cMinT S [.d a, .d b] = if alikeAllB [a, b] = true then some (.d (if PySem.W.dataLt b a = true then b else a)) else none := id rfl
@[simp] theorem cSorted_l (S : Store) (xs : List PyData) : cSorted S [.d (.list xs)] = if sortOk xs = true then some (.d (.list (sortD xs))) else none := id rfl
@[simp] theorem cSorted_t (S : Store) (xs : List PyData) : cSorted S [.d (.tuple xs)] = if sortOk xs = true then some (.d (.list (sortD xs))) else none := id rfl
@[simp] theorem cSortedD_d (S : Store) (kvs : List (PyData × PyData)) : cSortedD S [.d (.dict kvs)] = (dkeys kvs).bind fun ks => if ks.length < 64 then some (.d (.list ((sortS ks).map .str))) else none := id rfl
@[simp] theorem cDict_l (S : Store) (xs : List PyData) : cDict S [.d (.list xs)] = (pairsOfD xs).map fun ps => .d (dictD (ps.foldl (fun acc kv => putD acc kv.1 kv.2) [])) := id rfl
/-! ### dict comprehensions -/
def kPair2 (k : D) : Res D → Res D
  | .ok v S => match keyOf k, v with
    | some kk, .d y => .ok (.d (.tuple [keyD kk, y])) S
    | _, _ => .no
  | .exc e S => .exc e S
  | .no => .no
def kPair1 (fv : EM) (ρ : Env) : Res D → Res D
  | .ok k S => kPair2 k (fv ρ S)
  | .exc e S => .exc e S
  | .no => .no
@[simp] theorem pairM_ap : pairM fk fv ρ S = kPair1 fv ρ (fk ρ S) := by
  unfold pairM
  cases fk ρ S with
  | ok k S1 => show (fv ρ S1).andThen _ = kPair2 k (fv ρ S1); cases fv ρ S1 <;> rfl
  | exc _ _ => rfl
  | no => rfl
@[simp] theorem kPair1_ok : kPair1 fv ρ (.ok d S) = kPair2 d (fv ρ S) := id rfl
@[simp] theorem kPair2_s (k : Str) (v : PyData) : kPair2 (.d (.str k)) (.ok (.d v) S) = .ok (.d (.tuple [.str k, v])) S := id rfl
@[simp] theorem kPair2_i (k : Int) (v : PyData) : kPair2 (.d (.int k)) (.ok (.d v) S) = .ok (.d (.tuple [.int k, v])) S := id rfl
def kDc2 : Res (List PyData) → Res D
  | .ok ys S => .ok (.d (dictD (dcOf ys))) S
  | _ => .no
def kDc (g : TgM) (t : BM) (fk fv : EM) (own : List Nat) (ρ : Env) : Res (List PyData) → Res D
  | .ok xs S => if xs.length < sizeLine then kDc2 (compL g t (pairM fk fv) (wipeE ρ own) xs S) else .no
  | .exc e S => .exc e S
  | .no => .no
@[simp] theorem mDc_ap {fi : IM} {g : TgM} {t : BM} {own : List Nat} : mDc fi g t fk fv own ρ S = kDc g t fk fv own ρ (fi ρ S) := by
  unfold mDc
  cases fi ρ S with
  | ok xs S1 =>
    show (if xs.length < sizeLine then _ else _) = if xs.length < sizeLine then _ else _
    congr 1
  | exc _ _ => rfl
  | no => rfl
@[simp] theorem kDc_ok {g : TgM} {t : BM} {own : List Nat} (xs : List PyData) : kDc g t fk fv own ρ (.ok xs S) = if xs.length < 16777216 then kDc2 (compL g t (pairM fk fv) (wipeE ρ own) xs S) else .no := by rw [← sizeLine_eq]; exact id rfl
@[simp] theorem kDc2_ok (ys : List PyData) : kDc2 (.ok ys S) = .ok (.d (dictD (dcOf ys))) S := id rfl
/-! ### zip, pop, +=, slices, ranges, sets -/
def kZip1 : Res (List D) → Res (List PyData)
  | .ok ds S => kZip (.ok ds S)
  | .exc e S => .exc e S
  | .no => .no
@[simp] theorem iZip_ap : iZip fs ρ S = kZip1 (fs ρ S) := by unfold iZip; cases fs ρ S <;> rfl
@[simp] theorem kZip1_l (xs ys : List PyData) : kZip1 (.ok [.d (.list xs), .d (.list ys)] S) = .ok (zipD xs ys) S := id rfl
@[simp] theorem kZip1_t (xs ys : List PyData) : kZip1 (.ok [.d (.tuple xs), .d (.tuple ys)] S) = .ok (zipD xs ys) S := id rfl
def kPopC (S : Store) (i : Nat) : Option Cell → Res D
  | some (.lst xs) => match xs.getLast? with
    | some y => .ok (.d y) (S.set i (.lst xs.dropLast))
    | none => .no
  | _ => .no
def kPop : Res D → Res D
  | .ok (.r i) S => kPopC S i S[i]?
  | .exc e S => .exc e S
  | _ => .no
@[simp] theorem mPop_ap : mPop fo ρ S = kPop (fo ρ S) := by
  unfold mPop
  cases fo ρ S with
  | ok o S1 => cases o with
    | r i =>
      show (match S1[i]? with | some (.lst xs) => _ | _ => _) = kPopC S1 i S1[i]?
      unfold kPopC
      rfl
    | _ => rfl
  | _ => rfl
@[simp] theorem kPop_r (i : Nat) : kPop (.ok (.r i) S) = kPopC S i S[i]? := id rfl
@[simp] theorem kPopC_l (i : Nat) (xs : List PyData) : kPopC S i (some (.lst xs)) = match xs.getLast? with
    | some y => .ok (.d y) (S.set i (.lst xs.dropLast))
    | none => .no := id rfl
def qAugC (ρ : Env) (i j : Nat) (S : Store) (ys : List PyData) : Option Cell → SR
  | some (.lst xs) => if xs.length + ys.length ≤ 16777216 then .nx (ρ.set i (some (.r j))) (S.set j (.lst (xs ++ ys))) else .no
  | _ => .no
def qAug2 (ρ : Env) (i : Nat) (o : D) : Res D → SR
  | .ok (.d (.list ys)) S => match o with
    | .r j => qAugC ρ i j S ys S[j]?
    | _ => .no
  | .exc e S => .ex e ρ S
  | _ => .no
def qAug1 (fe : EM) (ρ : Env) (i : Nat) : Res D → SR
  | .ok o S => qAug2 ρ i o (fe ρ S)
  | .exc e S => .ex e ρ S
  | .no => .no
@[simp] theorem sAugL_ap {i : Nat} : sAugL i fe ρ S = qAug1 fe ρ i (mVar i ρ S) := by
  unfold sAugL
  cases mVar i ρ S with
  | ok o S0 =>
    show SR.ofE (fe ρ S0) ρ _ = qAug2 ρ i o (fe ρ S0)
    cases fe ρ S0 with
    | ok y S1 =>
      cases o with
      | r j =>
        cases y with
        | d y =>
          cases y with
          | list ys =>
            show (match S1[j]? with | some (.lst xs) => if xs.length + ys.length ≤ sizeLine then _ else _ | _ => _) = qAugC ρ i j S1 ys S1[j]?
            unfold qAugC
            rw [sizeLine_eq]
          | _ => rfl
        | _ => rfl
      | _ => cases y with
        | d y => cases y <;> rfl
        | _ => rfl
    | _ => rfl
  | _ => rfl
@[simp] theorem qAug1_ok {i : Nat} : qAug1 fe ρ i (.ok d S) = qAug2 ρ i d (fe ρ S) := id rfl
@[simp] theorem qAug2_r {i j : Nat} (ys : List PyData) : qAug2 ρ i (.r j) (.ok (.d (.list ys)) S) = qAugC ρ i j S ys S[j]? := id rfl
@[simp] theorem qAugC_l {i j : Nat} (xs ys : List PyData) : qAugC ρ i j S ys (some (.lst xs)) = if xs.length + ys.length ≤ 16777216 then .nx (ρ.set i (some (.r j))) (S.set j (.lst (xs ++ ys))) else .no := id rfl
def kSlC4 (S : Store) : Option (List PyData) → Res D
  | some xs => .ok (.r S.length) (S ++ [.lst xs])
  | none => .no
def kSlC3 (x : D) (l : Option Int) : Res (Option Int) → Res D
  | .ok u S => kSlC4 S (gSlL S x l u)
  | .exc e S => .exc e S
  | .no => .no
def kSlC2 (fh : OM) (ρ : Env) (x : D) : Res (Option Int) → Res D
  | .ok l S => kSlC3 x l (fh ρ S)
  | .exc e S => .exc e S
  | .no => .no
def kSlC1 (fl fh : OM) (ρ : Env) : Res D → Res D
  | .ok x S => kSlC2 fh ρ x (fl ρ S)
  | .exc e S => .exc e S
  | .no => .no
@[simp] theorem mSlC_ap {fl fh : OM} : mSlC fa fl fh ρ S = kSlC1 fl fh ρ (fa ρ S) := by
  unfold mSlC
  cases fa ρ S with
  | ok x S1 =>
    show (fl ρ S1).andThen _ = kSlC2 fh ρ x (fl ρ S1)
    cases fl ρ S1 with
    | ok l S2 =>
      show (fh ρ S2).andThen _ = kSlC3 x l (fh ρ S2)
      cases fh ρ S2 with
      | ok u S3 =>
        show (match gSlL S3 x l u with | some xs => Res.ok (D.r S3.length) (S3 ++ [Cell.lst xs]) | none => .no) = kSlC4 S3 (gSlL S3 x l u)
        cases gSlL S3 x l u <;> rfl
      | exc _ _ => rfl
      | no => rfl
    | exc _ _ => rfl
    | no => rfl
  | exc _ _ => rfl
  | no => rfl
@[simp] theorem kSlC1_ok {fl fh : OM} : kSlC1 fl fh ρ (.ok x S) = kSlC2 fh ρ x (fl ρ S) := id rfl
@[simp] theorem kSlC2_ok {fh : OM} {l : Option Int} : kSlC2 fh ρ x (.ok l S) = kSlC3 x l (fh ρ S) := id rfl
@[simp] theorem kSlC3_ok {l u : Option Int} : kSlC3 x l (.ok u S) = kSlC4 S (gSlL S x l u) := id rfl
@[simp] theorem kSlC4_ok (xs : List PyData) : kSlC4 S (some xs) = .ok (.r S.length) (S ++ [.lst xs]) := id rfl
@[simp] theorem gSlL_l (xs : List PyData) (l u : Option Int) : gSlL S (.d (.list xs)) l u = some (cutD xs l u) := id rfl
@[simp] theorem gSlL_r (i : Nat) (l u : Option Int) : gSlL S (.r i) l u = (lkC S[i]?).map fun xs => cutD xs l u := by
  show (lk S (.r i)).map _ = _
  rw [lk_r]
def kLrg2 : Res D → Res D → Res D
  | .ok (.d (.int i)) _, .ok (.d (.int j)) S2 => if -(2 ^ 62) ≤ i ∧ i < 2 ^ 62 ∧ -(2 ^ 62) ≤ j ∧ j < 2 ^ 62 ∧ (j - i).toNat ≤ 2 ^ 24 then .ok (.d (.list (rng i (j - i).toNat))) S2 else .no
  | .exc e S, _ => .exc e S
  | .ok _ _, .exc e S => .exc e S
  | _, _ => .no
def kLrg1 (fb : EM) (ρ : Env) : Res D → Res D
  | .ok x S => kLrg2 (.ok x S) (fb ρ S)
  | .exc e S => .exc e S
  | .no => .no
@[simp] theorem mLrg2_ap : mLrg2 fa fb ρ S = kLrg1 fb ρ (fa ρ S) := by
  unfold mLrg2
  cases fa ρ S with
  | ok x S1 =>
    show (fb ρ S1).andThen _ = kLrg2 (.ok x S1) (fb ρ S1)
    cases fb ρ S1 with
    | ok y S2 =>
      cases x with
      | d x =>
        cases x with
        | int i => cases y with
          | d y => cases y <;> rfl
          | _ => rfl
        | _ => cases y <;> rfl
      | _ => cases y <;> rfl
    | exc _ _ => cases x with
      | d x => cases x <;> rfl
      | _ => rfl
    | no => cases x with
      | d x => cases x <;> rfl
      | _ => rfl
  | exc _ _ => rfl
  | no => rfl
@[simp] theorem kLrg1_ok : kLrg1 fb ρ (.ok x S) = kLrg2 (.ok x S) (fb ρ S) := id rfl
@[simp] theorem kLrg2_i (i j : Int) (h : -4611686018427387904 ≤ i ∧ i < 4611686018427387904 ∧ -4611686018427387904 ≤ j ∧ j < 4611686018427387904 ∧ j - i ≤ 16777216) : kLrg2 (.ok (.d (.int i)) S1) (.ok (.d (.int j)) S) = .ok (.d (.list (rng i (j - i).toNat))) S := if_pos ⟨h.1, h.2.1, h.2.2.1, h.2.2.2.1, by omega⟩
def kLenSet2 (S : Store) : Option (List Str) → Res D
  | some ks => if ks.length + 1 < 64 then .ok (.d (.int (ddS ks).length)) S else .no
  | none => .no
def kLenSet : Res D → Res D
  | .ok x S => kLenSet2 S ((lk S x).bind strsOf)
  | .exc e S => .exc e S
  | .no => .no
@[simp] theorem mLenSet_ap : mLenSet fa ρ S = kLenSet (fa ρ S) := by
  unfold mLenSet
  cases fa ρ S with
  | ok x S1 =>
    show (match (lk S1 x).bind strsOf with | some ks => _ | none => _) = kLenSet2 S1 ((lk S1 x).bind strsOf)
    cases (lk S1 x).bind strsOf <;> rfl
  | exc _ _ => rfl
  | no => rfl
@[simp] theorem kLenSet_l (xs : List PyData) : kLenSet (.ok (.d (.list xs)) S) = kLenSet2 S (strsOf xs) := id rfl
@[simp] theorem kLenSet2_ok (ks : List Str) : kLenSet2 S (some ks) = if ks.length + 1 < 64 then .ok (.d (.int (ddS ks).length)) S else .no := id rfl
end Sky
end
section
/-! Lay30: a dict's values, walked. -/
namespace Sky
open PySem PySem.Spec PyProof.Rows L2
theorem rpk_get {K : PySem.W.Frag} {H : Hp} {B : List Addr} : ∀ {ds : List (PyData × PyData)} {vs : List (Key × V)}, RpK K H B ds vs → ds.length = vs.length ∧ ∀ {i : Nat} {x : PyData}, (ds.map (·.2))[i]? = some x → ∃ k v, vs[i]? = some (k, v) ∧ Rp K H B x v
  | _, _, .nil => ⟨rfl, fun h => by simp at h⟩
  | _, _, .cons r t => by
    obtain ⟨h1, h2⟩ := rpk_get t
    refine ⟨by rw [List.length_cons, List.length_cons, h1], fun {i x} h => ?_⟩
    cases i with
    | zero => simp at h; subst h; exact ⟨_, _, rfl, r⟩
    | succ i =>
      obtain ⟨k, v, g1, g2⟩ := h2 (i := i) (x := x) (by simpa using h)
      exact ⟨k, v, by simpa using g1, g2⟩
theorem wk_vals {K : PySem.W.Frag} {mg : MG} {O L : List Addr} {H : Hp} {d : Addr} {od : Obj} {vs : List (Key × V)} {kvs : List (PyData × PyData)} (h1 : H d = some (.frz od (.dK vs))) (h2 : d ∉ O ++ L) (h3 : RpK K H (O ++ L) kvs vs) : Wk K mg O L H (Itd d od vs) (kvs.map (·.2)) := fun O' L1 H1 S1 k st => by
  have q := (k d _ h1 h2).2
  obtain ⟨hl, g⟩ := rpk_get (RpK.mono k _ _ h3)
  refine ⟨fun i x hx => ?_, q, by rw [List.length_map, hl]; exact Nat.le_refl _⟩
  obtain ⟨kk, v, e, r⟩ := g hx
  refine ⟨⟨q, (List.getElem?_eq_some_iff.mp e).1⟩, fun w H2 y => ?_⟩
  obtain ⟨rfl, k', y⟩ := y
  rw [e] at y
  cases y
  exact ⟨Same.refl _, r⟩
def iVal (f : EM) : IM := fun ρ S => (f ρ S).andThen fun x S1 => match x with
  | .d (.dict kvs) => .ok (kvs.map (·.2)) S1
  | _ => .no
section
variable {X : Cx} {W : WX} {tg e : Expr} {f : EM} {apos cpos : Pos}
theorem pmi_values (he : PM X W e f) (hbase : attributeBase e "values" X.env (eval e X.env) = eval e X.env := by rfl) (hline : (apos.endLine == cpos.line) = true := by rfl) : PMI X W tg (.Call (.Attribute e "values" apos) [] [] cpos) (iVal f) :=
  PI.imp (pi_values he hbase hline) fun σ H R ⟨O, L, S, ρ, a, h⟩ => by
    refine tM.part a h fun d v S1 L1 H1 a1 e1 r1 h1 => ?_
    split at h1
    · cases r1 with
      | d r => cases r with
        | dct q1 q2 q3 => exact ⟨_, _, _, rfl, q1, h1 H1 L1 (Ext.refl _ _) a1.st _ (wk_vals q1 q2 q3)⟩
    · exact h1.elim
end
variable {ρ : Env} {S : Store} {f : EM}
def kVal : Res D → Res (List PyData)
  | .ok (.d (.dict kvs)) S => .ok (kvs.map (·.2)) S
  | .exc e S => .exc e S
  | _ => .no
@[simp] theorem iVal_ap : iVal f ρ S = kVal (f ρ S) := by
  unfold iVal
  cases f ρ S with
  | ok d S1 => cases d with
    | d x => cases x <;> rfl
    | _ => rfl
  | _ => rfl
@[simp] theorem kVal_d (kvs : List (PyData × PyData)) : kVal (.ok (.d (.dict kvs)) S) = .ok (kvs.map (·.2)) S := id rfl
end Sky
end
section
/-! Lay31: dicts that are written: a comprehension's, an empty one; d[k] += i; o.f += i. -/
namespace Sky
open PySem PySem.Spec PyProof.Rows L2
/-! ### {k: v for ..}, to be written -/
def mDcC (f : IM) (g : TgM) (t : BM) (fk fv : EM) (own : List Nat) : EM := fun ρ S => (f ρ S).andThen fun xs S1 => if xs.length < sizeLine then (match compL g t (pairM fk fv) (wipeE ρ own) xs S1 with
  | .ok ys S2 => .ok (.r S2.length) (S2 ++ [.dct (dcOf ys)])
  | _ => .no) else .no
section
variable {X : Cx} {W : WX} {tg e : Expr}
theorem mDcC.go {fi : IM} {g : TgM} {sl own : List Nat} {t : BM} {fk fv : EM} {K : PySem.W.Frag} {mg : MG} {σ : St} {H : Hp} {Q : VK} (hsl : ∀ i ∈ sl, i ∈ own) (h : tM K mg W (mDcC fi g t fk fv own) σ H Q) :
    tDc (tI K mg W fi) (tG K mg g sl) (tB K mg W0 t) (tM K mg W0 fk) (tM K mg W0 fv) own σ H Q := by
  obtain ⟨O, L, S, ρ, a, h⟩ := h
  refine ⟨O, L, S, ρ, a, EndG.imp (EndG.bind h) fun xs S1 L1 H1 e1 st1 h1 J wk D hD => ?_⟩
  obtain ⟨hlen, h1⟩ := ite_of h1
  cases hc : compL g t (pairM fk fv) (wipeE ρ own) xs S1 with
  | no => simp only [hc] at h1; exact h1.elim
  | exc _ _ => simp only [hc] at h1; exact h1.elim
  | ok ys S2 =>
    simp only [hc] at h1
    have hDn : D ∉ O ++ L1 := st1.fresh hD
    have sm0 := same_upd (o := .dK []) hD
    have k0 : Kp H1 (O ++ L1) (upd H1 D (.dK [])) ((D :: O) ++ L1) := fun b o q n => ⟨fun z => by
      rcases List.mem_cons.mp z with z | z
      · exact ne_of_none q hD z
      · exact n z, sm0 b o q⟩
    refine ⟨fun i m H' => m = xs.length - i ∧ i ≤ xs.length ∧ ∃ (L' : List Addr) (S' : Store) (acc : List (Key × PyData)) (zs : List PyData) (vs : List (Key × V)), Ext L1 H1 L' H' ∧ Sto K mg H' (D :: O) L' S' ∧ RE K H' (D :: O) L' (wipeE ρ own) (L2.wipe σ own) ∧ Kp H1 (O ++ L1) H' ((D :: O) ++ L') ∧
      H' D = some (.dK vs) ∧ D ∉ O ++ L' ∧ RQ K H' ((D :: O) ++ L') acc vs ∧ acc.length ≤ i ∧ compL g t (pairM fk fv) (wipeE ρ own) (xs.drop i) S' = .ok zs S2 ∧ dcOf ys = foldP acc zs, ?_, ?_⟩
    · refine ⟨xs.length, by simp, Nat.zero_le _, L1, S1, [], ys, [], Same.ext sm0, ?_, ?_, k0, upd_same, hDn, .nil, Nat.le_refl _, hc, rfl⟩
      · refine ⟨st1.len, st1.nd, fun i c b q1 q2 => ?_, fun b hb => ?_⟩
        · have ck := st1.cell i c b q1 q2
          obtain ⟨o, ho⟩ := ck.there
          exact ck.monoK k0 (fun _ _ z => z) (by rw [ho]; exact sm0 b o ho)
        · rcases List.mem_cons.mp hb with rfl | hb
          · exact ⟨_, upd_same⟩
          · exact (st1.out b hb).imp fun o q => sm0 b o q
      · exact ((a.re.mono e1).wipe own).monoK k0 fun _ _ z => z
    · rintro i m H' ⟨rfl, hi, L', S', acc, zs, vs, e', st', re', kp', hv, hn, rp, hal, hz, hy⟩
      obtain ⟨w1, w2⟩ := wk (D :: O) L' H' S' kp' st'
      by_cases hlt : i < xs.length
      · have hx := List.getElem?_eq_getElem hlt
        obtain ⟨g1, g2⟩ := w1 i _ hx
        rw [drop_at hx] at hz
        obtain ⟨ρ1, hg, ht⟩ := compL_turn hz
        refine .inr ⟨g1, fun H2 => xs.length - (i + 1) = xs.length - (i + 1) ∧ i + 1 ≤ xs.length ∧ ∃ (L' : List Addr) (S' : Store) (acc : List (Key × PyData)) (zs : List PyData) (vs : List (Key × V)), Ext L1 H1 L' H2 ∧ Sto K mg H2 (D :: O) L' S' ∧ RE K H2 (D :: O) L' (wipeE ρ own) (L2.wipe σ own) ∧ Kp H1 (O ++ L1) H2 ((D :: O) ++ L') ∧
          H2 D = some (.dK vs) ∧ D ∉ O ++ L' ∧ RQ K H2 ((D :: O) ++ L') acc vs ∧ acc.length ≤ i + 1 ∧ compL g t (pairM fk fv) (wipeE ρ own) (xs.drop (i + 1)) S' = .ok zs S2 ∧ dcOf ys = foldP acc zs, fun H2 q => ⟨_, by omega, q⟩, fun v H2 y => ?_⟩
        obtain ⟨sm, rv⟩ := g2 v H2 y
        have e2 := Same.ext (L := L') sm
        have st2 := st'.same sm
        refine ⟨D :: O, L', S', wipeE ρ own, ρ1, xs[i], ⟨re'.mono e2, st2⟩, rv, hg, fun σ3 a3 wp => ⟨(wp own hsl).trans (wipe_wipe σ own), ?_⟩⟩
        have kp2 : Kp H1 (O ++ L1) H2 ((D :: O) ++ L') := fun b o q n => ⟨(kp' b o q n).1, sm b o (kp' b o q n).2⟩
        -- what a later state is
        have later : ∀ {H4 : Hp} {L4 : List Addr}, Ext L' H2 L4 H4 → Kp H1 (O ++ L1) H4 ((D :: O) ++ L4) ∧ H4 D = some (.dK vs) ∧ D ∉ O ++ L4 := fun {H4 L4} e4 => by
          have kk := e4.kp (O := D :: O)
          have hD2 : H2 D = some (.dK vs) := sm D _ hv
          refine ⟨fun b o q n => kk b o (kp2 b o q n).2 (kp2 b o q n).1, e4.keep D _ hD2 fun z => hn (List.mem_append_right _ z), fun z => ?_⟩
          rcases List.mem_append.mp z with z | z
          · exact hn (List.mem_append_left _ z)
          · rcases e4.new D z with z | z
            · exact hn (List.mem_append_right _ z)
            · rw [hD2] at z; cases z
        rcases ht with ⟨S3, ht, hr⟩ | ⟨S3, y, S4, ws, ht, hf, hr, rfl⟩
        · refine ⟨D :: O, L', S', ρ1, a3, EndG.okb ht fun H4 L4 e4 st4 => ?_⟩
          refine iteF ⟨rfl, hlt, L4, S3, acc, zs, vs, (e'.trans e2).trans e4, st4, (re'.mono e2).mono e4, (later e4).1, (later e4).2.1, (later e4).2.2, rp.mono (e2.trans e4).kp, by omega, hr, hy⟩
        · refine ⟨D :: O, L', S', ρ1, a3, EndG.okb ht fun H4 L4 e4 st4 => ?_⟩
          obtain ⟨dk, Sk, kk, yv, hk1, hk2, hv1, rfl⟩ := pairM_ok hf
          refine iteT ⟨D :: O, L4, S3, ρ1, a3.mono e4 st4, EndG.okd hk1 fun wk5 H5 L5 e5 st5 r5 => ?_⟩
          refine ⟨D :: O, L5, Sk, ρ1, (a3.mono e4 st4).mono e5 st5, EndG.okd hv1 fun w H6 L6 e6 st6 r6 => ?_⟩
          have e45 := (e4.trans e5).trans e6
          have lt := later e45
          have lr : acc.length = vs.length := rp.length
          obtain rfl := keyOf_v r5 hk2
          refine ⟨vs, kk, rfl, lt.2.1, by omega, rfl, hlt, L6, S4, putD acc kk yv, ws, putK vs kk w, ?_, ?_, ?_, ?_, upd_same, lt.2.2, ?_, by have := putD_len acc kk yv; omega, hr, by rw [hy]; exact foldP_cons acc kk yv ws⟩
          all_goals have k6 : Kp H6 ((D :: O) ++ L6) (upd H6 D (.dK (putK vs kk w))) ((D :: O) ++ L6) := fun b o q n => ⟨n, by rw [upd_ne (fun z => n (by rw [z]; exact List.mem_cons_self))]; exact q⟩
          · have E := (e'.trans e2).trans e45
            exact ⟨E.pre, E.new, fun b o q n => by rw [upd_ne (ne_of_none q hD)]; exact E.keep b o q n⟩
          · refine ⟨st6.len, st6.nd, fun i c b q1 q2 => ?_, fun b hb => ?_⟩
            · have nb : b ≠ D := fun z => lt.2.2 (List.mem_append_right _ (by rw [← z]; exact List.mem_of_getElem? q2))
              exact (st6.cell i c b q1 q2).monoK k6 (fun _ _ z => z) (upd_ne nb)
            · by_cases hbD : b = D
              · rw [hbD]; exact ⟨_, upd_same⟩
              · rw [upd_ne hbD]; exact st6.out b hb
          · exact ((re'.mono e2).mono e45).monoK k6 fun _ _ z => z
          · exact fun b o q n => ⟨(lt.1 b o q n).1, by rw [upd_ne (ne_of_none q hD)]; exact (lt.1 b o q n).2⟩
          · refine RQ.put kk ?_ ((rp.mono (e2.trans e45).kp).mono k6)
            cases r6 with
            | d r6 => exact Rp.mono k6 _ _ r6
      · have hi' : i = xs.length := by omega
        subst hi'
        rw [List.drop_length] at hz
        cases hz
        rw [hy] at h1
        -- D is the new cell
        have k8 : Kp H' ((D :: O) ++ L') H' (O ++ (L' ++ [D])) := fun b o q n => ⟨fun z => n (by
          rcases List.mem_append.mp z with z | z
          · exact List.mem_cons_of_mem _ (List.mem_append_left _ z)
          · rcases List.mem_append.mp z with z | z
            · exact List.mem_cons_of_mem _ (List.mem_append_right _ z)
            · rw [List.mem_singleton.mp z]; exact List.mem_cons_self), q⟩
        have pre : ∀ (i : Nat) (b : Addr), L'[i]? = some b → (L' ++ [D])[i]? = some b := fun i b q => by
          rw [List.getElem?_append_left (List.getElem?_eq_some_iff.mp q).1]; exact q
        have ex : Ext L1 H1 (L' ++ [D]) H' := ⟨fun i b q => pre i b (e'.pre i b q), fun b hb => by
          rcases List.mem_append.mp hb with hb | hb
          · exact e'.new b hb
          · rw [List.mem_singleton.mp hb]; exact .inr hD, e'.keep⟩
        refine .inl ⟨w2, h1 H' (L' ++ [D]) ex ?_ _ ?_⟩
        · refine ⟨by rw [List.length_append, List.length_append, st'.len]; rfl, ?_, fun i c b q1 q2 => ?_, fun b hb => st'.out b (List.mem_cons_of_mem _ hb)⟩
          · refine List.nodup_append.mpr ⟨st'.nd, by simp, fun b hb b' hb' => ?_⟩
            rw [List.mem_singleton.mp hb']
            rintro rfl
            exact hn (List.mem_append_right _ hb)
          · by_cases hi2 : i < S2.length
            · rw [List.getElem?_append_left hi2] at q1
              rw [List.getElem?_append_left (by rw [st'.len]; exact hi2)] at q2
              exact (st'.cell i c b q1 q2).monoK k8 pre rfl
            · rw [List.getElem?_append_right (by omega)] at q1
              rw [List.getElem?_append_right (by rw [st'.len]; omega)] at q2
              have hl := st'.len
              cases hz : i - S2.length with
              | zero =>
                rw [hz] at q1
                rw [hl, hz] at q2
                simp at q1 q2
                subst q1; subst q2
                exact .dct hv (rp.mono k8)
              | succ z =>
                rw [hz] at q1
                simp at q1
        · refine .r ?_
          rw [List.getElem?_append_right (by rw [st'.len]; exact Nat.le_refl _), st'.len, Nat.sub_self]
          rfl
theorem pm_dcC {kx vx iter : Expr} {ifs : List Expr} {scope : Scope} {own : List (Str × Nat)} {pos : Pos} {fi : IM} {g : TgM} {sl : List Nat} {t : BM} {fk fv : EM} (hc : X.calm = true) (hN : X.N.Nodup) (hi : PMI X W tg iter fi) (ok : BlkOk X.N X.env.scope scope own)
    (hg : ∀ (s : Shared) (H : Hp) (C : Addr) (cl : List (Str × Addr)) (fp : List Addr), PG (X.blk s H scope (compEnvC scope cl C X.env) fp) tg (tG X.K X.mg g sl)) (ht : ∀ (s : Shared) (H : Hp) (C : Addr) (cl : List (Str × Addr)) (fp : List Addr), PTs (X.blk s H scope (compEnvC scope cl C X.env) fp) ifs (tB X.K X.mg W0 t))
    (hk : ∀ (s : Shared) (H : Hp) (C : Addr) (cl : List (Str × Addr)) (fp : List Addr), PE (X.blk s H scope (compEnvC scope cl C X.env) fp) kx (tM X.K X.mg W0 fk)) (he : ∀ (s : Shared) (H : Hp) (C : Addr) (cl : List (Str × Addr)) (fp : List Addr), PE (X.blk s H scope (compEnvC scope cl C X.env) fp) vx (tM X.K X.mg W0 fv)) (hsl : ∀ i ∈ sl, i ∈ own.map (·.2) := by decide)
    (hs : ∀ x, foldedSetIterable iter X.env x = pure x := by intro _; rfl) :
    PM X W (.DictComp kx vx [⟨tg, iter, ifs, 0⟩] scope pos) (mDcC fi g t fk fv (own.map (·.2))) :=
  PE.imp (pe_dc hc hN hi ok hg ht hk he hs) fun σ H Q h => mDcC.go hsl h
/-! ### {} -/
def mDct0 : EM := fun _ S => .ok (.r S.length) (S ++ [.dct []])
theorem pm_dct0 {pos : Pos} : PM X W (.Dict [] [] pos) mDct0 := PE.imp pe_dnewK fun σ H Q ⟨O, L, S, ρ, a, h⟩ p hp =>
  h _ _ (Ext.push hp) (a.st.push hp (.dct upd_same .nil)) _ (RD.last a.st)
/-! ### d[k] op= i -/
def augI (S : Store) (o x : D) : Option Int := (keyOf x).bind fun k => (dget S o k).bind fun r => match r with
  | some (.int i) => some i
  | _ => none
def augPut (S : Store) (o x : D) (v : Int) : Option Store := match o, keyOf x with
  | .r j, some k => match S[j]? with
    | some (.dct kvs) => if kvs.length < sizeLine then some (S.set j (.dct (putD kvs k (.int v)))) else none
    | _ => none
  | _, _ => none
def sAugD (f : Int → Int → Int) (fo fi fe : EM) : SM := fun ρ S => SR.ofE (fo ρ S) ρ fun o S1 => SR.ofE (fi ρ S1) ρ fun x S2 => match augI S2 o x with
  | some i => SR.ofE (fe ρ S2) ρ fun y S3 => match y with
    | .d (.int n) => match augPut S3 o x (f i n) with
      | some S4 => .nx ρ S4
      | none => .no
    | _ => .no
  | none => .no
theorem augD_go {op : Operator} {f : Int → Int → Int} {o i : Expr} {tpos pos : Pos} {fo fi fe : EM} (hu : X.A.units + 1 < cLine) (hop : InOp X op (fun x y H Q => ∃ i j, x = .int i ∧ y = .int j ∧ Q (.int (f i j)) H)) (ho : PM X W o fo) (hi : PM X W i fi) (he : PM X W e fe)
    (ha : ∀ ov iv new, augStore i ov iv new = (do holding [new, ov, iv] (setItem ov iv new); release [new, ov, iv] []; pure .next)) : PMS X W (.AugAssign (.Subscript o i tpos) op e pos) (sAugD f fo fi fe) :=
  PS.imp (ps_daug hu ho hi he hop ha) fun Dn σ H ⟨O, L, S, ρ, a, h⟩ => by
    refine tM.stmt a h fun od v S1 L1 H1 a1 e1 r1 h1 => ?_
    refine tM.stmt a1 h1 fun x w S2 L2 H2 a2 e2 r2 h2 => ?_
    cases hg : augI S2 od x with
    | none => simp only [hg] at h2; exact h2.elim
    | some n0 =>
      simp only [hg] at h2
      obtain ⟨k, hk, hr⟩ := Option.bind_eq_some_iff.mp hg
      obtain ⟨r, hr1, hr2⟩ := Option.bind_eq_some_iff.mp hr
      obtain ⟨b, wv, rfl, hd, hm⟩ := dget_at a2.st (r1.mono e2) hr1
      obtain rfl := keyOf_v r2 hk
      split at hr2
      · cases hr2
        cases wv with
        | none => exact hm.elim
        | some wv =>
          cases hm
          refine ⟨b, _, rfl, hd, tM.stmt a2 h2 fun y z S3 L3 H3 a3 e3 r3 h3 => ?_⟩
          split at h3
          · rename_i n1
            cases r3 with
            | d r3 =>
              cases r3
              cases hp : augPut S3 od x (f n0 n1) with
              | none => simp only [hp] at h3; exact h3.elim
              | some S4 =>
                simp only [hp] at h3
                unfold augPut at hp
                rw [hk] at hp
                cases od with
                | r j =>
                  have r1' := (r1.mono e2).mono e3
                  cases r1' with
                  | @r _ b' hb =>
                    cases hS : S3[j]? with
                    | none => simp only [hS] at hp; cases hp
                    | some c =>
                      cases c with
                      | dct kvs =>
                        simp only [hS] at hp
                        obtain ⟨hz, rfl⟩ := some_of_ite hp
                        cases a3.st.cell j _ b hS hb with
                        | @dct _ vs q1 q2 =>
                          refine ⟨_, _, rfl, rfl, _, .inl ⟨vs, k, q1, rfl, by rw [← q2.length]; exact hz, rfl⟩, ?_⟩
                          have kk := (Ext.upd (H := H3) (o := .dK (putK vs k (.int (f n0 n1)))) hb).kp (O := O)
                          exact h3 σ _ L3 (Ext.upd hb) (a3.mono (Ext.upd hb) (a3.st.upd hb (.dct upd_same (RQ.put k (.int _) (q2.mono kk)))))
                      | lst _ => simp only [hS] at hp; cases hp
                      | ins _ _ => simp only [hS] at hp; cases hp
                      | mem _ _ => simp only [hS] at hp; cases hp
                | d _ => cases hp
                | s _ => cases hp
          · exact h3.elim
      · cases hr2
theorem pms_augA {o i : Expr} {tpos pos : Pos} {fo fi fe : EM} (hu : X.A.units + 1 < cLine) (ho : PM X W o fo) (hi : PM X W i fi) (he : PM X W e fe)
    (ha : ∀ ov iv new, augStore i ov iv new = (do holding [new, ov, iv] (setItem ov iv new); release [new, ov, iv] []; pure .next) := by intros; rfl) : PMS X W (.AugAssign (.Subscript o i tpos) .Add e pos) (sAugD (fun i j => i + j) fo fi fe) := augD_go hu in_add ho hi he ha
theorem pms_augS {o i : Expr} {tpos pos : Pos} {fo fi fe : EM} (hu : X.A.units + 1 < cLine) (ho : PM X W o fo) (hi : PM X W i fi) (he : PM X W e fe)
    (ha : ∀ ov iv new, augStore i ov iv new = (do holding [new, ov, iv] (setItem ov iv new); release [new, ov, iv] []; pure .next) := by intros; rfl) : PMS X W (.AugAssign (.Subscript o i tpos) .Sub e pos) (sAugD (fun i j => i - j) fo fi fe) := augD_go hu in_sub ho hi he ha
/-! ### o.f += i -/
def fldI (S : Store) (c f : Str) (o : D) : Option Int := match fldOf S c f o with
  | some (.d (.int i)) => some i
  | _ => none
def sAugF (c f : Str) (fo fe : EM) : SM := fun ρ S => SR.ofE (fo ρ S) ρ fun o S1 => match fldI S1 c f o with
  | some i => SR.ofE (fe ρ S1) ρ fun y S2 => match y with
    | .d (.int n) => match putOf S2 c f (.d (.int (i + n))) o with
      | some S3 => .nx ρ S3
      | none => .no
    | _ => .no
  | none => .no
theorem pms_augF {o : Expr} {tpos pos : Pos} {fo fe : EM} {c f : Str} (T : TC X.K X.mg c f) (ho : PM X W o fo) (he : PM X W e fe) : PMS X W (.AugAssign (.Attribute o f tpos) .Add e pos) (sAugF c f fo fe) :=
  PS.imp (ps_fldaug ho he in_add) fun Dn σ H ⟨O, L, S, ρ, a, h⟩ => by
    refine tM.stmt a h fun od v S1 L1 H1 a1 e1 r1 h1 => ?_
    obtain ⟨C, hC, hcl, hna⟩ := T
    cases hg : fldI S1 c f od with
    | none => simp only [hg] at h1; exact h1.elim
    | some n0 =>
      simp only [hg] at h1
      unfold fldI at hg
      split at hg
      · rename_i n1 hf
        cases hg
        obtain ⟨i, fs, rfl, hs, hl⟩ := fldOf_some hf
        obtain ⟨b, C', dx, vs, rfl, hb, hm, hH, hr⟩ := ins_at a1.st r1 hs
        rw [hC] at hm
        cases hm
        obtain ⟨w, hw, rw'⟩ := hr.lookup hl
        cases rw' with
        | d rw' =>
          cases rw'
          refine ⟨b, C, dx, vs, _, rfl, hH, hcl, hna, hw, tM.stmt a1 h1 fun y z S2 L2 H2 a2 e2 r2 h2 => ?_⟩
          split at h2
          · rename_i n2
            cases r2 with
            | d r2 =>
              cases r2
              cases hp : putOf S2 c f (.d (.int (n0 + n2))) (.r i) with
              | none => simp only [hp] at h2; exact h2.elim
              | some S3 =>
                simp only [hp] at h2
                obtain ⟨i', fs', ei, hs', hl', rfl⟩ := putOf_some hp
                cases ei
                obtain ⟨b', C', dx', vs', eb, hb', hm', hH', hr'⟩ := ins_at a2.st (r1.mono e2) hs'
                cases eb
                rw [hC] at hm'
                cases hm'
                refine ⟨_, _, rfl, rfl, dx', vs', hH', by rw [← hr'.len]; exact hl', ?_⟩
                have st' := a2.st.upd (o := .ins C dx' (putF f (.int (n0 + n2)) vs')) hb' (.ins hC upd_same ((hr'.mono (Ext.upd hb')).put (.d (.int _))))
                exact h2 σ _ L2 (Ext.upd hb') (a2.mono (Ext.upd hb') st')
          · exact h2.elim
      · cases hg
end
end Sky
end
section
/-! Lay32: the greatest of a list; how the rules of Lay31 compute. -/
namespace Sky
open PySem PySem.Spec PyProof.Rows L2
def maxL : List PyData → Option PyData
  | [] => none
  | x :: xs => if alikeAllB (x :: xs) = true then some (PySem.W.maxD x xs) else none
def cMaxL (S : Store) (ds : List D) : Option D := match ds with
  | [x] => ((lk S x).bind maxL).map .d
  | _ => none
section
variable {X : Cx}
theorem k_maxL (hc : X.calm = true) (hu : X.A.units + 64 < cLine) : CallR X (.builtin "max") (rCl X.K X.mg cMaxL) := by
  intro pins s σ H vs us Q I rv ⟨O, L, S, ds, d, st, r, hg, q⟩
  unfold cMaxL at hg
  split at hg
  · rename_i dx
    obtain ⟨m, hx, rfl⟩ := map_some hg
    obtain ⟨xs, h1, h2⟩ := Option.bind_eq_some_iff.mp hx
    cases r with
    | cons r t =>
      cases t
      obtain ⟨a, ws, rfl, ha, ra⟩ := lk_at st r h1
      cases xs with
      | nil => cases h2
      | cons x xs =>
        obtain ⟨hal, rfl⟩ := some_of_ite h2
        obtain ⟨hal, hdp⟩ := alikeAllB_t hal
        have pl := dp_plainAll _ _ hdp
        obtain ⟨as, rr⟩ := reads_of (x := .list (x :: xs)) I (by simpa [PyData.plain] using pl.1) (.lst (B := []) ha (by simp) (rpl_free ra)) (u := .ref a) rfl
        obtain ⟨its, rvi, hl, hz⟩ := I.list (.inl (.inl ha))
        rw [Vals.ref1 rv]
        cases rr with
        | list g1 g2 g3 g4 =>
          obtain ⟨o, ho, hoc, n, hod⟩ := hl.isList
          obtain rfl := Option.some.inj (g1.symm.trans ho)
          rw [hod] at g3
          injection g3 with g3 _
          subst g3
          refine PySem.W.max_list_data (I.ok.hd hc) hl.isList g4 hal (by have := pl.2; omega) fun i v h' tk bs hi hr hk => ?_
          obtain ⟨w', rw', rp'⟩ := item_of I ra rvi hdp (by simpa using hi) hr hk
          exact ⟨w', H, I.kept hk, rw', q _ H (Same.refl H) (.d rp')⟩
  · cases hg
end
section
variable {ρ : Env} {S S1 : Store} {d x y z : D} {e : Exc} {f fa fb fc fo fi fe fk fv : EM}
@[simp] theorem cMaxL_l (S : Store) (xs : List PyData) : cMaxL S [.d (.list xs)] = (maxL xs).map .d := id rfl
def kDcC2 : Res (List PyData) → Res D
  | .ok ys S => .ok (.r S.length) (S ++ [.dct (dcOf ys)])
  | _ => .no
def kDcC (g : TgM) (t : BM) (fk fv : EM) (own : List Nat) (ρ : Env) : Res (List PyData) → Res D
  | .ok xs S => if xs.length < sizeLine then kDcC2 (compL g t (pairM fk fv) (wipeE ρ own) xs S) else .no
  | .exc e S => .exc e S
  | .no => .no
@[simp] theorem mDcC_ap {fi : IM} {g : TgM} {t : BM} {own : List Nat} : mDcC fi g t fk fv own ρ S = kDcC g t fk fv own ρ (fi ρ S) := by
  unfold mDcC
  cases fi ρ S with
  | ok xs S1 =>
    show (if xs.length < sizeLine then _ else _) = if xs.length < sizeLine then _ else _
    congr 1
  | exc _ _ => rfl
  | no => rfl
@[simp] theorem kDcC_ok {g : TgM} {t : BM} {own : List Nat} (xs : List PyData) : kDcC g t fk fv own ρ (.ok xs S) = if xs.length < 16777216 then kDcC2 (compL g t (pairM fk fv) (wipeE ρ own) xs S) else .no := by rw [← sizeLine_eq]; exact id rfl
@[simp] theorem kDcC2_ok (ys : List PyData) : kDcC2 (.ok ys S) = .ok (.r S.length) (S ++ [.dct (dcOf ys)]) := id rfl
@[simp] theorem mDct0_ap : mDct0 ρ S = .ok (.r S.length) (S ++ [.dct []]) := id rfl
def qAgD4 (ρ : Env) : Option Store → SR
  | some S => .nx ρ S
  | none => .no
def qAgD3 (f : Int → Int → Int) (ρ : Env) (o x : D) (i : Int) : Res D → SR
  | .ok (.d (.int n)) S => qAgD4 ρ (augPut S o x (f i n))
  | .exc e S => .ex e ρ S
  | _ => .no
def qAgD2b (f : Int → Int → Int) (fe : EM) (ρ : Env) (o x : D) (S : Store) : Option Int → SR
  | some i => qAgD3 f ρ o x i (fe ρ S)
  | none => .no
def qAgD2 (f : Int → Int → Int) (fe : EM) (ρ : Env) (o : D) : Res D → SR
  | .ok x S => qAgD2b f fe ρ o x S (augI S o x)
  | .exc e S => .ex e ρ S
  | .no => .no
def qAgD1 (f : Int → Int → Int) (fi fe : EM) (ρ : Env) : Res D → SR
  | .ok o S => qAgD2 f fe ρ o (fi ρ S)
  | .exc e S => .ex e ρ S
  | .no => .no
@[simp] theorem sAugD_ap {f : Int → Int → Int} : sAugD f fo fi fe ρ S = qAgD1 f fi fe ρ (fo ρ S) := by
  unfold sAugD
  cases fo ρ S with
  | ok o S1 =>
    show SR.ofE (fi ρ S1) ρ _ = qAgD2 f fe ρ o (fi ρ S1)
    cases fi ρ S1 with
    | ok x S2 =>
      show (match augI S2 o x with | some i => _ | none => _) = qAgD2b f fe ρ o x S2 (augI S2 o x)
      cases augI S2 o x with
      | none => rfl
      | some i =>
        show SR.ofE (fe ρ S2) ρ _ = qAgD3 f ρ o x i (fe ρ S2)
        cases fe ρ S2 with
        | ok y S3 => cases y with
          | d y => cases y with
            | int n => show (match augPut S3 o x (f i n) with | some S4 => SR.nx ρ S4 | none => .no) = qAgD4 ρ (augPut S3 o x (f i n)); cases augPut S3 o x (f i n) <;> rfl
            | _ => rfl
          | _ => rfl
        | _ => rfl
    | _ => rfl
  | _ => rfl
@[simp] theorem qAgD1_ok {f : Int → Int → Int} : qAgD1 f fi fe ρ (.ok d S) = qAgD2 f fe ρ d (fi ρ S) := id rfl
@[simp] theorem qAgD2_ok {f : Int → Int → Int} : qAgD2 f fe ρ d (.ok x S) = qAgD2b f fe ρ d x S (augI S d x) := id rfl
@[simp] theorem qAgD2b_some {f : Int → Int → Int} (i : Int) : qAgD2b f fe ρ d x S (some i) = qAgD3 f ρ d x i (fe ρ S) := id rfl
@[simp] theorem qAgD3_ok {f : Int → Int → Int} (i n : Int) : qAgD3 f ρ d x i (.ok (.d (.int n)) S) = qAgD4 ρ (augPut S d x (f i n)) := id rfl
@[simp] theorem qAgD4_some : qAgD4 ρ (some S) = .nx ρ S := id rfl
theorem augI_at {j : Nat} {kvs : List (Key × PyData)} {k : Key} {i : Int} (h : S[j]? = some (.dct kvs)) (hk : keyOf x = some k) (hv : valD kvs k = some (.int i)) : augI S (.r j) x = some i := by
  unfold augI
  rw [hk]
  show ((dget S (.r j) k).bind _) = _
  unfold dget
  simp only [h, hv]
  rfl
theorem augPut_at {j : Nat} {kvs : List (Key × PyData)} {k : Key} {v : Int} (h : S[j]? = some (.dct kvs)) (hk : keyOf x = some k) (hl : kvs.length < 16777216) : augPut S (.r j) x v = some (S.set j (.dct (putD kvs k (.int v)))) := by
  unfold augPut
  rw [hk]
  simp only [h]
  rw [sizeLine_eq, if_pos hl]
def qAgF3 (ρ : Env) : Option Store → SR
  | some S => .nx ρ S
  | none => .no
def qAgF2 (c f : Str) (ρ : Env) (o : D) (i : Int) : Res D → SR
  | .ok (.d (.int n)) S => qAgF3 ρ (putOf S c f (.d (.int (i + n))) o)
  | .exc e S => .ex e ρ S
  | _ => .no
def qAgF1b (c f : Str) (fe : EM) (ρ : Env) (o : D) (S : Store) : Option Int → SR
  | some i => qAgF2 c f ρ o i (fe ρ S)
  | none => .no
def qAgF1 (c f : Str) (fe : EM) (ρ : Env) : Res D → SR
  | .ok o S => qAgF1b c f fe ρ o S (fldI S c f o)
  | .exc e S => .ex e ρ S
  | .no => .no
@[simp] theorem sAugF_ap {c f : Str} : sAugF c f fo fe ρ S = qAgF1 c f fe ρ (fo ρ S) := by
  unfold sAugF
  cases fo ρ S with
  | ok o S1 =>
    show (match fldI S1 c f o with | some i => _ | none => _) = qAgF1b c f fe ρ o S1 (fldI S1 c f o)
    cases fldI S1 c f o with
    | none => rfl
    | some i =>
      show SR.ofE (fe ρ S1) ρ _ = qAgF2 c f ρ o i (fe ρ S1)
      cases fe ρ S1 with
      | ok y S2 => cases y with
        | d y => cases y with
          | int n => show (match putOf S2 c f (.d (.int (i + n))) o with | some S3 => SR.nx ρ S3 | none => .no) = qAgF3 ρ (putOf S2 c f (.d (.int (i + n))) o); cases putOf S2 c f (.d (.int (i + n))) o <;> rfl
          | _ => rfl
        | _ => rfl
      | _ => rfl
  | _ => rfl
@[simp] theorem qAgF1_ok {c f : Str} : qAgF1 c f fe ρ (.ok d S) = qAgF1b c f fe ρ d S (fldI S c f d) := id rfl
@[simp] theorem qAgF1b_some {c f : Str} (i : Int) : qAgF1b c f fe ρ d S (some i) = qAgF2 c f ρ d i (fe ρ S) := id rfl
@[simp] theorem qAgF2_ok {c f : Str} (i n : Int) : qAgF2 c f ρ d i (.ok (.d (.int n)) S) = qAgF3 ρ (putOf S c f (.d (.int (i + n))) d) := id rfl
@[simp] theorem qAgF3_some : qAgF3 ρ (some S) = .nx ρ S := id rfl
end
end Sky
end
section
/-! Lay33: a written list walked (as long as it stays what it is). -/
namespace Sky
open PySem PySem.Spec PyProof.Rows L2
theorem wk_cell {K : PySem.W.Frag} {mg : MG} {O L : List Addr} {H : Hp} {S : Store} {c : Nat} {b : Addr} {xs : List PyData} (st : Sto K mg H O L S) (hS : S[c]? = some (.lst xs)) (hb : L[c]? = some b) :
    (∀ (i : Nat) (x : PyData), xs[i]? = some x → (Itl K b).go i H ∧ ∀ v H2, (Itl K b).yld i H v H2 → Same H H2 ∧ Rp K H2 (O ++ L) x v) ∧ (Itl K b).stop xs.length H := by
  cases st.cell c _ b hS hb with
  | @lst _ vs q1 r =>
    have q : SqL K H b vs := .inl (.inl q1)
    refine ⟨fun i x hx => ?_, vs, q, by rw [r.length]; exact Nat.le_refl _⟩
    obtain ⟨v, hv, rv⟩ := r.get hx
    refine ⟨⟨vs, v, q, hv⟩, fun w H2 y => ?_⟩
    obtain ⟨rfl, y⟩ := y
    have e := y vs q
    rw [hv] at e
    cases e
    exact ⟨Same.refl _, rv⟩
open Classical in
noncomputable def forLC (c : Nat) (xs0 : List PyData) (g : TgM) (b : SM) : List PyData → Env → Store → SR
  | [], ρ, S => if S[c]? = some (.lst xs0) then .nx ρ S else .no
  | x :: xs, ρ, S => if S[c]? = some (.lst xs0) then (match g x ρ with
    | none => .no
    | some ρ1 => match b ρ1 S with
      | .nx ρ2 S2 => forLC c xs0 g b xs ρ2 S2
      | .ct ρ2 S2 => forLC c xs0 g b xs ρ2 S2
      | .bk ρ2 S2 => .nx ρ2 S2
      | .rt d S2 => .rt d S2
      | .ex x ρ2 S2 => .ex x ρ2 S2
      | .no => .no) else .no
theorem forLC_at {c : Nat} {xs0 : List PyData} {g : TgM} {b : SM} {xs : List PyData} {ρ : Env} {S : Store} : S[c]? = some (.lst xs0) ∨ forLC c xs0 g b xs ρ S = .no := by
  by_cases h : S[c]? = some (.lst xs0)
  · exact .inl h
  · right
    cases xs <;> · unfold forLC; rw [if_neg h]
noncomputable def sForC (f : EM) (g : TgM) (b : SM) : SM := fun ρ S => SR.ofE (f ρ S) ρ fun d S1 => match d with
  | .r c => match S1[c]? with
    | some (.lst xs) => forLC c xs g b xs ρ S1
    | _ => .no
  | _ => .no
section
variable {X : Cx} {W : WX} {tg e : Expr} {fe : EM}
theorem pms_forC {g : TgM} {sl : List Nat} {fb : SM} {body : List Stmt} {pos : Pos} (hp : PassesOwn (model X.prog X.w) X.A X.env X.xe) (hc : X.calm = true) (hi : PM X W e fe) (hg : PMG X tg g sl) (hb : PMB X W body fb)
    (hs : ∀ x, foldedSetIterable e X.env x = pure x := by intro _; rfl) : PMS X W (.For tg e body [] pos) (sForC fe g fb) :=
  PS.imp (ps_for hp hc (pi_any hi) hg hb hs) fun Dn σ H ⟨O, L, S, ρ, a, h⟩ => by
    refine tM.stmt a h fun d v S1 L1 H1 a1 e1 r1 h1 => ?_
    cases d with
    | d _ => exact h1.elim
    | s _ => exact h1.elim
    | r c =>
      cases r1 with
      | @r _ b hb1 =>
        cases hS : S1[c]? with
        | none => simp only [hS] at h1; exact h1.elim
        | some cl =>
          cases cl with
          | dct _ => simp only [hS] at h1; exact h1.elim
          | ins _ _ => simp only [hS] at h1; exact h1.elim
          | mem _ _ => simp only [hS] at h1; exact h1.elim
          | lst xs =>
            simp only [hS] at h1
            cases a1.st.cell c _ b hS hb1 with
            | @lst _ vs q1 q2 =>
              refine .inl ⟨b, vs, rfl, .inl (.inl q1), ?_⟩
              refine ⟨fun i m σ' H' => m = xs.length - i ∧ i ≤ xs.length ∧ ∃ (L' : List Addr) (S' : Store) (ρ' : Env), Ext L1 H1 L' H' ∧ At X.K X.mg O L' S' ρ' σ' H' ∧ EndS X.K X.mg W O L' H' Dn (forLC c xs g fb (xs.drop i) ρ' S'), ⟨xs.length, by simp, Nat.zero_le _, L1, S1, ρ, Ext.refl _ _, a1, h1⟩, ?_⟩
              rintro i m σ' H' ⟨rfl, hi, L', S', ρ', e', a', h'⟩
              have hS' : S'[c]? = some (.lst xs) := by
                rcases forLC_at (c := c) (xs0 := xs) (g := g) (b := fb) (xs := xs.drop i) (ρ := ρ') (S := S') with z | z
                · exact z
                · rw [z] at h'; exact h'.elim
              obtain ⟨w1, w2⟩ := wk_cell a'.st hS' (e'.pre c b hb1)
              by_cases hlt : i < xs.length
              · have hx := List.getElem?_eq_getElem hlt
                obtain ⟨g1, g2⟩ := w1 i _ hx
                refine .inr ⟨g1, fun σ2 H2 => (xs.length - (i + 1) = xs.length - (i + 1) ∧ i + 1 ≤ xs.length ∧ ∃ (L' : List Addr) (S' : Store) (ρ' : Env), Ext L1 H1 L' H2 ∧ At X.K X.mg O L' S' ρ' σ2 H2 ∧ EndS X.K X.mg W O L' H2 Dn (forLC c xs g fb (xs.drop (i + 1)) ρ' S')), fun σ2 H2 q => ⟨xs.length - (i + 1), by omega, q⟩, fun v H2 y => ?_⟩
                obtain ⟨sm, rv⟩ := g2 v H2 y
                rw [drop_at hx] at h'
                unfold forLC at h'
                rw [if_pos hS'] at h'
                cases hq : g xs[i] ρ' with
                | none => rw [hq] at h'; exact h'.elim
                | some ρ1 =>
                  rw [hq] at h'
                  have e2 := Same.ext (L := L') sm
                  refine ⟨O, L', S', ρ', ρ1, xs[i], a'.mono e2 (a'.st.same sm), rv, hq, fun σ3 a3 _ => ⟨O, L', S', ρ1, a3, ?_⟩⟩
                  have h2 := EndS.later e2 h'
                  have next : ∀ {ρ2 : Env} {S2 : Store}, EndS X.K X.mg W O L' H2 Dn (forLC c xs g fb (xs.drop (i + 1)) ρ2 S2) → ∀ (σ4 : St) (H4 : Hp) (L4 : List Addr), Ext L' H2 L4 H4 → At X.K X.mg O L4 S2 ρ2 σ4 H4 →
                      (xs.length - (i + 1) = xs.length - (i + 1) ∧ i + 1 ≤ xs.length ∧ ∃ (L' : List Addr) (S' : Store) (ρ' : Env), Ext L1 H1 L' H4 ∧ At X.K X.mg O L' S' ρ' σ4 H4 ∧ EndS X.K X.mg W O L' H4 Dn (forLC c xs g fb (xs.drop (i + 1)) ρ' S')) :=
                    fun {ρ2 S2} q σ4 H4 L4 e4 a4 => ⟨rfl, hlt, L4, S2, ρ2, (e'.trans e2).trans e4, a4, EndS.later e4 q⟩
                  cases hb : fb ρ1 S' with
                  | nx ρ2 S2 => simp only [hb] at h2; exact next h2
                  | ct ρ2 S2 => simp only [hb] at h2; exact next h2
                  | bk ρ2 S2 => simp only [hb] at h2; exact h2
                  | rt d S2 => simp only [hb] at h2; exact h2
                  | ex x ρ2 S2 => simp only [hb] at h2; exact h2
                  | no => simp only [hb] at h2; exact h2
              · have hi' : i = xs.length := by omega
                subst hi'
                rw [List.drop_length] at h'
                unfold forLC at h'
                rw [if_pos hS'] at h'
                exact .inl ⟨w2, h' σ' H' L' (Ext.refl _ _) a'⟩
end
/-! ### comprehensions over one -/
open Classical in
noncomputable def compLC (c : Nat) (xs0 : List PyData) (g : TgM) (t : BM) (fe : EM) (ρ : Env) : List PyData → Store → Res (List PyData)
  | [], S => if S[c]? = some (.lst xs0) then .ok [] S else .no
  | x :: xs, S => if S[c]? = some (.lst xs0) then (match g x ρ with
    | none => .no
    | some ρ1 => match t ρ1 S with
      | .ok true S1 => match fe ρ1 S1 with
        | .ok (.d y) S2 => match compLC c xs0 g t fe ρ xs S2 with
          | .ok ys S3 => .ok (y :: ys) S3
          | _ => .no
        | _ => .no
      | .ok false S1 => compLC c xs0 g t fe ρ xs S1
      | _ => .no) else .no
theorem compLC_turn {c : Nat} {xs0 : List PyData} {g : TgM} {t : BM} {fe : EM} {ρ : Env} {x : PyData} {xs : List PyData} {S S' : Store} {ys : List PyData} (h : compLC c xs0 g t fe ρ (x :: xs) S = .ok ys S') :
    ∃ ρ1, g x ρ = some ρ1 ∧ ((∃ S1, t ρ1 S = .ok false S1 ∧ compLC c xs0 g t fe ρ xs S1 = .ok ys S') ∨ ∃ S1 y S2 zs, t ρ1 S = .ok true S1 ∧ fe ρ1 S1 = .ok (.d y) S2 ∧ compLC c xs0 g t fe ρ xs S2 = .ok zs S' ∧ ys = y :: zs) := by
  unfold compLC at h
  by_cases hS : S[c]? = some (.lst xs0)
  · rw [if_pos hS] at h
    cases hg : g x ρ with
    | none => simp only [hg] at h; cases h
    | some ρ1 =>
      simp only [hg] at h
      refine ⟨ρ1, rfl, ?_⟩
      cases ht : t ρ1 S with
      | no => simp only [ht] at h; cases h
      | exc _ _ => simp only [ht] at h; cases h
      | ok b S1 =>
        cases b with
        | false => simp only [ht] at h; exact .inl ⟨S1, rfl, h⟩
        | true =>
          simp only [ht] at h
          cases hf : fe ρ1 S1 with
          | no => simp only [hf] at h; cases h
          | exc _ _ => simp only [hf] at h; cases h
          | ok y S2 =>
            cases y with
            | d y =>
              simp only [hf] at h
              cases hr : compLC c xs0 g t fe ρ xs S2 with
              | no => simp only [hr] at h; cases h
              | exc _ _ => simp only [hr] at h; cases h
              | ok zs S3 =>
                simp only [hr] at h
                cases h
                exact .inr ⟨S1, y, S2, zs, rfl, hf, hr, rfl⟩
            | r _ => simp only [hf] at h; cases h
            | s _ => simp only [hf] at h; cases h
  · rw [if_neg hS] at h; cases h
theorem compLC_at {c : Nat} {xs0 : List PyData} {g : TgM} {t : BM} {fe : EM} {ρ : Env} {xs : List PyData} {S S' : Store} {ys : List PyData} (h : compLC c xs0 g t fe ρ xs S = .ok ys S') : S[c]? = some (.lst xs0) := by
  by_cases hS : S[c]? = some (.lst xs0)
  · exact hS
  · cases xs <;> · unfold compLC at h; rw [if_neg hS] at h; cases h
theorem compLC_nil {c : Nat} {xs0 : List PyData} {g : TgM} {t : BM} {fe : EM} {ρ : Env} {S S' : Store} {ys : List PyData} (h : compLC c xs0 g t fe ρ [] S = .ok ys S') : ys = [] ∧ S' = S := by
  have hS := compLC_at h
  unfold compLC at h
  rw [if_pos hS] at h
  cases h
  exact ⟨rfl, rfl⟩
noncomputable def mCompC (f : EM) (g : TgM) (t : BM) (fe : EM) (own : List Nat) : EM := fun ρ S => (f ρ S).andThen fun d S1 => match d with
  | .r c => match S1[c]? with
    | some (.lst xs) => if xs.length < sizeLine then (match compLC c xs g t fe (wipeE ρ own) xs S1 with
      | .ok ys S2 => .ok (.d (.list ys)) S2
      | _ => .no) else .no
    | _ => .no
  | _ => .no
section
variable {X : Cx} {W : WX} {tg e : Expr}
theorem mCompC.go {f : EM} {g : TgM} {sl own : List Nat} {t : BM} {fe : EM} {K : PySem.W.Frag} {mg : MG} {σ : St} {H : Hp} {Q : VK} (hsl : ∀ i ∈ sl, i ∈ own) (h : tM K mg W (mCompC f g t fe own) σ H Q) :
    tLc (iAny K (tM K mg W f)) (tG K mg g sl) (tB K mg W0 t) (tM K mg W0 fe) own σ H Q := by
  obtain ⟨O, L, S, ρ, a, h⟩ := h
  refine tM.part a h fun d v0 S1 L1 H1 a1 e1 r1 h1 => ?_
  cases d with
  | d _ => exact h1.elim
  | s _ => exact h1.elim
  | r c =>
   cases r1 with
   | @r _ b0 hb0 =>
    cases hS : S1[c]? with
    | none => simp only [hS] at h1; exact h1.elim
    | some cl =>
     cases cl with
     | dct _ => simp only [hS] at h1; exact h1.elim
     | ins _ _ => simp only [hS] at h1; exact h1.elim
     | mem _ _ => simp only [hS] at h1; exact h1.elim
     | lst xs =>
      simp only [hS] at h1
      cases a1.st.cell c _ b0 hS hb0 with
      | @lst _ vs0 q1 q2 =>
       refine .inl ⟨b0, vs0, rfl, .inl (.inl q1), ?_⟩
       intro D hD
       have st1 := a1.st
       obtain ⟨hlen, h1⟩ := ite_of h1
       cases hc : compLC c xs g t fe (wipeE ρ own) xs S1 with
       | no => simp only [hc] at h1; exact h1.elim
       | exc _ _ => simp only [hc] at h1; exact h1.elim
       | ok ys S2 =>
        simp only [hc] at h1
        have hDn : D ∉ O ++ L1 := st1.fresh hD
        have sm0 := same_upd (o := .lst []) hD
        have k0 : Kp H1 (O ++ L1) (upd H1 D (.lst [])) ((D :: O) ++ L1) := fun b o q n => ⟨fun z => by
          rcases List.mem_cons.mp z with z | z
          · exact ne_of_none q hD z
          · exact n z, sm0 b o q⟩
        refine ⟨fun i m H' => m = xs.length - i ∧ i ≤ xs.length ∧ ∃ (L' : List Addr) (S' : Store) (acc zs : List PyData) (vs : List V), Ext L1 H1 L' H' ∧ Sto K mg H' (D :: O) L' S' ∧ RE K H' (D :: O) L' (wipeE ρ own) (L2.wipe σ own) ∧ Kp H1 (O ++ L1) H' ((D :: O) ++ L') ∧
          H' D = some (.lst vs) ∧ D ∉ O ++ L' ∧ RpL K H' ((D :: O) ++ L') acc vs ∧ acc.length ≤ i ∧ compLC c xs g t fe (wipeE ρ own) (xs.drop i) S' = .ok zs S2 ∧ ys = acc ++ zs, ?_, ?_⟩
        · refine ⟨xs.length, by simp, Nat.zero_le _, L1, S1, [], ys, [], Same.ext sm0, ?_, ?_, k0, upd_same, hDn, .nil, Nat.le_refl _, hc, rfl⟩
          · refine ⟨st1.len, st1.nd, fun i c b q1 q2 => ?_, fun b hb => ?_⟩
            · have ck := st1.cell i c b q1 q2
              obtain ⟨o, ho⟩ := ck.there
              exact ck.monoK k0 (fun _ _ z => z) (by rw [ho]; exact sm0 b o ho)
            · rcases List.mem_cons.mp hb with rfl | hb
              · exact ⟨_, upd_same⟩
              · exact (st1.out b hb).imp fun o q => sm0 b o q
          · exact ((a.re.mono e1).wipe own).monoK k0 fun _ _ z => z
        · rintro i m H' ⟨rfl, hi, L', S', acc, zs, vs, e', st', re', kp', hv, hn, rp, hal, hz, hy⟩
          obtain ⟨w1, w2⟩ := wk_cell st' (compLC_at hz) (e'.pre c b0 hb0)
          by_cases hlt : i < xs.length
          · have hx := List.getElem?_eq_getElem hlt
            obtain ⟨g1, g2⟩ := w1 i _ hx
            rw [drop_at hx] at hz
            obtain ⟨ρ1, hg, ht⟩ := compLC_turn hz
            refine .inr ⟨g1, fun H2 => xs.length - (i + 1) = xs.length - (i + 1) ∧ i + 1 ≤ xs.length ∧ ∃ (L' : List Addr) (S' : Store) (acc zs : List PyData) (vs : List V), Ext L1 H1 L' H2 ∧ Sto K mg H2 (D :: O) L' S' ∧ RE K H2 (D :: O) L' (wipeE ρ own) (L2.wipe σ own) ∧ Kp H1 (O ++ L1) H2 ((D :: O) ++ L') ∧
              H2 D = some (.lst vs) ∧ D ∉ O ++ L' ∧ RpL K H2 ((D :: O) ++ L') acc vs ∧ acc.length ≤ i + 1 ∧ compLC c xs g t fe (wipeE ρ own) (xs.drop (i + 1)) S' = .ok zs S2 ∧ ys = acc ++ zs, fun H2 q => ⟨_, by omega, q⟩, fun v H2 y => ?_⟩
            obtain ⟨sm, rv⟩ := g2 v H2 y
            have e2 := Same.ext (L := L') sm
            have st2 := st'.same sm
            refine ⟨D :: O, L', S', wipeE ρ own, ρ1, xs[i], ⟨re'.mono e2, st2⟩, rv, hg, fun σ3 a3 wp => ⟨(wp own hsl).trans (wipe_wipe σ own), ?_⟩⟩
            have kp2 : Kp H1 (O ++ L1) H2 ((D :: O) ++ L') := fun b o q n => ⟨(kp' b o q n).1, sm b o (kp' b o q n).2⟩
            -- what a later state is
            have later : ∀ {H4 : Hp} {L4 : List Addr}, Ext L' H2 L4 H4 → Kp H1 (O ++ L1) H4 ((D :: O) ++ L4) ∧ H4 D = some (.lst vs) ∧ D ∉ O ++ L4 := fun {H4 L4} e4 => by
              have kk := e4.kp (O := D :: O)
              have hD2 : H2 D = some (.lst vs) := sm D _ hv
              refine ⟨fun b o q n => kk b o (kp2 b o q n).2 (kp2 b o q n).1, e4.keep D _ hD2 fun z => hn (List.mem_append_right _ z), fun z => ?_⟩
              rcases List.mem_append.mp z with z | z
              · exact hn (List.mem_append_left _ z)
              · rcases e4.new D z with z | z
                · exact hn (List.mem_append_right _ z)
                · rw [hD2] at z; cases z
            rcases ht with ⟨S3, ht, hr⟩ | ⟨S3, y, S4, ws, ht, hf, hr, rfl⟩
            · refine ⟨D :: O, L', S', ρ1, a3, EndG.okb ht fun H4 L4 e4 st4 => ?_⟩
              refine iteF ⟨rfl, hlt, L4, S3, acc, zs, vs, (e'.trans e2).trans e4, st4, (re'.mono e2).mono e4, (later e4).1, (later e4).2.1, (later e4).2.2, RpL.mono (e2.trans e4).kp _ _ rp, by omega, hr, hy⟩
            · refine ⟨D :: O, L', S', ρ1, a3, EndG.okb ht fun H4 L4 e4 st4 => ?_⟩
              refine iteT ⟨D :: O, L4, S3, ρ1, a3.mono e4 st4, EndG.okd hf fun w H5 L5 e5 st5 r5 => ?_⟩
              have e45 := e4.trans e5
              have lt := later e45
              have lr : acc.length = vs.length := rp.length
              refine ⟨vs, lt.2.1, by omega, rfl, hlt, L5, S4, acc ++ [y], ws, vs ++ [w], ?_, ?_, ?_, ?_, upd_same, lt.2.2, ?_, by rw [List.length_append, List.length_singleton]; omega, hr, by rw [hy, List.append_assoc]; rfl⟩
              all_goals have k6 : Kp H5 ((D :: O) ++ L5) (upd H5 D (.lst (vs ++ [w]))) ((D :: O) ++ L5) := fun b o q n => ⟨n, by rw [upd_ne (fun z => n (by rw [z]; exact List.mem_cons_self))]; exact q⟩
              · have E := (e'.trans e2).trans e45
                exact ⟨E.pre, E.new, fun b o q n => by rw [upd_ne (ne_of_none q hD)]; exact E.keep b o q n⟩
              · refine ⟨st5.len, st5.nd, fun i c b q1 q2 => ?_, fun b hb => ?_⟩
                · have nb : b ≠ D := fun z => lt.2.2 (List.mem_append_right _ (by rw [← z]; exact List.mem_of_getElem? q2))
                  exact (st5.cell i c b q1 q2).monoK k6 (fun _ _ z => z) (upd_ne nb)
                · by_cases hbD : b = D
                  · rw [hbD]; exact ⟨_, upd_same⟩
                  · rw [upd_ne hbD]; exact st5.out b hb
              · exact ((re'.mono e2).mono e45).monoK k6 fun _ _ z => z
              · exact fun b o q n => ⟨(lt.1 b o q n).1, by rw [upd_ne (ne_of_none q hD)]; exact (lt.1 b o q n).2⟩
              · refine RpL.append (RpL.mono k6 _ _ (RpL.mono (e2.trans e45).kp _ _ rp)) (.cons ?_ .nil)
                cases r5 with
                | d r5 => exact Rp.mono k6 _ _ r5
          · have hi' : i = xs.length := by omega
            subst hi'
            rw [List.drop_length] at hz
            obtain ⟨rfl, rfl⟩ := compLC_nil hz
            rw [List.append_nil] at hy
            subst hy
            refine .inl ⟨w2, h1 H' L' e' ?_ _ (.d (.lst hv hn (RpL.mono (Kp.sub fun b hb => List.mem_cons_of_mem _ hb) _ _ rp)))⟩
            refine ⟨st'.len, st'.nd, fun i c b q1 q2 => (st'.cell i c b q1 q2).monoK (Kp.sub fun b hb => List.mem_cons_of_mem _ hb) (fun _ _ z => z) rfl, fun b hb => st'.out b (List.mem_cons_of_mem _ hb)⟩
theorem pm_compC {elt iter : Expr} {ifs : List Expr} {scope : Scope} {own : List (Str × Nat)} {pos : Pos} {fi : EM} {g : TgM} {sl : List Nat} {t : BM} {fe : EM} (hc : X.calm = true) (hN : X.N.Nodup) (hi : PM X W iter fi) (ok : BlkOk X.N X.env.scope scope own)
    (hg : ∀ (s : Shared) (H : Hp) (C : Addr) (cl : List (Str × Addr)) (fp : List Addr), PG (X.blk s H scope (compEnvC scope cl C X.env) fp) tg (tG X.K X.mg g sl)) (ht : ∀ (s : Shared) (H : Hp) (C : Addr) (cl : List (Str × Addr)) (fp : List Addr), PTs (X.blk s H scope (compEnvC scope cl C X.env) fp) ifs (tB X.K X.mg W0 t))
    (he : ∀ (s : Shared) (H : Hp) (C : Addr) (cl : List (Str × Addr)) (fp : List Addr), PE (X.blk s H scope (compEnvC scope cl C X.env) fp) elt (tM X.K X.mg W0 fe)) (hsl : ∀ i ∈ sl, i ∈ own.map (·.2) := by decide) (hs : ∀ x, foldedSetIterable iter X.env x = pure x := by intro _; rfl) :
    PM X W (.ListComp elt [⟨tg, iter, ifs, 0⟩] scope pos) (mCompC fi g t fe (own.map (·.2))) :=
  PE.imp (pe_lc hc hN (pi_any hi) ok hg ht he hs) fun σ H Q h => mCompC.go hsl h
/-- name = [..] on one line -/
theorem pms_setLcC (i : Nat) {y : Str} {py : Pos} {elt iter : Expr} {ifs : List Expr} {scope : Scope} {own : List (Str × Nat)} {pos spos : Pos} {fi : EM} {g : TgM} {sl : List Nat} {t : BM} {fe : EM} (hc : X.calm = true) (hN : X.N.Nodup) (hi : PM X W iter fi) (ok : BlkOk X.N X.env.scope scope own)
    (hsw : swapsWith (.ListComp elt [⟨tg, iter, ifs, 0⟩] scope pos) (some (.Name y py)) spos.line X.env = pure true)
    (hg : ∀ (s : Shared) (H : Hp) (C : Addr) (cl : List (Str × Addr)) (fp : List Addr), PG (X.blk s H scope (compEnvC scope cl C X.env) fp) tg (tG X.K X.mg g sl)) (ht : ∀ (s : Shared) (H : Hp) (C : Addr) (cl : List (Str × Addr)) (fp : List Addr), PTs (X.blk s H scope (compEnvC scope cl C X.env) fp) ifs (tB X.K X.mg W0 t))
    (he : ∀ (s : Shared) (H : Hp) (C : Addr) (cl : List (Str × Addr)) (fp : List Addr), PE (X.blk s H scope (compEnvC scope cl C X.env) fp) elt (tM X.K X.mg W0 fe)) (hy : X.N[i]? = some y := by rfl) (hyl : X.env.scope.names.lookup y = some .local := by rfl) (hsl : ∀ i ∈ sl, i ∈ own.map (·.2) := by decide) (hs : ∀ x, foldedSetIterable iter X.env x = pure x := by intro _; rfl) :
    PMS X W (.Assign [.Name y py] (.ListComp elt [⟨tg, iter, ifs, 0⟩] scope pos) spos) (sSet i (mCompC fi g t fe (own.map (·.2)))) :=
  PS.imp (ps_setLc hc hN hy hyl hsw (pi_any hi) ok hg ht he hs) fun Dn σ H ⟨O, L, S, ρ, a, h⟩ => by
    have h2 : tM X.K X.mg W (mCompC fi g t fe (own.map (·.2))) σ H (fun x H1 => gName i x σ H1 Dn.nx) :=
      tM.stmt a h fun d v S' L' H' a' e' r h' => h' _ H' L' (Ext.refl _ _) ⟨a'.re.set r i, a'.st⟩
    exact mCompC.go hsl h2
end
section
variable {ρ : Env} {S : Store} {f fe : EM}
theorem forLC_nil {c : Nat} {xs0 : List PyData} {g : TgM} {b : SM} (h : S[c]? = some (.lst xs0)) : forLC c xs0 g b [] ρ S = .nx ρ S := by unfold forLC; rw [if_pos h]
theorem forLC_nx {c : Nat} {xs0 : List PyData} {g : TgM} {b : SM} {x : PyData} {xs : List PyData} {ρ1 ρ2 : Env} {S2 : Store} (h : S[c]? = some (.lst xs0)) (h1 : g x ρ = some ρ1) (h2 : b ρ1 S = .nx ρ2 S2) : forLC c xs0 g b (x :: xs) ρ S = forLC c xs0 g b xs ρ2 S2 := by
  rw [forLC, if_pos h, h1]
  simp only []
  rw [h2]
theorem forLC_rt {c : Nat} {xs0 : List PyData} {g : TgM} {b : SM} {x : PyData} {xs : List PyData} {ρ1 : Env} {S2 : Store} {d : D} (h : S[c]? = some (.lst xs0)) (h1 : g x ρ = some ρ1) (h2 : b ρ1 S = .rt d S2) : forLC c xs0 g b (x :: xs) ρ S = .rt d S2 := by
  rw [forLC, if_pos h, h1]
  simp only []
  rw [h2]
noncomputable def qForC1 (g : TgM) (b : SM) (ρ : Env) (S : Store) (c : Nat) : Option Cell → SR
  | some (.lst xs) => forLC c xs g b xs ρ S
  | _ => .no
noncomputable def qForC (g : TgM) (b : SM) (ρ : Env) : Res D → SR
  | .ok (.r c) S => qForC1 g b ρ S c S[c]?
  | .exc e S => .ex e ρ S
  | _ => .no
@[simp] theorem sForC_ap {g : TgM} {b : SM} : sForC f g b ρ S = qForC g b ρ (f ρ S) := by
  unfold sForC
  cases f ρ S with
  | ok d S1 => cases d with
    | r c =>
      show (match S1[c]? with | some (.lst xs) => forLC c xs g b xs ρ S1 | _ => .no) = qForC1 g b ρ S1 c S1[c]?
      unfold qForC1
      rfl
    | _ => rfl
  | _ => rfl
@[simp] theorem qForC_r {g : TgM} {b : SM} (c : Nat) : qForC g b ρ (.ok (.r c) S) = qForC1 g b ρ S c S[c]? := id rfl
@[simp] theorem qForC1_l {g : TgM} {b : SM} (c : Nat) (xs : List PyData) : qForC1 g b ρ S c (some (.lst xs)) = forLC c xs g b xs ρ S := id rfl
def kCpC2 : Res (List PyData) → Res D
  | .ok ys S2 => .ok (.d (.list ys)) S2
  | _ => .no
noncomputable def kCpC1 (g : TgM) (t : BM) (fe : EM) (ρ : Env) (S : Store) (c : Nat) : Option Cell → Res D
  | some (.lst xs) => if xs.length < 16777216 then kCpC2 (compLC c xs g t fe ρ xs S) else .no
  | _ => .no
noncomputable def kCpC (g : TgM) (t : BM) (fe : EM) (own : List Nat) (ρ : Env) : Res D → Res D
  | .ok (.r c) S => kCpC1 g t fe (wipeE ρ own) S c S[c]?
  | .exc e S => .exc e S
  | _ => .no
@[simp] theorem mCompC_ap {g : TgM} {t : BM} {own : List Nat} : mCompC f g t fe own ρ S = kCpC g t fe own ρ (f ρ S) := by
  unfold mCompC
  cases f ρ S with
  | ok d S1 => cases d with
    | r c =>
      show (match S1[c]? with | some (.lst xs) => if xs.length < sizeLine then _ else _ | _ => _) = kCpC1 g t fe (wipeE ρ own) S1 c S1[c]?
      unfold kCpC1
      cases S1[c]? with
      | none => rfl
      | some cl =>
        cases cl with
        | lst xs =>
          show (if xs.length < sizeLine then _ else _) = if xs.length < 16777216 then _ else _
          rw [sizeLine_eq]
          congr 1
        | _ => rfl
    | _ => rfl
  | _ => rfl
@[simp] theorem kCpC_r {g : TgM} {t : BM} {own : List Nat} (c : Nat) : kCpC g t fe own ρ (.ok (.r c) S) = kCpC1 g t fe (wipeE ρ own) S c S[c]? := id rfl
@[simp] theorem kCpC1_l {g : TgM} {t : BM} (c : Nat) (xs : List PyData) : kCpC1 g t fe ρ S c (some (.lst xs)) = if xs.length < 16777216 then kCpC2 (compLC c xs g t fe ρ xs S) else .no := id rfl
@[simp] theorem kCpC2_ok (ys : List PyData) : kCpC2 (.ok ys S) = .ok (.d (.list ys)) S := id rfl
/-- over encoded things, the store as it is -/
theorem compLC_of {α : Type} {c : Nat} {xs0 : List PyData} (hS : S[c]? = some (.lst xs0)) (enc : α → PyData) (p : α → Bool) (h : α → PyData) {g : TgM} {t : BM} : ∀ (xs : List α), (∀ x ∈ xs, ∃ ρ1, g (enc x) ρ = some ρ1 ∧ t ρ1 S = .ok (p x) S ∧ (p x = true → fe ρ1 S = .ok (.d (h x)) S)) →
    compLC c xs0 g t fe ρ (xs.map enc) S = .ok ((xs.filter p).map h) S
  | [], _ => by
    show compLC c xs0 g t fe ρ [] S = _
    unfold compLC
    rw [if_pos hS]
    rfl
  | x :: xs, hx => by
    obtain ⟨ρ1, h1, h2, h3⟩ := hx x List.mem_cons_self
    have ih := compLC_of hS enc p h xs fun y hy => hx y (List.mem_cons_of_mem _ hy)
    rw [List.map_cons]
    unfold compLC
    rw [if_pos hS]
    simp only [h1, h2]
    cases hp : p x with
    | true => rw [hp] at h3; simp only [h3 rfl, ih, List.filter_cons, hp, if_true, List.map_cons]
    | false => simp only [ih, List.filter_cons, hp, Bool.false_eq_true, if_false]
theorem compLC_map {α : Type} {c : Nat} {xs0 : List PyData} (hS : S[c]? = some (.lst xs0)) (enc : α → PyData) (h : α → PyData) {g : TgM} (xs : List α) (hx : ∀ x ∈ xs, ∃ ρ1, g (enc x) ρ = some ρ1 ∧ fe ρ1 S = .ok (.d (h x)) S) :
    compLC c xs0 g bYes fe ρ (xs.map enc) S = .ok (xs.map h) S := by
  rw [compLC_of hS enc (fun _ => true) h xs, List.filter_eq_self.mpr (fun _ _ => rfl)]
  intro x hm
  obtain ⟨ρ1, h1, h2⟩ := hx x hm
  exact ⟨ρ1, h1, by simp, fun _ => h2⟩
end
end Sky
end
section
/-! Lay34: t[::-1]. -/
namespace L2
open PySem PySem.Spec PyProof.Rows
section
variable {X : Cx}
def tRevT (K : PySem.W.Frag) (te : TE) : TE := fun σ H Q => te σ H fun x H1 => ∃ a xs, x = .ref a ∧ SqT K H1 a xs ∧ ∀ p, H1 p = none → Q (.ref p) (upd H1 p (.tup xs.reverse))
theorem pe_revT {e : Expr} {te : TE} {k : Nat} {p1 p2 p3 pos : Pos} (he : PE X e te) : PE X (.Subscript e (.Slice none none (some (.UnaryOp .USub (.Constant (.int 1) k p1) p2)) p3) pos) (tRevT X.K te) := by
  refine ⟨fun pins s σ H Q I h => ?_⟩
  refine Subscript_ (thn (he.run pins s σ H _ I h) fun v s1 ⟨x, H1, I1, r1, q1⟩ => ?_)
  obtain ⟨a, xs, ex, hx, q⟩ := q1
  subst ex
  cases r1
  have hst : PO X (some (.UnaryOp .USub (.Constant (.int 1) k p1) p2)) (tPart (tUn (rU fun i => .int (-i)) (tC (.int 1)))) := po_some (pe_un un_neg pe_int)
  refine wpAny_Slice (thn (po_none.run pins s1 σ H1 (fun o H2 => o = none ∧ H2 = H1) I1 ⟨rfl, rfl⟩) fun vl s2 ⟨l, H2, I2, pl, el, e2⟩ => ?_)
  subst el e2
  refine thn (po_none.run pins s2 σ H2 (fun o H3 => o = none ∧ H3 = H2) I2 ⟨rfl, rfl⟩) fun vu s3 ⟨u, H3, I3, pu, eu, e3⟩ => ?_
  subst eu e3
  refine thn (hst.run pins s3 σ H3 (fun o H4 => o = some (-1) ∧ H4 = H3) I3 ⟨1, rfl, -1, rfl, rfl, rfl⟩) fun vs s4 ⟨o, H4, I4, ps, eo, e4⟩ => ?_
  subst eo e4
  have I5 : Inv X pins σ H4 { s4 with heap := s4.heap.push { cls := .type "slice", data := .fields #[vl, vu, vs] } } := I4.kept (t' := s4.toks) fun b ob q => Heap.get?_push_of_some _ q
  obtain ⟨its, r, ht, hz⟩ := I5.tuple hx
  have hlen := r.length
  show wpAny (model X.prog X.w) X.A (subscriptTail e (.Slice none none (some (.UnaryOp .USub (.Constant (.int 1) k p1) p2)) p3) (.ref a) (.ref s4.heap.objs.size)) (EP X pins σ Q) X.xe { s4 with heap := s4.heap.push { cls := .type "slice", data := .fields #[vl, vu, vs] } }
  refine tail_any (ops := [.ref a, .ref s4.heap.objs.size]) (ht.typeIs) (PySem.F.slot_tuple_getitem.lookup) ?_ (by with_unfolding_all rfl)
  refine HT.getItem_tuple_rev ht (Heap.IsSliceOf.new _ vl vu vs) pl pu ps ?_ (by rw [List.size_toArray]; omega)
  refine ⟨.ref _, _, I5.laid (t' := s4.toks) (o := .tup xs.reverse) (fun b ob q => Heap.get?_push_of_some _ q) (Nat.le_refl _) ?_, rfl, q _ (I5.hok.fresh (Nat.le_refl _))⟩
  exact ⟨by rw [List.length_reverse]; exact hz, _, r.reverse, IsTup.new _ _⟩
end
end L2
namespace Sky
open PySem PySem.Spec PyProof.Rows L2
theorem rpl_rev {K : PySem.W.Frag} {H : Hp} {B : List Addr} : ∀ {ds : List PyData} {vs : List V}, RpL K H B ds vs → RpL K H B ds.reverse vs.reverse
  | _, _, .nil => .nil
  | _, _, .cons r t => by
    rw [List.reverse_cons, List.reverse_cons]
    exact RpL.append (rpl_rev t) (.cons r .nil)
/-- t[::-1], of a tuple -/
def mRevT (fa : EM) : EM := fun ρ S => (fa ρ S).andThen fun x S1 => match x with
  | .d (.tuple xs) => .ok (.d (.tuple xs.reverse)) S1
  | _ => .no
section
variable {X : Cx} {W : WX} {e : Expr} {fa : EM} {k : Nat} {p1 p2 p3 pos : Pos}
theorem pm_revT (he : PM X W e fa) : PM X W (.Subscript e (.Slice none none (some (.UnaryOp .USub (.Constant (.int 1) k p1) p2)) p3) pos) (mRevT fa) :=
  PE.imp (pe_revT he) fun σ H Q ⟨O, L, S, ρ, a, h⟩ => by
    refine tM.part a h fun d v S1 L1 H1 a1 e1 r1 h1 => ?_
    split at h1
    · cases r1 with
      | d r1 => cases r1 with
        | tup q1 q2 q3 =>
          refine ⟨_, _, rfl, .inl q1, fun p hp => ?_⟩
          exact h1 _ L1 (Same.ext (same_upd hp)) (a1.st.same (same_upd hp)) _ (new_tup a1.st hp (rpl_rev q3))
    · exact h1.elim
end
variable {ρ : Env} {S : Store} {fa : EM}
def kRevT : Res D → Res D
  | .ok (.d (.tuple xs)) S => .ok (.d (.tuple xs.reverse)) S
  | .exc e S => .exc e S
  | _ => .no
@[simp] theorem mRevT_ap : mRevT fa ρ S = kRevT (fa ρ S) := by
  unfold mRevT
  cases fa ρ S with
  | ok d S1 => cases d with
    | d x => cases x <;> rfl
    | _ => rfl
  | _ => rfl
@[simp] theorem kRevT_t (xs : List PyData) : kRevT (.ok (.d (.tuple xs)) S) = .ok (.d (.tuple xs.reverse)) S := id rfl
end Sky
end
section
namespace KK
open PySem PySem.Spec PyProof.Rows L2 Sky
noncomputable section
/-- is_from: 0 thing, 1 low, 2 high -/
def B_is_from : SM :=
    (sRet (mAnd (mIsi "int" (mVar 0)) (mAnd (mNot (mIsi "bool" (mVar 0))) (mChain gLe gLe (mVar 1) (mVar 0) (mVar 2)))))
def P_is_from : List PyData → Option PyData := runP 3 (B_is_from)
def F_is_from : Fn := pureF (P_is_from)
/-- middle: 0 season, 1 night, 2 slot -/
def B_middle : SM :=
    (sRet (mOp gMod (mOp gAdd (mOp gMul (mOp gIx (mVar 0) (mC (.int 0))) (mVar 1)) (mOp gMul (mC (.int 2)) (mVar 2))) (mC (.int 60))))
def P_middle : List PyData → Option PyData := runP 3 (B_middle)
def F_middle : Fn := pureF (P_middle)
/-- is_up: 0 season, 1 spot, 2 night, 3 slot, 4 way -/
def B_is_up : SM :=
    (sSeq (sSet 4 (mCl cAbs (aCons (mOp gSub (mOp gIx (mVar 1) (mC (.int 0))) (mCall 3 F_middle (aCons (mVar 0) (aCons (mVar 2) (aCons (mVar 3) aNil))))) aNil)))
    (sRet (mOp gLe (mCl cMin2 (aCons (mVar 4) (aCons (mOp gSub (mC (.int 60)) (mVar 4)) aNil))) (mOp gIx (mVar 1) (mC (.int 1))))))
def P_is_up : List PyData → Option PyData := runP 5 (B_is_up)
def F_is_up : Fn := pureF (P_is_up)
/-- is_dark: 0 season, 1 night, 2 slot, 3 first, 4 last -/
def B_is_dark : SM :=
    (sSeq (sAsg (mOp gIx (mOp gIx (mVar 0) (mC (.int 1))) (mVar 1)) (gTp 2 (gsCons (gNm 3) (gsCons (gNm 4) gsNil))))
    (sRet (mChain gLe gLe (mVar 3) (mVar 2) (mVar 4))))
def P_is_dark : List PyData → Option PyData := runP 5 (B_is_dark)
def F_is_dark : Fn := pureF (P_is_dark)
/-- slots_of: 0 ask, 1 slot -/
def B_slots_of : SM :=
    (sRet (mLrg2 (mVar 1) (mOp gAdd (mVar 1) (mOp gIx (mVar 0) (mC (.int 4))))))
def P_slots_of : List PyData → Option PyData := runP 2 (B_slots_of)
def F_slots_of : Fn := pureF (P_slots_of)
/-! may_begin: 0 season, 1 night, 2 ask, 3 weather, 4 slot, 5 here -/
def L_may_begin_0 : SM :=
    (sSeq (sIf (bOr (bNot (asB (mCall 3 F_is_dark (aCons (mVar 0) (aCons (mVar 1) (aCons (mVar 5) aNil)))))) (bNot (asB (mCall 4 F_is_up (aCons (mVar 0) (aCons (mOp gIx (mVar 2) (mC (.int 2))) (aCons (mVar 1) (aCons (mVar 5) aNil)))))))) (sRet (mC (.bool false))) sNx)
    (sIf (asB (mOp gLt (mOp gIx (mOp gIx (mVar 3) (mVar 5)) (mC (.int 1))) (mOp gIx (mVar 2) (mC (.int 5))))) (sRet (mC (.bool false))) sNx))
def B_may_begin : SM :=
    (sSeq (sFor (iSeq (mCall 2 F_slots_of (aCons (mVar 2) (aCons (mVar 4) aNil)))) (gNm 5) (L_may_begin_0))
    (sRet (mC (.bool true))))
def P_may_begin : List PyData → Option PyData := runP 6 (B_may_begin)
def F_may_begin : Fn := pureF (P_may_begin)
/-- begins: 0 season, 1 night, 2 ask, 3 weather, 4 first, 5 last, 6 slot -/
def B_begins : SM :=
    (sSeq (sAsg (mOp gIx (mOp gIx (mVar 0) (mC (.int 1))) (mVar 1)) (gTp 2 (gsCons (gNm 4) (gsCons (gNm 5) gsNil))))
    (sRet (mComp (iRng2 (mVar 4) (mOp gAdd (mVar 5) (mC (.int 1)))) (gNm 6) (asB (mCall 5 F_may_begin (aCons (mVar 0) (aCons (mVar 1) (aCons (mVar 2) (aCons (mVar 3) (aCons (mVar 6) aNil))))))) (mVar 6) [6])))
def P_begins : List PyData → Option PyData := runP 7 (B_begins)
def F_begins : Fn := pureF (P_begins)
/-- table_of: 0 asks, 1 ask -/
def B_table_of : SM :=
    (sRet (mDc (iSeq (mVar 0)) (gNm 1) bYes (mOp gIx (mVar 1) (mC (.int 0))) (mVar 1) [1]))
def P_table_of : List PyData → Option PyData := runP 2 (B_table_of)
def F_table_of : Fn := pureF (P_table_of)
/-! are_apart: 0 runs, 1 slot, 2 ask, 3 later, 4 other -/
def L_are_apart_0 : SM :=
    (sIf (asB (mOp gLt (mVar 3) (mOp gAdd (mOp gAdd (mVar 1) (mOp gIx (mVar 2) (mC (.int 4)))) (mCl cInt (aCons (mOp gNe (mOp gIx (mVar 2) (mC (.int 3))) (mOp gIx (mVar 4) (mC (.int 3)))) aNil))))) (sRet (mC (.bool false))) sNx)
def B_are_apart : SM :=
    (sSeq (sFor (iZip (aCons (mVar 0) (aCons (mSl (mVar 0) (oSome (mC (.int 1))) oNone) aNil))) (gTp 2 (gsCons (gTp 2 (gsCons (gNm 1) (gsCons (gNm 2) gsNil))) (gsCons (gTp 2 (gsCons (gNm 3) (gsCons (gNm 4) gsNil))) gsNil))) (L_are_apart_0))
    (sRet (mC (.bool true))))
def P_are_apart : List PyData → Option PyData := runP 5 (B_are_apart)
def F_are_apart : Fn := pureF (P_are_apart)
/-! is_plan: 0 season, 1 night, 2 asks, 3 weather, 4 thing, 5 table, 6 run, 7 names, 8 slot, 9 name -/
def L_is_plan_0 : SM :=
    (sSeq (sIf (bOr (bNot (asB (mIsi "tuple" (mVar 6)))) (bOr (asB (mOp gNe (mCl cLen (aCons (mVar 6) aNil)) (mC (.int 2)))) (bNot (asB (mCall 3 F_is_from (aCons (mOp gIx (mVar 6) (mC (.int 0))) (aCons (mC (.int 0)) (aCons (mC (.int 23)) aNil)))))))) (sRet (mC (.bool false))) sNx)
    (sSeq (sIf (bOr (bNot (asB (mIsi "str" (mOp gIx (mVar 6) (mC (.int 1)))))) (asB (mOp gNin (mOp gIx (mVar 6) (mC (.int 1))) (mVar 5)))) (sRet (mC (.bool false))) sNx)
    (sIf (bNot (asB (mCall 5 F_may_begin (aCons (mVar 0) (aCons (mVar 1) (aCons (mOp gIx (mVar 5) (mOp gIx (mVar 6) (mC (.int 1)))) (aCons (mVar 3) (aCons (mOp gIx (mVar 6) (mC (.int 0))) aNil)))))))) (sRet (mC (.bool false))) sNx)))
def B_is_plan : SM :=
    (sSeq (sSet 5 (mCall 1 F_table_of (aCons (mVar 2) aNil)))
    (sSeq (sIf (bNot (asB (mIsi "tuple" (mVar 4)))) (sRet (mC (.bool false))) sNx)
    (sSeq (sFor (iSeq (mVar 4)) (gNm 6) (L_is_plan_0))
    (sSeq (sSet 7 (mComp (iSeq (mVar 4)) (gTp 2 (gsCons (gNm 8) (gsCons (gNm 9) gsNil))) bYes (mVar 9) [8, 9]))
    (sSeq (sIf (bOr (asB (mOp gNe (mLenSet (mVar 7)) (mCl cLen (aCons (mVar 7) aNil)))) (asB (mOp gNe (mCl cLst (aCons (mVar 4) aNil)) (mCl cSorted (aCons (mVar 4) aNil))))) (sRet (mC (.bool false))) sNx)
    (sRet (mCall 1 F_are_apart (aCons (mComp (iSeq (mVar 4)) (gTp 2 (gsCons (gNm 8) (gsCons (gNm 9) gsNil))) bYes (mTup (aCons (mVar 8) (aCons (mOp gIx (mVar 5) (mVar 9)) aNil))) [8, 9]) aNil))))))))
def P_is_plan : List PyData → Option PyData := runP 10 (B_is_plan)
def F_is_plan : Fn := pureF (P_is_plan)
/-- worth: 0 asks, 1 plan, 2 table, 3 slot, 4 name -/
def B_worth : SM :=
    (sSeq (sSet 2 (mCall 1 F_table_of (aCons (mVar 0) aNil)))
    (sRet (mCl cSum (aCons (mComp (iSeq (mVar 1)) (gTp 2 (gsCons (gNm 3) (gsCons (gNm 4) gsNil))) bYes (mOp gIx (mOp gIx (mVar 2) (mVar 4)) (mC (.int 6))) [3, 4]) aNil))))
def P_worth : List PyData → Option PyData := runP 5 (B_worth)
def F_worth : Fn := pureF (P_worth)
/-- is_sure: 0 ask, 1 weather, 2 slot, 3 here -/
def B_is_sure : SM :=
    (sRet (mCl cAll (aCons (mComp (iSeq (mCall 2 F_slots_of (aCons (mVar 0) (aCons (mVar 2) aNil)))) (gNm 3) bYes (mOp gGe (mOp gIx (mOp gIx (mVar 1) (mVar 3)) (mC (.int 0))) (mOp gIx (mVar 0) (mC (.int 5)))) [3]) aNil)))
def P_is_sure : List PyData → Option PyData := runP 4 (B_is_sure)
def F_is_sure : Fn := pureF (P_is_sure)
/-- Night.__init__: 0 self, 1 season, 2 night, 3 asks, 4 weather, 5 ask -/
def B_Night___init__ (hf : MK → Int) : SM :=
    (sSeq (sFl "Night" "table" (mVar 0) (mCall 1 F_table_of (aCons (mVar 3) aNil)))
    (sSeq (sFl "Night" "weather" (mVar 0) (mVar 4))
    (sSeq (sFl "Night" "spots" (mVar 0) (mDc (iSeq (mVar 3)) (gNm 5) bYes (mOp gIx (mVar 5) (mC (.int 0))) (mCall 4 F_begins (aCons (mVar 1) (aCons (mVar 2) (aCons (mVar 5) (aCons (mVar 4) aNil))))) [5]))
    (sSeq (sFl "Night" "worths" (mVar 0) (mDcC (iSeq (mVar 3)) (gNm 5) bYes (mOp gIx (mVar 5) (mC (.int 0))) (mOp gIx (mVar 5) (mC (.int 6))) [5]))
    (sSeq (sFl "Night" "room" (mVar 0) (mC .none))
    (sSeq (sFl "Night" "sure" (mVar 0) (mC (.bool false)))
    (sFl "Night" "known" (mVar 0) (mMem hf))))))))
def F_Night___init__ (hf : MK → Int) : Fn := runF 6 (B_Night___init__ hf)
/-- Night.has_room: 0 self, 1 name, 2 left, 3 house, 4 planned, 5 ask -/
def B_Night_has_room : SM :=
    (sSeq (sIf (asB (mOp gIs (mFld "Night" "room" (mVar 0)) (mC .none))) (sRet (mC (.bool true))) sNx)
    (sSeq (sSet 3 (mOp gIx (mOp gIx (mFld "Night" "table" (mVar 0)) (mVar 1)) (mC (.int 1))))
    (sSeq (sSet 4 (mComp (iVal (mFld "Night" "table" (mVar 0))) (gNm 5) (bAnd (asB (mOp gEq (mOp gIx (mVar 5) (mC (.int 1))) (mVar 3))) (asB (mOp gNin (mOp gIx (mVar 5) (mC (.int 0))) (mVar 2)))) (mOp gIx (mVar 5) (mC (.int 4))) [5]))
    (sRet (mOp gLe (mOp gAdd (mCl cSum (aCons (mVar 4) aNil)) (mOp gIx (mOp gIx (mFld "Night" "table" (mVar 0)) (mVar 1)) (mC (.int 4)))) (mOp gIx (mFld "Night" "room" (mVar 0)) (mVar 3)))))))
def F_Night_has_room : Fn := gcF (runF 6 (B_Night_has_room))
/-- Night.places: 0 self, 1 name, 2 free, 3 later, 4 found, 5 slot -/
def B_Night_places : SM :=
    (sSeq (sSet 3 (mComp (iSeq (mOp gIx (mFld "Night" "spots" (mVar 0)) (mVar 1))) (gNm 5) (asB (mOp gGe (mVar 5) (mVar 2))) (mVar 5) [5]))
    (sSeq (sSet 4 (mSlC (mVar 3) oNone (oSome (mC (.int 1)))))
    (sSeq (sIf (asB (mFld "Night" "sure" (mVar 0))) (sAugL 4 (mSl (mComp (iSeq (mVar 3)) (gNm 5) (asB (mCall 3 F_is_sure (aCons (mOp gIx (mFld "Night" "table" (mVar 0)) (mVar 1)) (aCons (mFld "Night" "weather" (mVar 0)) (aCons (mVar 5) aNil))))) (mVar 5) [5]) oNone (oSome (mC (.int 1))))) sNx)
    (sRet (mVar 4)))))
def F_Night_places : Fn := gcF (runF 6 (B_Night_places))
/-- Night.value: 0 self, 1 name, 2 slot, 3 amount, 4 surely -/
def B_Night_value : SM :=
    (sSeq (sSet 3 (mOp gIx (mFld "Night" "worths" (mVar 0)) (mVar 1)))
    (sSeq (sSet 4 (mIf (bAnd (asB (mFld "Night" "sure" (mVar 0))) (asB (mCall 3 F_is_sure (aCons (mOp gIx (mFld "Night" "table" (mVar 0)) (mVar 1)) (aCons (mFld "Night" "weather" (mVar 0)) (aCons (mVar 2) aNil)))))) (mVar 3) (mC (.int 0))))
    (sRet (mTup (aCons (mNeg (mVar 4)) (aCons (mNeg (mVar 3)) aNil))))))
def F_Night_value : Fn := gcF (runF 5 (B_Night_value))
/-! Night.best: 0 self, 1 free, 2 tool, 3 left, 4 key, 5 found, 6 name, 7 ask, 8 begin, 9 slot, 10 others, 11 surely, 12 all_in, 13 runs, 14 here, 15 one -/
def L_Night_best_0 (hf : MK → Int) (Fs : Fn) : SM :=
    (sSeq (sSet 10 (mCl cTup (aCons (mComp (iSeq (mVar 3)) (gNm 15) (asB (mOp gNe (mVar 15) (mVar 6))) (mVar 15) [15]) aNil)))
    (sSeq (sAsg (mMeth "Night" "best" 4 Fs (mVar 0) (aCons (mOp gAdd (mVar 9) (mOp gIx (mVar 7) (mC (.int 4)))) (aCons (mOp gIx (mVar 7) (mC (.int 3))) (aCons (mVar 10) aNil)))) (gTp 3 (gsCons (gNm 11) (gsCons (gNm 12) (gsCons (gNm 13) gsNil)))))
    (sSeq (sSet 14 (mMeth "Night" "value" 3 F_Night_value (mVar 0) (aCons (mVar 6) (aCons (mVar 9) aNil))))
    (sSet 5 (mCl cMinT (aCons (mVar 5) (aCons (mTup (aCons (mOp gAdd (mVar 11) (mOp gIx (mVar 14) (mC (.int 0)))) (aCons (mOp gAdd (mVar 12) (mOp gIx (mVar 14) (mC (.int 1)))) (aCons (mOp gAdd (mTup (aCons (mTup (aCons (mVar 9) (aCons (mVar 6) aNil))) aNil)) (mVar 13)) aNil)))) aNil)))))))
def L_Night_best_1 (hf : MK → Int) (Fs : Fn) : SM :=
    (sSeq (sSet 7 (mOp gIx (mFld "Night" "table" (mVar 0)) (mVar 6)))
    (sSeq (sSet 8 (mOp gAdd (mVar 1) (mCl cInt (aCons (mOp gNin (mVar 2) (mTup (aCons (mC .none) (aCons (mOp gIx (mVar 7) (mC (.int 3))) aNil)))) aNil))))
    (sFor (iSeq (mIf (asB (mMeth "Night" "has_room" 3 F_Night_has_room (mVar 0) (aCons (mVar 6) (aCons (mVar 3) aNil)))) (mMeth "Night" "places" 3 F_Night_places (mVar 0) (aCons (mVar 6) (aCons (mVar 8) aNil))) (mLst aNil))) (gNm 9) (L_Night_best_0 hf Fs))))
def B_Night_best (hf : MK → Int) (Fs : Fn) : SM :=
    (sSeq (sSet 4 (mTup (aCons (mVar 1) (aCons (mVar 2) (aCons (mVar 3) aNil)))))
    (sSeq (sIf (asB (mOp (gMnin hf) (mVar 4) (mFld "Night" "known" (mVar 0)))) (sSeq (sSet 5 (mTup (aCons (mC (.int 0)) (aCons (mC (.int 0)) (aCons (mTup aNil) aNil)))))
    (sSeq (sFor (iSeq (mVar 3)) (gNm 6) (L_Night_best_1 hf Fs))
    (sMsub hf (mFld "Night" "known" (mVar 0)) (mVar 4) (mVar 5)))) sNx)
    (sRet (mOp (gMix hf) (mFld "Night" "known" (mVar 0)) (mVar 4)))))
def F_Night_best (hf : MK → Int) : Nat → Fn
  | 0 => noF
  | n + 1 => gcF (runF 16 (B_Night_best hf (F_Night_best hf n)))
/-- Night.plan: 0 self -/
def B_Night_plan (hf : MK → Int) : SM :=
    (sRet (mOp gIx (mMeth "Night" "best" 4 (F_Night_best hf 8) (mVar 0) (aCons (mC (.int 0)) (aCons (mC .none) (aCons (mCl cTup (aCons (mCl cSortedD (aCons (mFld "Night" "table" (mVar 0)) aNil)) aNil)) aNil)))) (mC (.int 2))))
def F_Night_plan (hf : MK → Int) : Fn := gcF (runF 1 (B_Night_plan hf))
/-- best_plan: 0 season, 1 night, 2 asks, 3 weather -/
def B_best_plan (hf : MK → Int) : SM :=
    (sRet (mMeth "Night" "plan" 1 (F_Night_plan hf) (mMake "Night" 4 (F_Night___init__ hf) (aCons (mVar 0) (aCons (mVar 1) (aCons (mVar 2) (aCons (mVar 3) aNil))))) aNil))
def P_best_plan (hf : MK → Int) : List PyData → Option PyData := runP 4 (B_best_plan hf)
def F_best_plan (hf : MK → Int) : Fn := pureF (P_best_plan hf)
/-- _law_deck: 0 cell, 1 turn -/
def B__law_deck : SM :=
    (sSeq (sIf (asB (mOp gGe (mVar 0) (mOp gPow (mC (.int 10)) (mC (.int 18))))) (sRet (mLstC (aCons (mOp gSub (mVar 0) (mOp gPow (mC (.int 10)) (mC (.int 18)))) (aCons (mOp gMod (mVar 0) (mC (.int 2147483579))) (aCons (mVar 1) aNil))))) sNx)
    (sRet (mLstC (aCons (mC (.int 0)) (aCons (mOp gMod (mVar 0) (mC (.int 2147483579))) (aCons (mVar 1) aNil))))))
def F__law_deck : Fn := runF 2 (B__law_deck)
/-- _law_pick: 0 deck, 1 limit, 2 found, 3 number -/
def B__law_pick : SM :=
    (sSeq (sIf (asB (mOp gGt (mOp gIx (mVar 0) (mC (.int 0))) (mC (.int 1)))) (sSeq (sSet 2 (mOp gMod (mOp gIx (mVar 0) (mC (.int 0))) (mVar 1)))
    (sSeq (sSub (mVar 0) (mC (.int 0)) (mOp gDiv (mOp gIx (mVar 0) (mC (.int 0))) (mVar 1)))
    (sRet (mVar 2)))) sNx)
    (sSeq (sSub (mVar 0) (mC (.int 2)) (mOp gAdd (mOp gIx (mVar 0) (mC (.int 2))) (mC (.int 1))))
    (sSeq (sSet 3 (mOp gMod (mOp gPow (mOp gAdd (mOp gIx (mVar 0) (mC (.int 1))) (mOp gMul (mC (.int 15485867)) (mOp gIx (mVar 0) (mC (.int 2))))) (mC (.int 5))) (mC (.int 2147483647))))
    (sSeq (sSet 2 (mOp gDiv (mOp gMod (mOp gPow (mOp gAdd (mVar 3) (mOp gMul (mC (.int 7919)) (mOp gIx (mVar 0) (mC (.int 2))))) (mC (.int 3))) (mC (.int 2147483629))) (mC (.int 32))))
    (sSeq (sIf (asB (mOp gGt (mVar 1) (mC (.int 1000000)))) (sRet (mOp gMod (mOp gAdd (mOp gMul (mVar 2) (mC (.int 2147483563))) (mVar 3)) (mVar 1))) sNx)
    (sRet (mOp gMod (mVar 2) (mVar 1))))))))
def P__law_pick : List PyData → List PyData → Option (PyData × List PyData) := runD 4 (B__law_pick)
def F__law_pick : Fn := deckF (P__law_pick)
/-! _law_season: 0 deck, 1 most, 2 nights, 3 k, 4 first -/
def L__law_season_0 : SM :=
    (sSeq (sSet 4 (mOp gIx (mLst (aCons (mC (.int 0)) (aCons (mCall 2 F__law_pick (aCons (mVar 0) (aCons (mC (.int 12)) aNil))) aNil))) (mCall 2 F__law_pick (aCons (mVar 0) (aCons (mC (.int 2)) aNil)))))
    (sExpr (mApp (mVar 2) (mTup (aCons (mVar 4) (aCons (mOp gIx (mLst (aCons (mC (.int 23)) (aCons (mOp gAdd (mVar 4) (mCall 2 F__law_pick (aCons (mVar 0) (aCons (mOp gSub (mC (.int 24)) (mVar 4)) aNil)))) aNil))) (mCall 2 F__law_pick (aCons (mVar 0) (aCons (mC (.int 2)) aNil)))) aNil))))))
def B__law_season : SM :=
    (sSeq (sSet 2 (mLstC aNil))
    (sSeq (sFor (iRng1 (mOp gAdd (mC (.int 1)) (mCall 2 F__law_pick (aCons (mVar 0) (aCons (mVar 1) aNil))))) (gNm 3) (L__law_season_0))
    (sRet (mTup (aCons (mOp gIx (mLst (aCons (mC (.int 0)) (aCons (mC (.int 1)) (aCons (mC (.int 59)) (aCons (mCall 2 F__law_pick (aCons (mVar 0) (aCons (mC (.int 60)) aNil))) aNil))))) (mCall 2 F__law_pick (aCons (mVar 0) (aCons (mC (.int 4)) aNil)))) (aCons (mCl cTup (aCons (mVar 2) aNil)) aNil))))))
def P__law_season : List PyData → List PyData → Option (PyData × List PyData) := runD 5 (B__law_season)
def F__law_season : Fn := deckF (P__law_season)
/-! _law_up: 0 season, 1 spot, 2 night, 3 slot, 4 here, 5 step -/
def L__law_up_0 : SM :=
    (sIf (bOr (asB (mOp gEq (mOp gMod (mOp gAdd (mVar 4) (mVar 5)) (mC (.int 60))) (mOp gIx (mVar 1) (mC (.int 0))))) (asB (mOp gEq (mOp gMod (mOp gAdd (mOp gIx (mVar 1) (mC (.int 0))) (mVar 5)) (mC (.int 60))) (mVar 4)))) (sRet (mC (.bool true))) sNx)
def B__law_up : SM :=
    (sSeq (sSet 4 (mOp gMod (mOp gAdd (mOp gAdd (mOp gMul (mOp gIx (mVar 0) (mC (.int 0))) (mVar 2)) (mVar 3)) (mVar 3)) (mC (.int 60))))
    (sSeq (sFor (iRng1 (mOp gAdd (mOp gIx (mVar 1) (mC (.int 1))) (mC (.int 1)))) (gNm 5) (L__law_up_0))
    (sRet (mC (.bool false)))))
def P__law_up : List PyData → Option PyData := runP 6 (B__law_up)
def F__law_up : Fn := pureF (P__law_up)
/-- _law_dark: 0 season, 1 night, 2 slot -/
def B__law_dark : SM :=
    (sRet (mChain gLe gLe (mOp gIx (mOp gIx (mOp gIx (mVar 0) (mC (.int 1))) (mVar 1)) (mC (.int 0))) (mVar 2) (mOp gIx (mOp gIx (mOp gIx (mVar 0) (mC (.int 1))) (mVar 1)) (mC (.int 1)))))
def P__law_dark : List PyData → Option PyData := runP 3 (B__law_dark)
def F__law_dark : Fn := pureF (P__law_dark)
/-! _law_asks: 0 deck, 1 season, 2 most, 3 found, 4 name, 5 slot, 6 at, 7 spot, 8 long, 9 need, 10 tool, 11 house, 12 rank -/
def L__law_asks_0 : SM :=
    (sSeq (sSet 5 (mCall 2 F__law_pick (aCons (mVar 0) (aCons (mC (.int 24)) aNil))))
    (sSeq (sSet 6 (mOp gIx (mLst (aCons (mOp gMul (mC (.int 2)) (mVar 5)) (aCons (mCall 2 F__law_pick (aCons (mVar 0) (aCons (mC (.int 60)) aNil))) aNil))) (mCall 2 F__law_pick (aCons (mVar 0) (aCons (mC (.int 2)) aNil)))))
    (sSeq (sSet 7 (mTup (aCons (mVar 6) (aCons (mOp gIx (mLst (aCons (mC (.int 5)) (aCons (mC (.int 30)) (aCons (mCall 2 F__law_pick (aCons (mVar 0) (aCons (mC (.int 31)) aNil))) aNil)))) (mCall 2 F__law_pick (aCons (mVar 0) (aCons (mC (.int 3)) aNil)))) aNil))))
    (sSeq (sSet 8 (mOp gAdd (mC (.int 1)) (mCall 2 F__law_pick (aCons (mVar 0) (aCons (mOp gIx (mLst (aCons (mC (.int 3)) (aCons (mC (.int 8)) aNil))) (mCall 2 F__law_pick (aCons (mVar 0) (aCons (mC (.int 2)) aNil)))) aNil)))))
    (sSeq (sSet 9 (mOp gIx (mLst (aCons (mC (.int 0)) (aCons (mC (.int 3)) (aCons (mCall 2 F__law_pick (aCons (mVar 0) (aCons (mC (.int 10)) aNil))) aNil)))) (mCall 2 F__law_pick (aCons (mVar 0) (aCons (mC (.int 3)) aNil)))))
    (sSeq (sSet 10 (mOp gIx (mLst (aCons (mC (.str "cam")) (aCons (mC (.str "eye")) aNil))) (mCall 2 F__law_pick (aCons (mVar 0) (aCons (mC (.int 2)) aNil)))))
    (sSeq (sSet 11 (mOp gIx (mLst (aCons (mC (.str "hut")) (aCons (mC (.str "inn")) (aCons (mC (.str "oak")) aNil)))) (mCall 2 F__law_pick (aCons (mVar 0) (aCons (mC (.int 3)) aNil)))))
    (sSeq (sSet 12 (mOp gAdd (mC (.int 1)) (mCall 2 F__law_pick (aCons (mVar 0) (aCons (mOp gIx (mLst (aCons (mC (.int 3)) (aCons (mC (.int 9)) aNil))) (mCall 2 F__law_pick (aCons (mVar 0) (aCons (mC (.int 2)) aNil)))) aNil)))))
    (sExpr (mApp (mVar 3) (mTup (aCons (mVar 4) (aCons (mVar 11) (aCons (mVar 7) (aCons (mVar 10) (aCons (mVar 8) (aCons (mVar 9) (aCons (mVar 12) aNil))))))))))))))))))
def B__law_asks : SM :=
    (sSeq (sSet 3 (mLstC aNil))
    (sSeq (sFor (iSeq (mSl (mLst (aCons (mC (.str "a")) (aCons (mC (.str "bb")) (aCons (mC (.str "c")) (aCons (mC (.str "dd")) (aCons (mC (.str "e")) (aCons (mC (.str "ff")) aNil))))))) oNone (oSome (mCall 2 F__law_pick (aCons (mVar 0) (aCons (mOp gAdd (mVar 2) (mC (.int 1))) aNil)))))) (gNm 4) (L__law_asks_0))
    (sRet (mCl cTup (aCons (mVar 3) aNil)))))
def P__law_asks : List PyData → List PyData → Option (PyData × List PyData) := runD 13 (B__law_asks)
def F__law_asks : Fn := deckF (P__law_asks)
/-! _law_weather: 0 deck, 1 found, 2 low, 3 high, 4 slot -/
def L__law_weather_0 : SM :=
    (sSeq (sIf (asB (mOp gEq (mCall 2 F__law_pick (aCons (mVar 0) (aCons (mC (.int 4)) aNil))) (mC (.int 0)))) (sSeq (sSet 2 (mCall 2 F__law_pick (aCons (mVar 0) (aCons (mC (.int 10)) aNil))))
    (sSet 3 (mOp gAdd (mVar 2) (mCall 2 F__law_pick (aCons (mVar 0) (aCons (mOp gSub (mC (.int 10)) (mVar 2)) aNil)))))) sNx)
    (sExpr (mApp (mVar 1) (mTup (aCons (mVar 2) (aCons (mVar 3) aNil))))))
def B__law_weather : SM :=
    (sSeq (sSet 1 (mLstC aNil))
    (sSeq (sPar 2 3 (aCons (mCall 2 F__law_pick (aCons (mVar 0) (aCons (mC (.int 10)) aNil))) (aCons (mC (.int 9)) aNil)))
    (sSeq (sFor (iRng1 (mC (.int 24))) (gNm 4) (L__law_weather_0))
    (sRet (mCl cTup (aCons (mVar 1) aNil))))))
def P__law_weather : List PyData → List PyData → Option (PyData × List PyData) := runD 5 (B__law_weather)
def F__law_weather : Fn := deckF (P__law_weather)
/-! _law_begins: 0 season, 1 night, 2 ask, 3 weather, 4 found, 5 slot, 6 good, 7 k, 8 fine -/
def L__law_begins_0 : SM :=
    (sSeq (sSet 8 (mAnd (mCall 3 F__law_dark (aCons (mVar 0) (aCons (mVar 1) (aCons (mVar 7) aNil)))) (mOp gGe (mOp gIx (mOp gIx (mVar 3) (mVar 7)) (mC (.int 1))) (mOp gIx (mVar 2) (mC (.int 5))))))
    (sSet 6 (mAnd (mVar 6) (mAnd (mVar 8) (mCall 4 F__law_up (aCons (mVar 0) (aCons (mOp gIx (mVar 2) (mC (.int 2))) (aCons (mVar 1) (aCons (mVar 7) aNil)))))))))
def L__law_begins_1 : SM :=
    (sSeq (sSet 6 (mC (.bool true)))
    (sSeq (sFor (iRng2 (mVar 5) (mOp gAdd (mVar 5) (mOp gIx (mVar 2) (mC (.int 4))))) (gNm 7) (L__law_begins_0))
    (sIf (asB (mVar 6)) (sExpr (mApp (mVar 4) (mVar 5))) sNx)))
def B__law_begins : SM :=
    (sSeq (sSet 4 (mLstC aNil))
    (sSeq (sFor (iRng1 (mOp gSub (mC (.int 25)) (mOp gIx (mVar 2) (mC (.int 4))))) (gNm 5) (L__law_begins_1))
    (sRet (mVar 4))))
def P__law_begins : List PyData → Option PyData := runP 9 (B__law_begins)
def F__law_begins : Fn := pureF (P__law_begins)
/-! _law_plans: 0 season, 1 night, 2 asks, 3 weather, 4 spots, 5 found, 6 line, 7 plan, 8 free, 9 tool, 10 left, 11 ask, 12 begin, 13 others, 14 slot, 15 more, 16 one -/
def L__law_plans_0 : SM :=
    (sIf (asB (mOp gGe (mVar 14) (mVar 12))) (sSeq (sSet 15 (mOp gAdd (mVar 7) (mTup (aCons (mTup (aCons (mVar 14) (aCons (mOp gIx (mVar 11) (mC (.int 0))) aNil))) aNil))))
    (sSeq (sExpr (mApp (mVar 5) (mVar 15)))
    (sExpr (mApp (mVar 6) (mTup (aCons (mVar 15) (aCons (mOp gAdd (mVar 14) (mOp gIx (mVar 11) (mC (.int 4)))) (aCons (mOp gIx (mVar 11) (mC (.int 3))) (aCons (mVar 13) aNil))))))))) sNx)
def L__law_plans_1 : SM :=
    (sSeq (sSet 12 (mOp gAdd (mVar 8) (mCl cInt (aCons (mOp gNin (mVar 9) (mTup (aCons (mC (.str "")) (aCons (mOp gIx (mVar 11) (mC (.int 3))) aNil)))) aNil))))
    (sSeq (sSet 13 (mCl cTup (aCons (mComp (iSeq (mVar 10)) (gNm 16) (asB (mOp gNe (mVar 16) (mVar 11))) (mVar 16) [16]) aNil)))
    (sFor (iSeq (mOp gIx (mVar 4) (mOp gIx (mVar 11) (mC (.int 0))))) (gNm 14) (L__law_plans_0))))
def L__law_plans_2 : SM :=
    (sSeq (sAsg (mPop (mVar 6)) (gTp 4 (gsCons (gNm 7) (gsCons (gNm 8) (gsCons (gNm 9) (gsCons (gNm 10) gsNil))))))
    (sFor (iSeq (mVar 10)) (gNm 11) (L__law_plans_1)))
def B__law_plans : SM :=
    (sSeq (sSet 4 (mCl cDict (aCons (mComp (iSeq (mVar 2)) (gNm 11) bYes (mTup (aCons (mOp gIx (mVar 11) (mC (.int 0))) (aCons (mCall 4 F__law_begins (aCons (mVar 0) (aCons (mVar 1) (aCons (mVar 11) (aCons (mVar 3) aNil))))) aNil))) [11]) aNil)))
    (sSeq (sSet 5 (mLstC (aCons (mTup aNil) aNil)))
    (sSeq (sSet 6 (mLstC (aCons (mTup (aCons (mTup aNil) (aCons (mC (.int 0)) (aCons (mC (.str "")) (aCons (mVar 2) aNil))))) aNil)))
    (sSeq (sWh (asB (mOp gNe (mVar 6) (mLst aNil))) (L__law_plans_2))
    (sRet (mVar 5))))))
def P__law_plans : List PyData → Option PyData := runP 17 (B__law_plans)
def F__law_plans : Fn := pureF (P__law_plans)
/-- _law_worth: 0 asks, 1 plan, 2 ask, 3 slot, 4 name -/
def B__law_worth : SM :=
    (sRet (mCl cSum (aCons (mComp (iSeq (mVar 0)) (gNm 2) (asB (mOp gIn (mOp gIx (mVar 2) (mC (.int 0))) (mComp (iSeq (mVar 1)) (gTp 2 (gsCons (gNm 3) (gsCons (gNm 4) gsNil))) bYes (mVar 4) [3, 4]))) (mOp gIx (mVar 2) (mC (.int 6))) [2]) aNil)))
def P__law_worth : List PyData → Option PyData := runP 5 (B__law_worth)
def F__law_worth : Fn := pureF (P__law_worth)
/-- price: 0 season, 1 night, 2 asks, 3 weather, 4 name, 5 look, 6 plan, 7 slot, 8 one -/
def B_price (hf : MK → Int) : SM :=
    (sSeq (sSet 5 (mMake "Night" 4 (F_Night___init__ hf) (aCons (mVar 0) (aCons (mVar 1) (aCons (mVar 2) (aCons (mVar 3) aNil))))))
    (sSeq (sAugD (fun i j => i + j) (mFld "Night" "worths" (mVar 5)) (mVar 4) (mC (.int 1000)))
    (sSeq (sSet 6 (mMeth "Night" "plan" 1 (F_Night_plan hf) (mVar 5) aNil))
    (sSeq (sIf (asB (mOp gNin (mVar 4) (mComp (iSeq (mVar 6)) (gTp 2 (gsCons (gNm 7) (gsCons (gNm 8) gsNil))) bYes (mVar 8) [7, 8]))) (sRet (mC .none)) sNx)
    (sRet (mOp gSub (mCall 2 F_worth (aCons (mVar 2) (aCons (mCall 4 (F_best_plan hf) (aCons (mVar 0) (aCons (mVar 1) (aCons (mVar 2) (aCons (mVar 3) aNil))))) aNil))) (mCall 2 F_worth (aCons (mVar 2) (aCons (mVar 6) aNil)))))))))
def P_price (hf : MK → Int) : List PyData → Option PyData := runP 9 (B_price hf)
def F_price (hf : MK → Int) : Fn := pureF (P_price hf)
/-! got: 0 asks, 1 plan, 2 air, 3 table, 4 found, 5 slot, 6 name, 7 here -/
def L_got_0 : SM :=
    (sIf (asB (mCl cAll (aCons (mComp (iSeq (mCall 2 F_slots_of (aCons (mOp gIx (mVar 3) (mVar 6)) (aCons (mVar 5) aNil)))) (gNm 7) bYes (mOp gGe (mOp gIx (mVar 2) (mVar 7)) (mOp gIx (mOp gIx (mVar 3) (mVar 6)) (mC (.int 5)))) [7]) aNil))) (sExpr (mApp (mVar 4) (mVar 6))) sNx)
def B_got : SM :=
    (sSeq (sSet 3 (mCall 1 F_table_of (aCons (mVar 0) aNil)))
    (sSeq (sSet 4 (mLstC aNil))
    (sSeq (sFor (iSeq (mVar 1)) (gTp 2 (gsCons (gNm 5) (gsCons (gNm 6) gsNil))) (L_got_0))
    (sRet (mCl cSorted (aCons (mVar 4) aNil))))))
def P_got : List PyData → Option PyData := runP 8 (B_got)
def F_got : Fn := pureF (P_got)
/-- span: 0 asks, 1 plan, 2 weather, 3 table, 4 least, 5 slot, 6 name -/
def B_span : SM :=
    (sSeq (sSet 3 (mCall 1 F_table_of (aCons (mVar 0) aNil)))
    (sSeq (sSet 4 (mComp (iSeq (mVar 1)) (gTp 2 (gsCons (gNm 5) (gsCons (gNm 6) gsNil))) (asB (mCall 3 F_is_sure (aCons (mOp gIx (mVar 3) (mVar 6)) (aCons (mVar 2) (aCons (mVar 5) aNil))))) (mOp gIx (mOp gIx (mVar 3) (mVar 6)) (mC (.int 6))) [5, 6]))
    (sRet (mTup (aCons (mCl cSum (aCons (mVar 4) aNil)) (aCons (mCall 2 F_worth (aCons (mVar 0) (aCons (mVar 1) aNil))) aNil))))))
def P_span : List PyData → Option PyData := runP 7 (B_span)
def F_span : Fn := pureF (P_span)
/-- surest_plan: 0 season, 1 night, 2 asks, 3 weather, 4 look -/
def B_surest_plan (hf : MK → Int) : SM :=
    (sSeq (sSet 4 (mMake "Night" 4 (F_Night___init__ hf) (aCons (mVar 0) (aCons (mVar 1) (aCons (mVar 2) (aCons (mVar 3) aNil))))))
    (sSeq (sFl "Night" "sure" (mVar 4) (mC (.bool true)))
    (sRet (mMeth "Night" "plan" 1 (F_Night_plan hf) (mVar 4) aNil))))
def P_surest_plan (hf : MK → Int) : List PyData → Option PyData := runP 5 (B_surest_plan hf)
def F_surest_plan (hf : MK → Int) : Fn := pureF (P_surest_plan hf)
/-- fits: 0 weather, 1 air, 2 low, 3 high, 4 good -/
def B_fits : SM :=
    (sRet (mCl cAll (aCons (mComp (iZip (aCons (mVar 0) (aCons (mVar 1) aNil))) (gTp 2 (gsCons (gTp 2 (gsCons (gNm 2) (gsCons (gNm 3) gsNil))) (gsCons (gNm 4) gsNil))) bYes (mChain gLe gLe (mVar 2) (mVar 4) (mVar 3)) [2, 3, 4]) aNil)))
def P_fits : List PyData → Option PyData := runP 5 (B_fits)
def F_fits : Fn := pureF (P_fits)
/-- _law_air: 0 deck, 1 weather, 2 low, 3 high -/
def B__law_air : SM :=
    (sRet (mCl cTup (aCons (mComp (iSeq (mVar 1)) (gTp 2 (gsCons (gNm 2) (gsCons (gNm 3) gsNil))) bYes (mOp gAdd (mVar 2) (mCall 2 F__law_pick (aCons (mVar 0) (aCons (mOp gAdd (mOp gSub (mVar 3) (mVar 2)) (mC (.int 1))) aNil)))) [2, 3]) aNil)))
def P__law_air : List PyData → List PyData → Option (PyData × List PyData) := runD 4 (B__law_air)
def F__law_air : Fn := deckF (P__law_air)
/-! _law_least: 0 asks, 1 plan, 2 weather, 3 found, 4 ask, 5 slot, 6 name, 7 low, 8 k -/
def L__law_least_0 : SM :=
    (sIf (asB (mOp gEq (mVar 6) (mOp gIx (mVar 4) (mC (.int 0))))) (sSeq (sSet 7 (mCl cMinL (aCons (mComp (iRng2 (mVar 5) (mOp gAdd (mVar 5) (mOp gIx (mVar 4) (mC (.int 4))))) (gNm 8) bYes (mOp gIx (mOp gIx (mVar 2) (mVar 8)) (mC (.int 0))) [8]) aNil)))
    (sSet 3 (mOp gAdd (mVar 3) (mOp gMul (mOp gIx (mVar 4) (mC (.int 6))) (mCl cInt (aCons (mOp gGe (mVar 7) (mOp gIx (mVar 4) (mC (.int 5)))) aNil)))))) sNx)
def L__law_least_1 : SM :=
    (sFor (iSeq (mVar 1)) (gTp 2 (gsCons (gNm 5) (gsCons (gNm 6) gsNil))) (L__law_least_0))
def B__law_least : SM :=
    (sSeq (sSet 3 (mC (.int 0)))
    (sSeq (sFor (iSeq (mVar 0)) (gNm 4) (L__law_least_1))
    (sRet (mVar 3))))
def P__law_least : List PyData → Option PyData := runP 9 (B__law_least)
def F__law_least : Fn := pureF (P__law_least)
/-! _law_got: 0 asks, 1 plan, 2 air, 3 table, 4 found, 5 slot, 6 name, 7 ask -/
def L__law_got_0 : SM :=
    (sIf (asB (mOp gGe (mCl cMinL (aCons (mSl (mVar 2) (oSome (mVar 5)) (oSome (mOp gAdd (mVar 5) (mOp gIx (mOp gIx (mVar 3) (mVar 6)) (mC (.int 4)))))) aNil)) (mOp gIx (mOp gIx (mVar 3) (mVar 6)) (mC (.int 5))))) (sExpr (mApp (mVar 4) (mVar 6))) sNx)
def B__law_got : SM :=
    (sSeq (sSet 3 (mCl cDict (aCons (mComp (iSeq (mVar 0)) (gNm 7) bYes (mTup (aCons (mOp gIx (mVar 7) (mC (.int 0))) (aCons (mVar 7) aNil))) [7]) aNil)))
    (sSeq (sSet 4 (mLstC aNil))
    (sSeq (sFor (iSeq (mVar 1)) (gTp 2 (gsCons (gNm 5) (gsCons (gNm 6) gsNil))) (L__law_got_0))
    (sRet (mCl cSorted (aCons (mVar 4) aNil))))))
def P__law_got : List PyData → Option PyData := runP 8 (B__law_got)
def F__law_got : Fn := pureF (P__law_got)
/-! _law_span_right: 0 deck, 1 asks, 2 plan, 3 weather, 4 least, 5 most, 6 worst, 7 best, 8 k, 9 air, 10 told, 11 amount, 12 at, 13 better, 14 beyond, 15 under, 16 low, 17 high, 18 name, 19 slot -/
def L__law_span_right_0 : SM :=
    (sSeq (sSet 9 (mCall 2 F__law_air (aCons (mVar 0) (aCons (mVar 3) aNil))))
    (sSeq (sSet 10 (mCall 3 F_got (aCons (mVar 1) (aCons (mVar 2) (aCons (mVar 9) aNil)))))
    (sSeq (sSet 11 (mCall 2 F__law_worth (aCons (mVar 1) (aCons (mComp (iSeq (mVar 10)) (gNm 18) bYes (mTup (aCons (mC (.int 0)) (aCons (mVar 18) aNil))) [18]) aNil))))
    (sSeq (sIf (bOr (asB (mOp gNe (mVar 10) (mCall 3 F__law_got (aCons (mVar 1) (aCons (mVar 2) (aCons (mVar 9) aNil)))))) (bNot (asB (mChain gLe gLe (mVar 4) (mVar 11) (mVar 5))))) (sRet (mC (.bool false))) sNx)
    (sSeq (sIf (asB (mOp gIsNT (mCall 2 F_fits (aCons (mVar 3) (aCons (mVar 9) aNil))) (mC (.bool true)))) (sRet (mC (.bool false))) sNx)
    (sSeq (sSet 12 (mCall 2 F__law_pick (aCons (mVar 0) (aCons (mC (.int 24)) aNil))))
    (sSeq (sSet 13 (mOp gAdd (mOp gAdd (mSl (mVar 9) oNone (oSome (mVar 12))) (mTup (aCons (mCl cMin2 (aCons (mOp gIx (mOp gIx (mVar 3) (mVar 12)) (mC (.int 1))) (aCons (mOp gAdd (mOp gIx (mVar 9) (mVar 12)) (mC (.int 1))) aNil))) aNil))) (mSl (mVar 9) (oSome (mOp gAdd (mVar 12) (mC (.int 1)))) oNone)))
    (sSeq (sIf (asB (mOp gNe (mComp (iSeq (mVar 10)) (gNm 18) (asB (mOp gNin (mVar 18) (mCall 3 F_got (aCons (mVar 1) (aCons (mVar 2) (aCons (mVar 13) aNil)))))) (mVar 18) [18]) (mLst aNil))) (sRet (mC (.bool false))) sNx)
    (sSeq (sSet 14 (mOp gAdd (mOp gAdd (mSl (mVar 9) oNone (oSome (mVar 12))) (mTup (aCons (mOp gAdd (mOp gIx (mOp gIx (mVar 3) (mVar 12)) (mC (.int 1))) (mC (.int 1))) aNil))) (mSl (mVar 9) (oSome (mOp gAdd (mVar 12) (mC (.int 1)))) oNone)))
    (sSeq (sSet 15 (mOp gAdd (mOp gAdd (mSl (mVar 9) oNone (oSome (mVar 12))) (mTup (aCons (mOp gSub (mOp gIx (mOp gIx (mVar 3) (mVar 12)) (mC (.int 0))) (mC (.int 1))) aNil))) (mSl (mVar 9) (oSome (mOp gAdd (mVar 12) (mC (.int 1)))) oNone)))
    (sIf (bOr (asB (mOp gIsNT (mCall 2 F_fits (aCons (mVar 3) (aCons (mVar 14) aNil))) (mC (.bool false)))) (asB (mOp gIsNT (mCall 2 F_fits (aCons (mVar 3) (aCons (mVar 15) aNil))) (mC (.bool false))))) (sRet (mC (.bool false))) sNx)))))))))))
def B__law_span_right : SM :=
    (sSeq (sAsg (mCall 3 F_span (aCons (mVar 1) (aCons (mVar 2) (aCons (mVar 3) aNil)))) (gTp 2 (gsCons (gNm 4) (gsCons (gNm 5) gsNil))))
    (sSeq (sIf (asB (mOp gNe (mTup (aCons (mVar 4) (aCons (mVar 5) aNil))) (mTup (aCons (mCall 3 F__law_least (aCons (mVar 1) (aCons (mVar 2) (aCons (mVar 3) aNil)))) (aCons (mCall 2 F__law_worth (aCons (mVar 1) (aCons (mVar 2) aNil))) aNil))))) (sRet (mC (.bool false))) sNx)
    (sSeq (sPar 6 7 (aCons (mCl cTup (aCons (mComp (iSeq (mVar 3)) (gTp 2 (gsCons (gNm 16) (gsCons (gNm 17) gsNil))) bYes (mVar 16) [16, 17]) aNil)) (aCons (mCl cTup (aCons (mComp (iSeq (mVar 3)) (gTp 2 (gsCons (gNm 16) (gsCons (gNm 17) gsNil))) bYes (mVar 17) [16, 17]) aNil)) aNil)))
    (sSeq (sIf (asB (mOp gNe (mCall 2 F__law_worth (aCons (mVar 1) (aCons (mComp (iSeq (mCall 3 F_got (aCons (mVar 1) (aCons (mVar 2) (aCons (mVar 6) aNil))))) (gNm 18) bYes (mTup (aCons (mC (.int 0)) (aCons (mVar 18) aNil))) [18]) aNil))) (mVar 4))) (sRet (mC (.bool false))) sNx)
    (sSeq (sIf (asB (mOp gNe (mCall 3 F_got (aCons (mVar 1) (aCons (mVar 2) (aCons (mVar 7) aNil)))) (mCl cSorted (aCons (mComp (iSeq (mVar 2)) (gTp 2 (gsCons (gNm 19) (gsCons (gNm 18) gsNil))) bYes (mVar 18) [19, 18]) aNil)))) (sRet (mC (.bool false))) sNx)
    (sSeq (sFor (iRng1 (mC (.int 4))) (gNm 8) (L__law_span_right_0))
    (sRet (mC (.bool true)))))))))
def P__law_span_right : List PyData → List PyData → Option (PyData × List PyData) := runD 20 (B__law_span_right)
def F__law_span_right : Fn := deckF (P__law_span_right)
/-- _law_eased: 0 deck, 1 season, 2 asks, 3 weather, 4 at, 5 slot, 6 ask, 7 spot, 8 some, 9 found, 10 low, 11 high, 12 better, 13 nights, 14 one_tool, 15 extra, 16 one, 17 first, 18 last -/
def B__law_eased : SM :=
    (sSeq (sAsg (mTup (aCons (mCall 2 F__law_pick (aCons (mVar 0) (aCons (mCl cLen (aCons (mVar 2) aNil)) aNil))) (aCons (mCall 2 F__law_pick (aCons (mVar 0) (aCons (mC (.int 24)) aNil))) aNil))) (gTp 2 (gsCons (gNm 4) (gsCons (gNm 5) gsNil))))
    (sSeq (sSet 6 (mOp gIx (mVar 2) (mVar 4)))
    (sSeq (sSet 7 (mTup (aCons (mOp gIx (mOp gIx (mVar 6) (mC (.int 2))) (mC (.int 0))) (aCons (mCl cMin2 (aCons (mC (.int 30)) (aCons (mOp gAdd (mOp gAdd (mOp gIx (mOp gIx (mVar 6) (mC (.int 2))) (mC (.int 1))) (mC (.int 1))) (mCall 2 F__law_pick (aCons (mVar 0) (aCons (mC (.int 9)) aNil)))) aNil))) aNil))))
    (sSeq (sSet 8 (mLst (aCons (mOp gAdd (mOp gAdd (mSl (mVar 6) oNone (oSome (mC (.int 2)))) (mTup (aCons (mVar 7) aNil))) (mSl (mVar 6) (oSome (mC (.int 3))) oNone)) (aCons (mOp gAdd (mOp gAdd (mSl (mVar 6) oNone (oSome (mC (.int 5)))) (mTup (aCons (mCl cMax2 (aCons (mC (.int 0)) (aCons (mOp gSub (mOp gIx (mVar 6) (mC (.int 5))) (mC (.int 1))) aNil))) aNil))) (mSl (mVar 6) (oSome (mC (.int 6))) oNone)) aNil))))
    (sSeq (sSet 8 (mOp gAdd (mVar 8) (mLst (aCons (mOp gAdd (mOp gAdd (mSl (mVar 6) oNone (oSome (mC (.int 4)))) (mTup (aCons (mCl cMax2 (aCons (mC (.int 1)) (aCons (mOp gSub (mOp gIx (mVar 6) (mC (.int 4))) (mC (.int 1))) aNil))) aNil))) (mSl (mVar 6) (oSome (mC (.int 5))) oNone)) aNil))))
    (sSeq (sSet 9 (mComp (iSeq (mVar 8)) (gNm 16) bYes (mTup (aCons (mVar 1) (aCons (mOp gAdd (mOp gAdd (mSl (mVar 2) oNone (oSome (mVar 4))) (mTup (aCons (mVar 16) aNil))) (mSl (mVar 2) (oSome (mOp gAdd (mVar 4) (mC (.int 1)))) oNone)) (aCons (mVar 3) aNil)))) [16]))
    (sSeq (sAsg (mOp gIx (mVar 3) (mVar 5)) (gTp 2 (gsCons (gNm 10) (gsCons (gNm 11) gsNil))))
    (sSeq (sSet 12 (mOp gAdd (mOp gAdd (mSl (mVar 3) oNone (oSome (mVar 5))) (mTup (aCons (mTup (aCons (mVar 10) (aCons (mCl cMin2 (aCons (mC (.int 9)) (aCons (mOp gAdd (mVar 11) (mC (.int 1))) aNil))) aNil))) aNil))) (mSl (mVar 3) (oSome (mOp gAdd (mVar 5) (mC (.int 1)))) oNone)))
    (sSeq (sSet 13 (mCl cTup (aCons (mComp (iSeq (mOp gIx (mVar 1) (mC (.int 1)))) (gTp 2 (gsCons (gNm 17) (gsCons (gNm 18) gsNil))) bYes (mTup (aCons (mCl cMax2 (aCons (mC (.int 0)) (aCons (mOp gSub (mVar 17) (mC (.int 1))) aNil))) (aCons (mCl cMin2 (aCons (mC (.int 23)) (aCons (mOp gAdd (mVar 18) (mC (.int 1))) aNil))) aNil))) [17, 18]) aNil)))
    (sSeq (sSet 14 (mCl cTup (aCons (mComp (iSeq (mVar 2)) (gNm 16) bYes (mOp gAdd (mOp gAdd (mSl (mVar 16) oNone (oSome (mC (.int 3)))) (mTup (aCons (mC (.str "cam")) aNil))) (mSl (mVar 16) (oSome (mC (.int 4))) oNone)) [16]) aNil)))
    (sSeq (sSet 15 (mOp gAdd (mVar 2) (mTup (aCons (mTup (aCons (mC (.str "zz")) (aCons (mC (.str "hut")) (aCons (mTup (aCons (mCall 2 F__law_pick (aCons (mVar 0) (aCons (mC (.int 60)) aNil))) (aCons (mC (.int 9)) aNil))) (aCons (mC (.str "eye")) (aCons (mC (.int 1)) (aCons (mC (.int 0)) (aCons (mC (.int 1)) aNil)))))))) aNil))))
    (sSeq (sSet 9 (mOp gAdd (mVar 9) (mLst (aCons (mTup (aCons (mVar 1) (aCons (mVar 2) (aCons (mVar 12) aNil)))) (aCons (mTup (aCons (mTup (aCons (mOp gIx (mVar 1) (mC (.int 0))) (aCons (mVar 13) aNil))) (aCons (mVar 2) (aCons (mVar 3) aNil)))) aNil)))))
    (sRet (mOp gAdd (mVar 9) (mLst (aCons (mTup (aCons (mVar 1) (aCons (mVar 14) (aCons (mVar 3) aNil)))) (aCons (mTup (aCons (mVar 1) (aCons (mVar 15) (aCons (mVar 3) aNil)))) aNil)))))))))))))))))
def P__law_eased : List PyData → List PyData → Option (PyData × List PyData) := runD 19 (B__law_eased)
def F__law_eased : Fn := deckF (P__law_eased)
/-! _law_led_on: 0 season, 1 asks, 2 weather, 3 slots, 4 first, 5 last, 6 later, 7 one, 8 spot, 9 air -/
def L__law_led_on_0 : SM :=
    (sSeq (sSet 8 (mTup (aCons (mOp gMod (mOp gAdd (mOp gIx (mOp gIx (mVar 7) (mC (.int 2))) (mC (.int 0))) (mOp gMul (mC (.int 2)) (mVar 3))) (mC (.int 60))) (aCons (mOp gIx (mOp gIx (mVar 7) (mC (.int 2))) (mC (.int 1))) aNil))))
    (sExpr (mApp (mVar 6) (mOp gAdd (mOp gAdd (mSl (mVar 7) oNone (oSome (mC (.int 2)))) (mTup (aCons (mVar 8) aNil))) (mSl (mVar 7) (oSome (mC (.int 3))) oNone)))))
def B__law_led_on : SM :=
    (sSeq (sAsg (mOp gIx (mOp gIx (mVar 0) (mC (.int 1))) (mC (.int 0))) (gTp 2 (gsCons (gNm 4) (gsCons (gNm 5) gsNil))))
    (sSeq (sSet 6 (mLstC aNil))
    (sSeq (sFor (iSeq (mVar 1)) (gNm 7) (L__law_led_on_0))
    (sSeq (sSet 9 (mOp gAdd (mOp gMul (mTup (aCons (mTup (aCons (mC (.int 0)) (aCons (mC (.int 0)) aNil))) aNil)) (mVar 3)) (mSl (mVar 2) oNone (oSome (mOp gSub (mC (.int 24)) (mVar 3))))))
    (sRet (mTup (aCons (mTup (aCons (mOp gIx (mVar 0) (mC (.int 0))) (aCons (mTup (aCons (mTup (aCons (mOp gAdd (mVar 4) (mVar 3)) (aCons (mOp gAdd (mVar 5) (mVar 3)) aNil))) aNil)) aNil))) (aCons (mCl cTup (aCons (mVar 6) aNil)) (aCons (mVar 9) aNil)))))))))
def P__law_led_on : List PyData → Option PyData := runP 10 (B__law_led_on)
def F__law_led_on : Fn := pureF (P__law_led_on)
/-! lots: 0 runs, 1 found, 2 run, 3 lot -/
def L_lots_0 : SM :=
    (sAugL 1 (mCompC (mVar 1) (gNm 3) bYes (mOp gAdd (mVar 3) (mTup (aCons (mVar 2) aNil))) [3]))
def B_lots : SM :=
    (sSeq (sSet 1 (mLstC (aCons (mTup aNil) aNil)))
    (sSeq (sFor (iSeq (mVar 0)) (gNm 2) (L_lots_0))
    (sRet (mVar 1))))
def P_lots : List PyData → Option PyData := runP 4 (B_lots)
def F_lots : Fn := pureF (P_lots)
/-! mended: 0 season, 1 night, 2 asks, 3 weather, 4 plan, 5 urgent, 6 now, 7 by, 8 table, 9 begun, 10 later, 11 best, 12 slot, 13 lot, 14 runs, 15 kept, 16 here, 17 names, 18 run, 19 begin, 20 name -/
def L_mended_0 : SM :=
    (sSeq (sSet 14 (mCl cTup (aCons (mCl cSorted (aCons (mOp gAdd (mOp gAdd (mVar 9) (mVar 13)) (mTup (aCons (mTup (aCons (mVar 12) (aCons (mOp gIx (mVar 5) (mC (.int 0))) aNil))) aNil))) aNil)) aNil)))
    (sIf (asB (mCall 1 F_are_apart (aCons (mComp (iSeq (mVar 14)) (gTp 2 (gsCons (gNm 19) (gsCons (gNm 20) gsNil))) bYes (mTup (aCons (mVar 19) (aCons (mOp gIx (mVar 8) (mVar 20)) aNil))) [19, 20]) aNil))) (sSeq (sSet 15 (mCl cSum (aCons (mComp (iSeq (mVar 13)) (gTp 2 (gsCons (gNm 19) (gsCons (gNm 20) gsNil))) bYes (mOp gIx (mOp gIx (mVar 8) (mVar 20)) (mC (.int 6))) [19, 20]) aNil)))
    (sSeq (sSet 16 (mTup (aCons (mNeg (mVar 15)) (aCons (mVar 14) aNil))))
    (sSet 11 (mIf (asB (mOp gIs (mVar 11) (mC .none))) (mVar 16) (mCl cMinT (aCons (mVar 11) (aCons (mVar 16) aNil))))))) sNx))
def L_mended_1 : SM :=
    (sFor (iSeq (mIf (asB (mChain gLe gLe (mVar 6) (mVar 12) (mVar 7))) (mCall 1 F_lots (aCons (mVar 10) aNil)) (mLst aNil))) (gNm 13) (L_mended_0))
def B_mended : SM :=
    (sSeq (sSet 8 (mCall 1 F_table_of (aCons (mOp gAdd (mVar 2) (mTup (aCons (mVar 5) aNil))) aNil)))
    (sSeq (sSet 9 (mCl cTup (aCons (mComp (iSeq (mVar 4)) (gNm 18) (asB (mOp gLt (mOp gIx (mVar 18) (mC (.int 0))) (mVar 6))) (mVar 18) [18]) aNil)))
    (sSeq (sSet 10 (mComp (iSeq (mVar 4)) (gNm 18) (asB (mOp gGe (mOp gIx (mVar 18) (mC (.int 0))) (mVar 6))) (mVar 18) [18]))
    (sSeq (sSet 11 (mC .none))
    (sSeq (sFor (iSeq (mCall 4 F_begins (aCons (mVar 0) (aCons (mVar 1) (aCons (mVar 5) (aCons (mVar 3) aNil)))))) (gNm 12) (L_mended_1))
    (sSeq (sIf (asB (mOp gIs (mVar 11) (mC .none))) (sRet (mC .none)) sNx)
    (sSeq (sSet 17 (mComp (iSeq (mOp gIx (mVar 11) (mC (.int 1)))) (gTp 2 (gsCons (gNm 19) (gsCons (gNm 20) gsNil))) bYes (mVar 20) [19, 20]))
    (sRet (mTup (aCons (mOp gIx (mVar 11) (mC (.int 1))) (aCons (mCl cSorted (aCons (mComp (iSeq (mVar 10)) (gTp 2 (gsCons (gNm 19) (gsCons (gNm 20) gsNil))) (asB (mOp gNin (mVar 20) (mVar 17))) (mVar 20) [19, 20]) aNil)) aNil)))))))))))
def P_mended : List PyData → Option PyData := runP 21 (B_mended)
def F_mended : Fn := pureF (P_mended)
/-! _law_lots: 0 some, 1 found, 2 one, 3 lot -/
def L__law_lots_0 : SM :=
    (sSet 1 (mOp gAdd (mVar 1) (mComp (iSeq (mVar 1)) (gNm 3) bYes (mOp gAdd (mVar 3) (mTup (aCons (mVar 2) aNil))) [3])))
def B__law_lots : SM :=
    (sSeq (sSet 1 (mLst (aCons (mTup aNil) aNil)))
    (sSeq (sFor (iSeq (mVar 0)) (gNm 2) (L__law_lots_0))
    (sRet (mVar 1))))
def P__law_lots : List PyData → Option PyData := runP 4 (B__law_lots)
def F__law_lots : Fn := pureF (P__law_lots)
/-! _law_due: 0 season, 1 night, 2 asks, 3 weather, 4 plan, 5 urgent, 6 now, 7 by, 8 begun, 9 best, 10 lot, 11 slot, 12 runs, 13 here, 14 run -/
def L__law_due_0 : SM :=
    (sSeq (sSet 12 (mCl cTup (aCons (mCl cSorted (aCons (mOp gAdd (mOp gAdd (mVar 8) (mVar 10)) (mTup (aCons (mTup (aCons (mVar 11) (aCons (mOp gIx (mVar 5) (mC (.int 0))) aNil))) aNil))) aNil)) aNil)))
    (sIf (asB (mCall 5 F_is_plan (aCons (mVar 0) (aCons (mVar 1) (aCons (mCl cTup (aCons (mCl cSorted (aCons (mOp gAdd (mVar 2) (mTup (aCons (mVar 5) aNil))) aNil)) aNil)) (aCons (mVar 3) (aCons (mVar 12) aNil))))))) (sSeq (sSet 13 (mTup (aCons (mOp gSub (mC (.int 0)) (mCall 2 F__law_worth (aCons (mVar 2) (aCons (mVar 10) aNil)))) (aCons (mVar 12) aNil))))
    (sSet 9 (mIf (asB (mOp gIs (mVar 9) (mC .none))) (mVar 13) (mCl cMinT (aCons (mVar 9) (aCons (mVar 13) aNil)))))) sNx))
def L__law_due_1 : SM :=
    (sFor (iRng2 (mVar 6) (mOp gAdd (mVar 7) (mC (.int 1)))) (gNm 11) (L__law_due_0))
def B__law_due : SM :=
    (sSeq (sSet 8 (mCl cTup (aCons (mComp (iSeq (mVar 4)) (gNm 14) (asB (mOp gLt (mOp gIx (mVar 14) (mC (.int 0))) (mVar 6))) (mVar 14) [14]) aNil)))
    (sSeq (sSet 9 (mC .none))
    (sSeq (sFor (iSeq (mCall 1 F__law_lots (aCons (mComp (iSeq (mVar 4)) (gNm 14) (asB (mOp gGe (mOp gIx (mVar 14) (mC (.int 0))) (mVar 6))) (mVar 14) [14]) aNil))) (gNm 10) (L__law_due_1))
    (sRet (mVar 9)))))
def P__law_due : List PyData → Option PyData := runP 15 (B__law_due)
def F__law_due : Fn := pureF (P__law_due)
/-- _law_urgent: 0 deck, 1 first, 2 last, 3 at, 4 spot, 5 tool, 6 long -/
def B__law_urgent : SM :=
    (sSeq (sSet 3 (mOp gMod (mOp gMul (mC (.int 2)) (mOp gAdd (mVar 1) (mCall 2 F__law_pick (aCons (mVar 0) (aCons (mOp gAdd (mOp gSub (mVar 2) (mVar 1)) (mC (.int 1))) aNil))))) (mC (.int 60))))
    (sSeq (sSet 4 (mTup (aCons (mVar 3) (aCons (mOp gIx (mLst (aCons (mC (.int 8)) (aCons (mC (.int 30)) (aCons (mCall 2 F__law_pick (aCons (mVar 0) (aCons (mC (.int 31)) aNil))) aNil)))) (mCall 2 F__law_pick (aCons (mVar 0) (aCons (mC (.int 3)) aNil)))) aNil))))
    (sSeq (sPar 5 6 (aCons (mOp gIx (mLst (aCons (mC (.str "cam")) (aCons (mC (.str "eye")) aNil))) (mCall 2 F__law_pick (aCons (mVar 0) (aCons (mC (.int 2)) aNil)))) (aCons (mOp gAdd (mC (.int 1)) (mCall 2 F__law_pick (aCons (mVar 0) (aCons (mC (.int 4)) aNil)))) aNil)))
    (sRet (mTup (aCons (mC (.str "mm")) (aCons (mC (.str "hut")) (aCons (mVar 4) (aCons (mVar 5) (aCons (mVar 6) (aCons (mCall 2 F__law_pick (aCons (mVar 0) (aCons (mC (.int 6)) aNil))) (aCons (mOp gAdd (mC (.int 1)) (mCall 2 F__law_pick (aCons (mVar 0) (aCons (mC (.int 9)) aNil)))) aNil))))))))))))
def P__law_urgent : List PyData → List PyData → Option (PyData × List PyData) := runD 7 (B__law_urgent)
def F__law_urgent : Fn := deckF (P__law_urgent)
end
end KK
end
section
/-! Math1: decks, seasons, what is up and dark. -/
namespace KK
open PySem PySem.Spec PyProof.Rows L2 Sky
/-- a deck: three numbers, the third of at most c -/
def DK (c : Nat) (dk : List PyData) : Prop := ∃ a b t : Int, dk = [.int a, .int b, .int t] ∧ 0 ≤ b ∧ b < 2147483579 ∧ 0 ≤ t ∧ t ≤ c
theorem DK.mono {c c' : Nat} {dk : List PyData} (h : DK c dk) (l : c ≤ c') : DK c' dk := by
  obtain ⟨a, b, t, e, h1, h2, h3, h4⟩ := h
  exact ⟨a, b, t, e, h1, h2, h3, by omega⟩
set_option maxHeartbeats 1000000
theorem deck_eq (cell turn : Int) (S : Store) : F__law_deck [.d (.int cell), .d (.int turn)] S = .ok (.r S.length) (S ++ [.lst [.int (if 1000000000000000000 ≤ cell then cell - 1000000000000000000 else 0), .int (cell % 2147483579), .int turn]]) := by
  by_cases h : 1000000000000000000 ≤ cell
  · simp (disch := omega) [F__law_deck, runF_ap, B__law_deck, h]
  · simp (disch := omega) [F__law_deck, runF_ap, B__law_deck, h]
theorem deck_DK (cell : Int) : DK 1 [.int (if 1000000000000000000 ≤ cell then cell - 1000000000000000000 else 0), .int (cell % 2147483579), .int 1] :=
  ⟨_, _, _, rfl, Int.emod_nonneg _ (by decide), Int.emod_lt_of_pos _ (by decide), by decide, by decide⟩
theorem pick_ok {c : Nat} {dk : List PyData} {lim : Int} (h : DK c dk) (hc : c ≤ 1000000000) (h1 : 1 ≤ lim) (h2 : lim ≤ 1000000) : ∃ (v : Int) (dk' : List PyData), P__law_pick dk [.int lim] = some (.int v, dk') ∧ 0 ≤ v ∧ v < lim ∧ DK (c + 1) dk' := by
  obtain ⟨a, b, t, rfl, hb0, hb1, ht0, ht1⟩ := h
  by_cases ha : 1 < a
  · refine ⟨a % lim, [.int (a / lim), .int b, .int t], ?_, Int.emod_nonneg _ (by omega), Int.emod_lt_of_pos _ (by omega), a / lim, b, t, rfl, hb0, hb1, ht0, by omega⟩
    simp (disch := omega) [P__law_pick, runD_ap, B__law_pick, ha]
  · have hm := Int.emod_nonneg ((b + 15485867 * (t + 1)) ^ 5) (show (2147483647 : Int) ≠ 0 by decide)
    have hm2 := Int.emod_lt_of_pos ((b + 15485867 * (t + 1)) ^ 5) (show (0 : Int) < 2147483647 by decide)
    generalize hn : (b + 15485867 * (t + 1)) ^ 5 % 2147483647 = n at hm hm2
    refine ⟨((n + 7919 * (t + 1)) ^ 3 % 2147483629 / 32) % lim, [.int a, .int b, .int (t + 1)], ?_, Int.emod_nonneg _ (by omega), Int.emod_lt_of_pos _ (by omega), a, b, t + 1, rfl, hb0, hb1, by omega, by omega⟩
    have h2' : ¬ (1000000 < lim) := by omega
    simp (disch := omega) [P__law_pick, runD_ap, B__law_pick, ha, hn, h2']
theorem p_middle (turn : Int) (rest : PyData) (n s : Int) (h : -1000000 < turn ∧ turn < 1000000) : P_middle [.tuple [.int turn, rest], .int n, .int s] = some (.int ((turn * n + 2 * s) % 60)) := by
  simp (disch := omega) [P_middle, runP_ap, B_middle]
/-- how far from m to a round the ring -/
def rd (a m : Int) : Int := if 60 - (if a - m < 0 then -(a - m) else a - m) < (if a - m < 0 then -(a - m) else a - m) then 60 - (if a - m < 0 then -(a - m) else a - m) else (if a - m < 0 then -(a - m) else a - m)
def isUp (t a r n s : Int) : Bool := decide (rd a ((t * n + 2 * s) % 60) ≤ r)
theorem p_is_up (turn : Int) (rest : PyData) (a r n s : Int) (h : -1000000 < turn ∧ turn < 1000000) : P_is_up [.tuple [.int turn, rest], .tuple [.int a, .int r], .int n, .int s] = some (.bool (isUp turn a r n s)) := by
  simp (disch := omega) [P_is_up, runP_ap, B_is_up, F_middle, p_middle _ _ _ _ h, isUp, rd]
  exact decide_eq_decide.mpr Iff.rfl
def encP (p : Int × Int) : PyData := .tuple [.int p.1, .int p.2]
theorem p_is_dark (turn : PyData) (ns : List (Int × Int)) (p : Int × Int) (n s : Int) (h0 : 0 ≤ n) (h : ns[n.toNat]? = some p) : P_is_dark [.tuple [turn, .tuple (ns.map encP)], .int n, .int s] = some (.bool (decide (p.1 ≤ s) && decide (s ≤ p.2))) := by
  by_cases hp : p.1 ≤ s <;> simp (disch := omega) [P_is_dark, runP_ap, B_is_dark, h, encP, hp]
theorem p__law_dark (turn : PyData) (ns : List (Int × Int)) (p : Int × Int) (n s : Int) (h0 : 0 ≤ n) (h : ns[n.toNat]? = some p) : P__law_dark [.tuple [turn, .tuple (ns.map encP)], .int n, .int s] = some (.bool (decide (p.1 ≤ s) && decide (s ≤ p.2))) := by
  by_cases hp : p.1 ≤ s <;> simp (disch := omega) [P__law_dark, runP_ap, B__law_dark, h, encP, hp]
theorem up_iff {t a r n s : Int} (ha : 0 ≤ a ∧ a < 60) (hr : 0 ≤ r) : isUp t a r n s = true ↔ ∃ k : Nat, k < (r + 1).toNat ∧ (((t * n + s + s) % 60 + k) % 60 = a ∨ (a + k) % 60 = (t * n + s + s) % 60) := by
  have e : t * n + 2 * s = t * n + s + s := by omega
  unfold isUp rd
  rw [e]
  have h1 := Int.emod_nonneg (t * n + s + s) (show (60 : Int) ≠ 0 by decide)
  have h2 := Int.emod_lt_of_pos (t * n + s + s) (show (0 : Int) < 60 by decide)
  generalize (t * n + s + s) % 60 = m at h1 h2
  rw [decide_eq_true_iff]
  constructor
  · intro h
    by_cases c : a - m < 0
    · simp only [c, if_true] at h
      by_cases c2 : 60 - -(a - m) < -(a - m)
      · refine ⟨(60 - -(a - m)).toNat, ?_, ?_⟩ <;> split at h <;> omega
      · refine ⟨(m - a).toNat, ?_, ?_⟩ <;> split at h <;> omega
    · simp only [c, if_false] at h
      by_cases c2 : 60 - (a - m) < (a - m)
      · refine ⟨(60 - (a - m)).toNat, ?_, ?_⟩ <;> split at h <;> omega
      · refine ⟨(a - m).toNat, ?_, ?_⟩ <;> split at h <;> omega
  · rintro ⟨k, hk, h⟩
    split <;> split <;> omega
theorem p__law_up {t : Int} {rest : PyData} {a r n s : Int} (h : -1000000 < t ∧ t < 1000000) (ha : 0 ≤ a ∧ a < 60) (hr : 0 ≤ r ∧ r < 1000) : P__law_up [.tuple [.int t, rest], .tuple [.int a, .int r], .int n, .int s] = some (.bool (isUp t a r n s)) := by
  have U := up_iff (t := t) (n := n) (s := s) ha hr.1
  simp (disch := omega) [P__law_up, runP_ap, B__law_up]
  generalize (t * n + s + s) % 60 = m at U
  refine forR_inv (R := fun q => endP (q.seq (sRet (mC (.bool false)))) = some (.bool (isUp t a r n s))) (fun i ρ S => (∃ o, ρ = [some (.d (.tuple [.int t, rest])), some (.d (.tuple [.int a, .int r])), some (.d (.int n)), some (.d (.int s)), some (.d (.int m)), o]) ∧ S = [] ∧ ∀ k < i, ¬ ((m + (k : Nat)) % 60 = a ∨ (a + (k : Nat)) % 60 = m)) ⟨⟨_, rfl⟩, rfl, fun k hk => absurd hk (by omega)⟩ ?_ ?_
  · rintro i ρ S hi ⟨⟨o, rfl⟩, rfl, hk⟩
    refine ⟨_, gNm_ap _ _, ?_⟩
    by_cases c1 : (m + i) % 60 = a
    · have : isUp t a r n s = true := U.mpr ⟨i, hi, .inl c1⟩
      simp (disch := omega) [L__law_up_0, c1, this]
    · by_cases c2 : (a + i) % 60 = m
      · have : isUp t a r n s = true := U.mpr ⟨i, hi, .inr c2⟩
        simp (disch := omega) [L__law_up_0, c1, c2, this]
      · simp (disch := omega) [L__law_up_0, c1, c2]
        intro k hk2
        rcases Nat.lt_succ_iff_lt_or_eq.mp hk2 with h3 | rfl
        · have := hk k h3; omega
        · omega
  · rintro ρ S ⟨⟨o, rfl⟩, rfl, hk⟩
    have : isUp t a r n s = false := by
      rw [Bool.eq_false_iff]
      intro h
      obtain ⟨k, h1, h2⟩ := U.mp h
      exact hk k h1 h2
    simp [this]
/-- the nights of a season -/
def NG (ns : List (Int × Int)) : Prop := ∀ p ∈ ns, 0 ≤ p.1 ∧ p.1 ≤ p.2 ∧ p.2 ≤ 23
theorem season_ok {c : Nat} {dk : List PyData} {most : Int} (h : DK c dk) (hc : c ≤ 100000000) (h1 : 1 ≤ most) (h2 : most ≤ 1000) : ∃ (t : Int) (ns : List (Int × Int)) (dk' : List PyData),
    P__law_season dk [.int most] = some (.tuple [.int t, .tuple (ns.map encP)], dk') ∧ 0 ≤ t ∧ t < 60 ∧ 1 ≤ ns.length ∧ ns.length ≤ most ∧ NG ns ∧ DK (c + 5000) dk' := by
  obtain ⟨v, dk1, e1, hv0, hv1, hd1⟩ := pick_ok h (by omega) h1 (by omega)
  suffices H : ∃ (t : Int) (ns : List (Int × Int)) (dk' : List PyData), P__law_season dk [.int most] = some (.tuple [.int t, .tuple (ns.map encP)], dk') ∧ 0 ≤ t ∧ t < 60 ∧ ns.length = (1 + v).toNat ∧ NG ns ∧ DK (c + 5000) dk' by
    obtain ⟨t, ns, dk', g1, g2, g3, g4, g5, g6⟩ := H
    exact ⟨t, ns, dk', g1, g2, g3, by omega, by omega, g5, g6⟩
  simp (disch := omega) [P__law_season, runD_ap, B__law_season, e1, F__law_pick]
  generalize hq : forL _ _ _ _ _ = q
  suffices H : ∃ (ns : List (Int × Int)) (dk2 : List PyData) (o3 o4 : Option D), q = .nx [some (.r 0), some (.d (.int most)), some (.r 1), o3, o4] [.lst dk2, .lst (ns.map encP)] ∧ ns.length = (1 + v).toNat ∧ NG ns ∧ DK (c + 1 + 4 * (1 + v).toNat) dk2 by
    obtain ⟨ns, dk2, o3, o4, rfl, hl, hn, hd2⟩ := H
    obtain ⟨v3, dk3, e3, hv30, hv31, hd3⟩ := pick_ok hd2 (lim := 60) (by omega) (by omega) (by omega)
    obtain ⟨v4, dk4, e4, hv40, hv41, hd4⟩ := pick_ok hd3 (lim := 4) (by omega) (by omega) (by omega)
    have hlen : ns.length ≤ 16777216 := by omega
    refine ⟨if v4 = 0 then 0 else if v4 = 1 then 1 else if v4 = 2 then 59 else v3, ns, dk4, ?_, by split <;> (try split) <;> (try split) <;> omega, by split <;> (try split) <;> (try split) <;> omega, hl, hn, hd4.mono (by omega)⟩
    simp (disch := omega) [F__law_pick, e3, e4, hlen]
  rw [← hq]
  obtain ⟨I, hI⟩ := hide fun i ρ S => ∃ (ns : List (Int × Int)) (dk : List PyData) (o3 o4 : Option D), ρ = [some (.r 0), some (.d (.int most)), some (.r 1), o3, o4] ∧ S = [.lst dk, .lst (ns.map encP)] ∧ ns.length = i ∧ NG ns ∧ DK (c + 1 + 4 * i) dk
  refine forR_inv (R := fun q => ∃ (ns : List (Int × Int)) (dk2 : List PyData) (o3 o4 : Option D), q = .nx [some (.r 0), some (.d (.int most)), some (.r 1), o3, o4] [.lst dk2, .lst (ns.map encP)] ∧ ns.length = (1 + v).toNat ∧ NG ns ∧ DK (c + 1 + 4 * (1 + v).toNat) dk2)
    I ?_ ?_ ?_
  · rw [hI]; exact ⟨[], dk1, _, _, rfl, rfl, rfl, fun _ h => absurd h (List.not_mem_nil), hd1⟩
  · intro i ρ S hi h
    rw [hI] at h
    obtain ⟨ns, dk2, o3, o4, rfl, rfl, hl, hn, hd2⟩ := h
    refine ⟨_, gNm_ap _ _, ?_⟩
    obtain ⟨v3, dk3, e3, hv30, hv31, hd3⟩ := pick_ok hd2 (lim := 12) (by omega) (by omega) (by omega)
    obtain ⟨v4, dk4, e4, hv40, hv41, hd4⟩ := pick_ok hd3 (lim := 2) (by omega) (by omega) (by omega)
    have hf : 0 ≤ (if v4 = 0 then 0 else v3) ∧ (if v4 = 0 then 0 else v3) ≤ 11 := by split <;> omega
    generalize hff : (if v4 = 0 then 0 else v3) = first at hf
    obtain ⟨v5, dk5, e5, hv50, hv51, hd5⟩ := pick_ok hd4 (lim := 24 - first) (by omega) (by omega) (by omega)
    obtain ⟨v6, dk6, e6, hv60, hv61, hd6⟩ := pick_ok hd5 (lim := 2) (by omega) (by omega) (by omega)
    have hlen : ns.length < 16777216 := by omega
    simp (disch := omega) [L__law_season_0, F__law_pick, e3, e4, e5, e6, hff, hlen]
    rw [hI]
    refine ⟨ns ++ [(first, if v6 = 0 then 23 else first + v5)], dk6, _, _, rfl, by simp [encP], by simp [hl], ?_, hd6.mono (by omega)⟩
    intro p hp
    rcases List.mem_append.mp hp with hp | hp
    · exact hn p hp
    · rw [List.mem_singleton.mp hp]
      refine ⟨hf.1, ?_, ?_⟩ <;> dsimp only <;> split <;> omega
  · intro ρ S h
    rw [hI] at h
    obtain ⟨ns, dk2, o3, o4, rfl, rfl, hl, hn, hd2⟩ := h
    exact ⟨ns, dk2, o3, o4, rfl, hl, hn, hd2⟩

abbrev enS (t : Int) (ns : List (Int × Int)) : PyData := .tuple [.int t, .tuple (ns.map encP)]
end KK
end
section
/-! Math2: asks, weathers, where an ask may begin. -/
namespace KK
open PySem PySem.Spec PyProof.Rows L2 Sky
set_option maxHeartbeats 1000000
structure Ask where
  nm : Str
  hs : Str
  a : Int
  r : Int
  tl : Str
  long : Nat
  need : Int
  rank : Int
structure Ask.Ok (x : Ask) : Prop where
  a : 0 ≤ x.a ∧ x.a < 60
  r : 0 ≤ x.r ∧ x.r ≤ 30
  long : 1 ≤ x.long ∧ x.long ≤ 8
  need : 0 ≤ x.need ∧ x.need ≤ 9
  rank : 1 ≤ x.rank ∧ x.rank ≤ 9
def encA (x : Ask) : PyData := .tuple [.str x.nm, .str x.hs, .tuple [.int x.a, .int x.r], .str x.tl, .int (x.long : Nat), .int x.need, .int x.rank]
abbrev enW (W : List (Int × Int)) : PyData := .tuple (W.map encP)
/-- the sky of one night -/
structure Sky1 where
  t : Int
  n : Nat
  p : Int × Int
  W : List (Int × Int)
structure Sky1.Ok (k : Sky1) : Prop where
  t : -1000000 < k.t ∧ k.t < 1000000
  p : 0 ≤ k.p.1 ∧ k.p.1 ≤ k.p.2 ∧ k.p.2 ≤ 23
  W : k.W.length = 24
def Sky1.dark (k : Sky1) (s : Int) : Bool := decide (k.p.1 ≤ s) && decide (s ≤ k.p.2)
def Sky1.high (k : Sky1) (s : Nat) : Int := (k.W.getD s (0, 0)).2
def Sky1.low (k : Sky1) (s : Nat) : Int := (k.W.getD s (0, 0)).1
def Sky1.good (k : Sky1) (x : Ask) (s : Nat) : Bool := k.dark s && isUp k.t x.a x.r k.n s && decide (x.need ≤ k.high s)
def Sky1.may (k : Sky1) (x : Ask) (s : Nat) : Bool := (List.range x.long).all fun i => k.good x (s + i)
theorem p_slots_of (x : Ask) (s : Nat) (hx : x.Ok) (hs : s ≤ 1000) : P_slots_of [encA x, .int (s : Nat)] = some (.list (rng s x.long)) := by
  have := hx.long
  have e : ((s : Int) + x.long - s).toNat = x.long := by omega
  simp (disch := omega) [P_slots_of, runP_ap, B_slots_of, encA, e]
theorem high_at {k : Sky1} (hk : k.Ok) {s : Nat} (h : s < 24) : k.W[s]? = some (k.low s, k.high s) := by
  have : s < k.W.length := by rw [hk.W]; exact h
  unfold Sky1.low Sky1.high
  rw [List.getD_eq_getElem?_getD, List.getElem?_eq_getElem this]
  rfl
theorem p_may_begin {k : Sky1} {ns : List (Int × Int)} {x : Ask} (hk : k.Ok) (hn : ns[k.n]? = some k.p) (hx : x.Ok) (s : Nat) (hs : s ≤ 1000) : P_may_begin [enS k.t ns, .int (k.n : Nat), encA x, enW k.W, .int (s : Nat)] = some (.bool (k.may x s)) := by
  have e1 := p_slots_of x s hx hs
  simp (disch := omega) [P_may_begin, runP_ap, B_may_begin, F_slots_of, e1, -getElem?_pos]
  obtain ⟨I, hI⟩ := hide fun i ρ S => (∃ o, ρ = [some (.d (enS k.t ns)), some (.d (.int (k.n : Nat))), some (.d (encA x)), some (.d (enW k.W)), some (.d (.int (s : Nat))), o]) ∧ S = [] ∧ ∀ j < i, k.good x (s + j) = true
  refine forR_inv (R := fun q => endP (q.seq (sRet (mC (.bool true)))) = some (.bool (k.may x s))) I ?_ ?_ ?_
  · rw [hI]; exact ⟨⟨_, rfl⟩, rfl, fun j h => absurd h (by omega)⟩
  · intro i ρ S hi h
    rw [hI] at h
    obtain ⟨⟨o, rfl⟩, rfl, hg⟩ := h
    refine ⟨_, gNm_ap _ _, ?_⟩
    have d1 := p_is_dark (.int k.t) ns k.p k.n ((s : Int) + i) (by omega) hn
    have u1 := p_is_up k.t (.tuple (ns.map encP)) x.a x.r k.n ((s : Int) + i) hk.t
    have hx' := hx.long
    have hp := hk.p
    have bad : k.good x (s + i) = false → k.may x s = false := fun z => by
      unfold Sky1.may
      rw [List.all_eq_false]
      exact ⟨i, List.mem_range.mpr hi, by rw [z]; exact Bool.false_ne_true⟩
    have hdef : k.good x (s + i) = (k.dark ((s : Int) + i) && isUp k.t x.a x.r k.n ((s : Int) + i) && decide (x.need ≤ k.high (s + i))) := by
      unfold Sky1.good
      rw [Int.natCast_add]
    have hdk : k.dark ((s : Int) + i) = (decide (k.p.1 ≤ (s : Int) + i) && decide ((s : Int) + i ≤ k.p.2)) := rfl
    rw [← hdk] at d1
    cases hd : k.dark ((s : Int) + i) with
    | false =>
      rw [hd] at d1 hdef
      simp (disch := omega) [L_may_begin_0, F_is_dark, d1, bad (by rw [hdef]; rfl)]
    | true =>
      have hd' := hd
      rw [hdk, Bool.and_eq_true] at hd'
      have h1 := of_decide_eq_true hd'.1
      have h2 := of_decide_eq_true hd'.2
      rw [hd] at d1 hdef
      cases hu : isUp k.t x.a x.r k.n ((s : Int) + i) with
      | false =>
        rw [hu] at u1 hdef
        simp (disch := omega) [L_may_begin_0, F_is_dark, F_is_up, d1, encA, u1, bad (by rw [hdef]; rfl)]
      | true =>
        rw [hu] at u1 hdef
        have e3 : ((s : Int) + i).toNat = s + i := by omega
        have e4 := high_at hk (s := s + i) (by omega)
        by_cases hw : x.need ≤ k.high (s + i)
        · have hw' : ¬ (k.high (s + i) < x.need) := by omega
          simp (disch := omega) [L_may_begin_0, F_is_dark, F_is_up, d1, encA, u1, e3, e4, encP, hw', -getElem?_pos]
          rw [hI]
          refine ⟨⟨_, rfl⟩, rfl, fun j hj => ?_⟩
          rcases Nat.lt_succ_iff_lt_or_eq.mp hj with h | rfl
          · exact hg j h
          · rw [hdef]; simp [hw]
        · have hw' : k.high (s + i) < x.need := by omega
          simp (disch := omega) [L_may_begin_0, F_is_dark, F_is_up, d1, encA, u1, e3, e4, encP, hw', -getElem?_pos, bad (by rw [hdef]; simp [hw])]
  · intro ρ S h
    rw [hI] at h
    obtain ⟨⟨o, rfl⟩, rfl, hg⟩ := h
    have : k.may x s = true := List.all_eq_true.mpr fun j hj => hg j (List.mem_range.mp hj)
    simp [this]
theorem range_part {q : Nat → Bool} {lo n N : Nat} (h : lo + n ≤ N) (h1 : ∀ i, i < lo → q i = false) (h2 : ∀ i, lo + n ≤ i → q i = false) : (List.range N).filter q = ((List.range n).map (lo + ·)).filter q := by
  obtain ⟨m, rfl⟩ : ∃ m, N = lo + (n + m) := ⟨N - (lo + n), by omega⟩
  rw [List.range_add, List.filter_append, List.range_add, List.map_append, List.filter_append]
  have e1 : (List.range lo).filter q = [] := List.filter_eq_nil_iff.mpr fun i hi => by rw [h1 i (List.mem_range.mp hi)]; exact Bool.false_ne_true
  have e2 : (List.map (lo + ·) ((List.range m).map (n + ·))).filter q = [] := List.filter_eq_nil_iff.mpr fun i hi => by
    obtain ⟨j, hj, rfl⟩ := List.mem_map.mp hi
    obtain ⟨l, hl, rfl⟩ := List.mem_map.mp hj
    rw [h2 _ (by omega)]
    exact Bool.false_ne_true
  rw [e1, e2, List.nil_append, List.append_nil]
/-- where x may begin -/
def Sky1.begs (k : Sky1) (x : Ask) : List Nat := (List.range 24).filter (k.may x)
theorem may_dark {k : Sky1} {x : Ask} (hx : x.Ok) {s : Nat} (h : k.may x s = true) {i : Nat} (hi : i < x.long) : k.p.1 ≤ (s : Int) + i ∧ (s : Int) + i ≤ k.p.2 := by
  have := List.all_eq_true.mp h i (List.mem_range.mpr hi)
  unfold Sky1.good Sky1.dark at this
  rw [Bool.and_eq_true, Bool.and_eq_true, Bool.and_eq_true] at this
  have h1 := of_decide_eq_true this.1.1.1
  have h2 := of_decide_eq_true this.1.1.2
  omega
def isMay (k : Sky1) (x : Ask) : PyData → Bool
  | .int s => k.may x s.toNat
  | _ => false
theorem p_begins {k : Sky1} {ns : List (Int × Int)} {x : Ask} (hk : k.Ok) (hn : ns[k.n]? = some k.p) (hx : x.Ok) : P_begins [enS k.t ns, .int (k.n : Nat), encA x, enW k.W] = some (.list ((k.begs x).map fun (s : Nat) => .int (s : Nat))) := by
  obtain ⟨hp0, hp1, hp2⟩ := hk.p
  obtain ⟨lo, hlo⟩ : ∃ lo : Nat, k.p.1 = lo := ⟨k.p.1.toNat, by omega⟩
  obtain ⟨m, hm⟩ : ∃ m : Nat, k.p.2 + 1 = ((lo + m : Nat) : Int) := ⟨(k.p.2 + 1).toNat - lo, by omega⟩
  have e1 : (k.p.2 + 1 - k.p.1).toNat = m := by omega
  have e2 : (rng k.p.1 m).filter (isMay k x) = (k.begs x).map fun (s : Nat) => .int (s : Nat) := by
    unfold Sky1.begs
    rw [range_part (lo := lo) (n := m) (N := 24) (by omega)]
    · unfold rng
      rw [List.filter_map, List.filter_map, List.map_map]
      rw [hlo]
      have : (isMay k x ∘ fun (i : Nat) => PyData.int ((lo : Int) + i)) = (k.may x ∘ fun (y : Nat) => lo + y) := by
        funext i
        show k.may x ((lo : Int) + i).toNat = k.may x (lo + i)
        congr 1
      rw [this]
      apply List.map_congr_left
      intro i _
      show PyData.int ((lo : Int) + i) = .int ((lo + i : Nat) : Int)
      rw [Int.natCast_add]
    · intro i hi
      rw [Bool.eq_false_iff]
      intro z
      have := may_dark hx z (i := 0) hx.long.1
      omega
    · intro i hi
      rw [Bool.eq_false_iff]
      intro z
      have := may_dark hx z (i := 0) hx.long.1
      omega
  have hl : (rng k.p.1 m).length < 16777216 := by rw [rng_length]; omega
  have hc : ∀ o1 o2 o3 o4 : Option D, compL (gNm 6) (asB (mCall 5 F_may_begin (aCons (mVar 0) (aCons (mVar 1) (aCons (mVar 2) (aCons (mVar 3) (aCons (mVar 6) aNil))))))) (mVar 6) [some (.d (enS k.t ns)), some (.d (.int (k.n : Nat))), some (.d (encA x)), some (.d (enW k.W)), o1, o2, none] (rng k.p.1 m) [] = .ok ((k.begs x).map fun (s : Nat) => .int (s : Nat)) [] := by
    intro o1 o2 o3 o4
    rw [compL_pure (isMay k x) (fun z => z), List.map_id', e2]
    intro z hz
    unfold rng at hz
    obtain ⟨i, hi, rfl⟩ := List.mem_map.mp hz
    have hi := List.mem_range.mp hi
    have e3 : k.p.1 + (i : Int) = ((lo + i : Nat) : Int) := by omega
    have e4 := p_may_begin hk hn hx (lo + i) (by omega)
    rw [e3]
    generalize lo + i = s' at e4
    refine ⟨_, gNm_ap _ _, ?_, fun _ => ?_⟩
    · simp (disch := omega) [F_may_begin, e4, isMay]
    · simp
  simp (disch := omega) [P_begins, runP_ap, B_begins, hn, encP, e1, hl, -getElem?_pos]
  rw [hc _ _ none none]
  simp
/-! ### tables by names -/
theorem fold_new (f : Ask → PyData) : ∀ (xs : List Ask) (acc : List (Key × PyData)), (acc.map Prod.fst ++ xs.map fun (x : Ask) => (Sum.inr x.nm : Key)).Nodup → foldP acc (xs.map fun x => .tuple [.str x.nm, f x]) = acc ++ xs.map fun x => (Sum.inr x.nm, f x)
  | [], acc, _ => by simp [foldP]
  | x :: xs, acc, h => by
    have hn : (acc.any fun kv => decide (kv.1 = (Sum.inr x.nm : Key))) = false := by
      rw [Bool.eq_false_iff]
      intro z
      obtain ⟨kv, hkv, he⟩ := List.any_eq_true.mp z
      have he := of_decide_eq_true he
      have := (List.nodup_append.mp h).2.2 kv.1 (List.mem_map.mpr ⟨kv, hkv, rfl⟩) (Sum.inr x.nm) (by simp)
      exact this he
    rw [List.map_cons, foldP]
    have e : putD acc (unKey (.str x.nm)) (f x) = acc ++ [(Sum.inr x.nm, f x)] := by
      show (if acc.any (fun kv => decide (kv.1 = (Sum.inr x.nm : Key))) = true then _ else _) = _
      rw [hn]
      rfl
    rw [e, fold_new f xs _ (by simpa using h)]
    simp
abbrev tab (f : Ask → PyData) (xs : List Ask) : PyData := .dict (xs.map fun x => (.str x.nm, f x))
def Names (xs : List Ask) : Prop := (xs.map (·.nm)).Nodup
theorem dc_tab (f : Ask → PyData) {xs : List Ask} (h : Names xs) : dictD (dcOf (xs.map fun x => .tuple [.str x.nm, f x])) = tab f xs := by
  unfold dcOf
  rw [fold_new f xs [] (by
    show (([] : List Key) ++ xs.map fun (x : Ask) => (Sum.inr x.nm : Key)).Nodup
    have : (([] : List Key) ++ xs.map fun (x : Ask) => (Sum.inr x.nm : Key)) = (xs.map (·.nm)).map Sum.inr := by rw [List.map_map]; rfl
    rw [this]
    exact List.Pairwise.map _ (fun a b hab z => hab (Sum.inr.inj z)) h)]
  unfold dictD tab
  rw [List.nil_append, List.map_map]
  rfl
theorem look_tab (f : Ask → PyData) : ∀ {xs : List Ask}, Names xs → ∀ {x : Ask}, x ∈ xs → dlook (xs.map fun x => (.str x.nm, f x)) (.inr x.nm) = some (f x)
  | [], _, _, h => absurd h (List.not_mem_nil)
  | y :: xs, hn, x, h => by
    unfold Names at hn
    rw [List.map_cons, List.nodup_cons] at hn
    rw [List.map_cons]
    unfold dlook
    rw [List.find?_cons]
    rcases List.mem_cons.mp h with rfl | h
    · have : isKey (.inr x.nm) (.str x.nm) = true := by simp [isKey]
      rw [this]
      rfl
    · have hne : y.nm ≠ x.nm := fun z => hn.1 (List.mem_map.mpr ⟨x, h, z.symm⟩)
      have : isKey (.inr x.nm) (.str y.nm) = false := by simp [isKey, Ne.symm hne]
      rw [this]
      exact look_tab f hn.2 h
theorem look_none (f : Ask → PyData) : ∀ {xs : List Ask} {n : Str}, (∀ x ∈ xs, x.nm ≠ n) → dlook (xs.map fun x => (.str x.nm, f x)) (.inr n) = none
  | [], _, _ => rfl
  | y :: xs, n, h => by
    rw [List.map_cons]
    unfold dlook
    rw [List.find?_cons]
    have : isKey (.inr n) (.str y.nm) = false := by simp [isKey, Ne.symm (h y List.mem_cons_self)]
    rw [this]
    exact look_none f fun x hx => h x (List.mem_cons_of_mem _ hx)
theorem dkeys_tab (f : Ask → PyData) : ∀ xs : List Ask, dkeys (xs.map fun x => (.str x.nm, f x)) = some (xs.map (·.nm))
  | [] => rfl
  | x :: xs => by
    rw [List.map_cons]
    show (dkeys (xs.map fun x => (PyData.str x.nm, f x))).map (x.nm :: ·) = _
    rw [dkeys_tab f xs]
    rfl
/-- a dict comprehension over asks, keyed by their names -/
theorem compL_asks {f : Ask → PyData} {fv : EM} {ρ : Sky.Env} {S : Store} {i : Nat} : ∀ (xs : List Ask), (∀ x ∈ xs, mOp gIx (mVar i) (mC (.int 0)) (ρ.set i (some (.d (encA x)))) S = .ok (.d (.str x.nm)) S ∧ fv (ρ.set i (some (.d (encA x)))) S = .ok (.d (f x)) S) →
    compL (gNm i) bYes (pairM (mOp gIx (mVar i) (mC (.int 0))) fv) ρ (xs.map encA) S = .ok (xs.map fun x => .tuple [.str x.nm, f x]) S
  | [], _ => rfl
  | x :: xs, h => by
    have ih := compL_asks xs fun y hy => h y (List.mem_cons_of_mem _ hy)
    obtain ⟨h1, h2⟩ := h x List.mem_cons_self
    rw [List.map_cons, List.map_cons]
    unfold compL
    simp only [gNm_ap, bYes_ap, pairM_ap, h1, kPair1_ok, h2, kPair2_s, ih]
theorem p_table_of {xs : List Ask} (hn : Names xs) (hl : xs.length ≤ 1000) : P_table_of [.tuple (xs.map encA)] = some (tab encA xs) := by
  have h1 : xs.length < 16777216 := by omega
  have hc := compL_asks (f := encA) (fv := mVar 1) (ρ := [some (.d (.tuple (xs.map encA))), none]) (S := []) (i := 1) xs fun x hx => ⟨by simp (disch := omega) [encA], by simp⟩
  simp (disch := omega) [P_table_of, runP_ap, B_table_of, h1, hc, dc_tab encA hn, -pairM_ap, -mOp_ap]
end KK
end
section
namespace KK
open PySem
@[simp] theorem bs_0 : (Str.ofString "table" == Str.ofString "table") = true := by decide +kernel
@[simp] theorem ne_0_1 : (Str.ofString "table" = Str.ofString "weather") = False := eq_false (by decide +kernel)
@[simp] theorem bn_0_1 : (Str.ofString "table" == Str.ofString "weather") = false := by decide +kernel
@[simp] theorem ne_0_2 : (Str.ofString "table" = Str.ofString "spots") = False := eq_false (by decide +kernel)
@[simp] theorem bn_0_2 : (Str.ofString "table" == Str.ofString "spots") = false := by decide +kernel
@[simp] theorem ne_0_3 : (Str.ofString "table" = Str.ofString "worths") = False := eq_false (by decide +kernel)
@[simp] theorem bn_0_3 : (Str.ofString "table" == Str.ofString "worths") = false := by decide +kernel
@[simp] theorem ne_0_4 : (Str.ofString "table" = Str.ofString "room") = False := eq_false (by decide +kernel)
@[simp] theorem bn_0_4 : (Str.ofString "table" == Str.ofString "room") = false := by decide +kernel
@[simp] theorem ne_0_5 : (Str.ofString "table" = Str.ofString "sure") = False := eq_false (by decide +kernel)
@[simp] theorem bn_0_5 : (Str.ofString "table" == Str.ofString "sure") = false := by decide +kernel
@[simp] theorem ne_0_6 : (Str.ofString "table" = Str.ofString "known") = False := eq_false (by decide +kernel)
@[simp] theorem bn_0_6 : (Str.ofString "table" == Str.ofString "known") = false := by decide +kernel
@[simp] theorem ne_0_7 : (Str.ofString "table" = Str.ofString "best") = False := eq_false (by decide +kernel)
@[simp] theorem bn_0_7 : (Str.ofString "table" == Str.ofString "best") = false := by decide +kernel
@[simp] theorem ne_0_8 : (Str.ofString "table" = Str.ofString "places") = False := eq_false (by decide +kernel)
@[simp] theorem bn_0_8 : (Str.ofString "table" == Str.ofString "places") = false := by decide +kernel
@[simp] theorem ne_0_9 : (Str.ofString "table" = Str.ofString "value") = False := eq_false (by decide +kernel)
@[simp] theorem bn_0_9 : (Str.ofString "table" == Str.ofString "value") = false := by decide +kernel
@[simp] theorem ne_0_10 : (Str.ofString "table" = Str.ofString "has_room") = False := eq_false (by decide +kernel)
@[simp] theorem bn_0_10 : (Str.ofString "table" == Str.ofString "has_room") = false := by decide +kernel
@[simp] theorem ne_0_11 : (Str.ofString "table" = Str.ofString "plan") = False := eq_false (by decide +kernel)
@[simp] theorem bn_0_11 : (Str.ofString "table" == Str.ofString "plan") = false := by decide +kernel
@[simp] theorem bs_1 : (Str.ofString "weather" == Str.ofString "weather") = true := by decide +kernel
@[simp] theorem ne_1_0 : (Str.ofString "weather" = Str.ofString "table") = False := eq_false (by decide +kernel)
@[simp] theorem bn_1_0 : (Str.ofString "weather" == Str.ofString "table") = false := by decide +kernel
@[simp] theorem ne_1_2 : (Str.ofString "weather" = Str.ofString "spots") = False := eq_false (by decide +kernel)
@[simp] theorem bn_1_2 : (Str.ofString "weather" == Str.ofString "spots") = false := by decide +kernel
@[simp] theorem ne_1_3 : (Str.ofString "weather" = Str.ofString "worths") = False := eq_false (by decide +kernel)
@[simp] theorem bn_1_3 : (Str.ofString "weather" == Str.ofString "worths") = false := by decide +kernel
@[simp] theorem ne_1_4 : (Str.ofString "weather" = Str.ofString "room") = False := eq_false (by decide +kernel)
@[simp] theorem bn_1_4 : (Str.ofString "weather" == Str.ofString "room") = false := by decide +kernel
@[simp] theorem ne_1_5 : (Str.ofString "weather" = Str.ofString "sure") = False := eq_false (by decide +kernel)
@[simp] theorem bn_1_5 : (Str.ofString "weather" == Str.ofString "sure") = false := by decide +kernel
@[simp] theorem ne_1_6 : (Str.ofString "weather" = Str.ofString "known") = False := eq_false (by decide +kernel)
@[simp] theorem bn_1_6 : (Str.ofString "weather" == Str.ofString "known") = false := by decide +kernel
@[simp] theorem ne_1_7 : (Str.ofString "weather" = Str.ofString "best") = False := eq_false (by decide +kernel)
@[simp] theorem bn_1_7 : (Str.ofString "weather" == Str.ofString "best") = false := by decide +kernel
@[simp] theorem ne_1_8 : (Str.ofString "weather" = Str.ofString "places") = False := eq_false (by decide +kernel)
@[simp] theorem bn_1_8 : (Str.ofString "weather" == Str.ofString "places") = false := by decide +kernel
@[simp] theorem ne_1_9 : (Str.ofString "weather" = Str.ofString "value") = False := eq_false (by decide +kernel)
@[simp] theorem bn_1_9 : (Str.ofString "weather" == Str.ofString "value") = false := by decide +kernel
@[simp] theorem ne_1_10 : (Str.ofString "weather" = Str.ofString "has_room") = False := eq_false (by decide +kernel)
@[simp] theorem bn_1_10 : (Str.ofString "weather" == Str.ofString "has_room") = false := by decide +kernel
@[simp] theorem ne_1_11 : (Str.ofString "weather" = Str.ofString "plan") = False := eq_false (by decide +kernel)
@[simp] theorem bn_1_11 : (Str.ofString "weather" == Str.ofString "plan") = false := by decide +kernel
@[simp] theorem bs_2 : (Str.ofString "spots" == Str.ofString "spots") = true := by decide +kernel
@[simp] theorem ne_2_0 : (Str.ofString "spots" = Str.ofString "table") = False := eq_false (by decide +kernel)
@[simp] theorem bn_2_0 : (Str.ofString "spots" == Str.ofString "table") = false := by decide +kernel
@[simp] theorem ne_2_1 : (Str.ofString "spots" = Str.ofString "weather") = False := eq_false (by decide +kernel)
@[simp] theorem bn_2_1 : (Str.ofString "spots" == Str.ofString "weather") = false := by decide +kernel
@[simp] theorem ne_2_3 : (Str.ofString "spots" = Str.ofString "worths") = False := eq_false (by decide +kernel)
@[simp] theorem bn_2_3 : (Str.ofString "spots" == Str.ofString "worths") = false := by decide +kernel
@[simp] theorem ne_2_4 : (Str.ofString "spots" = Str.ofString "room") = False := eq_false (by decide +kernel)
@[simp] theorem bn_2_4 : (Str.ofString "spots" == Str.ofString "room") = false := by decide +kernel
@[simp] theorem ne_2_5 : (Str.ofString "spots" = Str.ofString "sure") = False := eq_false (by decide +kernel)
@[simp] theorem bn_2_5 : (Str.ofString "spots" == Str.ofString "sure") = false := by decide +kernel
@[simp] theorem ne_2_6 : (Str.ofString "spots" = Str.ofString "known") = False := eq_false (by decide +kernel)
@[simp] theorem bn_2_6 : (Str.ofString "spots" == Str.ofString "known") = false := by decide +kernel
@[simp] theorem ne_2_7 : (Str.ofString "spots" = Str.ofString "best") = False := eq_false (by decide +kernel)
@[simp] theorem bn_2_7 : (Str.ofString "spots" == Str.ofString "best") = false := by decide +kernel
@[simp] theorem ne_2_8 : (Str.ofString "spots" = Str.ofString "places") = False := eq_false (by decide +kernel)
@[simp] theorem bn_2_8 : (Str.ofString "spots" == Str.ofString "places") = false := by decide +kernel
@[simp] theorem ne_2_9 : (Str.ofString "spots" = Str.ofString "value") = False := eq_false (by decide +kernel)
@[simp] theorem bn_2_9 : (Str.ofString "spots" == Str.ofString "value") = false := by decide +kernel
@[simp] theorem ne_2_10 : (Str.ofString "spots" = Str.ofString "has_room") = False := eq_false (by decide +kernel)
@[simp] theorem bn_2_10 : (Str.ofString "spots" == Str.ofString "has_room") = false := by decide +kernel
@[simp] theorem ne_2_11 : (Str.ofString "spots" = Str.ofString "plan") = False := eq_false (by decide +kernel)
@[simp] theorem bn_2_11 : (Str.ofString "spots" == Str.ofString "plan") = false := by decide +kernel
@[simp] theorem bs_3 : (Str.ofString "worths" == Str.ofString "worths") = true := by decide +kernel
@[simp] theorem ne_3_0 : (Str.ofString "worths" = Str.ofString "table") = False := eq_false (by decide +kernel)
@[simp] theorem bn_3_0 : (Str.ofString "worths" == Str.ofString "table") = false := by decide +kernel
@[simp] theorem ne_3_1 : (Str.ofString "worths" = Str.ofString "weather") = False := eq_false (by decide +kernel)
@[simp] theorem bn_3_1 : (Str.ofString "worths" == Str.ofString "weather") = false := by decide +kernel
@[simp] theorem ne_3_2 : (Str.ofString "worths" = Str.ofString "spots") = False := eq_false (by decide +kernel)
@[simp] theorem bn_3_2 : (Str.ofString "worths" == Str.ofString "spots") = false := by decide +kernel
@[simp] theorem ne_3_4 : (Str.ofString "worths" = Str.ofString "room") = False := eq_false (by decide +kernel)
@[simp] theorem bn_3_4 : (Str.ofString "worths" == Str.ofString "room") = false := by decide +kernel
@[simp] theorem ne_3_5 : (Str.ofString "worths" = Str.ofString "sure") = False := eq_false (by decide +kernel)
@[simp] theorem bn_3_5 : (Str.ofString "worths" == Str.ofString "sure") = false := by decide +kernel
@[simp] theorem ne_3_6 : (Str.ofString "worths" = Str.ofString "known") = False := eq_false (by decide +kernel)
@[simp] theorem bn_3_6 : (Str.ofString "worths" == Str.ofString "known") = false := by decide +kernel
@[simp] theorem ne_3_7 : (Str.ofString "worths" = Str.ofString "best") = False := eq_false (by decide +kernel)
@[simp] theorem bn_3_7 : (Str.ofString "worths" == Str.ofString "best") = false := by decide +kernel
@[simp] theorem ne_3_8 : (Str.ofString "worths" = Str.ofString "places") = False := eq_false (by decide +kernel)
@[simp] theorem bn_3_8 : (Str.ofString "worths" == Str.ofString "places") = false := by decide +kernel
@[simp] theorem ne_3_9 : (Str.ofString "worths" = Str.ofString "value") = False := eq_false (by decide +kernel)
@[simp] theorem bn_3_9 : (Str.ofString "worths" == Str.ofString "value") = false := by decide +kernel
@[simp] theorem ne_3_10 : (Str.ofString "worths" = Str.ofString "has_room") = False := eq_false (by decide +kernel)
@[simp] theorem bn_3_10 : (Str.ofString "worths" == Str.ofString "has_room") = false := by decide +kernel
@[simp] theorem ne_3_11 : (Str.ofString "worths" = Str.ofString "plan") = False := eq_false (by decide +kernel)
@[simp] theorem bn_3_11 : (Str.ofString "worths" == Str.ofString "plan") = false := by decide +kernel
@[simp] theorem bs_4 : (Str.ofString "room" == Str.ofString "room") = true := by decide +kernel
@[simp] theorem ne_4_0 : (Str.ofString "room" = Str.ofString "table") = False := eq_false (by decide +kernel)
@[simp] theorem bn_4_0 : (Str.ofString "room" == Str.ofString "table") = false := by decide +kernel
@[simp] theorem ne_4_1 : (Str.ofString "room" = Str.ofString "weather") = False := eq_false (by decide +kernel)
@[simp] theorem bn_4_1 : (Str.ofString "room" == Str.ofString "weather") = false := by decide +kernel
@[simp] theorem ne_4_2 : (Str.ofString "room" = Str.ofString "spots") = False := eq_false (by decide +kernel)
@[simp] theorem bn_4_2 : (Str.ofString "room" == Str.ofString "spots") = false := by decide +kernel
@[simp] theorem ne_4_3 : (Str.ofString "room" = Str.ofString "worths") = False := eq_false (by decide +kernel)
@[simp] theorem bn_4_3 : (Str.ofString "room" == Str.ofString "worths") = false := by decide +kernel
@[simp] theorem ne_4_5 : (Str.ofString "room" = Str.ofString "sure") = False := eq_false (by decide +kernel)
@[simp] theorem bn_4_5 : (Str.ofString "room" == Str.ofString "sure") = false := by decide +kernel
@[simp] theorem ne_4_6 : (Str.ofString "room" = Str.ofString "known") = False := eq_false (by decide +kernel)
@[simp] theorem bn_4_6 : (Str.ofString "room" == Str.ofString "known") = false := by decide +kernel
@[simp] theorem ne_4_7 : (Str.ofString "room" = Str.ofString "best") = False := eq_false (by decide +kernel)
@[simp] theorem bn_4_7 : (Str.ofString "room" == Str.ofString "best") = false := by decide +kernel
@[simp] theorem ne_4_8 : (Str.ofString "room" = Str.ofString "places") = False := eq_false (by decide +kernel)
@[simp] theorem bn_4_8 : (Str.ofString "room" == Str.ofString "places") = false := by decide +kernel
@[simp] theorem ne_4_9 : (Str.ofString "room" = Str.ofString "value") = False := eq_false (by decide +kernel)
@[simp] theorem bn_4_9 : (Str.ofString "room" == Str.ofString "value") = false := by decide +kernel
@[simp] theorem ne_4_10 : (Str.ofString "room" = Str.ofString "has_room") = False := eq_false (by decide +kernel)
@[simp] theorem bn_4_10 : (Str.ofString "room" == Str.ofString "has_room") = false := by decide +kernel
@[simp] theorem ne_4_11 : (Str.ofString "room" = Str.ofString "plan") = False := eq_false (by decide +kernel)
@[simp] theorem bn_4_11 : (Str.ofString "room" == Str.ofString "plan") = false := by decide +kernel
@[simp] theorem bs_5 : (Str.ofString "sure" == Str.ofString "sure") = true := by decide +kernel
@[simp] theorem ne_5_0 : (Str.ofString "sure" = Str.ofString "table") = False := eq_false (by decide +kernel)
@[simp] theorem bn_5_0 : (Str.ofString "sure" == Str.ofString "table") = false := by decide +kernel
@[simp] theorem ne_5_1 : (Str.ofString "sure" = Str.ofString "weather") = False := eq_false (by decide +kernel)
@[simp] theorem bn_5_1 : (Str.ofString "sure" == Str.ofString "weather") = false := by decide +kernel
@[simp] theorem ne_5_2 : (Str.ofString "sure" = Str.ofString "spots") = False := eq_false (by decide +kernel)
@[simp] theorem bn_5_2 : (Str.ofString "sure" == Str.ofString "spots") = false := by decide +kernel
@[simp] theorem ne_5_3 : (Str.ofString "sure" = Str.ofString "worths") = False := eq_false (by decide +kernel)
@[simp] theorem bn_5_3 : (Str.ofString "sure" == Str.ofString "worths") = false := by decide +kernel
@[simp] theorem ne_5_4 : (Str.ofString "sure" = Str.ofString "room") = False := eq_false (by decide +kernel)
@[simp] theorem bn_5_4 : (Str.ofString "sure" == Str.ofString "room") = false := by decide +kernel
@[simp] theorem ne_5_6 : (Str.ofString "sure" = Str.ofString "known") = False := eq_false (by decide +kernel)
@[simp] theorem bn_5_6 : (Str.ofString "sure" == Str.ofString "known") = false := by decide +kernel
@[simp] theorem ne_5_7 : (Str.ofString "sure" = Str.ofString "best") = False := eq_false (by decide +kernel)
@[simp] theorem bn_5_7 : (Str.ofString "sure" == Str.ofString "best") = false := by decide +kernel
@[simp] theorem ne_5_8 : (Str.ofString "sure" = Str.ofString "places") = False := eq_false (by decide +kernel)
@[simp] theorem bn_5_8 : (Str.ofString "sure" == Str.ofString "places") = false := by decide +kernel
@[simp] theorem ne_5_9 : (Str.ofString "sure" = Str.ofString "value") = False := eq_false (by decide +kernel)
@[simp] theorem bn_5_9 : (Str.ofString "sure" == Str.ofString "value") = false := by decide +kernel
@[simp] theorem ne_5_10 : (Str.ofString "sure" = Str.ofString "has_room") = False := eq_false (by decide +kernel)
@[simp] theorem bn_5_10 : (Str.ofString "sure" == Str.ofString "has_room") = false := by decide +kernel
@[simp] theorem ne_5_11 : (Str.ofString "sure" = Str.ofString "plan") = False := eq_false (by decide +kernel)
@[simp] theorem bn_5_11 : (Str.ofString "sure" == Str.ofString "plan") = false := by decide +kernel
@[simp] theorem bs_6 : (Str.ofString "known" == Str.ofString "known") = true := by decide +kernel
@[simp] theorem ne_6_0 : (Str.ofString "known" = Str.ofString "table") = False := eq_false (by decide +kernel)
@[simp] theorem bn_6_0 : (Str.ofString "known" == Str.ofString "table") = false := by decide +kernel
@[simp] theorem ne_6_1 : (Str.ofString "known" = Str.ofString "weather") = False := eq_false (by decide +kernel)
@[simp] theorem bn_6_1 : (Str.ofString "known" == Str.ofString "weather") = false := by decide +kernel
@[simp] theorem ne_6_2 : (Str.ofString "known" = Str.ofString "spots") = False := eq_false (by decide +kernel)
@[simp] theorem bn_6_2 : (Str.ofString "known" == Str.ofString "spots") = false := by decide +kernel
@[simp] theorem ne_6_3 : (Str.ofString "known" = Str.ofString "worths") = False := eq_false (by decide +kernel)
@[simp] theorem bn_6_3 : (Str.ofString "known" == Str.ofString "worths") = false := by decide +kernel
@[simp] theorem ne_6_4 : (Str.ofString "known" = Str.ofString "room") = False := eq_false (by decide +kernel)
@[simp] theorem bn_6_4 : (Str.ofString "known" == Str.ofString "room") = false := by decide +kernel
@[simp] theorem ne_6_5 : (Str.ofString "known" = Str.ofString "sure") = False := eq_false (by decide +kernel)
@[simp] theorem bn_6_5 : (Str.ofString "known" == Str.ofString "sure") = false := by decide +kernel
@[simp] theorem ne_6_7 : (Str.ofString "known" = Str.ofString "best") = False := eq_false (by decide +kernel)
@[simp] theorem bn_6_7 : (Str.ofString "known" == Str.ofString "best") = false := by decide +kernel
@[simp] theorem ne_6_8 : (Str.ofString "known" = Str.ofString "places") = False := eq_false (by decide +kernel)
@[simp] theorem bn_6_8 : (Str.ofString "known" == Str.ofString "places") = false := by decide +kernel
@[simp] theorem ne_6_9 : (Str.ofString "known" = Str.ofString "value") = False := eq_false (by decide +kernel)
@[simp] theorem bn_6_9 : (Str.ofString "known" == Str.ofString "value") = false := by decide +kernel
@[simp] theorem ne_6_10 : (Str.ofString "known" = Str.ofString "has_room") = False := eq_false (by decide +kernel)
@[simp] theorem bn_6_10 : (Str.ofString "known" == Str.ofString "has_room") = false := by decide +kernel
@[simp] theorem ne_6_11 : (Str.ofString "known" = Str.ofString "plan") = False := eq_false (by decide +kernel)
@[simp] theorem bn_6_11 : (Str.ofString "known" == Str.ofString "plan") = false := by decide +kernel
@[simp] theorem bs_7 : (Str.ofString "best" == Str.ofString "best") = true := by decide +kernel
@[simp] theorem ne_7_0 : (Str.ofString "best" = Str.ofString "table") = False := eq_false (by decide +kernel)
@[simp] theorem bn_7_0 : (Str.ofString "best" == Str.ofString "table") = false := by decide +kernel
@[simp] theorem ne_7_1 : (Str.ofString "best" = Str.ofString "weather") = False := eq_false (by decide +kernel)
@[simp] theorem bn_7_1 : (Str.ofString "best" == Str.ofString "weather") = false := by decide +kernel
@[simp] theorem ne_7_2 : (Str.ofString "best" = Str.ofString "spots") = False := eq_false (by decide +kernel)
@[simp] theorem bn_7_2 : (Str.ofString "best" == Str.ofString "spots") = false := by decide +kernel
@[simp] theorem ne_7_3 : (Str.ofString "best" = Str.ofString "worths") = False := eq_false (by decide +kernel)
@[simp] theorem bn_7_3 : (Str.ofString "best" == Str.ofString "worths") = false := by decide +kernel
@[simp] theorem ne_7_4 : (Str.ofString "best" = Str.ofString "room") = False := eq_false (by decide +kernel)
@[simp] theorem bn_7_4 : (Str.ofString "best" == Str.ofString "room") = false := by decide +kernel
@[simp] theorem ne_7_5 : (Str.ofString "best" = Str.ofString "sure") = False := eq_false (by decide +kernel)
@[simp] theorem bn_7_5 : (Str.ofString "best" == Str.ofString "sure") = false := by decide +kernel
@[simp] theorem ne_7_6 : (Str.ofString "best" = Str.ofString "known") = False := eq_false (by decide +kernel)
@[simp] theorem bn_7_6 : (Str.ofString "best" == Str.ofString "known") = false := by decide +kernel
@[simp] theorem ne_7_8 : (Str.ofString "best" = Str.ofString "places") = False := eq_false (by decide +kernel)
@[simp] theorem bn_7_8 : (Str.ofString "best" == Str.ofString "places") = false := by decide +kernel
@[simp] theorem ne_7_9 : (Str.ofString "best" = Str.ofString "value") = False := eq_false (by decide +kernel)
@[simp] theorem bn_7_9 : (Str.ofString "best" == Str.ofString "value") = false := by decide +kernel
@[simp] theorem ne_7_10 : (Str.ofString "best" = Str.ofString "has_room") = False := eq_false (by decide +kernel)
@[simp] theorem bn_7_10 : (Str.ofString "best" == Str.ofString "has_room") = false := by decide +kernel
@[simp] theorem ne_7_11 : (Str.ofString "best" = Str.ofString "plan") = False := eq_false (by decide +kernel)
@[simp] theorem bn_7_11 : (Str.ofString "best" == Str.ofString "plan") = false := by decide +kernel
@[simp] theorem bs_8 : (Str.ofString "places" == Str.ofString "places") = true := by decide +kernel
@[simp] theorem ne_8_0 : (Str.ofString "places" = Str.ofString "table") = False := eq_false (by decide +kernel)
@[simp] theorem bn_8_0 : (Str.ofString "places" == Str.ofString "table") = false := by decide +kernel
@[simp] theorem ne_8_1 : (Str.ofString "places" = Str.ofString "weather") = False := eq_false (by decide +kernel)
@[simp] theorem bn_8_1 : (Str.ofString "places" == Str.ofString "weather") = false := by decide +kernel
@[simp] theorem ne_8_2 : (Str.ofString "places" = Str.ofString "spots") = False := eq_false (by decide +kernel)
@[simp] theorem bn_8_2 : (Str.ofString "places" == Str.ofString "spots") = false := by decide +kernel
@[simp] theorem ne_8_3 : (Str.ofString "places" = Str.ofString "worths") = False := eq_false (by decide +kernel)
@[simp] theorem bn_8_3 : (Str.ofString "places" == Str.ofString "worths") = false := by decide +kernel
@[simp] theorem ne_8_4 : (Str.ofString "places" = Str.ofString "room") = False := eq_false (by decide +kernel)
@[simp] theorem bn_8_4 : (Str.ofString "places" == Str.ofString "room") = false := by decide +kernel
@[simp] theorem ne_8_5 : (Str.ofString "places" = Str.ofString "sure") = False := eq_false (by decide +kernel)
@[simp] theorem bn_8_5 : (Str.ofString "places" == Str.ofString "sure") = false := by decide +kernel
@[simp] theorem ne_8_6 : (Str.ofString "places" = Str.ofString "known") = False := eq_false (by decide +kernel)
@[simp] theorem bn_8_6 : (Str.ofString "places" == Str.ofString "known") = false := by decide +kernel
@[simp] theorem ne_8_7 : (Str.ofString "places" = Str.ofString "best") = False := eq_false (by decide +kernel)
@[simp] theorem bn_8_7 : (Str.ofString "places" == Str.ofString "best") = false := by decide +kernel
@[simp] theorem ne_8_9 : (Str.ofString "places" = Str.ofString "value") = False := eq_false (by decide +kernel)
@[simp] theorem bn_8_9 : (Str.ofString "places" == Str.ofString "value") = false := by decide +kernel
@[simp] theorem ne_8_10 : (Str.ofString "places" = Str.ofString "has_room") = False := eq_false (by decide +kernel)
@[simp] theorem bn_8_10 : (Str.ofString "places" == Str.ofString "has_room") = false := by decide +kernel
@[simp] theorem ne_8_11 : (Str.ofString "places" = Str.ofString "plan") = False := eq_false (by decide +kernel)
@[simp] theorem bn_8_11 : (Str.ofString "places" == Str.ofString "plan") = false := by decide +kernel
@[simp] theorem bs_9 : (Str.ofString "value" == Str.ofString "value") = true := by decide +kernel
@[simp] theorem ne_9_0 : (Str.ofString "value" = Str.ofString "table") = False := eq_false (by decide +kernel)
@[simp] theorem bn_9_0 : (Str.ofString "value" == Str.ofString "table") = false := by decide +kernel
@[simp] theorem ne_9_1 : (Str.ofString "value" = Str.ofString "weather") = False := eq_false (by decide +kernel)
@[simp] theorem bn_9_1 : (Str.ofString "value" == Str.ofString "weather") = false := by decide +kernel
@[simp] theorem ne_9_2 : (Str.ofString "value" = Str.ofString "spots") = False := eq_false (by decide +kernel)
@[simp] theorem bn_9_2 : (Str.ofString "value" == Str.ofString "spots") = false := by decide +kernel
@[simp] theorem ne_9_3 : (Str.ofString "value" = Str.ofString "worths") = False := eq_false (by decide +kernel)
@[simp] theorem bn_9_3 : (Str.ofString "value" == Str.ofString "worths") = false := by decide +kernel
@[simp] theorem ne_9_4 : (Str.ofString "value" = Str.ofString "room") = False := eq_false (by decide +kernel)
@[simp] theorem bn_9_4 : (Str.ofString "value" == Str.ofString "room") = false := by decide +kernel
@[simp] theorem ne_9_5 : (Str.ofString "value" = Str.ofString "sure") = False := eq_false (by decide +kernel)
@[simp] theorem bn_9_5 : (Str.ofString "value" == Str.ofString "sure") = false := by decide +kernel
@[simp] theorem ne_9_6 : (Str.ofString "value" = Str.ofString "known") = False := eq_false (by decide +kernel)
@[simp] theorem bn_9_6 : (Str.ofString "value" == Str.ofString "known") = false := by decide +kernel
@[simp] theorem ne_9_7 : (Str.ofString "value" = Str.ofString "best") = False := eq_false (by decide +kernel)
@[simp] theorem bn_9_7 : (Str.ofString "value" == Str.ofString "best") = false := by decide +kernel
@[simp] theorem ne_9_8 : (Str.ofString "value" = Str.ofString "places") = False := eq_false (by decide +kernel)
@[simp] theorem bn_9_8 : (Str.ofString "value" == Str.ofString "places") = false := by decide +kernel
@[simp] theorem ne_9_10 : (Str.ofString "value" = Str.ofString "has_room") = False := eq_false (by decide +kernel)
@[simp] theorem bn_9_10 : (Str.ofString "value" == Str.ofString "has_room") = false := by decide +kernel
@[simp] theorem ne_9_11 : (Str.ofString "value" = Str.ofString "plan") = False := eq_false (by decide +kernel)
@[simp] theorem bn_9_11 : (Str.ofString "value" == Str.ofString "plan") = false := by decide +kernel
@[simp] theorem bs_10 : (Str.ofString "has_room" == Str.ofString "has_room") = true := by decide +kernel
@[simp] theorem ne_10_0 : (Str.ofString "has_room" = Str.ofString "table") = False := eq_false (by decide +kernel)
@[simp] theorem bn_10_0 : (Str.ofString "has_room" == Str.ofString "table") = false := by decide +kernel
@[simp] theorem ne_10_1 : (Str.ofString "has_room" = Str.ofString "weather") = False := eq_false (by decide +kernel)
@[simp] theorem bn_10_1 : (Str.ofString "has_room" == Str.ofString "weather") = false := by decide +kernel
@[simp] theorem ne_10_2 : (Str.ofString "has_room" = Str.ofString "spots") = False := eq_false (by decide +kernel)
@[simp] theorem bn_10_2 : (Str.ofString "has_room" == Str.ofString "spots") = false := by decide +kernel
@[simp] theorem ne_10_3 : (Str.ofString "has_room" = Str.ofString "worths") = False := eq_false (by decide +kernel)
@[simp] theorem bn_10_3 : (Str.ofString "has_room" == Str.ofString "worths") = false := by decide +kernel
@[simp] theorem ne_10_4 : (Str.ofString "has_room" = Str.ofString "room") = False := eq_false (by decide +kernel)
@[simp] theorem bn_10_4 : (Str.ofString "has_room" == Str.ofString "room") = false := by decide +kernel
@[simp] theorem ne_10_5 : (Str.ofString "has_room" = Str.ofString "sure") = False := eq_false (by decide +kernel)
@[simp] theorem bn_10_5 : (Str.ofString "has_room" == Str.ofString "sure") = false := by decide +kernel
@[simp] theorem ne_10_6 : (Str.ofString "has_room" = Str.ofString "known") = False := eq_false (by decide +kernel)
@[simp] theorem bn_10_6 : (Str.ofString "has_room" == Str.ofString "known") = false := by decide +kernel
@[simp] theorem ne_10_7 : (Str.ofString "has_room" = Str.ofString "best") = False := eq_false (by decide +kernel)
@[simp] theorem bn_10_7 : (Str.ofString "has_room" == Str.ofString "best") = false := by decide +kernel
@[simp] theorem ne_10_8 : (Str.ofString "has_room" = Str.ofString "places") = False := eq_false (by decide +kernel)
@[simp] theorem bn_10_8 : (Str.ofString "has_room" == Str.ofString "places") = false := by decide +kernel
@[simp] theorem ne_10_9 : (Str.ofString "has_room" = Str.ofString "value") = False := eq_false (by decide +kernel)
@[simp] theorem bn_10_9 : (Str.ofString "has_room" == Str.ofString "value") = false := by decide +kernel
@[simp] theorem ne_10_11 : (Str.ofString "has_room" = Str.ofString "plan") = False := eq_false (by decide +kernel)
@[simp] theorem bn_10_11 : (Str.ofString "has_room" == Str.ofString "plan") = false := by decide +kernel
@[simp] theorem bs_11 : (Str.ofString "plan" == Str.ofString "plan") = true := by decide +kernel
@[simp] theorem ne_11_0 : (Str.ofString "plan" = Str.ofString "table") = False := eq_false (by decide +kernel)
@[simp] theorem bn_11_0 : (Str.ofString "plan" == Str.ofString "table") = false := by decide +kernel
@[simp] theorem ne_11_1 : (Str.ofString "plan" = Str.ofString "weather") = False := eq_false (by decide +kernel)
@[simp] theorem bn_11_1 : (Str.ofString "plan" == Str.ofString "weather") = false := by decide +kernel
@[simp] theorem ne_11_2 : (Str.ofString "plan" = Str.ofString "spots") = False := eq_false (by decide +kernel)
@[simp] theorem bn_11_2 : (Str.ofString "plan" == Str.ofString "spots") = false := by decide +kernel
@[simp] theorem ne_11_3 : (Str.ofString "plan" = Str.ofString "worths") = False := eq_false (by decide +kernel)
@[simp] theorem bn_11_3 : (Str.ofString "plan" == Str.ofString "worths") = false := by decide +kernel
@[simp] theorem ne_11_4 : (Str.ofString "plan" = Str.ofString "room") = False := eq_false (by decide +kernel)
@[simp] theorem bn_11_4 : (Str.ofString "plan" == Str.ofString "room") = false := by decide +kernel
@[simp] theorem ne_11_5 : (Str.ofString "plan" = Str.ofString "sure") = False := eq_false (by decide +kernel)
@[simp] theorem bn_11_5 : (Str.ofString "plan" == Str.ofString "sure") = false := by decide +kernel
@[simp] theorem ne_11_6 : (Str.ofString "plan" = Str.ofString "known") = False := eq_false (by decide +kernel)
@[simp] theorem bn_11_6 : (Str.ofString "plan" == Str.ofString "known") = false := by decide +kernel
@[simp] theorem ne_11_7 : (Str.ofString "plan" = Str.ofString "best") = False := eq_false (by decide +kernel)
@[simp] theorem bn_11_7 : (Str.ofString "plan" == Str.ofString "best") = false := by decide +kernel
@[simp] theorem ne_11_8 : (Str.ofString "plan" = Str.ofString "places") = False := eq_false (by decide +kernel)
@[simp] theorem bn_11_8 : (Str.ofString "plan" == Str.ofString "places") = false := by decide +kernel
@[simp] theorem ne_11_9 : (Str.ofString "plan" = Str.ofString "value") = False := eq_false (by decide +kernel)
@[simp] theorem bn_11_9 : (Str.ofString "plan" == Str.ofString "value") = false := by decide +kernel
@[simp] theorem ne_11_10 : (Str.ofString "plan" = Str.ofString "has_room") = False := eq_false (by decide +kernel)
@[simp] theorem bn_11_10 : (Str.ofString "plan" == Str.ofString "has_room") = false := by decide +kernel
end KK
end
section
/-! MathA: loops and comprehensions over encoded things. -/
namespace KK
open PySem PySem.Spec PyProof.Rows L2 Sky
set_option maxHeartbeats 4000000
theorem forL_nx {g : TgM} {b : SM} {x : PyData} {xs : List PyData} {ρ ρ1 ρ2 : Sky.Env} {S S2 : Store} (h1 : g x ρ = some ρ1) (h2 : b ρ1 S = .nx ρ2 S2) : forL g b (x :: xs) ρ S = forL g b xs ρ2 S2 := by
  rw [forL, h1]
  simp only []
  rw [h2]
theorem forL_rt {g : TgM} {b : SM} {x : PyData} {xs : List PyData} {ρ ρ1 : Sky.Env} {S S2 : Store} {d : D} (h1 : g x ρ = some ρ1) (h2 : b ρ1 S = .rt d S2) : forL g b (x :: xs) ρ S = .rt d S2 := by
  rw [forL, h1]
  simp only []
  rw [h2]
/-- a comprehension over encoded things -/
theorem compL_of {α : Type} (enc : α → PyData) (p : α → Bool) (h : α → PyData) {g : TgM} {t : BM} {fe : EM} {ρ : Sky.Env} {S : Store} : ∀ (xs : List α), (∀ x ∈ xs, ∃ ρ1, g (enc x) ρ = some ρ1 ∧ t ρ1 S = .ok (p x) S ∧ (p x = true → fe ρ1 S = .ok (.d (h x)) S)) →
    compL g t fe ρ (xs.map enc) S = .ok ((xs.filter p).map h) S
  | [], _ => rfl
  | x :: xs, hx => by
    obtain ⟨ρ1, h1, h2, h3⟩ := hx x List.mem_cons_self
    have ih := compL_of enc p h xs fun y hy => hx y (List.mem_cons_of_mem _ hy)
    rw [List.map_cons]
    unfold compL
    simp only [h1, h2]
    cases hp : p x with
    | true => rw [hp] at h3; simp only [h3 rfl, ih, List.filter_cons, hp, if_true, List.map_cons]
    | false => simp only [ih, List.filter_cons, hp, Bool.false_eq_true, if_false]
theorem compL_map {α : Type} (enc : α → PyData) (h : α → PyData) {g : TgM} {fe : EM} {ρ : Sky.Env} {S : Store} (xs : List α) (hx : ∀ x ∈ xs, ∃ ρ1, g (enc x) ρ = some ρ1 ∧ fe ρ1 S = .ok (.d (h x)) S) :
    compL g bYes fe ρ (xs.map enc) S = .ok (xs.map h) S := by
  rw [compL_of enc (fun _ => true) h xs, List.filter_eq_self.mpr (fun _ _ => rfl)]
  intro x hm
  obtain ⟨ρ1, h1, h2⟩ := hx x hm
  exact ⟨ρ1, h1, by simp, fun _ => h2⟩
theorem dp_map {α : Type} {f : α → PyData} {n : Nat} (l : List α) (h : ∀ x ∈ l, dp n (f x) = true) : (l.map f).all (dp n) = true := by
  rw [List.all_eq_true]
  intro d hd
  obtain ⟨x, hx, rfl⟩ := List.mem_map.mp hd
  exact h x hx
theorem dp_encA (n : Nat) (x : Ask) : dp (n + 2) (encA x) = true := by simp [encA]
theorem ints_map {α : Type} (f : α → Int) : ∀ l : List α, intsOf (l.map fun x => PyData.int (f x)) = some (l.map f)
  | [] => rfl
  | x :: l => by
    rw [List.map_cons]
    show (intsOf (l.map fun x => PyData.int (f x))).map (f x :: ·) = _
    rw [ints_map f l]
    rfl
theorem bls_map {α : Type} (f : α → Bool) : ∀ l : List α, blsOf (l.map fun x => PyData.bool (f x)) = some (l.map f)
  | [] => rfl
  | x :: l => by
    rw [List.map_cons]
    show (blsOf (l.map fun x => PyData.bool (f x))).map (f x :: ·) = _
    rw [bls_map f l]
    rfl
theorem strs_map {α : Type} (f : α → Str) : ∀ l : List α, strsOf (l.map fun x => PyData.str (f x)) = some (l.map f)
  | [] => rfl
  | x :: l => by
    rw [List.map_cons]
    show (strsOf (l.map fun x => PyData.str (f x))).map (f x :: ·) = _
    rw [strs_map f l]
    rfl
theorem sum_ints {α : Type} (f : α → Int) (l : List α) (S : Store) : cSum S [.d (.list (l.map fun x => PyData.int (f x)))] = some (.d (.int (l.map f).sum)) := by
  show ((lk S (.d (.list (l.map fun x => PyData.int (f x))))).bind intsOf).map _ = _
  rw [lk_d]
  show (intsOf (l.map fun x => PyData.int (f x))).map _ = _
  rw [ints_map]
  rfl
theorem all_bls {α : Type} (f : α → Bool) (l : List α) (S : Store) : cAll S [.d (.list (l.map fun x => PyData.bool (f x)))] = some (.d (.bool (l.all f))) := by
  show ((lk S (.d (.list (l.map fun x => PyData.bool (f x))))).bind blsOf).map _ = _
  rw [lk_d]
  show (blsOf (l.map fun x => PyData.bool (f x))).map _ = _
  rw [bls_map]
  show some (D.d (.bool ((l.map f).all _root_.id))) = _
  rw [List.all_map]
  rfl
theorem any_strs {α : Type} (f : α → Str) (l : List α) (s : Str) : ((l.map fun x => PyData.str (f x)).any fun z => PyData.eqv z (.str s)) = decide (s ∈ l.map f) := by
  rw [List.any_map]
  by_cases h : s ∈ l.map f
  · rw [decide_eq_true h, List.any_eq_true]
    obtain ⟨q, hq, e⟩ := List.mem_map.mp h
    exact ⟨q, hq, by simp [PyData.eqv, e]⟩
  · rw [decide_eq_false h, List.any_eq_false]
    intro q hq z
    have : f q = s := by simpa [PyData.eqv] using z
    exact h (List.mem_map.mpr ⟨q, hq, this⟩)
@[simp] theorem cLst_t (S : Store) (xs : List PyData) : cLst S [.d (.tuple xs)] = some (.d (.list xs)) := id rfl
@[simp] theorem cLst_l (S : Store) (xs : List PyData) : cLst S [.d (.list xs)] = some (.d (.list xs)) := id rfl
theorem inj_names {xs : List Ask} (h : Names xs) {x y : Ask} (hx : x ∈ xs) (hy : y ∈ xs) (e : x.nm = y.nm) : x = y := by
  obtain ⟨i, hi, rfl⟩ := List.getElem_of_mem hx
  obtain ⟨j, hj, rfl⟩ := List.getElem_of_mem hy
  have := (List.getElem_inj (xs := xs.map (·.nm)) (h₀ := by simpa using hi) (h₁ := by simpa using hj) (show (xs.map (·.nm)).Nodup from h)).mp (by simpa using e)
  subst this
  rfl
theorem gA_nm (S : Store) (x : Ask) : gIx S (.d (encA x)) (.d (.int 0)) = some (.d (.str x.nm)) := by simp (disch := omega) [encA]
theorem gA_hs (S : Store) (x : Ask) : gIx S (.d (encA x)) (.d (.int 1)) = some (.d (.str x.hs)) := by simp (disch := omega) [encA]
theorem gA_tl (S : Store) (x : Ask) : gIx S (.d (encA x)) (.d (.int 3)) = some (.d (.str x.tl)) := by simp (disch := omega) [encA]
theorem gA_long (S : Store) (x : Ask) : gIx S (.d (encA x)) (.d (.int 4)) = some (.d (.int (x.long : Nat))) := by simp (disch := omega) [encA]
theorem gA_need (S : Store) (x : Ask) : gIx S (.d (encA x)) (.d (.int 5)) = some (.d (.int x.need)) := by simp (disch := omega) [encA]
theorem gA_rank (S : Store) (x : Ask) : gIx S (.d (encA x)) (.d (.int 6)) = some (.d (.int x.rank)) := by simp (disch := omega) [encA]
def names (l : List Ask) : List Str := l.map (·.nm)
abbrev nmsD (l : List Ask) : List PyData := (names l).map .str
@[simp] theorem names_len (l : List Ask) : (names l).length = l.length := by unfold names; rw [List.length_map]
theorem nmsD_eq (l : List Ask) : nmsD l = l.map fun x => PyData.str x.nm := by unfold nmsD names; rw [List.map_map]; rfl
theorem begs_iff {k : Sky1} {x : Ask} {s : Nat} : s ∈ k.begs x ↔ s < 24 ∧ k.may x s = true := by
  unfold Sky1.begs
  rw [List.mem_filter, List.mem_range]
theorem begs_len (k : Sky1) (x : Ask) : (k.begs x).length ≤ 24 := by
  have := List.length_filter_le (k.may x) (List.range 24)
  rw [List.length_range] at this
  exact this
theorem beg_end {k : Sky1} {x : Ask} {s : Nat} (hk : k.Ok) (hx : x.Ok) (h : s ∈ k.begs x) : s + x.long ≤ 24 := by
  have hl := hx.long
  have := may_dark hx (begs_iff.mp h).2 (i := x.long - 1) (by omega)
  have := hk.p
  omega
/-- whether the air will do, whatever it is -/
def Sky1.sure (k : Sky1) (x : Ask) (s : Nat) : Bool := (List.range x.long).all fun i => decide (x.need ≤ k.low (s + i))
theorem p_is_sure {k : Sky1} {x : Ask} {s : Nat} (hk : k.Ok) (hx : x.Ok) (hs : s + x.long ≤ 24) : P_is_sure [encA x, enW k.W, .int (s : Nat)] = some (.bool (k.sure x s)) := by
  have hl := hx.long
  have e1 := p_slots_of x s hx (by omega)
  have hlen : (rng (s : Int) x.long).length < 16777216 := by rw [rng_length]; omega
  have hc : compL (gNm 3) bYes (mOp gGe (mOp gIx (mOp gIx (mVar 1) (mVar 3)) (mC (.int 0))) (mOp gIx (mVar 0) (mC (.int 5)))) [some (.d (encA x)), some (.d (enW k.W)), some (.d (.int (s : Nat))), none] (rng (s : Int) x.long) [] = .ok ((List.range x.long).map fun i => .bool (decide (x.need ≤ k.low (s + i)))) [] := by
    unfold rng
    refine compL_map (fun (i : Nat) => PyData.int ((s : Int) + i)) (fun i => .bool (decide (x.need ≤ k.low (s + i)))) (List.range x.long) fun i hi => ⟨_, gNm_ap _ _, ?_⟩
    have hi := List.mem_range.mp hi
    have e3 : ((s : Int) + i).toNat = s + i := by omega
    have e4 := high_at hk (s := s + i) (by omega)
    simp (disch := omega) [gA_need, e3, e4, encP, -getElem?_pos]
  have ha := all_bls (fun i => decide (x.need ≤ k.low (s + i))) (List.range x.long)
  simp (disch := omega) [P_is_sure, runP_ap, B_is_sure, F_slots_of, e1, hlen, hc, ha, Sky1.sure, -getElem?_pos]
end KK
end
section
/-! G3: the class Night, with any worths, sure or not, with room or without. -/
namespace KK
open PySem PySem.Spec PyProof.Rows L2 Sky
set_option maxHeartbeats 4000000
def natsD (l : List Nat) : PyData := .list (l.map fun (s : Nat) => .int (s : Nat))
/-- how a search is made -/
structure Prm where
  wt : Ask → Int
  sure : Bool
  room : Option (Str → Int)
def plain : Prm := ⟨fun x => x.rank, false, none⟩
def worthKV (f : Ask → Int) (xs : List Ask) : List (Key × PyData) := xs.map fun x => (.inr x.nm, .int (f x))
def nightFs (k : Sky1) (xs : List Ask) (jw : Nat) (room : D) (sure : Bool) (j : Nat) : List (Str × D) :=
  [("table", .d (tab encA xs)), ("weather", .d (enW k.W)), ("spots", .d (tab (fun x => natsD (k.begs x)) xs)), ("worths", .r jw), ("room", room), ("sure", .d (.bool sure)), ("known", .r j)]
structure AOk (xs : List Ask) : Prop where
  nm : Names xs
  ok : ∀ x ∈ xs, x.Ok
  len : xs.length ≤ 7
theorem dc_kv (f : Ask → Int) {xs : List Ask} (h : Names xs) : dcOf (xs.map fun x => .tuple [.str x.nm, .int (f x)]) = worthKV f xs := by
  unfold dcOf
  rw [fold_new (fun x => .int (f x)) xs [] (by
    show (([] : List Key) ++ xs.map fun (x : Ask) => (Sum.inr x.nm : Key)).Nodup
    have : (([] : List Key) ++ xs.map fun (x : Ask) => (Sum.inr x.nm : Key)) = (xs.map (·.nm)).map Sum.inr := by rw [List.map_map]; rfl
    rw [this]
    exact List.Pairwise.map _ (fun a b hab z => hab (Sum.inr.inj z)) h)]
  rfl
theorem init_ok (hf : MK → Int) {k : Sky1} {ns : List (Int × Int)} {xs : List Ask} (hk : k.Ok) (hn : ns[k.n]? = some k.p) (hx : AOk xs) (S : Store) :
    F_Night___init__ hf [.r S.length, .d (enS k.t ns), .d (.int (k.n : Nat)), .d (.tuple (xs.map encA)), .d (enW k.W)] (S ++ [.ins "Night" []]) = .ok (.d .none) (S ++ [.ins "Night" (nightFs k xs (S.length + 1) (.d .none) false (S.length + 2)), .dct (worthKV (fun x => x.rank) xs), .mem hf []]) := by
  have h1 : xs.length < 16777216 := by have := hx.len; omega
  have t1 := p_table_of hx.nm (by have := hx.len; omega)
  have c1 : ∀ (T : Store), compL (gNm 5) bYes (pairM (mOp gIx (mVar 5) (mC (.int 0))) (mCall 4 F_begins (aCons (mVar 1) (aCons (mVar 2) (aCons (mVar 5) (aCons (mVar 4) aNil))))))
      [some (.r S.length), some (.d (enS k.t ns)), some (.d (.int (k.n : Nat))), some (.d (.tuple (xs.map encA))), some (.d (enW k.W)), none] (xs.map encA) T = .ok (xs.map fun x => .tuple [.str x.nm, natsD (k.begs x)]) T := fun T =>
    compL_asks (f := fun x => natsD (k.begs x)) xs fun x hm => by
      have b := p_begins hk hn (hx.ok x hm)
      constructor
      · simp (disch := omega) [encA]
      · simp (disch := omega) [F_begins, b, natsD]
  have c2 : ∀ (T : Store), compL (gNm 5) bYes (pairM (mOp gIx (mVar 5) (mC (.int 0))) (mOp gIx (mVar 5) (mC (.int 6))))
      [some (.r S.length), some (.d (enS k.t ns)), some (.d (.int (k.n : Nat))), some (.d (.tuple (xs.map encA))), some (.d (enW k.W)), none] (xs.map encA) T = .ok (xs.map fun x => .tuple [.str x.nm, .int x.rank]) T := fun T =>
    compL_asks (f := fun x => .int x.rank) xs fun x hm => by
      constructor <;> simp (disch := omega) [encA]
  have d1 := dc_tab (fun x => natsD (k.begs x)) hx.nm
  have d2 := dc_kv (fun x => x.rank) hx.nm
  have i1 : ∀ a b c : Cell, (S ++ [a, b, c])[S.length]? = some a := fun a b c => get_end0 S _ a
  have i2 : ∀ a b : Cell, (S ++ [a, b])[S.length]? = some a := fun a b => get_end0 S _ a
  have s2 : ∀ a b d : Cell, (S ++ [a, b]).set S.length d = S ++ [d, b] := fun a b d => set_end0 S _ a d
  have s3 : ∀ a b c d : Cell, (S ++ [a, b, c]).set S.length d = S ++ [d, b, c] := fun a b c d => set_end0 S _ a d
  simp (disch := omega) [F_Night___init__, runF_ap, B_Night___init__, F_table_of, t1, h1, c1, c2, d1, d2, i1, i2, s2, s3, -getElem?_pos]
  rfl
section
variable {k : Sky1} {xs : List Ask} {rd : D} {sure : Bool} {jw j : Nat}
@[simp] theorem nf_table : (nightFs k xs jw rd sure j).lookup (Str.ofString "table") = some (.d (tab encA xs)) := by simp [nightFs, List.lookup_cons]
@[simp] theorem nf_weather : (nightFs k xs jw rd sure j).lookup (Str.ofString "weather") = some (.d (enW k.W)) := by simp [nightFs, List.lookup_cons]
@[simp] theorem nf_spots : (nightFs k xs jw rd sure j).lookup (Str.ofString "spots") = some (.d (tab (fun x => natsD (k.begs x)) xs)) := by simp [nightFs, List.lookup_cons]
@[simp] theorem nf_worths : (nightFs k xs jw rd sure j).lookup (Str.ofString "worths") = some (.r jw) := by simp [nightFs, List.lookup_cons]
@[simp] theorem nf_room : (nightFs k xs jw rd sure j).lookup (Str.ofString "room") = some rd := by simp [nightFs, List.lookup_cons]
@[simp] theorem nf_sure : (nightFs k xs jw rd sure j).lookup (Str.ofString "sure") = some (.d (.bool sure)) := by simp [nightFs, List.lookup_cons]
@[simp] theorem nf_known : (nightFs k xs jw rd sure j).lookup (Str.ofString "known") = some (.r j) := by simp [nightFs, List.lookup_cons]
@[simp] theorem nf_best : (nightFs k xs jw rd sure j).lookup (Str.ofString "best") = none := by simp [nightFs, List.lookup_cons]
@[simp] theorem nf_places : (nightFs k xs jw rd sure j).lookup (Str.ofString "places") = none := by simp [nightFs, List.lookup_cons]
@[simp] theorem nf_value : (nightFs k xs jw rd sure j).lookup (Str.ofString "value") = none := by simp [nightFs, List.lookup_cons]
@[simp] theorem nf_has_room : (nightFs k xs jw rd sure j).lookup (Str.ofString "has_room") = none := by simp [nightFs, List.lookup_cons]
@[simp] theorem nf_plan : (nightFs k xs jw rd sure j).lookup (Str.ofString "plan") = none := by simp [nightFs, List.lookup_cons]
/-- no cell names one that is not there -/
def WfS (S : Store) : Prop := S.all (below S.length) = true
theorem gc_app {S : Store} (h : WfS S) (T : Store) : gcOk S.length (S ++ T) = true := by
  unfold gcOk
  rw [Bool.and_eq_true, List.take_left']
  · exact ⟨decide_eq_true (by rw [List.length_append]; omega), h⟩
  · rfl
theorem gc_self {S : Store} (h : WfS S) : gcOk S.length S = true := by
  have := gc_app h []
  rw [List.append_nil] at this
  exact this
/-- what room says -/
def RoomAt (S : Store) (rd : D) (room : Option (Str → Int)) (xs : List Ask) : Prop := match room with
  | none => rd = .d .none
  | some f => ∃ jr kvs, rd = .r jr ∧ S[jr]? = some (.dct kvs) ∧ ∀ x ∈ xs, valD kvs (.inr x.hs) = some (.int (f x.hs))
structure NAt (P : Prm) (k : Sky1) (xs : List Ask) (i jw : Nat) (rd : D) (j : Nat) (S : Store) : Prop where
  night : S[i]? = some (.ins "Night" (nightFs k xs jw rd P.sure j))
  worths : S[jw]? = some (.dct (worthKV P.wt xs))
  room : RoomAt S rd P.room xs
  wf : WfS S
/-- slots that are planned for a house, all but those left -/
def usedL (xs left : List Ask) (h : Str) : Int := ((xs.filter fun y => decide (y.hs = h) && !decide (y.nm ∈ names left)).map fun y => (y.long : Int)).sum
def hasRoom (P : Prm) (xs left : List Ask) (x : Ask) : Bool := match P.room with
  | none => true
  | some f => decide (usedL xs left x.hs + x.long ≤ f x.hs)
theorem vals_tab (f : Ask → PyData) (xs : List Ask) : (xs.map fun x => (PyData.str x.nm, f x)).map (·.2) = xs.map f := by rw [List.map_map]; rfl
theorem valD_kv (f : Ask → Int) : ∀ {xs : List Ask}, Names xs → ∀ {x : Ask}, x ∈ xs → valD (worthKV f xs) (.inr x.nm) = some (.int (f x))
  | [], _, _, h => absurd h (List.not_mem_nil)
  | y :: xs, hn, x, h => by
    unfold Names at hn
    rw [List.map_cons, List.nodup_cons] at hn
    unfold worthKV valD
    rw [List.map_cons, List.find?_cons]
    rcases List.mem_cons.mp h with rfl | h
    · simp
    · have hne : ¬ (Sum.inr y.nm : Key) = .inr x.nm := fun z => hn.1 (List.mem_map.mpr ⟨x, h, (Sum.inr.inj z).symm⟩)
      rw [decide_eq_false hne]
      exact valD_kv f hn.2 h
variable {P : Prm} {S : Store} {i : Nat}
theorem has_room_ok {x : Ask} {left : List Ask} (N : NAt P k xs i jw rd j S) (hx : AOk xs) (hm : x ∈ xs) (hl : left.length ≤ 1000) : F_Night_has_room [.r i, .d (.str x.nm), .d (.tuple (nmsD left))] S = .ok (.d (.bool (hasRoom P xs left x))) S := by
  have hS := N.night
  have hw := N.wf
  have hr := N.room
  unfold RoomAt at hr
  cases hP : P.room with
  | none =>
    rw [hP] at hr
    simp only at hr
    subst hr
    have : hasRoom P xs left x = true := by unfold hasRoom; rw [hP]
    rw [this]
    simp (disch := omega) [F_Night_has_room, gcF_ap, runF_ap, B_Night_has_room, hS, gc_self hw, -getElem?_pos]
  | some f =>
    rw [hP] at hr
    obtain ⟨jr, kvs, rfl, hk, hv⟩ := hr
    have hh : hasRoom P xs left x = decide (usedL xs left x.hs + x.long ≤ f x.hs) := by unfold hasRoom; rw [hP]
    have hlk := look_tab encA hx.nm hm
    have hvx := hv x hm
    have hval := vals_tab encA xs
    have hxl : xs.length < 16777216 := by have := hx.len; omega
    have hd : (nmsD left).all (dp 60) = true := by rw [nmsD_eq]; exact dp_map _ fun _ _ => dp_str _ _
    have hc : ∀ ρ1 : Sky.Env, ρ1 = [some (.r i), some (.d (.str x.nm)), some (.d (.tuple (nmsD left))), some (.d (.str x.hs)), none, none] → compL (gNm 5) (bAnd (asB (mOp gEq (mOp gIx (mVar 5) (mC (.int 1))) (mVar 3))) (asB (mOp gNin (mOp gIx (mVar 5) (mC (.int 0))) (mVar 2)))) (mOp gIx (mVar 5) (mC (.int 4))) ρ1 (xs.map encA) S
        = .ok ((xs.filter fun y => decide (y.hs = x.hs) && !decide (y.nm ∈ names left)).map fun y => .int (y.long : Nat)) S := by
      rintro ρ1 rfl
      refine compL_of encA _ _ xs fun y hy => ⟨_, gNm_ap _ _, ?_, fun _ => ?_⟩
      · have ha : ((nmsD left).any fun z => PyData.eqv z (.str y.nm)) = decide (y.nm ∈ names left) := by
          rw [nmsD_eq]
          exact any_strs (fun x : Ask => x.nm) left y.nm
        by_cases h1 : y.hs = x.hs <;> by_cases h2 : y.nm ∈ names left <;> simp (disch := omega) [gA_hs, gA_nm, h1, hd, ha, h2, -List.all_map, -List.any_map, -List.mem_map, -List.all_eq_true]
      · simp (disch := omega) [gA_long]
    have hs := sum_ints (fun y : Ask => (y.long : Int)) (xs.filter fun y => decide (y.hs = x.hs) && !decide (y.nm ∈ names left)) S
    have hu : ((xs.filter fun y => decide (y.hs = x.hs) && !decide (y.nm ∈ names left)).map fun y => (y.long : Int)).sum = usedL xs left x.hs := rfl
    rw [hu] at hs
    rw [hh]
    simp (disch := omega) [F_Night_has_room, gcF_ap, runF_ap, B_Night_has_room, hS, gc_self hw, hlk, gA_hs, gA_long, hval, hxl, hc _ rfl, hs, hk, hvx, -getElem?_pos]
def sval (P : Prm) (k : Sky1) (x : Ask) (s : Nat) : Int := if (P.sure && k.sure x s) = true then P.wt x else 0
theorem value_ok {x : Ask} {s : Nat} (N : NAt P k xs i jw rd j S) (hk : k.Ok) (hx : AOk xs) (hm : x ∈ xs) (hs : s + x.long ≤ 24) : F_Night_value [.r i, .d (.str x.nm), .d (.int (s : Nat))] S = .ok (.d (.tuple [.int (-sval P k x s), .int (-P.wt x)])) S := by
  have l := valD_kv P.wt hx.nm hm
  have l2 := look_tab encA hx.nm hm
  have e := p_is_sure hk (hx.ok x hm) hs
  have hS := N.night
  have hw := N.worths
  unfold sval
  cases hp : P.sure with
  | false =>
    rw [hp] at hS
    simp (disch := omega) [F_Night_value, gcF_ap, runF_ap, B_Night_value, hS, hw, gc_self N.wf, l, -getElem?_pos]
  | true =>
    rw [hp] at hS
    cases hq : k.sure x s <;>
    · rw [hq] at e
      simp (disch := omega) [F_Night_value, gcF_ap, runF_ap, B_Night_value, hS, hw, gc_self N.wf, l, l2, F_is_sure, e, -getElem?_pos]
def laterOf (k : Sky1) (x : Ask) (free : Nat) : List Nat := (k.begs x).filter fun s => decide (free ≤ s)
/-- where it is tried: the first place, and the first sure one -/
def firstG (P : Prm) (k : Sky1) (x : Ask) (free : Nat) : List Nat := (laterOf k x free).take 1 ++ if P.sure = true then ((laterOf k x free).filter (k.sure x)).take 1 else []
theorem laterOf_len (k : Sky1) (x : Ask) (free : Nat) : (laterOf k x free).length ≤ 24 := Nat.le_trans (List.length_filter_le _ _) (begs_len k x)
theorem places_ok {x : Ask} {free : Nat} (N : NAt P k xs i jw rd j S) (hk : k.Ok) (hx : AOk xs) (hm : x ∈ xs) : F_Night_places [.r i, .d (.str x.nm), .d (.int (free : Nat))] S = .ok (.d (natsD (firstG P k x free))) S := by
  have l := look_tab (fun x => natsD (k.begs x)) hx.nm hm
  have l2 := look_tab encA hx.nm hm
  have hbl := begs_len k x
  have hll := laterOf_len k x free
  have hl' : (k.begs x).length < 16777216 := by omega
  have hl2 : (laterOf k x free).length < 16777216 := by omega
  have hc : ∀ o1 o2 : Option D, compL (gNm 5) (asB (mOp gGe (mVar 5) (mVar 2))) (mVar 5) [some (.r i), some (.d (.str x.nm)), some (.d (.int (free : Nat))), o1, o2, none] ((k.begs x).map fun (s : Nat) => PyData.int (s : Nat)) S = .ok ((laterOf k x free).map fun (s : Nat) => .int (s : Nat)) S := by
    intro o1 o2
    refine compL_of (fun (s : Nat) => PyData.int (s : Nat)) (fun s => decide (free ≤ s)) (fun (s : Nat) => PyData.int (s : Nat)) (k.begs x) fun s hs => ⟨_, gNm_ap _ _, ?_, fun _ => ?_⟩
    · by_cases h : free ≤ s
      · have : (free : Int) ≤ (s : Int) := by omega
        simp [h, this]
      · have : ¬ (free : Int) ≤ (s : Int) := by omega
        simp [h, this]
    · simp
  have c1 : ∀ l : List PyData, cutD l none (some 1) = l.take 1 := fun l => cut_to l 1
  have lg : ∀ T, gIx T (.d (tab (fun x => natsD (k.begs x)) xs)) (.d (.str x.nm)) = some (.d (natsD (k.begs x))) := fun T => by
    rw [gIx_d, keyOf_s]
    show (dlook _ _).map D.d = _
    rw [l]
    rfl
  have hsq : ∀ (l : List Nat) T, kSeq (.ok (.d (natsD l)) T) = .ok (l.map fun (s : Nat) => PyData.int (s : Nat)) T := fun _ _ => rfl
  have hS := N.night
  cases hp : P.sure with
  | false =>
    rw [hp] at hS
    have hfin : natsD (firstG P k x free) = .list (((laterOf k x free).map fun (s : Nat) => PyData.int (s : Nat)).take 1) := by
      unfold firstG natsD
      rw [hp, if_neg Bool.false_ne_true, List.append_nil, List.map_take]
    rw [hfin]
    simp (disch := omega) [F_Night_places, gcF_ap, runF_ap, B_Night_places, hS, lg, hsq, hl', hc none none, c1, gc_app N.wf, app_get hS, -getElem?_pos, -gIx_d]
  | true =>
    rw [hp] at hS
    have hfin : natsD (firstG P k x free) = .list (((laterOf k x free).map fun (s : Nat) => PyData.int (s : Nat)).take 1 ++ (((laterOf k x free).filter (k.sure x)).map fun (s : Nat) => PyData.int (s : Nat)).take 1) := by
      unfold firstG natsD
      rw [hp, if_pos rfl, List.map_append, List.map_take, List.map_take]
    rw [hfin]
    have hc2 : ∀ (o3 o4 : Option D) (T : Store), compL (gNm 5) (asB (mCall 3 F_is_sure (aCons (mOp gIx (mFld "Night" "table" (mVar 0)) (mVar 1)) (aCons (mFld "Night" "weather" (mVar 0)) (aCons (mVar 5) aNil))))) (mVar 5) [some (.r i), some (.d (.str x.nm)), some (.d (.int (free : Nat))), o3, o4, none] ((laterOf k x free).map fun (s : Nat) => PyData.int (s : Nat)) (S ++ T)
        = .ok (((laterOf k x free).filter (k.sure x)).map fun (s : Nat) => .int (s : Nat)) (S ++ T) := by
      intro o3 o4 T
      refine compL_of (fun (s : Nat) => PyData.int (s : Nat)) (k.sure x) (fun (s : Nat) => PyData.int (s : Nat)) (laterOf k x free) fun s hs => ⟨_, gNm_ap _ _, ?_, fun _ => ?_⟩
      · have e := p_is_sure hk (hx.ok x hm) (beg_end hk (hx.ok x hm) (List.mem_filter.mp hs).1)
        simp (disch := omega) [app_get hS, l2, F_is_sure, e, -getElem?_pos]
      · simp
    have hlen : ((((laterOf k x free).map fun (s : Nat) => PyData.int (s : Nat)).take 1).length + ((((laterOf k x free).filter (k.sure x)).map fun (s : Nat) => PyData.int (s : Nat)).take 1).length) ≤ 16777216 := by
      rw [List.length_take, List.length_take]
      omega
    generalize hA : ((laterOf k x free).map fun (s : Nat) => PyData.int (s : Nat)).take 1 = A at hlen
    generalize hB : (((laterOf k x free).filter (k.sure x)).map fun (s : Nat) => PyData.int (s : Nat)).take 1 = B at hlen
    simp (disch := omega) [F_Night_places, gcF_ap, runF_ap, B_Night_places, hS, lg, hsq, hl', hl2, hc none none, c1, hA, hc2, hB, hlen, gc_app N.wf, app_get hS, -getElem?_pos, -gIx_d, -List.map_take]
end
end KK
end
section
/-! G4: Night.best is a plain recursion. -/
namespace KK
open PySem PySem.Spec PyProof.Rows L2 Sky
set_option maxHeartbeats 2000000
abbrev Run := Nat × Str
def encR (p : Run) : PyData := .tuple [.int (p.1 : Nat), .str p.2]
abbrev Val := Int × Int × List Run
def encV (v : Val) : PyData := .tuple [.int v.1, .int v.2.1, .tuple (v.2.2.map encR)]
theorem dp_encR (n : Nat) (p : Run) : dp (n + 1) (encR p) = true := by simp [encR]
theorem all_encR (n : Nat) (l : List Run) : (l.map encR).all (dp (n + 1)) = true := by
  rw [List.all_eq_true]
  intro x hx
  obtain ⟨p, _, rfl⟩ := List.mem_map.mp hx
  exact dp_encR n p
theorem dp_encV (v : Val) : dp 60 (encV v) = true := by
  have := all_encR 57 v.2.2
  simp only [encV, dp_tup', List.all_cons, List.all_nil, dp_int, Bool.true_and, Bool.and_true]
  exact this
theorem alike_runs : ∀ a b : List Run, PySem.W.alikeAll (a.map encR) (b.map encR) = true
  | [], b => by cases b <;> simp [PySem.W.alikeAll]
  | _ :: _, [] => by simp [PySem.W.alikeAll]
  | x :: a, y :: b => by simp [PySem.W.alikeAll, PySem.W.alike, encR, alike_runs a b]
theorem alike_encV (a b : Val) : PySem.W.alike (encV a) (encV b) = true := by
  simp [encV, PySem.W.alike, PySem.W.alikeAll, alike_runs]
theorem alikeB_encV (a b : Val) : alikeAllB [encV a, encV b] = true := by
  have h1 := dp_encV a
  have h2 := dp_encV b
  have n1 : isN (.d (encV a)) = false := rfl
  have n2 : isN (.d (encV b)) = false := rfl
  simp [alikeAllB, h1, h2, n1, n2, alike_encV]
def gap (tool : Option Str) (tl : Str) : Nat := match tool with
  | none => 0
  | some t => if t = tl then 0 else 1
def minV (a b : Val) : Val := if PySem.W.dataLt (encV b) (encV a) = true then b else a
theorem enc_minV (a b : Val) : (if PySem.W.dataLt (encV b) (encV a) = true then encV b else encV a) = encV (minV a b) := by
  unfold minV
  split <;> rfl
section
variable (P : Prm) (k : Sky1) (xs : List Ask)
def others (left : List Ask) (x : Ask) : List Ask := left.filter fun y => decide (y.nm ≠ x.nm)
/-- one way on -/
def way (rec : Nat → Option Str → List Ask → Val) (left : List Ask) (x : Ask) (s : Nat) : Val :=
  let b := rec (s + x.long) (some x.tl) (others left x)
  (b.1 + -sval P k x s, b.2.1 + -P.wt x, (s, x.nm) :: b.2.2)
/-- where it is tried -/
def tries (free : Nat) (tool : Option Str) (left : List Ask) (x : Ask) : List Nat := if hasRoom P xs left x = true then firstG P k x (free + gap tool x.tl) else []
def step1 (rec : Nat → Option Str → List Ask → Val) (free : Nat) (tool : Option Str) (left : List Ask) (found : Val) (x : Ask) : Val :=
  (tries P k xs free tool left x).foldl (fun f s => minV f (way P k rec left x s)) found
def bestR : Nat → Nat → Option Str → List Ask → Val
  | 0, _, _, _ => (0, 0, [])
  | n + 1, free, tool, left => left.foldl (step1 P k xs (bestR n) free tool left) (0, 0, [])
theorem others_len {left : List Ask} {x : Ask} (h : x ∈ left) : (others left x).length < left.length := by
  unfold others
  have : (left.filter fun y => decide (y.nm ≠ x.nm)).length ≠ left.length := by
    intro z
    have := List.length_filter_eq_length_iff.mp z x h
    simp at this
  have h2 := List.length_filter_le (fun y : Ask => decide (y.nm ≠ x.nm)) left
  omega
theorem others_sub {left : List Ask} {x y : Ask} (h : y ∈ others left x) : y ∈ left := (List.mem_filter.mp h).1
theorem fold_congr {α β : Type} {f g : β → α → β} : ∀ (l : List α) (b : β), (∀ x ∈ l, ∀ b, f b x = g b x) → l.foldl f b = l.foldl g b
  | [], _, _ => rfl
  | x :: l, b, h => by
    rw [List.foldl_cons, List.foldl_cons, h x List.mem_cons_self, fold_congr l _ fun y hy => h y (List.mem_cons_of_mem _ hy)]
/-- deep enough is deep enough -/
theorem bestR_deep : ∀ (n m : Nat) (free : Nat) (tool : Option Str) (left : List Ask), left.length ≤ n → left.length ≤ m → bestR P k xs n free tool left = bestR P k xs m free tool left
  | 0, 0, _, _, _, _, _ => rfl
  | 0, m + 1, free, tool, left, h, _ => by
    cases left with
    | nil => rfl
    | cons _ _ => simp at h
  | n + 1, 0, free, tool, left, _, h => by
    cases left with
    | nil => rfl
    | cons _ _ => simp at h
  | n + 1, m + 1, free, tool, left, h1, h2 => by
    unfold bestR
    refine fold_congr left _ fun x hx b => ?_
    unfold step1
    refine fold_congr _ _ fun s _ f => ?_
    have := others_len hx
    unfold way
    rw [bestR_deep n m _ _ (others left x) (by omega) (by omega)]
end
end KK
end
section
/-! G5: Night.best, walked. -/
namespace KK
open PySem PySem.Spec PyProof.Rows L2 Sky
set_option maxHeartbeats 2000000
@[simp] theorem mkOf_t (i : Int) (t : Option Str) (l : List Str) : mkOf (.d (.tuple [.int i, optD t, .tuple (l.map .str)])) = some (i, t, l) := mkOf_mkD (i, t, l)
theorem gMnin_ok {hf : MK → Int} {S : Store} {j : Nat} {m : List (MK × PyData)} {x : D} {key : MK} (h : S[j]? = some (.mem hf m)) (hk : mkOf x = some key) : gMnin hf S x (.r j) = some (.d (.bool (!(getM m key).isSome))) := by
  unfold gMnin
  rw [memOf_r h, hk]
  rfl
theorem gMix_ok {hf : MK → Int} {S : Store} {j : Nat} {m : List (MK × PyData)} {x : D} {key : MK} (h : S[j]? = some (.mem hf m)) (hk : mkOf x = some key) : gMix hf S (.r j) x = (getM m key).map .d := by
  unfold gMix
  rw [memOf_r h, hk]
  rfl
theorem gMset_ok {hf : MK → Int} {S : Store} {j : Nat} {m : List (MK × PyData)} {x : D} {key : MK} {y : PyData} (h : S[j]? = some (.mem hf m)) (hk : mkOf x = some key) (hl : m.length < 16777216) : gMset hf S (.r j) x (.d y) = some (S.set j (.mem hf (putM m key y))) := by
  show ((memOf S hf (.r j)).bind fun kvs => (mkOf x).bind fun k => if kvs.length < sizeLine then some (S.set j (.mem hf (putM kvs k y))) else none) = _
  rw [memOf_r h, hk]
  show (if m.length < sizeLine then some (S.set j (.mem hf (putM m key y))) else none) = _
  rw [sizeLine_eq, if_pos hl]
theorem getM_put (m : List (MK × PyData)) (key : MK) (y : PyData) (h : getM m key = none) : getM (putM m key y) key = some y := by
  unfold putM
  rw [h]
  simp only [Option.isSome_none, Bool.false_eq_true, if_false]
  unfold getM at h ⊢
  rw [List.find?_append]
  cases hf : m.find? (fun x => decide (x.1 = key)) with
  | none => simp
  | some z => rw [hf] at h; cases h
theorem getM_put_ne (m : List (MK × PyData)) (key key' : MK) (y d : PyData) (h0 : getM m key = none) (h : getM (putM m key y) key' = some d) : (key' = key ∧ d = y) ∨ getM m key' = some d := by
  unfold putM at h
  rw [h0] at h
  simp only [Option.isSome_none, Bool.false_eq_true, if_false] at h
  unfold getM at h ⊢
  rw [List.find?_append] at h
  cases hf : m.find? (fun x => decide (x.1 = key')) with
  | some z => rw [hf] at h; exact .inr h
  | none =>
    rw [hf] at h
    by_cases hk : key = key'
    · subst hk
      simp at h
      exact .inl ⟨rfl, h.symm⟩
    · simp [hk] at h
theorem putM_len (m : List (MK × PyData)) (key : MK) (y : PyData) (h : getM m key = none) : (putM m key y).length = m.length + 1 := by
  unfold putM
  rw [h]
  simp
/-- what the memo says is so -/
def MemOk (P : Prm) (k : Sky1) (xs : List Ask) (m : List (MK × PyData)) : Prop := ∀ key d, getM m key = some d → ∃ (free : Nat) (tool : Option Str) (l : List Ask), key = ((free : Int), tool, names l) ∧ (∀ x ∈ l, x ∈ xs) ∧ d = encV (bestR P k xs l.length free tool l)
theorem names_inj {xs : List Ask} (h : Names xs) : ∀ {l l' : List Ask}, (∀ x ∈ l, x ∈ xs) → (∀ x ∈ l', x ∈ xs) → names l = names l' → l = l'
  | [], [], _, _, _ => rfl
  | [], _ :: _, _, _, e => by simp [names] at e
  | _ :: _, [], _, _, e => by simp [names] at e
  | x :: l, y :: l', h1, h2, e => by
    simp only [names, List.map_cons, List.cons.injEq] at e
    have e1 : x = y := by
      have hx := h1 x List.mem_cons_self
      have hy := h2 y List.mem_cons_self
      obtain ⟨i, hi, rfl⟩ := List.getElem_of_mem hx
      obtain ⟨j, hj, rfl⟩ := List.getElem_of_mem hy
      have := (List.getElem_inj (xs := xs.map (·.nm)) (h₀ := by simpa using hi) (h₁ := by simpa using hj) (show (xs.map (·.nm)).Nodup from h)).mp (by simpa using e.1)
      subst this
      rfl
    rw [e1, names_inj h (fun z hz => h1 z (List.mem_cons_of_mem _ hz)) (fun z hz => h2 z (List.mem_cons_of_mem _ hz)) e.2]
def cnt : Nat → Nat
  | 0 => 1
  | l + 1 => 1 + (l + 1) * (2 * cnt l)
theorem cnt_mono : ∀ {a b : Nat}, a ≤ b → cnt a ≤ cnt b := by
  intro a b h
  induction h with
  | refl => exact Nat.le_refl _
  | @step m h ih =>
    have : 2 * cnt m ≤ (m + 1) * (2 * cnt m) := Nat.le_mul_of_pos_left _ (by omega)
    show cnt _ ≤ 1 + (m + 1) * (2 * cnt m)
    omega
structure At5 (P : Prm) (hf : MK → Int) (k : Sky1) (xs : List Ask) (i jw : Nat) (rd : D) (j : Nat) (S : Store) (m : List (MK × PyData)) : Prop where
  at_ : NAt P k xs i jw rd j S
  mem : S[j]? = some (.mem hf m)
  ok : MemOk P k xs m
section
variable {P : Prm} {hf : MK → Int} {k : Sky1} {xs : List Ask} {i jw j : Nat} {rd : D} {S : Store} {m m' : List (MK × PyData)}
theorem At5.night (a : At5 P hf k xs i jw rd j S m) : S[i]? = some (.ins "Night" (nightFs k xs jw rd P.sure j)) := a.at_.night
theorem At5.wf (a : At5 P hf k xs i jw rd j S m) : WfS S := a.at_.wf
theorem set_ne_cell {c d e : Cell} {a : Nat} (h1 : S[a]? = some c) (h2 : S[j]? = some d) (hne : c ≠ d) : (S.set j e)[a]? = some c := by
  have : j ≠ a := by
    rintro rfl
    rw [h1] at h2
    exact hne (Option.some.inj h2)
  rw [List.getElem?_set_ne this]
  exact h1
theorem At5.set (a : At5 P hf k xs i jw rd j S m) (h : MemOk P k xs m') : At5 P hf k xs i jw rd j (S.set j (.mem hf m')) m' where
  at_ :=
  { night := set_ne_cell a.at_.night a.mem (fun z => by cases z)
    worths := set_ne_cell a.at_.worths a.mem (fun z => by cases z)
    room := by
      have := a.at_.room
      unfold RoomAt at this ⊢
      cases hP : P.room with
      | none => rw [hP] at this; exact this
      | some f =>
        rw [hP] at this
        obtain ⟨jr, kvs, e, h1, h2⟩ := this
        exact ⟨jr, kvs, e, set_ne_cell h1 a.mem (fun z => by cases z), h2⟩
    wf := by
      unfold WfS
      rw [List.length_set]
      refine List.all_eq_true.mpr fun c hc => ?_
      rcases List.mem_or_eq_of_mem_set hc with h | rfl
      · exact List.all_eq_true.mp a.at_.wf c h
      · rfl }
  mem := get_set_same _ (lt_of_get a.mem)
  ok := h
end
def BestOk (P : Prm) (hf : MK → Int) (k : Sky1) (xs : List Ask) (i jw : Nat) (rd : D) (j : Nat) (F : Fn) (l : List Ask) : Prop := ∀ (free : Nat) (tool : Option Str) (S : Store) (m : List (MK × PyData)), At5 P hf k xs i jw rd j S m → m.length + cnt l.length < 16777216 →
  ∃ m', F [.r i, .d (.int (free : Nat)), .d (optD tool), .d (.tuple (nmsD l))] S = .ok (.d (encV (bestR P k xs l.length free tool l))) (S.set j (.mem hf m')) ∧ MemOk P k xs m' ∧ m'.length ≤ m.length + cnt l.length
end KK
end
section
/-! G6: Night.best's loops. -/
namespace KK
open PySem PySem.Spec PyProof.Rows L2 Sky
set_option maxHeartbeats 4000000
def isNot (n : Str) : PyData → Bool
  | .str z => !(z == n)
  | _ => false
theorem filter_names (left : List Ask) (x : Ask) : (nmsD left).filter (isNot x.nm) = nmsD (others left x) := by
  unfold nmsD names others
  rw [List.filter_map, List.filter_map, List.map_map, List.map_map]
  congr 1
  apply List.filter_congr
  intro y _
  show (!(y.nm == x.nm)) = decide (y.nm ≠ x.nm)
  by_cases h : y.nm = x.nm <;> simp [h]
theorem best_runs (P : Prm) (k : Sky1) (xs : List Ask) : ∀ (n : Nat) (free : Nat) (tool : Option Str) (l : List Ask), (bestR P k xs n free tool l).2.2.length ≤ n := by
  intro n
  induction n with
  | zero => intro free tool l; exact Nat.le_refl _
  | succ n ih =>
    intro free tool l
    have inner : ∀ (sl : List Nat) (f : Val) (x : Ask), f.2.2.length ≤ n + 1 → (sl.foldl (fun f s => minV f (way P k (bestR P k xs n) l x s)) f).2.2.length ≤ n + 1 := by
      intro sl
      induction sl with
      | nil => intro f x h; exact h
      | cons s sl ih2 =>
        intro f x h
        rw [List.foldl_cons]
        refine ih2 _ x ?_
        unfold minV
        split
        · unfold way
          simp only [List.length_cons]
          have := ih (s + x.long) (some x.tl) (others l x)
          omega
        · exact h
    have outer : ∀ (al : List Ask) (f : Val), f.2.2.length ≤ n + 1 → (al.foldl (step1 P k xs (bestR P k xs n) free tool l) f).2.2.length ≤ n + 1 := by
      intro al
      induction al with
      | nil => intro f h; exact h
      | cons x al ih2 =>
        intro f h
        rw [List.foldl_cons]
        exact ih2 _ (inner _ f x h)
    exact outer l _ (Nat.zero_le _)
section
variable {P : Prm} {hf : MK → Int} {k : Sky1} {xs : List Ask} {i jw j : Nat} {rd : D} {Fs : Fn}
abbrev recR (P : Prm) (k : Sky1) (xs : List Ask) : Nat → Option Str → List Ask → Val := fun fr t l => bestR P k xs l.length fr t l
theorem in_step {left : List Ask} {x : Ask} (hk : k.Ok) (hx : AOk xs) (hl : ∀ y ∈ left, y ∈ xs) (hm : x ∈ left) (h7 : left.length ≤ 7) (HF : BestOk P hf k xs i jw rd j Fs (others left x)) {S : Store} {m : List (MK × PyData)} (a5 : At5 P hf k xs i jw rd j S m) (hc : m.length + cnt (others left x).length < 16777216)
    (f : Val) (s : Nat) (hs : s + x.long ≤ 24) (o1 o2 o4 o8 o10 o11 o12 o13 o14 o15 : Option D) :
    ∃ (m' : List (MK × PyData)) (p10 p11 p12 p13 p14 p15 : Option D), L_Night_best_0 hf Fs [some (.r i), o1, o2, some (.d (.tuple (nmsD left))), o4, some (.d (encV f)), some (.d (.str x.nm)), some (.d (encA x)), o8, some (.d (.int (s : Nat))), o10, o11, o12, o13, o14, o15] S
      = .nx [some (.r i), o1, o2, some (.d (.tuple (nmsD left))), o4, some (.d (encV (minV f (way P k (recR P k xs) left x s)))), some (.d (.str x.nm)), some (.d (encA x)), o8, some (.d (.int (s : Nat))), p10, p11, p12, p13, p14, p15] (S.set j (.mem hf m')) ∧ MemOk P k xs m' ∧ m'.length ≤ m.length + cnt (others left x).length := by
  have hll : left.length < 16777216 := by omega
  have hcomp : ∀ ρ1 : Sky.Env, ρ1 = [some (.r i), o1, o2, some (.d (.tuple (nmsD left))), o4, some (.d (encV f)), some (.d (.str x.nm)), some (.d (encA x)), o8, some (.d (.int (s : Nat))), o10, o11, o12, o13, o14, none] →
      compL (gNm 15) (asB (mOp gNe (mVar 15) (mVar 6))) (mVar 15) ρ1 (nmsD left) S = .ok (nmsD (others left x)) S := by
    rintro ρ1 rfl
    rw [compL_pure (isNot x.nm) (fun z => z), List.map_id', filter_names]
    intro z hz
    obtain ⟨n, hn, rfl⟩ := List.mem_map.mp hz
    refine ⟨_, gNm_ap _ _, ?_, fun _ => ?_⟩
    · simp [isNot]
    · simp
  obtain ⟨m', e, ok', len'⟩ := HF (s + x.long) (some x.tl) S m a5 hc
  generalize hb : bestR P k xs (others left x).length (s + x.long) (some x.tl) (others left x) = b at e
  rw [Int.natCast_add, show encV b = .tuple [.int b.1, .int b.2.1, .tuple (b.2.2.map encR)] from rfl, show optD (some x.tl) = .str x.tl from rfl] at e
  have a6 := a5.set ok'
  have v := value_ok a6.at_ hk hx (hl x hm) hs
  have hw : encV (way P k (recR P k xs) left x s) = .tuple [.int (b.1 + -sval P k x s), .int (b.2.1 + -P.wt x), .tuple (.tuple [.int (s : Nat), .str x.nm] :: b.2.2.map encR)] := by
    unfold way
    rw [← hb]
    rfl
  have h1 := alikeB_encV f (way P k (recR P k xs) left x s)
  have h2 := enc_minV f (way P k (recR P k xs) left x s)
  rw [hw] at h1 h2
  have hol := others_len hm
  have hbl : 1 + b.2.2.length ≤ 16777216 := by
    have := best_runs P k xs (others left x).length (s + x.long) (some x.tl) (others left x)
    rw [hb] at this
    omega
  have hol2 : (others left x).length ≤ 16777216 := by omega
  have ep := e
  refine ⟨m', some (.d (.tuple (nmsD (others left x)))), some (.d (.int b.1)), some (.d (.int b.2.1)), some (.d (.tuple (b.2.2.map encR))), some (.d (.tuple [.int (-sval P k x s), .int (-P.wt x)])), o15, ?_, ok', len'⟩
  have hn5 := a5.night
  have hn6 := a6.night
  generalize sval P k x s = sv at v h1 h2
  generalize P.wt x = wx at v h1 h2
  simp (disch := omega) [L_Night_best_0, hll, hcomp _ rfl, hn5, hn6, gA_long, gA_tl, e, v, hbl, hol2, h1, h2, -getElem?_pos]
theorem slots_loop {left : List Ask} {x : Ask} (hk : k.Ok) (hx : AOk xs) (hl : ∀ y ∈ left, y ∈ xs) (hm : x ∈ left) (h7 : left.length ≤ 7) (HF : BestOk P hf k xs i jw rd j Fs (others left x)) (sl : List Nat) (hsl : ∀ s ∈ sl, s + x.long ≤ 24) {S : Store} {m : List (MK × PyData)} (a5 : At5 P hf k xs i jw rd j S m) (hc : m.length + sl.length * cnt (others left x).length < 16777216)
    (f : Val) (o1 o2 o4 o8 o9 o10 o11 o12 o13 o14 o15 : Option D) :
    ∃ (m' : List (MK × PyData)) (p9 p10 p11 p12 p13 p14 p15 : Option D), forL (gNm 9) (L_Night_best_0 hf Fs) (sl.map fun (s : Nat) => .int (s : Nat)) [some (.r i), o1, o2, some (.d (.tuple (nmsD left))), o4, some (.d (encV f)), some (.d (.str x.nm)), some (.d (encA x)), o8, o9, o10, o11, o12, o13, o14, o15] S
      = .nx [some (.r i), o1, o2, some (.d (.tuple (nmsD left))), o4, some (.d (encV (sl.foldl (fun f s => minV f (way P k (recR P k xs) left x s)) f))), some (.d (.str x.nm)), some (.d (encA x)), o8, p9, p10, p11, p12, p13, p14, p15] (S.set j (.mem hf m')) ∧ MemOk P k xs m' ∧ m'.length ≤ m.length + sl.length * cnt (others left x).length := by
  induction sl generalizing S m f o9 o10 o11 o12 o13 o14 o15 with
  | nil =>
    refine ⟨m, o9, o10, o11, o12, o13, o14, o15, ?_, a5.ok, by simp⟩
    have : S.set j (.mem hf m) = S := by
      have h := a5.mem
      obtain ⟨hlt, he⟩ := List.getElem?_eq_some_iff.mp h
      rw [← he]
      exact List.set_getElem_self hlt
    rw [this]
    rfl
  | cons s sl ih =>
    have hc1 : m.length + cnt (others left x).length < 16777216 := by
      rw [List.length_cons, Nat.add_mul] at hc
      omega
    obtain ⟨m1, p10, p11, p12, p13, p14, p15, e1, ok1, len1⟩ := in_step hk hx hl hm h7 HF a5 hc1 f s (hsl s List.mem_cons_self) o1 o2 o4 o8 o10 o11 o12 o13 o14 o15
    have a6 := a5.set ok1
    obtain ⟨m2, q9, q10, q11, q12, q13, q14, q15, e2, ok2, len2⟩ := ih (fun t ht => hsl t (List.mem_cons_of_mem _ ht)) a6 (by rw [List.length_cons, Nat.add_mul] at hc; omega) (minV f (way P k (recR P k xs) left x s)) (some (.d (.int (s : Nat)))) p10 p11 p12 p13 p14 p15
    refine ⟨m2, q9, q10, q11, q12, q13, q14, q15, ?_, ok2, by rw [List.length_cons, Nat.add_mul]; omega⟩
    rw [List.map_cons]
    unfold forL
    simp only [gNm_ap, List.set_cons_succ, List.set_cons_zero]
    rw [e1]
    simp only []
    rw [e2, List.set_set]
    rfl
end
end KK
end
section
/-! G7: Night.best, Night.plan. -/
namespace KK
open PySem PySem.Spec PyProof.Rows L2 Sky
set_option maxHeartbeats 4000000
theorem eqv_no (t : Str) : PyData.eqv .none (.str t) = false := by simp [PyData.eqv]
theorem eqv_nn : PyData.eqv .none .none = true := by simp [PyData.eqv]
theorem eqv_sn (t : Str) : PyData.eqv (.str t) .none = false := by simp [PyData.eqv]
theorem gap_val (S : Store) (tool : Option Str) (tl : Str) : gNin S (.d (optD tool)) (.d (.tuple [.none, .str tl])) = some (.d (.bool (decide (gap tool tl = 1)))) := by
  cases tool with
  | none => simp [optD, gap, eqv_nn]
  | some t =>
    by_cases h : t = tl
    · subst h; simp [optD, gap, eqv_no]
    · have h2 : ¬ tl = t := fun z => h z.symm
      simp [optD, gap, eqv_no, h, h2]
theorem gap_int (tool : Option Str) (tl : Str) : (if decide (gap tool tl = 1) = true then (1 : Int) else 0) = ((gap tool tl : Nat) : Int) := by
  unfold gap
  cases tool with
  | none => rfl
  | some t => by_cases h : t = tl <;> simp [h]
section
variable {P : Prm} {hf : MK → Int} {k : Sky1} {xs : List Ask} {i jw j : Nat} {rd : D} {Fs : Fn}
theorem first_len (x : Ask) (free : Nat) : (firstG P k x free).length ≤ 2 := by
  unfold firstG
  rw [List.length_append, List.length_take]
  split
  · rw [List.length_take]; omega
  · rw [List.length_nil]; omega
theorem tries_len (free : Nat) (tool : Option Str) (left : List Ask) (x : Ask) : (tries P k xs free tool left x).length ≤ 2 := by
  unfold tries
  split
  · exact first_len x _
  · exact Nat.zero_le _
theorem first_mem {x : Ask} {free s : Nat} (h : s ∈ firstG P k x free) : s ∈ k.begs x ∧ free ≤ s := by
  have go : s ∈ laterOf k x free → s ∈ k.begs x ∧ free ≤ s := fun h => by
    unfold laterOf at h
    rw [List.mem_filter] at h
    exact ⟨h.1, of_decide_eq_true h.2⟩
  unfold firstG at h
  rcases List.mem_append.mp h with h | h
  · exact go (List.mem_of_mem_take h)
  · split at h
    · exact go (List.mem_filter.mp (List.mem_of_mem_take h)).1
    · cases h
theorem tries_mem {free : Nat} {tool : Option Str} {left : List Ask} {x : Ask} {s : Nat} (h : s ∈ tries P k xs free tool left x) : hasRoom P xs left x = true ∧ s ∈ k.begs x ∧ free + gap tool x.tl ≤ s := by
  unfold tries at h
  split at h
  · rename_i hr
    exact ⟨hr, first_mem h⟩
  · cases h
theorem name_step {left : List Ask} {x : Ask} (hk : k.Ok) (hx : AOk xs) (hl : ∀ y ∈ left, y ∈ xs) (hm : x ∈ left) (h7 : left.length ≤ 7) (HF : BestOk P hf k xs i jw rd j Fs (others left x)) {S : Store} {m : List (MK × PyData)} (a5 : At5 P hf k xs i jw rd j S m) (hc : m.length + 2 * cnt (others left x).length < 16777216)
    (f : Val) (free : Nat) (tool : Option Str) (o4 o7 o8 o9 o10 o11 o12 o13 o14 o15 : Option D) :
    ∃ (m' : List (MK × PyData)) (p7 p8 p9 p10 p11 p12 p13 p14 p15 : Option D), L_Night_best_1 hf Fs [some (.r i), some (.d (.int (free : Nat))), some (.d (optD tool)), some (.d (.tuple (nmsD left))), o4, some (.d (encV f)), some (.d (.str x.nm)), o7, o8, o9, o10, o11, o12, o13, o14, o15] S
      = .nx [some (.r i), some (.d (.int (free : Nat))), some (.d (optD tool)), some (.d (.tuple (nmsD left))), o4, some (.d (encV (step1 P k xs (recR P k xs) free tool left f x))), some (.d (.str x.nm)), p7, p8, p9, p10, p11, p12, p13, p14, p15] (S.set j (.mem hf m')) ∧ MemOk P k xs m' ∧ m'.length ≤ m.length + 2 * cnt (others left x).length := by
  have l := look_tab encA hx.nm (hl x hm)
  have hr := has_room_ok a5.at_ hx (hl x hm) (left := left) (by omega)
  have pl := places_ok (free := free + gap tool x.tl) a5.at_ hk hx (hl x hm)
  rw [Int.natCast_add] at pl
  have hfl := tries_len (P := P) (k := k) (xs := xs) free tool left x
  have hcc : (tries P k xs free tool left x).length * cnt (others left x).length ≤ 2 * cnt (others left x).length := Nat.mul_le_mul_right (cnt (others left x).length) hfl
  obtain ⟨m', p9, p10, p11, p12, p13, p14, p15, e, ok', len'⟩ := slots_loop hk hx hl hm h7 HF (tries P k xs free tool left x) (fun s hs => beg_end hk (hx.ok x (hl x hm)) (tries_mem hs).2.1) a5 (by omega) f (some (.d (.int (free : Nat)))) (some (.d (optD tool))) o4 (some (.d (.int ((free : Int) + (gap tool x.tl : Nat))))) o9 o10 o11 o12 o13 o14 o15
  refine ⟨m', some (.d (encA x)), some (.d (.int ((free : Int) + (gap tool x.tl : Nat)))), p9, p10, p11, p12, p13, p14, p15, ?_, ok', by omega⟩
  have g1 := gap_val S tool x.tl
  have g2 := gap_int tool x.tl
  have hn5 := a5.night
  have hst : step1 P k xs (recR P k xs) free tool left f x = (tries P k xs free tool left x).foldl (fun f s => minV f (way P k (recR P k xs) left x s)) f := rfl
  rw [hst]
  have hsq : ∀ (l : List Nat) T, kSeq (.ok (.d (natsD l)) T) = .ok (l.map fun (s : Nat) => PyData.int (s : Nat)) T := fun _ _ => rfl
  cases hh : hasRoom P xs left x with
  | true =>
    have ht : tries P k xs free tool left x = firstG P k x (free + gap tool x.tl) := by unfold tries; rw [hh, if_pos rfl]
    rw [hh] at hr
    rw [ht] at e ⊢
    simp (disch := omega) [L_Night_best_1, hn5, l, gA_tl, g1, g2, hr, pl, hsq, e, -getElem?_pos, -gNin_ap, -decide_eq_true_eq]
  | false =>
    have ht : tries P k xs free tool left x = [] := by unfold tries; rw [hh]; rfl
    rw [hh] at hr
    rw [ht, List.map_nil] at e
    rw [ht]
    simp (disch := omega) [L_Night_best_1, hn5, l, gA_tl, g1, g2, hr, e, -getElem?_pos, -gNin_ap, -decide_eq_true_eq]
end
end KK
end
section
/-! G8: Night.best is bestR. -/
namespace KK
open PySem PySem.Spec PyProof.Rows L2 Sky
set_option maxHeartbeats 4000000
section
variable {P : Prm} {hf : MK → Int} {k : Sky1} {xs : List Ask} {i jw j : Nat} {rd : D} {Fs : Fn}
theorem nmsD_cons (x : Ask) (l : List Ask) : nmsD (x :: l) = .str x.nm :: nmsD l := rfl
theorem names_loop {left : List Ask} {c : Nat} (hk : k.Ok) (hx : AOk xs) (hl : ∀ y ∈ left, y ∈ xs) (h7 : left.length ≤ 7) (HF : ∀ x ∈ left, BestOk P hf k xs i jw rd j Fs (others left x)) (hcn : ∀ x ∈ left, 2 * cnt (others left x).length ≤ c) (al : List Ask) (ha : ∀ x ∈ al, x ∈ left) {S : Store} {m : List (MK × PyData)} (a5 : At5 P hf k xs i jw rd j S m) (hc : m.length + al.length * c < 16777216)
    (f : Val) (free : Nat) (tool : Option Str) (o4 o6 o7 o8 o9 o10 o11 o12 o13 o14 o15 : Option D) :
    ∃ (m' : List (MK × PyData)) (p6 p7 p8 p9 p10 p11 p12 p13 p14 p15 : Option D), forL (gNm 6) (L_Night_best_1 hf Fs) (nmsD al) [some (.r i), some (.d (.int (free : Nat))), some (.d (optD tool)), some (.d (.tuple (nmsD left))), o4, some (.d (encV f)), o6, o7, o8, o9, o10, o11, o12, o13, o14, o15] S
      = .nx [some (.r i), some (.d (.int (free : Nat))), some (.d (optD tool)), some (.d (.tuple (nmsD left))), o4, some (.d (encV (al.foldl (step1 P k xs (recR P k xs) free tool left) f))), p6, p7, p8, p9, p10, p11, p12, p13, p14, p15] (S.set j (.mem hf m')) ∧ MemOk P k xs m' ∧ m'.length ≤ m.length + al.length * c := by
  induction al generalizing S m f o6 o7 o8 o9 o10 o11 o12 o13 o14 o15 with
  | nil =>
    refine ⟨m, o6, o7, o8, o9, o10, o11, o12, o13, o14, o15, ?_, a5.ok, by simp⟩
    have : S.set j (.mem hf m) = S := by
      have h := a5.mem
      obtain ⟨hlt, he⟩ := List.getElem?_eq_some_iff.mp h
      rw [← he]
      exact List.set_getElem_self hlt
    rw [this]
    rfl
  | cons x al ih =>
    have hm := ha x List.mem_cons_self
    have hcx := hcn x hm
    have hc0 : m.length + (al.length * c + c) < 16777216 := by
      rw [List.length_cons, Nat.add_mul] at hc
      omega
    obtain ⟨m1, p7, p8, p9, p10, p11, p12, p13, p14, p15, e1, ok1, len1⟩ := name_step hk hx hl hm h7 (HF x hm) a5 (by omega) f free tool o4 o7 o8 o9 o10 o11 o12 o13 o14 o15
    have a6 := a5.set ok1
    obtain ⟨m2, q6, q7, q8, q9, q10, q11, q12, q13, q14, q15, e2, ok2, len2⟩ := ih (fun y hy => ha y (List.mem_cons_of_mem _ hy)) a6 (by omega) (step1 P k xs (recR P k xs) free tool left f x) (some (.d (.str x.nm))) p7 p8 p9 p10 p11 p12 p13 p14 p15
    refine ⟨m2, q6, q7, q8, q9, q10, q11, q12, q13, q14, q15, ?_, ok2, by rw [List.length_cons, Nat.add_mul]; omega⟩
    rw [nmsD_cons]
    unfold forL
    simp only [gNm_ap, List.set_cons_succ, List.set_cons_zero]
    rw [e1]
    simp only []
    rw [e2, List.set_set]
    rfl
theorem bestR_fold (free : Nat) (tool : Option Str) {left : List Ask} (hp : left ≠ []) : left.foldl (step1 P k xs (recR P k xs) free tool left) (0, 0, []) = bestR P k xs left.length free tool left := by
  cases hn : left.length with
  | zero => exact absurd (List.length_eq_zero_iff.mp hn) hp
  | succ n =>
    unfold bestR
    refine fold_congr left _ fun x hx b => ?_
    unfold step1
    refine fold_congr _ _ fun s _ f => ?_
    have := others_len hx
    unfold way
    show minV f (let b := recR P k xs (s + x.long) (some x.tl) (others left x); _) = _
    unfold recR
    rw [bestR_deep P k xs (others left x).length n _ _ (others left x) (Nat.le_refl _) (by omega)]
theorem bestR_fold' (free : Nat) (tool : Option Str) (left : List Ask) : left.foldl (step1 P k xs (recR P k xs) free tool left) (0, 0, []) = bestR P k xs left.length free tool left := by
  by_cases hp : left = []
  · subst hp; rfl
  · exact bestR_fold free tool hp
theorem cnt7 {n : Nat} (h : n ≤ 7) : cnt n ≤ 1063623 := Nat.le_trans (cnt_mono h) (by decide)
theorem cnt_step {n c : Nat} (hn : 0 < n) : n * (2 * cnt (n - 1)) + 1 = cnt n := by
  cases n with
  | zero => omega
  | succ n => show (n + 1) * (2 * cnt n) + 1 = 1 + (n + 1) * (2 * cnt n); omega
theorem getM_map (key key' : MK) (y : PyData) : ∀ (m : List (MK × PyData)), getM (m.map fun x => if x.1 = key then (x.1, y) else x) key' = if key' = key then (getM m key').map (fun _ => y) else getM m key'
  | [] => by unfold getM; simp
  | x :: m => by
    have ih := getM_map key key' y m
    unfold getM at ih ⊢
    rw [List.map_cons, List.find?_cons, List.find?_cons]
    by_cases h1 : x.1 = key
    · by_cases h2 : key = key'
      · subst h2
        simp [h1]
      · have h3 : ¬ key' = key := fun z => h2 z.symm
        simp only [h1, h2, h3, if_true, if_false, decide_false] at ih ⊢
        exact ih
    · by_cases h2 : x.1 = key'
      · have h3 : ¬ key' = key := fun z => h1 (h2.trans z)
        simp [h2, h3]
      · simp only [h1, h2, if_false, decide_false] at ih ⊢
        exact ih
theorem getM_put_s (m : List (MK × PyData)) (key : MK) (y : PyData) : getM (putM m key y) key = some y := by
  cases h : getM m key with
  | none => exact getM_put m key y h
  | some d =>
    unfold putM
    rw [h, if_pos (show (some d).isSome = true from rfl), getM_map, if_pos rfl, h]
    rfl
theorem getM_put_or (m : List (MK × PyData)) (key key' : MK) (y d : PyData) (h : getM (putM m key y) key' = some d) : (key' = key ∧ d = y) ∨ getM m key' = some d := by
  cases h0 : getM m key with
  | none => exact getM_put_ne m key key' y d h0 h
  | some d0 =>
    unfold putM at h
    rw [h0, if_pos (show (some d0).isSome = true from rfl), getM_map] at h
    by_cases hk : key' = key
    · subst hk
      rw [if_pos rfl, h0] at h
      exact .inl ⟨rfl, (Option.some.inj h).symm⟩
    · rw [if_neg hk] at h
      exact .inr h
theorem putM_le (m : List (MK × PyData)) (key : MK) (y : PyData) : (putM m key y).length ≤ m.length + 1 := by
  unfold putM
  split
  · rw [List.length_map]; omega
  · rw [List.length_append]; exact Nat.le_refl _
theorem MemOk.put {m : List (MK × PyData)} (h : MemOk P k xs m) {free : Nat} {tool : Option Str} {l : List Ask} (hl : ∀ x ∈ l, x ∈ xs) : MemOk P k xs (putM m ((free : Int), tool, names l) (encV (bestR P k xs l.length free tool l))) := by
  intro key d hg
  rcases getM_put_or _ _ _ _ _ hg with ⟨h1, h2⟩ | h1
  · exact ⟨free, tool, l, h1, hl, h2⟩
  · exact h _ _ h1
theorem best_ok (hk : k.Ok) (hx : AOk xs) : ∀ (n : Nat) (l : List Ask), (∀ y ∈ l, y ∈ xs) → l.length ≤ 7 → l.length < n → BestOk P hf k xs i jw rd j (F_Night_best hf n) l := by
  intro n
  induction n with
  | zero => intro l _ _ h; omega
  | succ n ih =>
    intro l hl h7 hn free tool S m a5 hc
    have hkey := mkOf_t free tool (names l)
    have hg := gMnin_ok (hf := hf) (x := .d (.tuple [.int (free : Nat), optD tool, .tuple (nmsD l)])) a5.mem hkey
    have hll : l.length < 16777216 := by omega
    cases hm : getM m ((free : Int), tool, names l) with
    | some d =>
      rw [hm] at hg
      have he : d = encV (bestR P k xs l.length free tool l) := by
        obtain ⟨free', tool', l', hk, hs, hd⟩ := a5.ok _ _ hm
        simp only [Prod.mk.injEq] at hk
        obtain ⟨h1, h2, h3⟩ := hk
        have h1' : free = free' := by omega
        have h3' := names_inj hx.nm hl hs h3
        rw [hd, h1', h2, h3']
      have hi := gMix_ok (hf := hf) (x := .d (.tuple [.int (free : Nat), optD tool, .tuple (nmsD l)])) a5.mem hkey
      rw [hm] at hi
      refine ⟨m, ?_, a5.ok, by omega⟩
      have hn5 := a5.night
      have hself : S.set j (.mem hf m) = S := by
        obtain ⟨hlt, h⟩ := List.getElem?_eq_some_iff.mp a5.mem
        rw [← h]
        exact List.set_getElem_self hlt
      rw [hself]
      simp (disch := omega) [F_Night_best, gcF_ap, runF_ap, B_Night_best, hn5, hg, hi, he, gc_self a5.wf, -getElem?_pos]
    | none =>
      rw [hm] at hg
      have hh : ∀ x ∈ l, 2 * cnt (others l x).length ≤ 2 * cnt (l.length - 1) := fun x hxl => Nat.mul_le_mul_left 2 (cnt_mono (by have := others_len hxl; omega))
      have hlc : l.length * (2 * cnt (l.length - 1)) + 1 ≤ cnt l.length := by
        rcases Nat.eq_zero_or_pos l.length with h | h
        · rw [h]; decide
        · exact Nat.le_of_eq (cnt_step (c := 0) h)
      obtain ⟨m1, p6, p7, p8, p9, p10, p11, p12, p13, p14, p15, e, ok1, len1⟩ := names_loop hk hx hl h7 (fun x hxl => ih (others l x) (fun y hy => hl y (others_sub hy)) (by have := others_len hxl; omega) (by have := others_len hxl; omega)) hh l (fun x h => h) a5 (by omega) (0, 0, []) free tool (some (.d (.tuple [.int (free : Nat), optD tool, .tuple (nmsD l)]))) none none none none none none none none none none
      rw [bestR_fold'] at e
      have a6 := a5.set ok1
      have hs := gMset_ok (x := .d (.tuple [.int (free : Nat), optD tool, .tuple (nmsD l)])) (y := encV (bestR P k xs l.length free tool l)) a6.mem hkey (by omega)
      have ok2 := ok1.put (free := free) (tool := tool) hl
      have a7 := a5.set ok2
      have hi := gMix_ok (hf := hf) (x := .d (.tuple [.int (free : Nat), optD tool, .tuple (nmsD l)])) a7.mem hkey
      rw [getM_put_s] at hi
      have hpl := putM_le m1 ((free : Int), tool, names l) (encV (bestR P k xs l.length free tool l))
      rw [List.set_set] at hs
      refine ⟨_, ?_, ok2, by omega⟩
      have hn5 := a5.night
      have hn6 := a6.night
      have hn7 := a7.night
      have hgc : gcOk S.length (S.set j (.mem hf (putM m1 ((free : Int), tool, names l) (encV (bestR P k xs l.length free tool l))))) = true := by
        have := gc_self a7.wf
        rw [List.length_set] at this
        exact this
      have htk : ∀ c : Cell, List.take S.length (S.set j c) = S.set j c := fun c => List.take_of_length_le (by rw [List.length_set]; exact Nat.le_refl _)
      have e0 : encV (0, 0, []) = .tuple [.int 0, .int 0, .tuple []] := rfl
      rw [e0] at e
      simp (disch := omega) [F_Night_best, gcF_ap, runF_ap, B_Night_best, hn5, hn6, hn7, hg, e, hs, hi, hgc, sMsub, SR.ofE, htk, -getElem?_pos]
end
end KK
end
section
/-! G9: Night.plan, best_plan. -/
namespace KK
open PySem PySem.Spec PyProof.Rows L2 Sky
set_option maxHeartbeats 4000000
def leA (a b : Ask) : Bool := leS a.nm b.nm
/-- the asks by their names -/
def srt (xs : List Ask) : List Ask := xs.mergeSort leA
theorem srt_perm (xs : List Ask) : (srt xs).Perm xs := List.mergeSort_perm xs leA
theorem srt_len (xs : List Ask) : (srt xs).length = xs.length := (srt_perm xs).length_eq
theorem srt_mem {xs : List Ask} {x : Ask} : x ∈ srt xs ↔ x ∈ xs := (srt_perm xs).mem_iff
theorem srt_names (xs : List Ask) : sortS (names xs) = names (srt xs) := by
  unfold sortS names srt
  exact (List.map_mergeSort (r := leA) (s := leS) (f := fun x : Ask => x.nm) fun _ _ _ _ => rfl).symm
theorem keys_tab (S : Store) (f : Ask → PyData) (xs : List Ask) : keysOf S (.d (tab f xs)) = some (names xs) := dkeys_tab f xs
def bestG (P : Prm) (k : Sky1) (xs : List Ask) : Val := bestR P k xs xs.length 0 none (srt xs)
section
variable {P : Prm} {hf : MK → Int} {k : Sky1} {xs : List Ask} {ns : List (Int × Int)}
theorem plan_ok {S : Store} {i jw j : Nat} {rd : D} (hk : k.Ok) (hx : AOk xs) (a5 : At5 P hf k xs i jw rd j S []) : ∃ S', F_Night_plan hf [.r i] S = .ok (.d (.tuple ((bestG P k xs).2.2.map encR))) S' := by
  have h7 := hx.len
  have hl7 : (srt xs).length ≤ 7 := by rw [srt_len]; exact h7
  have hc7 := cnt7 hl7
  have h0 : ([] : List (MK × PyData)).length + cnt (srt xs).length < 16777216 := by
    show 0 + _ < _
    omega
  obtain ⟨m', e, ok', len'⟩ := best_ok hk hx 8 (srt xs) (fun y hy => srt_mem.mp hy) hl7 (by omega) 0 none _ _ a5 h0
  have hkk := keys_tab S encA xs
  have hn64 : (names xs).length < 64 := by rw [names_len]; omega
  have a6 := a5.set ok'
  have hcs : cSortedD S [.d (tab encA xs)] = some (.d (.list (nmsD (srt xs)))) := by
    show ((keysOf S (.d (tab encA xs))).bind fun ks => if ks.length < 64 then some (D.d (.list ((sortS ks).map .str))) else none) = _
    rw [hkk]
    show (if (names xs).length < 64 then some (D.d (.list ((sortS (names xs)).map .str))) else none) = _
    rw [if_pos hn64, srt_names]
  have hlen : (srt xs).length < 16777216 := by omega
  rw [show (srt xs).length = xs.length from srt_len xs] at e
  rw [show encV (bestR P k xs xs.length 0 none (srt xs)) = .tuple [.int (bestG P k xs).1, .int (bestG P k xs).2.1, .tuple ((bestG P k xs).2.2.map encR)] from rfl] at e
  have hgc : gcOk S.length (S.set j (.mem hf m')) = true := by
    have := gc_self a6.wf
    rw [List.length_set] at this
    exact this
  have e' := e
  simp only [show ((0 : Nat) : Int) = 0 from rfl, optD] at e'
  have hn5 := a5.night
  refine ⟨S.set j (.mem hf m'), ?_⟩
  have htk : ∀ c : Cell, List.take S.length (S.set j c) = S.set j c := fun c => List.take_of_length_le (by rw [List.length_set]; exact Nat.le_refl _)
  simp (disch := omega) [F_Night_plan, gcF_ap, runF_ap, B_Night_plan, hn5, hcs, hlen, e', hgc, htk, -getElem?_pos]
theorem mem_nil : MemOk P k xs [] := by intro key d h; cases h
/-- the store of a new look -/
abbrev look0 (hf : MK → Int) (k : Sky1) (xs : List Ask) : Store := [.ins "Night" (nightFs k xs 1 (.d .none) false 2), .dct (worthKV (fun x => x.rank) xs), .mem hf []]
theorem at_plain : At5 plain hf k xs 0 1 (.d .none) 2 (look0 hf k xs) [] := ⟨⟨rfl, rfl, rfl, rfl⟩, rfl, mem_nil⟩
def bestP (k : Sky1) (xs : List Ask) : Val := bestG plain k xs
theorem init0 (hk : k.Ok) (hn : ns[k.n]? = some k.p) (hx : AOk xs) : F_Night___init__ hf [.r 0, .d (enS k.t ns), .d (.int (k.n : Nat)), .d (.tuple (xs.map encA)), .d (enW k.W)] [.ins "Night" []] = .ok (.d .none) (look0 hf k xs) := init_ok hf hk hn hx []
theorem best_plan_ok (hk : k.Ok) (hn : ns[k.n]? = some k.p) (hx : AOk xs) : P_best_plan hf [enS k.t ns, .int (k.n : Nat), .tuple (xs.map encA), enW k.W] = some (.tuple ((bestP k xs).2.2.map encR)) := by
  obtain ⟨S, e⟩ := plan_ok (hf := hf) (k := k) hk hx at_plain
  have i := init0 (hf := hf) hk hn hx
  simp (disch := omega) [P_best_plan, runP_ap, B_best_plan, i, e, bestP, -getElem?_pos]
end
end KK
end
section
/-! Math10: the order that the best is the least of. -/
namespace KK
open PySem PySem.Spec PyProof.Rows L2 Sky
set_option maxHeartbeats 2000000
/-- texts, the less -/
def ltS (a b : Str) : Prop := a.cps.toList < b.cps.toList
instance : DecidableRel ltS := fun a b => inferInstanceAs (Decidable (a.cps.toList < b.cps.toList))
theorem ltS_irr (a : Str) : ¬ ltS a a := List.lt_irrefl _
theorem ltS_trans {a b c : Str} (h : ltS a b) (h2 : ltS b c) : ltS a c := List.lt_trans h h2
theorem ltS_tri (a b : Str) : ltS a b ∨ a = b ∨ ltS b a := by
  by_cases h : ltS a b
  · exact .inl h
  · by_cases h2 : ltS b a
    · exact .inr (.inr h2)
    · exact .inr (.inl (leS_anti (decide_eq_true (List.not_lt.mp h2)) (decide_eq_true (List.not_lt.mp h))))
def ltR (p q : Run) : Prop := p.1 < q.1 ∨ (p.1 = q.1 ∧ ltS p.2 q.2)
instance : DecidableRel ltR := fun p q => inferInstanceAs (Decidable (_ ∨ _))
theorem ltR_irr (a : Run) : ¬ ltR a a := by 
  rintro (h | ⟨_, h⟩)
  · exact Nat.lt_irrefl _ h
  · exact ltS_irr _ h
theorem ltR_trans {a b c : Run} (h : ltR a b) (h2 : ltR b c) : ltR a c := by
  rcases h with h | ⟨h, h'⟩ <;> rcases h2 with g | ⟨g, g'⟩
  · exact .inl (by omega)
  · exact .inl (by omega)
  · exact .inl (by omega)
  · exact .inr ⟨by omega, ltS_trans h' g'⟩
theorem ltR_tri (a b : Run) : ltR a b ∨ a = b ∨ ltR b a := by
  rcases Nat.lt_trichotomy a.1 b.1 with h | h | h
  · exact .inl (.inl h)
  · rcases ltS_tri a.2 b.2 with g | g | g
    · exact .inl (.inr ⟨h, g⟩)
    · exact .inr (.inl (Prod.ext h g))
    · exact .inr (.inr (.inr ⟨h.symm, g⟩))
  · exact .inr (.inr (.inl h))
/-- plans, the less -/
def ltL : List Run → List Run → Prop
  | _, [] => False
  | [], _ :: _ => True
  | p :: a, q :: b => ltR p q ∨ (p = q ∧ ltL a b)
instance decL : (a b : List Run) → Decidable (ltL a b)
  | [], [] => isFalse fun h => h
  | _ :: _, [] => isFalse fun h => h
  | [], _ :: _ => isTrue trivial
  | p :: a, q :: b => by
    have := decL a b
    show Decidable (ltR p q ∨ (p = q ∧ ltL a b))
    infer_instance
theorem ltL_irr : ∀ a : List Run, ¬ ltL a a
  | [], h => h
  | p :: a, h => by
    rcases h with h | ⟨_, h⟩
    · exact ltR_irr _ h
    · exact ltL_irr a h
theorem ltL_trans : ∀ {a b c : List Run}, ltL a b → ltL b c → ltL a c
  | _, [], [], _, h => False.elim h
  | _, _ :: _, [], _, h => False.elim h
  | [], [], _ :: _, h, _ => False.elim h
  | _ :: _, [], _ :: _, h, _ => False.elim h
  | [], _ :: _, _ :: _, _, _ => trivial
  | p :: a, q :: b, r :: c, h, h2 => by
    rcases h with h | ⟨rfl, h⟩ <;> rcases h2 with g | ⟨rfl, g⟩
    · exact .inl (ltR_trans h g)
    · exact .inl h
    · exact .inl g
    · exact .inr ⟨rfl, ltL_trans h g⟩
theorem ltL_tri : ∀ a b : List Run, ltL a b ∨ a = b ∨ ltL b a
  | [], [] => .inr (.inl rfl)
  | [], _ :: _ => .inl trivial
  | _ :: _, [] => .inr (.inr trivial)
  | p :: a, q :: b => by
    rcases ltR_tri p q with h | rfl | h
    · exact .inl (.inl h)
    · rcases ltL_tri a b with g | rfl | g
      · exact .inl (.inr ⟨rfl, g⟩)
      · exact .inr (.inl rfl)
      · exact .inr (.inr (.inr ⟨rfl, g⟩))
    · exact .inr (.inr (.inl h))
def ltV (a b : Val) : Prop := a.1 < b.1 ∨ (a.1 = b.1 ∧ (a.2.1 < b.2.1 ∨ (a.2.1 = b.2.1 ∧ ltL a.2.2 b.2.2)))
instance : DecidableRel ltV := fun a b => inferInstanceAs (Decidable (_ ∨ _))
theorem ltV_irr (a : Val) : ¬ ltV a a := by
  rintro (h | ⟨_, h | ⟨_, h⟩⟩)
  · omega
  · omega
  · exact ltL_irr _ h
theorem ltV_trans {a b c : Val} (h : ltV a b) (h2 : ltV b c) : ltV a c := by
  rcases h with h | ⟨h, h' | ⟨h', h''⟩⟩ <;> rcases h2 with g | ⟨g, g' | ⟨g', g''⟩⟩
  all_goals first
    | exact .inl (by omega)
    | exact .inr ⟨by omega, .inl (by omega)⟩
    | exact .inr ⟨by omega, .inr ⟨by omega, ltL_trans h'' g''⟩⟩
theorem ltV_tri (a b : Val) : ltV a b ∨ a = b ∨ ltV b a := by
  rcases Int.lt_trichotomy a.1 b.1 with h | h | h
  · exact .inl (.inl h)
  · rcases Int.lt_trichotomy a.2.1 b.2.1 with g | g | g
    · exact .inl (.inr ⟨h, .inl g⟩)
    · rcases ltL_tri a.2.2 b.2.2 with k | k | k
      · exact .inl (.inr ⟨h, .inr ⟨g, k⟩⟩)
      · exact .inr (.inl (Prod.ext h (Prod.ext g k)))
      · exact .inr (.inr (.inr ⟨h.symm, .inr ⟨g.symm, k⟩⟩))
    · exact .inr (.inr (.inr ⟨h.symm, .inl g⟩))
  · exact .inr (.inr (.inl h))
theorem eqv_R (p q : Run) : PyData.eqv (encR p) (encR q) = decide (p = q) := by
  obtain ⟨a, b⟩ := p
  obtain ⟨c, d⟩ := q
  by_cases h1 : a = c <;> by_cases h2 : b = d
  · subst h1; subst h2; simp [PyData.eqv, PyData.eqvAll, encR]
  · simp [PyData.eqv, PyData.eqvAll, encR, h1, h2]
  · have : ¬ ((a : Int) = c) := by omega
    simp [PyData.eqv, PyData.eqvAll, encR, h1, h2, this]
  · have : ¬ ((a : Int) = c) := by omega
    simp [PyData.eqv, PyData.eqvAll, encR, h1, h2, this]
theorem alike_R (p q : Run) : PySem.W.alike (encR p) (encR q) = true := by simp [PySem.W.alike, PySem.W.alikeAll, encR]
theorem lt_R (p q : Run) : PySem.W.dataLt (encR p) (encR q) = decide (ltR p q) := by
  unfold encR
  rw [PySem.W.dataLt_pair (by simp [PySem.W.alike]) (by simp [PySem.W.alike]), PySem.W.dataLt_int, PySem.W.dataLt_str]
  obtain ⟨a, b⟩ := p
  obtain ⟨c, d⟩ := q
  unfold ltR
  by_cases h1 : a = c
  · subst h1
    by_cases h2 : b = d
    · subst h2
      have := ltS_irr b
      simp [this]
    · simp [h2, ltS]
  · have : ¬ ((a : Int) = c) := by omega
    have e : ((a : Int) < c) = (a < c) := by apply propext; omega
    simp [h1, this, e]
theorem row_L : ∀ a b : List Run, PySem.W.rowLt (a.map encR) (b.map encR) = decide (ltL a b)
  | [], [] => by
    have e : PySem.W.rowLt [] [] = false := PyProof.Rows.lex_irrefl _
    show PySem.W.rowLt [] [] = _
    rw [e]; exact (decide_eq_false fun h => h).symm
  | [], q :: b => by
    rw [decide_eq_true (show ltL [] (q :: b) from trivial)]
    show PySem.W.rowLt [] (encR q :: b.map encR) = true
    unfold PySem.W.rowLt
    rw [PySem.W.toks_all_cons]
    simp only [PySem.W.keyToksAll]
    rw [PyProof.Rows.lex_diff (O := itemOrd) (by simp)]
    rfl
  | p :: a, [] => by
    rw [decide_eq_false (show ¬ ltL (p :: a) [] from fun h => h)]
    show PySem.W.rowLt (encR p :: a.map encR) [] = false
    unfold PySem.W.rowLt
    rw [PySem.W.toks_all_cons]
    simp only [PySem.W.keyToksAll]
    rw [PyProof.Rows.lex_diff (O := itemOrd) (by simp)]
    rfl
  | p :: a, q :: b => by
    have := PySem.W.dataLt_cons (alike_R p q) (a.map encR) (b.map encR)
    show PySem.W.rowLt (encR p :: a.map encR) (encR q :: b.map encR) = _
    unfold PySem.W.rowLt
    rw [this, eqv_R, lt_R]
    have ih := row_L a b
    unfold PySem.W.rowLt at ih
    rw [ih]
    by_cases h : p = q
    · subst h
      have := ltR_irr p
      simp [ltL, this]
    · simp [ltL, h]
end KK
end
section
/-! Math11: the least of the ways. -/
namespace KK
open PySem PySem.Spec PyProof.Rows L2 Sky
set_option maxHeartbeats 2000000
theorem alike_tup_runs (a b : List Run) : PySem.W.alike (.tuple (a.map encR)) (.tuple (b.map encR)) = true := by
  simp [PySem.W.alike, alike_runs]
theorem eqv_runs : ∀ a b : List Run, PyData.eqvAll (a.map encR) (b.map encR) = decide (a = b)
  | [], [] => by simp [PyData.eqvAll]
  | [], _ :: _ => by simp [PyData.eqvAll]
  | _ :: _, [] => by simp [PyData.eqvAll]
  | p :: a, q :: b => by
    rw [List.map_cons, List.map_cons, PyData.eqvAll, eqv_R, eqv_runs a b]
    by_cases h : p = q <;> by_cases h2 : a = b <;> simp [h, h2]
theorem lt_L (a b : List Run) : PySem.W.dataLt (.tuple (a.map encR)) (.tuple (b.map encR)) = decide (ltL a b) := by
  rw [PySem.W.dataLt_tuple]
  exact row_L a b
theorem lt_V (a b : Val) : PySem.W.dataLt (encV a) (encV b) = decide (ltV a b) := by
  unfold encV
  rw [PySem.W.dataLt_tuple, PySem.W.dataLt_cons (by simp [PySem.W.alike]), PySem.W.dataLt_cons (by simp [PySem.W.alike]), PySem.W.dataLt_cons (alike_tup_runs _ _), PySem.W.dataLt_int, PySem.W.dataLt_int, lt_L]
  have e0 : PyProof.Rows.lexLt itemOrd (PySem.W.keyToksAll []) (PySem.W.keyToksAll []) = false := PyProof.Rows.lex_irrefl _
  rw [e0]
  obtain ⟨x, y, z⟩ := a
  obtain ⟨x', y', z'⟩ := b
  simp only [PyData.eqv, eqv_runs, ltV]
  by_cases h1 : x = x'
  · subst h1
    by_cases h2 : y = y'
    · subst h2
      by_cases h3 : z = z'
      · subst h3
        have := ltL_irr z
        simp [this]
      · simp [h3]
    · simp [h2]
  · simp [h1]
theorem minV_eq (a b : Val) : minV a b = if ltV b a then b else a := by
  unfold minV
  rw [lt_V]
  by_cases h : ltV b a <;> simp [h]
/-- not more -/
def leV (a b : Val) : Prop := ¬ ltV b a
theorem leV_refl (a : Val) : leV a a := ltV_irr a
theorem leV_trans {a b c : Val} (h : leV a b) (h2 : leV b c) : leV a c := by
  intro z
  rcases ltV_tri a b with g | rfl | g
  · exact h2 (ltV_trans z g)
  · exact h2 z
  · exact h g
theorem leV_anti {a b : Val} (h : leV a b) (h2 : leV b a) : a = b := by
  rcases ltV_tri a b with g | g | g
  · exact absurd g h2
  · exact g
  · exact absurd g h
theorem leV_of_lt {a b : Val} (h : ltV a b) : leV a b := fun z => ltV_irr _ (ltV_trans h z)
theorem minV_le (a b : Val) : leV (minV a b) a ∧ leV (minV a b) b ∧ (minV a b = a ∨ minV a b = b) := by
  rw [minV_eq]
  by_cases h : ltV b a
  · rw [if_pos h]
    exact ⟨leV_of_lt h, leV_refl _, .inr rfl⟩
  · rw [if_neg h]
    exact ⟨leV_refl _, h, .inl rfl⟩
/-- it is the least of these -/
def Least (P : Val → Prop) (v : Val) : Prop := P v ∧ ∀ w, P w → leV v w
theorem Least.only {P : Val → Prop} {v w : Val} (h : Least P v) (h2 : Least P w) : v = w := leV_anti (h.2 _ h2.1) (h2.2 _ h.1)
theorem least_min {P : Val → Prop} {f w : Val} (h : Least P f) : Least (fun v => P v ∨ v = w) (minV f w) := by
  obtain ⟨l1, l2, l3⟩ := minV_le f w
  refine ⟨?_, ?_⟩
  · rcases l3 with e | e
    · rw [e]; exact .inl h.1
    · rw [e]; exact .inr rfl
  · rintro v (hv | rfl)
    · exact leV_trans l1 (h.2 v hv)
    · exact l2
theorem least_fold {α : Type} (g : α → Val) : ∀ (l : List α) {P : Val → Prop} {f : Val}, Least P f → Least (fun v => P v ∨ ∃ x ∈ l, v = g x) (l.foldl (fun f x => minV f (g x)) f)
  | [], P, f, h => ⟨.inl h.1, by rintro w (hw | ⟨x, hx, _⟩); · exact h.2 w hw
                                 · cases hx⟩
  | x :: l, P, f, h => by
    have := least_fold g l (least_min (w := g x) h)
    rw [List.foldl_cons]
    refine ⟨?_, fun w hw => this.2 w ?_⟩
    · rcases this.1 with (h1 | h1) | ⟨y, hy, h1⟩
      · exact .inl h1
      · exact .inr ⟨x, List.mem_cons_self, h1⟩
      · exact .inr ⟨y, List.mem_cons_of_mem _ hy, h1⟩
    · rcases hw with h1 | ⟨y, hy, h1⟩
      · exact .inl (.inl h1)
      · rcases List.mem_cons.mp hy with rfl | hy
        · exact .inl (.inr h1)
        · exact .inr ⟨y, hy, h1⟩
end KK
end
section
/-! G12: bestR is the least of all plans. -/
namespace KK
open PySem PySem.Spec PyProof.Rows L2 Sky
set_option maxHeartbeats 2000000
/-- a plan from here on, with room for each -/
inductive PG (P : Prm) (k : Sky1) (xs : List Ask) : Nat → Option Str → List Ask → List (Nat × Ask) → Prop
  | nil (free : Nat) (tool : Option Str) (left : List Ask) : PG P k xs free tool left []
  | cons {free : Nat} {tool : Option Str} {left : List Ask} {x : Ask} {s : Nat} {p : List (Nat × Ask)} (hr : hasRoom P xs left x = true) (hx : x ∈ left) (hs : s ∈ k.begs x) (hf : free + gap tool x.tl ≤ s) (ht : PG P k xs (s + x.long) (some x.tl) (others left x) p) : PG P k xs free tool left ((s, x) :: p)
theorem PG.mono {P : Prm} {k : Sky1} {xs : List Ask} {free free' : Nat} {tool : Option Str} {left : List Ask} {p : List (Nat × Ask)} (h : PG P k xs free tool left p) (hle : free' ≤ free) : PG P k xs free' tool left p := by
  cases h with
  | nil => exact .nil _ _ _
  | cons hr hx hs hf ht => exact .cons hr hx hs (by omega) ht
def runs (p : List (Nat × Ask)) : List Run := p.map fun q => (q.1, q.2.nm)
def sur (P : Prm) (k : Sky1) (p : List (Nat × Ask)) : Int := (p.map fun q => sval P k q.2 q.1).sum
def worG (P : Prm) (p : List (Nat × Ask)) : Int := (p.map fun q => P.wt q.2).sum
def valG (P : Prm) (k : Sky1) (p : List (Nat × Ask)) : Val := (-sur P k p, -worG P p, runs p)
theorem valG_nil (P : Prm) (k : Sky1) : valG P k [] = (0, 0, []) := rfl
theorem valG_cons (P : Prm) (k : Sky1) (s : Nat) (x : Ask) (p : List (Nat × Ask)) : valG P k ((s, x) :: p) = ((valG P k p).1 + -sval P k x s, (valG P k p).2.1 + -P.wt x, (s, x.nm) :: (valG P k p).2.2) := by
  unfold valG runs worG sur
  simp only [List.map_cons, List.sum_cons]
  refine Prod.ext ?_ (Prod.ext ?_ rfl)
  · show -(sval P k x s + _) = -_ + -sval P k x s
    omega
  · show -(P.wt x + _) = -_ + -P.wt x
    omega
theorem later_pw (k : Sky1) (x : Ask) (free : Nat) : (laterOf k x free).Pairwise (· < ·) := (List.pairwise_lt_range.filter _).filter _
theorem head_le {l : List Nat} (h : l.Pairwise (· < ·)) {s : Nat} (hs : s ∈ l) : ∃ s0, s0 ∈ l.take 1 ∧ s0 ≤ s := by
  cases l with
  | nil => cases hs
  | cons a r =>
    refine ⟨a, by simp, ?_⟩
    rcases List.mem_cons.mp hs with e | hs
    · omega
    · exact Nat.le_of_lt (List.rel_of_pairwise_cons h hs)
theorem first_min {P : Prm} {k : Sky1} {x : Ask} {free s : Nat} (hs : s ∈ k.begs x) (hf : free ≤ s) (hw : 0 ≤ P.wt x) : ∃ s0, s0 ∈ firstG P k x free ∧ s0 ≤ s ∧ sval P k x s ≤ sval P k x s0 := by
  have hm : s ∈ laterOf k x free := List.mem_filter.mpr ⟨hs, decide_eq_true hf⟩
  have hnn : ∀ t, 0 ≤ sval P k x t := fun t => by unfold sval; split <;> omega
  by_cases hc : (P.sure && k.sure x s) = true
  · rw [Bool.and_eq_true] at hc
    obtain ⟨s0, h0, hle⟩ := head_le ((later_pw k x free).filter (k.sure x)) (List.mem_filter.mpr ⟨hm, hc.2⟩)
    refine ⟨s0, ?_, hle, ?_⟩
    · unfold firstG
      rw [if_pos hc.1]
      exact List.mem_append_right _ h0
    · have h1 := (List.mem_filter.mp (List.mem_of_mem_take h0)).2
      unfold sval
      rw [hc.1, hc.2, h1]
      exact Int.le_refl _
  · obtain ⟨s0, h0, hle⟩ := head_le (later_pw k x free) hm
    refine ⟨s0, ?_, hle, ?_⟩
    · unfold firstG
      exact List.mem_append_left _ h0
    · have : sval P k x s = 0 := by unfold sval; rw [if_neg hc]
      rw [this]
      exact hnn s0
/-- the ways on -/
def OneWay (P : Prm) (k : Sky1) (xs : List Ask) (rec : Nat → Option Str → List Ask → Val) (free : Nat) (tool : Option Str) (left : List Ask) (v : Val) : Prop := v = (0, 0, []) ∨ ∃ x ∈ left, ∃ s ∈ tries P k xs free tool left x, v = way P k rec left x s
theorem Least.congr {P Q : Val → Prop} {v : Val} (h : Least P v) (e : ∀ w, P w ↔ Q w) : Least Q v := ⟨(e v).mp h.1, fun w hw => h.2 w ((e w).mpr hw)⟩
theorem least_asks {P : Prm} {k : Sky1} {xs : List Ask} {rec : Nat → Option Str → List Ask → Val} {free : Nat} {tool : Option Str} {left : List Ask} : ∀ (al : List Ask) {R : Val → Prop} {f : Val}, Least R f → Least (fun v => R v ∨ ∃ x ∈ al, ∃ s ∈ tries P k xs free tool left x, v = way P k rec left x s) (al.foldl (step1 P k xs rec free tool left) f)
  | [], R, f, h => h.congr fun w => ⟨.inl, fun z => z.elim id fun ⟨_, hx, _⟩ => absurd hx List.not_mem_nil⟩
  | x :: al, R, f, h => by
    have h1 := least_fold (way P k rec left x) (tries P k xs free tool left x) h
    have h2 := least_asks (P := P) (k := k) (xs := xs) (rec := rec) (free := free) (tool := tool) (left := left) al h1
    rw [List.foldl_cons]
    refine h2.congr fun w => ⟨?_, ?_⟩
    · rintro ((h | ⟨s, hs, e⟩) | ⟨y, hy, z⟩)
      · exact .inl h
      · exact .inr ⟨x, List.mem_cons_self, s, hs, e⟩
      · exact .inr ⟨y, List.mem_cons_of_mem _ hy, z⟩
    · rintro (h | ⟨y, hy, z⟩)
      · exact .inl (.inl h)
      · rcases List.mem_cons.mp hy with rfl | hy
        · exact .inl (.inr z)
        · exact .inr ⟨y, hy, z⟩
theorem bestR_least (P : Prm) (k : Sky1) (xs : List Ask) (n : Nat) (free : Nat) (tool : Option Str) (left : List Ask) : Least (OneWay P k xs (bestR P k xs n) free tool left) (bestR P k xs (n + 1) free tool left) :=
  least_asks left (R := fun v => v = (0, 0, [])) ⟨rfl, by rintro w rfl; exact leV_refl _⟩
theorem leV_step {b w : Val} {s0 s : Nat} {v0 v r : Int} {nm : Str} (h : leV b w) (hs : s0 ≤ s) (hv : v ≤ v0) : leV (b.1 + -v0, b.2.1 + -r, (s0, nm) :: b.2.2) (w.1 + -v, w.2.1 + -r, (s, nm) :: w.2.2) := by
  intro z
  apply h
  rcases z with z | ⟨z, z' | ⟨z', z''⟩⟩
  · have z : w.1 + -v < b.1 + -v0 := z
    exact .inl (by omega)
  · have z : w.1 + -v = b.1 + -v0 := z
    have z' : w.2.1 + -r < b.2.1 + -r := z'
    rcases Int.lt_or_eq_of_le hv with g | g
    · exact .inl (by omega)
    · exact .inr ⟨by omega, .inl (by omega)⟩
  · have z : w.1 + -v = b.1 + -v0 := z
    have z' : w.2.1 + -r = b.2.1 + -r := z'
    rcases Int.lt_or_eq_of_le hv with g | g
    · exact .inl (by omega)
    · refine .inr ⟨by omega, .inr ⟨by omega, ?_⟩⟩
      rcases z'' with g | ⟨_, g⟩
      · rcases g with g | ⟨_, g⟩
        · have g : s < s0 := g
          omega
        · exact absurd g (ltS_irr _)
      · exact g
theorem best_least (P : Prm) (k : Sky1) (xs : List Ask) (hw : ∀ x ∈ xs, 0 ≤ P.wt x) : ∀ (n : Nat) (free : Nat) (tool : Option Str) (left : List Ask), (∀ x ∈ left, x ∈ xs) → left.length ≤ n → Least (fun v => ∃ p, PG P k xs free tool left p ∧ v = valG P k p) (bestR P k xs n free tool left) := by
  intro n
  induction n with
  | zero =>
    intro free tool left hsub h
    have : left = [] := List.length_eq_zero_iff.mp (by omega)
    subst this
    refine ⟨⟨[], .nil _ _ _, rfl⟩, ?_⟩
    rintro w ⟨p, hp, rfl⟩
    cases hp with
    | nil => exact leV_refl _
    | cons _ hx _ _ _ => cases hx
  | succ n ih =>
    intro free tool left hsub h
    have hb := bestR_least P k xs n free tool left
    constructor
    · rcases hb.1 with e | ⟨x, hx, s, hs, e⟩
      · exact ⟨[], .nil _ _ _, e⟩
      · have hol := others_len hx
        obtain ⟨⟨p, hp, ep⟩, _⟩ := ih (s + x.long) (some x.tl) (others left x) (fun y hy => hsub y (others_sub hy)) (by omega)
        obtain ⟨h0, h1, h2⟩ := tries_mem hs
        refine ⟨(s, x) :: p, .cons h0 hx h1 h2 hp, ?_⟩
        rw [e, valG_cons, ← ep]
        rfl
    · rintro w ⟨p, hp, rfl⟩
      cases hp with
      | nil => exact hb.2 _ (.inl rfl)
      | @cons _ _ _ x s p hr hx hs hf ht =>
        have hol := others_len hx
        obtain ⟨s0, h0, hle, hsv⟩ := first_min (P := P) hs hf (hw x (hsub x hx))
        have h2 := (ih (s0 + x.long) (some x.tl) (others left x) (fun y hy => hsub y (others_sub hy)) (by omega)).2 _ ⟨p, ht.mono (by omega), rfl⟩
        have htr : s0 ∈ tries P k xs free tool left x := by unfold tries; rw [if_pos hr]; exact h0
        refine leV_trans (hb.2 _ (.inr ⟨x, hx, s0, htr, rfl⟩)) ?_
        rw [valG_cons]
        exact leV_step h2 hle hsv
/-! ### without room -/
/-- a plan from here on -/
inductive PL (k : Sky1) : Nat → Option Str → List Ask → List (Nat × Ask) → Prop
  | nil (free : Nat) (tool : Option Str) (left : List Ask) : PL k free tool left []
  | cons {free : Nat} {tool : Option Str} {left : List Ask} {x : Ask} {s : Nat} {p : List (Nat × Ask)} (hx : x ∈ left) (hs : s ∈ k.begs x) (hf : free + gap tool x.tl ≤ s) (ht : PL k (s + x.long) (some x.tl) (others left x) p) : PL k free tool left ((s, x) :: p)
theorem PG.pl {P : Prm} {k : Sky1} {xs : List Ask} {free : Nat} {tool : Option Str} {left : List Ask} {p : List (Nat × Ask)} (h : PG P k xs free tool left p) : PL k free tool left p := by
  induction h with
  | nil => exact .nil _ _ _
  | cons hr hx hs hf ht ih => exact .cons hx hs hf ih
theorem PL.pg {P : Prm} {k : Sky1} {xs : List Ask} (hP : P.room = none) {free : Nat} {tool : Option Str} {left : List Ask} {p : List (Nat × Ask)} (h : PL k free tool left p) : PG P k xs free tool left p := by
  induction h with
  | nil => exact .nil _ _ _
  | cons hx hs hf ht ih => exact .cons (by unfold hasRoom; rw [hP]) hx hs hf ih
def wor (p : List (Nat × Ask)) : Int := (p.map fun q => q.2.rank).sum
end KK
end
section
/-! Math13: the law's own begins. -/
namespace KK
open PySem PySem.Spec PyProof.Rows L2 Sky
set_option maxHeartbeats 4000000
def upto (k : Sky1) (x : Ask) (s i : Nat) : Bool := (List.range i).all fun j => k.good x (s + j)
theorem upto_succ (k : Sky1) (x : Ask) (s i : Nat) : upto k x s (i + 1) = (upto k x s i && k.good x (s + i)) := by
  unfold upto
  rw [List.range_succ, List.all_append]
  simp
theorem begins_in {k : Sky1} {ns : List (Int × Int)} {x : Ask} (hk : k.Ok) (hn : ns[k.n]? = some k.p) (hx : x.Ok) (s : Nat) (hs : s + x.long ≤ 24) (S : Store) (o7 o8 : Option D) :
    ∃ p7 p8 : Option D, forL (gNm 7) L__law_begins_0 (rng s x.long) [some (.d (enS k.t ns)), some (.d (.int (k.n : Nat))), some (.d (encA x)), some (.d (enW k.W)), some (.r 0), some (.d (.int (s : Nat))), some (.d (.bool true)), o7, o8] S
      = .nx [some (.d (enS k.t ns)), some (.d (.int (k.n : Nat))), some (.d (encA x)), some (.d (enW k.W)), some (.r 0), some (.d (.int (s : Nat))), some (.d (.bool (k.may x s))), p7, p8] S := by
  obtain ⟨I, hI⟩ := hide fun i ρ T => (∃ p7 p8 : Option D, ρ = [some (.d (enS k.t ns)), some (.d (.int (k.n : Nat))), some (.d (encA x)), some (.d (enW k.W)), some (.r 0), some (.d (.int (s : Nat))), some (.d (.bool (upto k x s i))), p7, p8]) ∧ T = S
  refine forR_inv (R := fun q => ∃ p7 p8 : Option D, q = .nx [some (.d (enS k.t ns)), some (.d (.int (k.n : Nat))), some (.d (encA x)), some (.d (enW k.W)), some (.r 0), some (.d (.int (s : Nat))), some (.d (.bool (k.may x s))), p7, p8] S) I ?_ ?_ ?_
  · rw [hI]; exact ⟨⟨_, _, rfl⟩, rfl⟩
  · intro i ρ T hi h
    rw [hI] at h
    obtain ⟨⟨p7, p8, rfl⟩, rfl⟩ := h
    refine ⟨_, gNm_ap _ _, ?_⟩
    have d1 := p__law_dark (.int k.t) ns k.p k.n ((s : Int) + i) (by omega) hn
    have ha := hx.a
    have hr := hx.r
    have u1 := p__law_up (rest := .tuple (ns.map encP)) (n := (k.n : Int)) (s := (s : Int) + i) hk.t hx.a (r := x.r) ⟨hr.1, by omega⟩
    have hdef : k.good x (s + i) = (k.dark ((s : Int) + i) && isUp k.t x.a x.r k.n ((s : Int) + i) && decide (x.need ≤ k.high (s + i))) := by
      unfold Sky1.good
      rw [Int.natCast_add]
    have hdk : k.dark ((s : Int) + i) = (decide (k.p.1 ≤ (s : Int) + i) && decide ((s : Int) + i ≤ k.p.2)) := rfl
    rw [← hdk] at d1
    have e3 : ((s : Int) + i).toNat = s + i := by omega
    have e4 := high_at hk (s := s + i) (by omega)
    have us := upto_succ k x s i
    rw [hdef] at us
    cases hd : k.dark ((s : Int) + i) <;> cases hu : isUp k.t x.a x.r k.n ((s : Int) + i) <;> cases hg : upto k x s i <;> by_cases hw : x.need ≤ k.high (s + i) <;>
    · rw [hd, hu, hg] at us
      rw [hd] at d1
      rw [hu] at u1
      simp (disch := omega) [L__law_begins_0, F__law_dark, F__law_up, d1, encA, u1, e3, e4, encP, hw, -getElem?_pos]
      rw [hI]
      simp only [hw, decide_true, decide_false, Bool.and_true, Bool.and_false, Bool.true_and, Bool.false_and] at us
      simp only [us]
      exact ⟨⟨_, _, rfl⟩, trivial⟩
  · intro ρ T h
    rw [hI] at h
    obtain ⟨⟨p7, p8, rfl⟩, rfl⟩ := h
    exact ⟨p7, p8, rfl⟩
theorem begins_out {k : Sky1} {ns : List (Int × Int)} {x : Ask} (hk : k.Ok) (hn : ns[k.n]? = some k.p) (hx : x.Ok) (s : Nat) (hs : s + x.long ≤ 24) (l : List PyData) (hl : l.length < 16777216) (p6 p7 p8 : Option D) :
    ∃ q6 q7 q8 : Option D, L__law_begins_1 [some (.d (enS k.t ns)), some (.d (.int (k.n : Nat))), some (.d (encA x)), some (.d (enW k.W)), some (.r 0), some (.d (.int (s : Nat))), p6, p7, p8] [.lst l]
      = .nx [some (.d (enS k.t ns)), some (.d (.int (k.n : Nat))), some (.d (encA x)), some (.d (enW k.W)), some (.r 0), some (.d (.int (s : Nat))), q6, q7, q8] [.lst (l ++ if k.may x s = true then [.int (s : Nat)] else [])] := by
  obtain ⟨q7, q8, e⟩ := begins_in hk hn hx s hs [.lst l] p7 p8
  have e5 : ((s : Int) + x.long - s).toNat = x.long := by omega
  refine ⟨some (.d (.bool (k.may x s))), q7, q8, ?_⟩
  rw [encA] at e ⊢
  cases hm : k.may x s <;>
  · rw [hm] at e
    simp (disch := omega) [L__law_begins_1, e5, e, hl, -getElem?_pos]
end KK
end
section
/-! Math14: the law's own begins, whole. -/
namespace KK
open PySem PySem.Spec PyProof.Rows L2 Sky
set_option maxHeartbeats 4000000
theorem begins_all {k : Sky1} {ns : List (Int × Int)} {x : Ask} (hk : k.Ok) (hn : ns[k.n]? = some k.p) (hx : x.Ok) : ∀ (sl : List Nat), (∀ s ∈ sl, s + x.long ≤ 24) → ∀ (l : List PyData), l.length + sl.length < 16777216 → ∀ (p5 p6 p7 p8 : Option D),
    ∃ q5 q6 q7 q8 : Option D, forL (gNm 5) L__law_begins_1 (sl.map fun (s : Nat) => .int (s : Nat)) [some (.d (enS k.t ns)), some (.d (.int (k.n : Nat))), some (.d (encA x)), some (.d (enW k.W)), some (.r 0), p5, p6, p7, p8] [.lst l]
      = .nx [some (.d (enS k.t ns)), some (.d (.int (k.n : Nat))), some (.d (encA x)), some (.d (enW k.W)), some (.r 0), q5, q6, q7, q8] [.lst (l ++ (sl.filter (k.may x)).map fun (s : Nat) => .int (s : Nat))] := by
  intro sl
  induction sl with
  | nil =>
    intro _ l _ p5 p6 p7 p8
    refine ⟨p5, p6, p7, p8, ?_⟩
    rw [List.filter_nil, List.map_nil, List.append_nil]
    rfl
  | cons s sl ih =>
    intro hs l hl p5 p6 p7 p8
    rw [List.length_cons] at hl
    obtain ⟨q6, q7, q8, e⟩ := begins_out hk hn hx s (hs s List.mem_cons_self) l (by omega) p6 p7 p8
    have hle : (l ++ if k.may x s = true then [PyData.int (s : Nat)] else []).length + sl.length < 16777216 := by
      have h1 : (if k.may x s = true then [PyData.int (s : Nat)] else []).length ≤ 1 := by
        by_cases h : k.may x s = true
        · rw [if_pos h]; exact Nat.le_refl 1
        · rw [if_neg h]; exact Nat.zero_le 1
      rw [List.length_append]
      omega
    obtain ⟨r5, r6, r7, r8, e2⟩ := ih (fun t ht => hs t (List.mem_cons_of_mem _ ht)) _ hle (some (.d (.int (s : Nat)))) q6 q7 q8
    refine ⟨r5, r6, r7, r8, ?_⟩
    have hfin : (l ++ if k.may x s = true then [PyData.int (s : Nat)] else []) ++ (sl.filter (k.may x)).map (fun (s : Nat) => PyData.int (s : Nat)) = l ++ ((s :: sl).filter (k.may x)).map (fun (s : Nat) => PyData.int (s : Nat)) := by
      rw [List.filter_cons, List.append_assoc]
      by_cases h : k.may x s = true
      · simp only [h, if_true, List.map_cons, List.cons_append, List.nil_append]
      · simp only [h, if_false, List.nil_append, Bool.false_eq_true]
    rw [hfin] at e2
    rw [List.map_cons]
    have h1 : gNm 5 (.int (s : Nat)) [some (.d (enS k.t ns)), some (.d (.int (k.n : Nat))), some (.d (encA x)), some (.d (enW k.W)), some (.r 0), p5, p6, p7, p8] = some [some (.d (enS k.t ns)), some (.d (.int (k.n : Nat))), some (.d (encA x)), some (.d (enW k.W)), some (.r 0), some (.d (.int (s : Nat))), p6, p7, p8] := by
      simp only [gNm_ap, List.set_cons_succ, List.set_cons_zero]
    rw [forL_nx h1 e, e2]
theorem p__law_begins {k : Sky1} {ns : List (Int × Int)} {x : Ask} (hk : k.Ok) (hn : ns[k.n]? = some k.p) (hx : x.Ok) : P__law_begins [enS k.t ns, .int (k.n : Nat), encA x, enW k.W] = some (natsD (k.begs x)) := by
  have hlong := hx.long
  obtain ⟨L, hL⟩ : ∃ L : Nat, L + x.long = 25 := ⟨25 - x.long, by omega⟩
  have e1 : (25 - (x.long : Int)).toNat = L := by omega
  have hb : (List.range L).filter (k.may x) = k.begs x := by
    unfold Sky1.begs
    rw [range_part (q := k.may x) (lo := 0) (n := L) (N := 24) (by omega) (fun i hi => absurd hi (by omega))]
    · congr 1
      simp
    · intro i hi
      rw [Bool.eq_false_iff]
      intro z
      have := may_dark hx z (i := x.long - 1) (by omega)
      have := hk.p
      omega
  have hrng : rng 0 L = (List.range L).map fun (s : Nat) => .int (s : Nat) := by
    unfold rng
    apply List.map_congr_left
    intro i _
    rw [Int.zero_add]
  have hlen25 : ([] : List PyData).length + (List.range L).length < 16777216 := by
    rw [List.length_range]
    show 0 + L < _
    omega
  obtain ⟨q5, q6, q7, q8, e⟩ := begins_all hk hn hx (List.range L) (fun s hs => by have := List.mem_range.mp hs; omega) [] hlen25 none none none none
  rw [← hrng, List.nil_append] at e
  have hll : (k.begs x).length ≤ 16777216 := by
    have := List.length_filter_le (k.may x) (List.range 24)
    rw [List.length_range] at this
    unfold Sky1.begs
    omega
  rw [hb, encA] at e
  simp (disch := omega) [P__law_begins, runP_ap, B__law_begins, encA, e1, e, natsD, hll, -getElem?_pos]
end KK
end
section
/-! Math15: the law's own plans: one entry of the line. -/
namespace KK
open PySem PySem.Spec PyProof.Rows L2 Sky
set_option maxHeartbeats 4000000
/-- an entry of the law's line -/
structure En where
  p : List (Nat × Ask)
  free : Nat
  tool : Option Str
  left : List Ask
def tlS : Option Str → Str
  | none => ""
  | some t => t
def encPl (p : List (Nat × Ask)) : PyData := .tuple ((runs p).map encR)
def encE (e : En) : PyData := .tuple [encPl e.p, .int (e.free : Nat), .str (tlS e.tool), .tuple (e.left.map encA)]
def kid (e : En) (x : Ask) (s : Nat) : En := ⟨e.p ++ [(s, x)], s + x.long, some x.tl, others e.left x⟩
def okS (e : En) (x : Ask) (s : Nat) : Bool := decide (e.free + gap e.tool x.tl ≤ s)
theorem pl_slot {e : En} {x : Ask} (hp : e.p.length ≤ 1000) (s : Nat) (F G : List PyData) (hF : F.length < 16777216) (hG : G.length < 16777216) (o0 o1 o2 o3 o4 o8 o9 o10 o15 o16 : Option D) :
    ∃ p15 : Option D, L__law_plans_0 [o0, o1, o2, o3, o4, some (.r 0), some (.r 1), some (.d (encPl e.p)), o8, o9, o10, some (.d (encA x)), some (.d (.int ((e.free + gap e.tool x.tl : Nat) : Int))), some (.d (.tuple ((others e.left x).map encA))), some (.d (.int (s : Nat))), o15, o16] [.lst F, .lst G]
      = .nx [o0, o1, o2, o3, o4, some (.r 0), some (.r 1), some (.d (encPl e.p)), o8, o9, o10, some (.d (encA x)), some (.d (.int ((e.free + gap e.tool x.tl : Nat) : Int))), some (.d (.tuple ((others e.left x).map encA))), some (.d (.int (s : Nat))), p15, o16]
        [.lst (F ++ if okS e x s = true then [encPl (kid e x s).p] else []), .lst (G ++ if okS e x s = true then [encE (kid e x s)] else [])] := by
  have hl : (runs e.p).length + 1 ≤ 16777216 := by unfold runs; rw [List.length_map]; omega
  have e1 : encPl (e.p ++ [(s, x)]) = .tuple ((runs e.p).map encR ++ [.tuple [.int (s : Nat), .str x.nm]]) := by
    unfold encPl runs
    simp [encR]
  have e2 : encE (kid e x s) = .tuple [encPl (e.p ++ [(s, x)]), .int ((s : Int) + (x.long : Nat)), .str x.tl, .tuple ((others e.left x).map encA)] := by
    unfold encE kid tlS
    simp
  have e3 : (kid e x s).p = e.p ++ [(s, x)] := rfl
  rw [e2, e3]
  generalize ha : e.free + gap e.tool x.tl = a
  by_cases h : a ≤ s
  · have h1 : okS e x s = true := by unfold okS; rw [ha]; exact decide_eq_true h
    have h2 : ((a : Nat) : Int) ≤ (s : Int) := by omega
    refine ⟨some (.d (encPl (e.p ++ [(s, x)]))), ?_⟩
    rw [if_pos h1, if_pos h1, e1]
    simp (disch := omega) [L__law_plans_0, encPl, h2, gA_nm, gA_long, gA_tl, hl, hF, hG, -getElem?_pos]
  · have h1 : okS e x s = false := by unfold okS; rw [ha]; exact decide_eq_false h
    have h2 : ¬ ((a : Nat) : Int) ≤ (s : Int) := by omega
    refine ⟨o15, ?_⟩
    rw [h1]
    simp (disch := omega) [L__law_plans_0, h2]
/-- the entries of one ask -/
def ks (e : En) (x : Ask) (sl : List Nat) : List En := (sl.filter (okS e x)).map (kid e x)
theorem ks_cons (e : En) (x : Ask) (s : Nat) (sl : List Nat) : ks e x (s :: sl) = (if okS e x s = true then [kid e x s] else []) ++ ks e x sl := by
  unfold ks
  rw [List.filter_cons]
  by_cases h : okS e x s = true
  · rw [if_pos h, if_pos h]; rfl
  · rw [if_neg h, if_neg h]; rfl
theorem map_ite {α β : Type} (f : α → β) (c : Bool) (a : α) : (if c = true then [a] else []).map f = if c = true then [f a] else [] := by cases c <;> rfl
theorem len_ite {α : Type} (c : Bool) (a : α) : (if c = true then [a] else []).length ≤ 1 := by cases c <;> simp
theorem pl_slots {e : En} {x : Ask} (hp : e.p.length ≤ 1000) (o0 o1 o2 o3 o4 o8 o9 o10 o16 : Option D) : ∀ (sl : List Nat) (F G : List PyData) (hF : F.length + sl.length < 16777216) (hG : G.length + sl.length < 16777216) (o14 o15 : Option D),
    ∃ p14 p15 : Option D, forL (gNm 14) L__law_plans_0 (sl.map fun (s : Nat) => .int (s : Nat)) [o0, o1, o2, o3, o4, some (.r 0), some (.r 1), some (.d (encPl e.p)), o8, o9, o10, some (.d (encA x)), some (.d (.int ((e.free + gap e.tool x.tl : Nat) : Int))), some (.d (.tuple ((others e.left x).map encA))), o14, o15, o16] [.lst F, .lst G]
      = .nx [o0, o1, o2, o3, o4, some (.r 0), some (.r 1), some (.d (encPl e.p)), o8, o9, o10, some (.d (encA x)), some (.d (.int ((e.free + gap e.tool x.tl : Nat) : Int))), some (.d (.tuple ((others e.left x).map encA))), p14, p15, o16]
        [.lst (F ++ (ks e x sl).map fun e => encPl e.p), .lst (G ++ (ks e x sl).map encE)] := by
  intro sl
  induction sl with
  | nil =>
    intro F G _ _ o14 o15
    refine ⟨o14, o15, ?_⟩
    show SR.nx _ _ = _
    have : ks e x [] = [] := rfl
    rw [this, List.map_nil, List.map_nil, List.append_nil, List.append_nil]
  | cons s sl ih =>
    intro F G hF hG o14 o15
    rw [List.length_cons] at hF hG
    obtain ⟨p15, e1⟩ := pl_slot hp (e := e) (x := x) s F G (by omega) (by omega) o0 o1 o2 o3 o4 o8 o9 o10 o15 o16
    have hF2 : (F ++ if okS e x s = true then [encPl (kid e x s).p] else []).length + sl.length < 16777216 := by
      rw [List.length_append]
      have := len_ite (okS e x s) (encPl (kid e x s).p)
      omega
    have hG2 : (G ++ if okS e x s = true then [encE (kid e x s)] else []).length + sl.length < 16777216 := by
      rw [List.length_append]
      have := len_ite (okS e x s) (encE (kid e x s))
      omega
    obtain ⟨q14, q15, e2⟩ := ih _ _ hF2 hG2 (some (.d (.int (s : Nat)))) p15
    refine ⟨q14, q15, ?_⟩
    have h1 : gNm 14 (.int (s : Nat)) [o0, o1, o2, o3, o4, some (.r 0), some (.r 1), some (.d (encPl e.p)), o8, o9, o10, some (.d (encA x)), some (.d (.int ((e.free + gap e.tool x.tl : Nat) : Int))), some (.d (.tuple ((others e.left x).map encA))), o14, o15, o16]
        = some [o0, o1, o2, o3, o4, some (.r 0), some (.r 1), some (.d (encPl e.p)), o8, o9, o10, some (.d (encA x)), some (.d (.int ((e.free + gap e.tool x.tl : Nat) : Int))), some (.d (.tuple ((others e.left x).map encA))), some (.d (.int (s : Nat))), o15, o16] := by
      simp only [gNm_ap, List.set_cons_succ, List.set_cons_zero]
    rw [List.map_cons, forL_nx h1 e1, e2, ks_cons, List.map_append, List.map_append, map_ite, map_ite, List.append_assoc, List.append_assoc]
end KK
end
section
/-! Math16: the law's own plans: one turn of its loop. -/
namespace KK
open PySem PySem.Spec PyProof.Rows L2 Sky
set_option maxHeartbeats 4000000
theorem eqv_encA {x y : Ask} (h : x.nm = y.nm → x = y) : PyData.eqv (encA x) (encA y) = decide (x.nm = y.nm) := by
  by_cases hn : x.nm = y.nm
  · rw [h hn, decide_eq_true rfl]
    exact eqv_same _ (by simp [encA])
  · rw [decide_eq_false hn]
    unfold encA
    simp [PyData.eqv, PyData.eqvAll, hn]
theorem law_gap (S : Store) (tool : Option Str) (tl : Str) (h : tool ≠ some (Str.ofString "")) : gNin S (.d (.str (tlS tool))) (.d (.tuple [.str "", .str tl])) = some (.d (.bool (decide (gap tool tl = 1)))) := by
  cases tool with
  | none => simp [tlS, gap]
  | some t =>
    have h0 : ¬ (Str.ofString "" = t) := fun z => h (by rw [← z])
    by_cases h1 : t = tl
    · subst h1; simp [tlS, gap]
    · have h2 : ¬ tl = t := fun z => h1 z.symm
      simp [tlS, gap, h1, h2, h0]
structure En.Ok (xs : List Ask) (e : En) : Prop where
  sub : ∀ x ∈ e.left, x ∈ xs
  tool : e.tool ≠ some (Str.ofString "")
  len : e.p.length + e.left.length ≤ 7
def kidsX (k : Sky1) (e : En) (x : Ask) : List En := ks e x (k.begs x)
theorem pl_ask {k : Sky1} {xs : List Ask} {e : En} {x : Ask} (hx : AOk xs) (he : e.Ok xs) (hm : x ∈ e.left) (F G : List PyData) (hF : F.length + 24 < 16777216) (hG : G.length + 24 < 16777216) (o0 o1 o2 o3 o12 o13 o14 o15 o16 : Option D) :
    ∃ p12 p13 p14 p15 p16 : Option D, L__law_plans_1 [o0, o1, o2, o3, some (.d (tab (fun x => natsD (k.begs x)) xs)), some (.r 0), some (.r 1), some (.d (encPl e.p)), some (.d (.int (e.free : Nat))), some (.d (.str (tlS e.tool))), some (.d (.tuple (e.left.map encA))), some (.d (encA x)), o12, o13, o14, o15, o16] [.lst F, .lst G]
      = .nx [o0, o1, o2, o3, some (.d (tab (fun x => natsD (k.begs x)) xs)), some (.r 0), some (.r 1), some (.d (encPl e.p)), some (.d (.int (e.free : Nat))), some (.d (.str (tlS e.tool))), some (.d (.tuple (e.left.map encA))), some (.d (encA x)), p12, p13, p14, p15, p16]
        [.lst (F ++ (kidsX k e x).map fun e => encPl e.p), .lst (G ++ (kidsX k e x).map encE)] := by
  have hbl := begs_len k x
  have hl := look_tab (fun x => natsD (k.begs x)) hx.nm (he.sub x hm)
  have hlen := he.len
  have hll : e.left.length < 16777216 := by omega
  have hol : (others e.left x).length ≤ 16777216 := by have := others_len hm; omega
  have g1 := fun S => law_gap S e.tool x.tl he.tool
  have g2 := gap_int e.tool x.tl
  have hcomp : ∀ o4' o12' : Option D, compL (gNm 16) (asB (mOp gNe (mVar 16) (mVar 11))) (mVar 16) [o0, o1, o2, o3, o4', some (.r 0), some (.r 1), some (.d (encPl e.p)), some (.d (.int (e.free : Nat))), some (.d (.str (tlS e.tool))), some (.d (.tuple (e.left.map encA))), some (.d (encA x)), o12', o13, o14, o15, none] (e.left.map encA) [.lst F, .lst G] = .ok ((others e.left x).map encA) [.lst F, .lst G] := by
    intro o4' o12'
    rw [compL_of encA (fun y => decide (y.nm ≠ x.nm)) encA e.left]
    · rfl
    · intro y hy
      refine ⟨_, gNm_ap _ _, ?_, fun _ => ?_⟩
      · have := eqv_encA (x := y) (y := x) (inj_names hx.nm (he.sub y hy) (he.sub x hm))
        have d1 : ∀ z : Ask, dp 60 (encA z) = true := fun z => by simp [encA]
        simp [this, d1]
      · simp
  obtain ⟨p14, p15, e1⟩ := pl_slots (x := x) (e := e) (by omega) o0 o1 o2 o3 (some (.d (tab (fun x => natsD (k.begs x)) xs))) (some (.d (.int (e.free : Nat)))) (some (.d (.str (tlS e.tool)))) (some (.d (.tuple (e.left.map encA)))) o16 (k.begs x) F G (by omega) (by omega) o14 o15
  refine ⟨some (.d (.int ((e.free + gap e.tool x.tl : Nat) : Int))), some (.d (.tuple ((others e.left x).map encA))), p14, p15, o16, ?_⟩
  have hsq : ∀ S, kSeq (.ok (.d (natsD (k.begs x))) S) = .ok ((k.begs x).map fun (s : Nat) => PyData.int (s : Nat)) S := fun _ => rfl
  rw [Int.natCast_add] at e1 ⊢
  simp (disch := omega) [L__law_plans_1, gA_tl, gA_nm, g1, g2, hcomp, hll, hol, hl, hsq, e1, kidsX, -getElem?_pos, -gNin_ap, -decide_eq_true_eq]
/-- all entries behind one -/
def kidsA (k : Sky1) (e : En) (al : List Ask) : List En := al.flatMap (kidsX k e)
theorem ks_len (e : En) (x : Ask) (sl : List Nat) : (ks e x sl).length ≤ sl.length := by
  unfold ks
  rw [List.length_map]
  exact List.length_filter_le _ _
theorem pl_asks {k : Sky1} {xs : List Ask} {e : En} (hx : AOk xs) (he : e.Ok xs) (o0 o1 o2 o3 : Option D) : ∀ (al : List Ask), (∀ x ∈ al, x ∈ e.left) → ∀ (F G : List PyData), F.length + 24 * al.length < 16777216 → G.length + 24 * al.length < 16777216 → ∀ (o11 o12 o13 o14 o15 o16 : Option D),
    ∃ p11 p12 p13 p14 p15 p16 : Option D, forL (gNm 11) L__law_plans_1 (al.map encA) [o0, o1, o2, o3, some (.d (tab (fun x => natsD (k.begs x)) xs)), some (.r 0), some (.r 1), some (.d (encPl e.p)), some (.d (.int (e.free : Nat))), some (.d (.str (tlS e.tool))), some (.d (.tuple (e.left.map encA))), o11, o12, o13, o14, o15, o16] [.lst F, .lst G]
      = .nx [o0, o1, o2, o3, some (.d (tab (fun x => natsD (k.begs x)) xs)), some (.r 0), some (.r 1), some (.d (encPl e.p)), some (.d (.int (e.free : Nat))), some (.d (.str (tlS e.tool))), some (.d (.tuple (e.left.map encA))), p11, p12, p13, p14, p15, p16]
        [.lst (F ++ (kidsA k e al).map fun e => encPl e.p), .lst (G ++ (kidsA k e al).map encE)] := by
  intro al
  induction al with
  | nil =>
    intro _ F G _ _ o11 o12 o13 o14 o15 o16
    refine ⟨o11, o12, o13, o14, o15, o16, ?_⟩
    show SR.nx _ _ = _
    have : kidsA k e [] = [] := rfl
    rw [this, List.map_nil, List.map_nil, List.append_nil, List.append_nil]
  | cons x al ih =>
    intro ha F G hF hG o11 o12 o13 o14 o15 o16
    rw [List.length_cons] at hF hG
    obtain ⟨p12, p13, p14, p15, p16, e1⟩ := pl_ask (k := k) hx he (ha x List.mem_cons_self) F G (by omega) (by omega) o0 o1 o2 o3 o12 o13 o14 o15 o16
    have hk := Nat.le_trans (ks_len e x (k.begs x)) (begs_len k x)
    have hF2 : (F ++ (kidsX k e x).map fun e => encPl e.p).length + 24 * al.length < 16777216 := by
      rw [List.length_append, List.length_map, kidsX]
      omega
    have hG2 : (G ++ (kidsX k e x).map encE).length + 24 * al.length < 16777216 := by
      rw [List.length_append, List.length_map, kidsX]
      omega
    obtain ⟨q11, q12, q13, q14, q15, q16, e2⟩ := ih (fun y hy => ha y (List.mem_cons_of_mem _ hy)) _ _ hF2 hG2 (some (.d (encA x))) p12 p13 p14 p15 p16
    refine ⟨q11, q12, q13, q14, q15, q16, ?_⟩
    have h1 : gNm 11 (encA x) [o0, o1, o2, o3, some (.d (tab (fun x => natsD (k.begs x)) xs)), some (.r 0), some (.r 1), some (.d (encPl e.p)), some (.d (.int (e.free : Nat))), some (.d (.str (tlS e.tool))), some (.d (.tuple (e.left.map encA))), o11, o12, o13, o14, o15, o16]
        = some [o0, o1, o2, o3, some (.d (tab (fun x => natsD (k.begs x)) xs)), some (.r 0), some (.r 1), some (.d (encPl e.p)), some (.d (.int (e.free : Nat))), some (.d (.str (tlS e.tool))), some (.d (.tuple (e.left.map encA))), some (.d (encA x)), o12, o13, o14, o15, o16] := by
      simp only [gNm_ap, List.set_cons_succ, List.set_cons_zero]
    have hk2 : kidsA k e (x :: al) = kidsX k e x ++ kidsA k e al := by unfold kidsA; rw [List.flatMap_cons]
    rw [List.map_cons, forL_nx h1 e1, e2, hk2, List.map_append, List.map_append, List.append_assoc, List.append_assoc]
def kids (k : Sky1) (e : En) : List En := kidsA k e e.left
theorem pl_turn {k : Sky1} {xs : List Ask} {e : En} (hx : AOk xs) (he : e.Ok xs) (F G : List PyData) (hF : F.length + 200 < 16777216) (hG : G.length + 200 < 16777216) (o0 o1 o2 o3 o7 o8 o9 o10 o11 o12 o13 o14 o15 o16 : Option D) :
    ∃ p7 p8 p9 p10 p11 p12 p13 p14 p15 p16 : Option D, L__law_plans_2 [o0, o1, o2, o3, some (.d (tab (fun x => natsD (k.begs x)) xs)), some (.r 0), some (.r 1), o7, o8, o9, o10, o11, o12, o13, o14, o15, o16] [.lst F, .lst (G ++ [encE e])]
      = .nx [o0, o1, o2, o3, some (.d (tab (fun x => natsD (k.begs x)) xs)), some (.r 0), some (.r 1), p7, p8, p9, p10, p11, p12, p13, p14, p15, p16]
        [.lst (F ++ (kids k e).map fun e => encPl e.p), .lst (G ++ (kids k e).map encE)] := by
  have hlen := he.len
  obtain ⟨p11, p12, p13, p14, p15, p16, e1⟩ := pl_asks (k := k) hx he o0 o1 o2 o3 e.left (fun _ h => h) F G (by omega) (by omega) o11 o12 o13 o14 o15 o16
  refine ⟨some (.d (encPl e.p)), some (.d (.int (e.free : Nat))), some (.d (.str (tlS e.tool))), some (.d (.tuple (e.left.map encA))), p11, p12, p13, p14, p15, p16, ?_⟩
  simp (disch := omega) [L__law_plans_2, encE, e1, kids, -getElem?_pos]
end KK
end
section
/-! Math17: the law's own plans are all plans. -/
namespace KK
open PySem PySem.Spec PyProof.Rows L2 Sky
set_option maxHeartbeats 4000000
/-- what an entry leads to -/
def Des (k : Sky1) (e : En) (p : List (Nat × Ask)) : Prop := ∃ q, q ≠ [] ∧ PL k e.free e.tool e.left q ∧ p = e.p ++ q
theorem kids_mem {k : Sky1} {e e' : En} : e' ∈ kids k e ↔ ∃ x ∈ e.left, ∃ s ∈ k.begs x, e.free + gap e.tool x.tl ≤ s ∧ e' = kid e x s := by
  unfold kids kidsA kidsX ks okS
  rw [List.mem_flatMap]
  constructor
  · rintro ⟨x, hx, h⟩
    obtain ⟨s, hs, rfl⟩ := List.mem_map.mp h
    rw [List.mem_filter] at hs
    exact ⟨x, hx, s, hs.1, of_decide_eq_true hs.2, rfl⟩
  · rintro ⟨x, hx, s, hs, hf, rfl⟩
    exact ⟨x, hx, List.mem_map.mpr ⟨s, List.mem_filter.mpr ⟨hs, decide_eq_true hf⟩, rfl⟩⟩
theorem des_kids {k : Sky1} {e : En} {p : List (Nat × Ask)} : Des k e p ↔ ∃ e' ∈ kids k e, p = e'.p ∨ Des k e' p := by
  constructor
  · rintro ⟨q, hq, h, rfl⟩
    cases h with
    | nil => exact absurd rfl hq
    | @cons _ _ _ x s q' hx hs hf ht =>
      refine ⟨kid e x s, kids_mem.mpr ⟨x, hx, s, hs, hf, rfl⟩, ?_⟩
      cases q' with
      | nil => exact .inl rfl
      | cons r q' => exact .inr ⟨r :: q', by simp, ht, by unfold kid; simp⟩
  · rintro ⟨e', he', h⟩
    obtain ⟨x, hx, s, hs, hf, rfl⟩ := kids_mem.mp he'
    rcases h with rfl | ⟨q, hq, ht, rfl⟩
    · exact ⟨[(s, x)], by simp, .cons hx hs hf (.nil _ _ _), rfl⟩
    · exact ⟨(s, x) :: q, by simp, .cons hx hs hf ht, by unfold kid; simp⟩
/-- how many turns an entry may take -/
def wt : Nat → Nat
  | 0 => 1
  | n + 1 => 1 + 24 * (n + 1) * wt n
theorem wt_pos (n : Nat) : 1 ≤ wt n := by cases n <;> simp [wt]
theorem wt_mono {a b : Nat} (h : a ≤ b) : wt a ≤ wt b := by
  induction h with
  | refl => exact Nat.le_refl _
  | @step m h ih =>
    have : wt m ≤ 24 * (m + 1) * wt m := Nat.le_mul_of_pos_left _ (by omega)
    show wt _ ≤ 1 + 24 * (m + 1) * wt m
    omega
def wts (es : List En) : Nat := (es.map fun e => wt e.left.length).sum
theorem wts_app (a b : List En) : wts (a ++ b) = wts a + wts b := by unfold wts; rw [List.map_append, List.sum_append]
theorem wts_ks {e : En} {x : Ask} (hm : x ∈ e.left) (sl : List Nat) : wts (ks e x sl) ≤ sl.length * wt (e.left.length - 1) := by
  induction sl with
  | nil => simp [ks, wts]
  | cons s sl ih =>
    rw [ks_cons, wts_app, List.length_cons, Nat.add_mul]
    have h1 : wts (if okS e x s = true then [kid e x s] else []) ≤ wt (e.left.length - 1) := by
      cases okS e x s with
      | true =>
        have := others_len hm
        have := wt_mono (a := (others e.left x).length) (b := e.left.length - 1) (by omega)
        simpa [wts, kid] using this
      | false => simp [wts]
    omega
theorem wts_kidsA {k : Sky1} {e : En} : ∀ (al : List Ask), (∀ x ∈ al, x ∈ e.left) → wts (kidsA k e al) ≤ 24 * al.length * wt (e.left.length - 1)
  | [], _ => by simp [kidsA, wts]
  | x :: al, h => by
    have ih := wts_kidsA (k := k) al fun y hy => h y (List.mem_cons_of_mem _ hy)
    have h1 := wts_ks (h x List.mem_cons_self) (k.begs x)
    have h2 := Nat.mul_le_mul_right (wt (e.left.length - 1)) (begs_len k x)
    have hk2 : kidsA k e (x :: al) = kidsX k e x ++ kidsA k e al := by unfold kidsA; rw [List.flatMap_cons]
    rw [hk2, wts_app, List.length_cons, Nat.mul_add, Nat.add_mul, kidsX]
    omega
theorem wts_kids (k : Sky1) (e : En) : wts (kids k e) + 1 ≤ wt e.left.length := by
  have := wts_kidsA (k := k) (e := e) e.left fun _ h => h
  unfold kids
  cases hn : e.left.length with
  | zero =>
    rw [hn] at this
    simp at this
    simp [this, wt]
  | succ n =>
    rw [hn] at this
    simp only [Nat.add_sub_cancel] at this
    show _ ≤ 1 + 24 * (n + 1) * wt n
    omega
theorem len_wts : ∀ es : List En, es.length ≤ wts es
  | [] => Nat.le_refl _
  | e :: es => by
    have := len_wts es
    have h := wt_pos e.left.length
    have : wts (e :: es) = wt e.left.length + wts es := by simp [wts]
    rw [List.length_cons]
    omega
theorem kid_ok {xs : List Ask} {k : Sky1} {e e' : En} (ht : ∀ x ∈ xs, x.tl ≠ Str.ofString "") (he : e.Ok xs) (h : e' ∈ kids k e) : e'.Ok xs := by
  obtain ⟨x, hx, s, hs, hf, rfl⟩ := kids_mem.mp h
  refine ⟨fun y hy => he.sub y (others_sub hy), fun z => ht x (he.sub x hx) (Option.some.inj z), ?_⟩
  have := others_len hx
  have := he.len
  show (e.p ++ [(s, x)]).length + (others e.left x).length ≤ 7
  rw [List.length_append, List.length_singleton]
  omega
theorem dp_encPl (n : Nat) (p : List (Nat × Ask)) : dp (n + 2) (encPl p) = true := by
  unfold encPl
  rw [dp_tup']
  exact dp_map _ fun q _ => dp_encR n q
theorem dp_encE (n : Nat) (e : En) : dp (n + 4) (encE e) = true := by
  have h1 : (e.left.map encA).all (dp (n + 2)) = true := dp_map _ fun x _ => dp_encA n x
  have h2 := dp_encPl (n + 1) e.p
  simp only [encE, dp_tup', List.all_cons, List.all_nil, dp_int, dp_str, Bool.and_true, h1, h2]
theorem pl_while {k : Sky1} {xs : List Ask} {c : Nat} (hx : AOk xs) (ht : ∀ x ∈ xs, x.tl ≠ Str.ofString "") (hc : c + 300 ≤ 16777216) (Q : List (Nat × Ask) → Prop) (o0 o1 o2 o3 : Option D) :
    ∀ (n : Nat) (st : List En) (F : List (List (Nat × Ask))), n ≤ c → wts st ≤ n → F.length + wts st ≤ c + st.length → (∀ e ∈ st, e.Ok xs) → (∀ p, Q p ↔ (p ∈ F ∨ ∃ e ∈ st, Des k e p)) → ∀ (o7 o8 o9 o10 o11 o12 o13 o14 o15 o16 : Option D),
    ∃ (p7 p8 p9 p10 p11 p12 p13 p14 p15 p16 : Option D) (F' : List (List (Nat × Ask))), whL (asB (mOp gNe (mVar 6) (mLst aNil))) L__law_plans_2 (n + 1) [o0, o1, o2, o3, some (.d (tab (fun x => natsD (k.begs x)) xs)), some (.r 0), some (.r 1), o7, o8, o9, o10, o11, o12, o13, o14, o15, o16] [.lst (F.map encPl), .lst (st.map encE)]
      = some (.nx [o0, o1, o2, o3, some (.d (tab (fun x => natsD (k.begs x)) xs)), some (.r 0), some (.r 1), p7, p8, p9, p10, p11, p12, p13, p14, p15, p16] [.lst (F'.map encPl), .lst []]) ∧ (∀ p, Q p ↔ p ∈ F') ∧ F'.length ≤ c := by
  intro n
  induction n with
  | zero =>
    intro st F hnc hw hc1 hst hQ o7 o8 o9 o10 o11 o12 o13 o14 o15 o16
    have hl := len_wts st
    obtain rfl : st = [] := List.length_eq_zero_iff.mp (by omega)
    refine ⟨o7, o8, o9, o10, o11, o12, o13, o14, o15, o16, F, ?_, fun p => by rw [hQ p]; simp, by simp only [List.length_nil] at hc1; omega⟩
    unfold whL
    simp
  | succ n ih =>
    intro st F hnc hw hc1 hst hQ o7 o8 o9 o10 o11 o12 o13 o14 o15 o16
    have htest : (asB (mOp gNe (mVar 6) (mLst aNil))) [o0, o1, o2, o3, some (.d (tab (fun x => natsD (k.begs x)) xs)), some (.r 0), some (.r 1), o7, o8, o9, o10, o11, o12, o13, o14, o15, o16] [.lst (F.map encPl), .lst (st.map encE)] = .ok (!st.isEmpty) [.lst (F.map encPl), .lst (st.map encE)] := by
      have h1 : (st.map encE).all (dp 59) = true := dp_map _ fun e _ => dp_encE 55 e
      simp only [asB_ap, mOp_ap, mVar_s, mVar_z, kOp1_ok, mLst_ap, aNil_ap, kLst_ok, allD_nil, List.length_nil, Nat.zero_le, kOp2_ok, gNe_r, List.getElem?_cons_succ, List.getElem?_cons_zero, rfC_l, rf_d, kNe_ok, dp_lst', h1, List.all_nil, and_self, if_true, eqv_l_nil, of_some, kAsB_b]
      cases st <;> rfl
    rcases List.eq_nil_or_concat st with rfl | ⟨st', e, rfl⟩
    · refine ⟨o7, o8, o9, o10, o11, o12, o13, o14, o15, o16, F, ?_, fun p => by rw [hQ p]; simp, by simp only [List.length_nil] at hc1; omega⟩
      unfold whL
      rw [htest]
      rfl
    · rw [List.concat_eq_append] at hw hc1 hst hQ htest ⊢
      rw [wts_app] at hw hc1
      have hwe : wts [e] = wt e.left.length := by simp [wts]
      have hkw := wts_kids k e
      rw [List.length_append, List.length_singleton] at hc1
      have hl' := len_wts st'
      have hkl := len_wts (kids k e)
      obtain ⟨p7, p8, p9, p10, p11, p12, p13, p14, p15, p16, e1⟩ := pl_turn (k := k) (e := e) hx (hst e (by simp)) (F.map encPl) (st'.map encE) (by rw [List.length_map]; omega) (by rw [List.length_map]; omega) o0 o1 o2 o3 o7 o8 o9 o10 o11 o12 o13 o14 o15 o16
      obtain ⟨q7, q8, q9, q10, q11, q12, q13, q14, q15, q16, F', e2, h2, h3⟩ := ih (st' ++ kids k e) (F ++ (kids k e).map (·.p)) (by omega) (by rw [wts_app]; omega) (by rw [wts_app, List.length_append, List.length_map, List.length_append]; omega)
        (by
          intro e' he'
          rcases List.mem_append.mp he' with h | h
          · exact hst e' (List.mem_append_left _ h)
          · exact kid_ok ht (hst e (by simp)) h)
        (by
          intro p
          rw [hQ p]
          constructor
          · rintro (h | ⟨e', he', h⟩)
            · exact .inl (List.mem_append_left _ h)
            · rcases List.mem_append.mp he' with g | g
              · exact .inr ⟨e', List.mem_append_left _ g, h⟩
              · rw [List.mem_singleton.mp g] at h
                obtain ⟨e'', g2, g3⟩ := des_kids.mp h
                rcases g3 with rfl | g3
                · exact .inl (List.mem_append_right _ (List.mem_map.mpr ⟨e'', g2, rfl⟩))
                · exact .inr ⟨e'', List.mem_append_right _ g2, g3⟩
          · rintro (h | ⟨e', he', h⟩)
            · rcases List.mem_append.mp h with g | g
              · exact .inl g
              · obtain ⟨e'', g2, rfl⟩ := List.mem_map.mp g
                exact .inr ⟨e, by simp, des_kids.mpr ⟨e'', g2, .inl rfl⟩⟩
            · rcases List.mem_append.mp he' with g | g
              · exact .inr ⟨e', List.mem_append_left _ g, h⟩
              · exact .inr ⟨e, by simp, des_kids.mpr ⟨e', g, .inr h⟩⟩)
        p7 p8 p9 p10 p11 p12 p13 p14 p15 p16
      refine ⟨q7, q8, q9, q10, q11, q12, q13, q14, q15, q16, F', ?_, h2, h3⟩
      rw [whL, htest]
      have hne : (!(st' ++ [e]).isEmpty) = true := by cases st' <;> rfl
      rw [hne]
      simp only []
      rw [List.map_append, List.map_cons, List.map_nil, e1]
      simp only []
      rw [List.map_append, List.map_append, List.map_map] at e2
      exact e2
theorem wt4 {n : Nat} (h : n ≤ 4) : wt n ≤ 8301409 := Nat.le_trans (wt_mono h) (by decide)
theorem pairs_tab (f : Ask → PyData) : ∀ xs : List Ask, pairsOfD (xs.map fun x => .tuple [.str x.nm, f x]) = some (xs.map fun x => (Sum.inr x.nm, f x))
  | [] => rfl
  | x :: xs => by
    rw [List.map_cons, List.map_cons]
    show (pairsOfD (xs.map fun x => PyData.tuple [.str x.nm, f x])).map _ = _
    rw [pairs_tab f xs]
    rfl
theorem fold_pairs (f : Ask → PyData) : ∀ (xs : List Ask) (acc : List (Key × PyData)), (xs.map fun (x : Ask) => ((Sum.inr x.nm : Key), f x)).foldl (fun acc kv => putD acc kv.1 kv.2) acc = foldP acc (xs.map fun x => .tuple [.str x.nm, f x])
  | [], _ => rfl
  | x :: xs, acc => by
    rw [List.map_cons, List.map_cons, List.foldl_cons, fold_pairs f xs, foldP]
    rfl
theorem dict_tab (S : Store) (f : Ask → PyData) {xs : List Ask} (h : Names xs) : cDict S [.d (.list (xs.map fun x => .tuple [.str x.nm, f x]))] = some (.d (tab f xs)) := by
  rw [cDict_l, pairs_tab]
  show some (D.d (dictD ((xs.map fun (x : Ask) => ((Sum.inr x.nm : Key), f x)).foldl (fun acc kv => putD acc kv.1 kv.2) []))) = _
  rw [fold_pairs]
  have := dc_tab f h
  unfold dcOf at this
  rw [this]
theorem p__law_plans {k : Sky1} {ns : List (Int × Int)} {xs : List Ask} (hk : k.Ok) (hn : ns[k.n]? = some k.p) (hx : AOk xs) (ht : ∀ x ∈ xs, x.tl ≠ Str.ofString "") (h4 : xs.length ≤ 4) :
    ∃ F : List (List (Nat × Ask)), P__law_plans [enS k.t ns, .int (k.n : Nat), .tuple (xs.map encA), enW k.W] = some (.list (F.map encPl)) ∧ (∀ p, p ∈ F ↔ PL k 0 none xs p) ∧ F.length ≤ 8400000 := by
  have hw := wt4 h4
  have hxl : xs.length < 16777216 := by omega
  have hcomp : ∀ ρ1 : Sky.Env, ρ1 = [some (.d (enS k.t ns)), some (.d (.int (k.n : Nat))), some (.d (.tuple (xs.map encA))), some (.d (enW k.W)), none, none, none, none, none, none, none, none, none, none, none, none, none] →
      compL (gNm 11) bYes (mTup (aCons (mOp gIx (mVar 11) (mC (.int 0))) (aCons (mCall 4 F__law_begins (aCons (mVar 0) (aCons (mVar 1) (aCons (mVar 11) (aCons (mVar 3) aNil))))) aNil))) ρ1 (xs.map encA) [] = .ok (xs.map fun x => .tuple [.str x.nm, natsD (k.begs x)]) [] := by
    rintro ρ1 rfl
    refine compL_map encA (fun x => .tuple [.str x.nm, natsD (k.begs x)]) xs fun x hm => ⟨_, gNm_ap _ _, ?_⟩
    have b := p__law_begins hk hn (hx.ok x hm)
    simp (disch := omega) [gA_nm, F__law_begins, b]
  have hd := fun S => dict_tab S (fun x => natsD (k.begs x)) hx.nm
  obtain ⟨p7, p8, p9, p10, p11, p12, p13, p14, p15, p16, F, e, hQ, hF⟩ := pl_while (c := 8400000) hx ht (by decide) (PL k 0 none xs) (some (.d (enS k.t ns))) (some (.d (.int (k.n : Nat)))) (some (.d (.tuple (xs.map encA)))) (some (.d (enW k.W)))
    (wts [⟨[], 0, none, xs⟩]) [⟨[], 0, none, xs⟩] [[]] (by simp [wts]; omega) (Nat.le_refl _) (by simp [wts]; omega)
    (by
      intro e he
      rw [List.mem_singleton.mp he]
      exact ⟨fun _ h => h, by simp, by simp; omega⟩)
    (by
      intro p
      constructor
      · intro h
        cases p with
        | nil => exact .inl (by simp)
        | cons q p => exact .inr ⟨_, List.mem_singleton.mpr rfl, q :: p, by simp, h, rfl⟩
      · rintro (h | ⟨e, he, q, hq, h, rfl⟩)
        · rw [List.mem_singleton.mp h]; exact .nil _ _ _
        · rw [List.mem_singleton.mp he] at h ⊢
          exact h)
    none none none none none none none none none none
  refine ⟨F, ?_, fun p => (hQ p).symm, hF⟩
  have e' := sWh_of e
  have hFl : F.length ≤ 16777216 := by omega
  simp only [List.map_cons, List.map_nil, show encE ⟨[], 0, none, xs⟩ = .tuple [.tuple [], .int 0, .str "", .tuple (xs.map encA)] from rfl, show encPl [] = .tuple [] from rfl] at e'
  simp (disch := omega) [P__law_plans, runP_ap, B__law_plans, hxl, hcomp _ rfl, hd, e', hFl, -getElem?_pos]
end KK
end
section
/-! Math18: worth. -/
namespace KK
open PySem PySem.Spec PyProof.Rows L2 Sky
set_option maxHeartbeats 4000000
theorem g_run (i j : Nat) (r : Run) (ρ : Sky.Env) : gTp 2 (gsCons (gNm i) (gsCons (gNm j) gsNil)) (encR r) ρ = some ((ρ.set i (some (.d (.int (r.1 : Nat))))).set j (some (.d (.str r.2)))) := by simp [encR]
def encQ (q : Nat × Ask) : PyData := encR (q.1, q.2.nm)
theorem encPl_eq (p : List (Nat × Ask)) : encPl p = .tuple (p.map encQ) := by
  unfold encPl runs
  rw [List.map_map]
  rfl
theorem g_q (i j : Nat) (q : Nat × Ask) (ρ : Sky.Env) : gTp 2 (gsCons (gNm i) (gsCons (gNm j) gsNil)) (encQ q) ρ = some ((ρ.set i (some (.d (.int (q.1 : Nat))))).set j (some (.d (.str q.2.nm)))) := g_run i j _ ρ
theorem p_worth {xs : List Ask} (hn : Names xs) (hl : xs.length ≤ 1000) {p : List (Nat × Ask)} (hp : ∀ q ∈ p, q.2 ∈ xs) (hpl : p.length ≤ 1000) : P_worth [.tuple (xs.map encA), encPl p] = some (.int (wor p)) := by
  have t1 := p_table_of hn hl
  have hpl2 : p.length < 16777216 := by omega
  have hcomp : ∀ o2 : Option D, o2 = some (.d (tab encA xs)) → compL (gTp 2 (gsCons (gNm 3) (gsCons (gNm 4) gsNil))) bYes (mOp gIx (mOp gIx (mVar 2) (mVar 4)) (mC (.int 6))) [some (.d (.tuple (xs.map encA))), some (.d (.tuple (p.map encQ))), o2, none, none] (p.map encQ) [] = .ok (p.map fun q => .int q.2.rank) [] := by
    rintro o2 rfl
    refine compL_map encQ (fun q => .int q.2.rank) p fun q hq => ⟨_, g_q 3 4 q _, ?_⟩
    have l := look_tab encA hn (hp q hq)
    simp (disch := omega) [l, gA_rank]
  have hs := sum_ints (fun q : Nat × Ask => q.2.rank) p
  have hw : (p.map fun q => q.2.rank).sum = wor p := rfl
  rw [encPl_eq]
  simp (disch := omega) [P_worth, runP_ap, B_worth, F_table_of, t1, hpl2, hcomp _ rfl, hs, hw, -getElem?_pos]
def worL (xs : List Ask) (p : List (Nat × Ask)) : Int := ((xs.filter fun x => decide (x.nm ∈ p.map fun q => q.2.nm)).map (·.rank)).sum
theorem dp_encQ (n : Nat) (q : Nat × Ask) : dp (n + 1) (encQ q) = true := dp_encR n _
theorem p__law_worth {xs : List Ask} (hl : xs.length ≤ 1000) {p : List (Nat × Ask)} (hpl : p.length ≤ 1000) : P__law_worth [.tuple (xs.map encA), encPl p] = some (.int (worL xs p)) := by
  have hpl2 : p.length < 16777216 := by omega
  have hxl2 : xs.length < 16777216 := by omega
  have hin : ∀ o2 : Option D, compL (gTp 2 (gsCons (gNm 3) (gsCons (gNm 4) gsNil))) bYes (mVar 4) [some (.d (.tuple (xs.map encA))), some (.d (.tuple (p.map encQ))), o2, none, none] (p.map encQ) [] = .ok (p.map fun q => .str q.2.nm) [] := by
    intro o2
    exact compL_map encQ (fun q => .str q.2.nm) p fun q hq => ⟨_, g_q 3 4 q _, by simp⟩
  have hcomp : ∀ ρ1 : Sky.Env, ρ1 = [some (.d (.tuple (xs.map encA))), some (.d (.tuple (p.map encQ))), none, none, none] → compL (gNm 2) (asB (mOp gIn (mOp gIx (mVar 2) (mC (.int 0))) (mComp (iSeq (mVar 1)) (gTp 2 (gsCons (gNm 3) (gsCons (gNm 4) gsNil))) bYes (mVar 4) [3, 4]))) (mOp gIx (mVar 2) (mC (.int 6))) ρ1 (xs.map encA) []
      = .ok ((xs.filter fun x => decide (x.nm ∈ p.map fun q => q.2.nm)).map fun x => .int x.rank) [] := by
    rintro ρ1 rfl
    refine compL_of encA _ _ xs fun x hx => ⟨_, gNm_ap _ _, ?_, fun _ => ?_⟩
    · have hd : (p.map fun q => PyData.str q.2.nm).all (dp 60) = true := dp_map _ fun _ _ => dp_str _ _
      have ha : ((p.map fun q => PyData.str q.2.nm).any fun z => PyData.eqv z (.str x.nm)) = decide (x.nm ∈ p.map fun q => q.2.nm) := by
        rw [List.any_map]
        by_cases h : x.nm ∈ p.map fun q => q.2.nm
        · rw [decide_eq_true h, List.any_eq_true]
          obtain ⟨q, hq, e⟩ := List.mem_map.mp h
          exact ⟨q, hq, by simp [PyData.eqv, e]⟩
        · rw [decide_eq_false h, List.any_eq_false]
          intro q hq z
          have : q.2.nm = x.nm := by simpa [PyData.eqv] using z
          exact h (List.mem_map.mpr ⟨q, hq, this⟩)
      simp (disch := omega) [gA_nm, hpl2, hin, hd, ha, -List.all_map, -List.any_map, -List.mem_map, -List.all_eq_true]
    · simp (disch := omega) [gA_rank]
  have hs := sum_ints (fun x : Ask => x.rank) (xs.filter fun x => decide (x.nm ∈ p.map fun q => q.2.nm))
  have hw : ((xs.filter fun x => decide (x.nm ∈ p.map fun q => q.2.nm)).map fun x => x.rank).sum = worL xs p := rfl
  rw [encPl_eq]
  simp (disch := omega) [P__law_worth, runP_ap, B__law_worth, hxl2, hcomp _ rfl, hs, hw, -getElem?_pos, -List.mem_map]
/-! ### what all plans keep -/
theorem PL.sub {k : Sky1} {free : Nat} {tool : Option Str} {left : List Ask} {p : List (Nat × Ask)} (h : PL k free tool left p) : ∀ q ∈ p, q.2 ∈ left := by
  induction h with
  | nil => intro q hq; cases hq
  | cons hx hs hf ht ih =>
    intro q hq
    rcases List.mem_cons.mp hq with rfl | hq
    · exact hx
    · exact others_sub (ih q hq)
theorem PL.nodup {k : Sky1} {free : Nat} {tool : Option Str} {left : List Ask} {p : List (Nat × Ask)} (h : PL k free tool left p) : (p.map fun q => q.2.nm).Nodup := by
  induction h with
  | nil => exact .nil
  | cons hx hs hf ht ih =>
    rw [List.map_cons, List.nodup_cons]
    refine ⟨fun z => ?_, ih⟩
    obtain ⟨q, hq, e⟩ := List.mem_map.mp z
    have := ht.sub q hq
    unfold others at this
    rw [List.mem_filter] at this
    exact of_decide_eq_true this.2 e
theorem PL.len {k : Sky1} {free : Nat} {tool : Option Str} {left : List Ask} {p : List (Nat × Ask)} (h : PL k free tool left p) : p.length ≤ left.length := by
  induction h with
  | nil => exact Nat.zero_le _
  | cons hx hs hf ht ih =>
    have := others_len hx
    rw [List.length_cons]
    omega
theorem perm_sum {l l' : List Int} (h : l.Perm l') : l.sum = l'.sum := by
  induction h with
  | nil => rfl
  | cons x _ ih => rw [List.sum_cons, List.sum_cons, ih]
  | swap x y l => simp only [List.sum_cons]; omega
  | trans _ _ h1 h2 => exact h1.trans h2
theorem nodup_of_names {xs : List Ask} (h : Names xs) : xs.Nodup := by
  unfold Names at h
  exact (List.pairwise_map.mp h).imp fun hab e => hab (by rw [e])
theorem worL_eq {xs : List Ask} (hn : Names xs) {p : List (Nat × Ask)} (h1 : ∀ q ∈ p, q.2 ∈ xs) (h2 : (p.map fun q => q.2.nm).Nodup) : worL xs p = wor p := by
  have hp : (xs.filter fun x => decide (x.nm ∈ p.map fun q => q.2.nm)).Perm (p.map (·.2)) := by
    refine (List.perm_ext_iff_of_nodup ((nodup_of_names hn).filter _) ?_).mpr fun x => ?_
    · refine List.pairwise_map.mpr ((List.pairwise_map.mp h2).imp fun hab e => hab (by rw [e]))
    · rw [List.mem_filter, decide_eq_true_iff, List.mem_map, List.mem_map]
      constructor
      · rintro ⟨hx, q, hq, e⟩
        exact ⟨q, hq, inj_names hn (h1 q hq) hx e⟩
      · rintro ⟨q, hq, rfl⟩
        exact ⟨h1 q hq, q, hq, rfl⟩
  unfold worL wor
  rw [perm_sum (hp.map (·.rank)), List.map_map]
  rfl
end KK
end
section
/-! Math19: are_apart, and what a plan is by its parts. -/
namespace KK
open PySem PySem.Spec PyProof.Rows L2 Sky
set_option maxHeartbeats 4000000
def encQA (q : Nat × Ask) : PyData := .tuple [.int (q.1 : Nat), encA q.2]
def tlGap (a b : Str) : Nat := if a = b then 0 else 1
def apartB : List (Nat × Ask) → Bool
  | [] => true
  | [_] => true
  | q :: r :: t => decide (q.1 + q.2.long + tlGap q.2.tl r.2.tl ≤ r.1) && apartB (r :: t)
abbrev gPairs : TgM := gTp 2 (gsCons (gTp 2 (gsCons (gNm 1) (gsCons (gNm 2) gsNil))) (gsCons (gTp 2 (gsCons (gNm 3) (gsCons (gNm 4) gsNil))) gsNil))
theorem apart_step (q r : Nat × Ask) (o0 : Option D) : L_are_apart_0 [o0, some (.d (.int (q.1 : Nat))), some (.d (encA q.2)), some (.d (.int (r.1 : Nat))), some (.d (encA r.2))] []
    = if decide (q.1 + q.2.long + tlGap q.2.tl r.2.tl ≤ r.1) = true then .nx [o0, some (.d (.int (q.1 : Nat))), some (.d (encA q.2)), some (.d (.int (r.1 : Nat))), some (.d (encA r.2))] [] else .rt (.d (.bool false)) [] := by
  by_cases h : q.2.tl = r.2.tl
  · by_cases h2 : q.1 + q.2.long + 0 ≤ r.1
    · have h3 : ¬ (r.1 : Int) < (q.1 : Int) + (q.2.long : Int) := by omega
      have h2' : q.1 + q.2.long ≤ r.1 := by omega
      simp (disch := omega) [L_are_apart_0, gA_tl, gA_long, h, tlGap, h2', h3]
    · have h3 : (r.1 : Int) < (q.1 : Int) + (q.2.long : Int) := by omega
      have h2' : ¬ q.1 + q.2.long ≤ r.1 := by omega
      simp (disch := omega) [L_are_apart_0, gA_tl, gA_long, h, tlGap, h2', h3]
  · by_cases h2 : q.1 + q.2.long + 1 ≤ r.1
    · have h3 : ¬ (r.1 : Int) < (q.1 : Int) + (q.2.long : Int) + 1 := by omega
      simp (disch := omega) [L_are_apart_0, gA_tl, gA_long, h, tlGap, h2, h3]
    · have h3 : (r.1 : Int) < (q.1 : Int) + (q.2.long : Int) + 1 := by omega
      simp (disch := omega) [L_are_apart_0, gA_tl, gA_long, h, tlGap, h2, h3]
theorem apart_loop : ∀ (p : List (Nat × Ask)) (o0 o1 o2 o3 o4 : Option D), endP ((forL gPairs L_are_apart_0 (zipD (p.map encQA) ((p.map encQA).drop 1)) [o0, o1, o2, o3, o4] []).seq (sRet (mC (.bool true)))) = some (.bool (apartB p))
  | [], o0, o1, o2, o3, o4 => by
    show endP ((SR.nx _ []).seq _) = _
    simp [apartB]
  | [q], o0, o1, o2, o3, o4 => by
    show endP ((SR.nx _ []).seq _) = _
    simp [apartB]
  | q :: r :: t, o0, o1, o2, o3, o4 => by
    have ih := apart_loop (r :: t) o0 (some (.d (.int (q.1 : Nat)))) (some (.d (encA q.2))) (some (.d (.int (r.1 : Nat)))) (some (.d (encA r.2)))
    have hz : zipD ((q :: r :: t).map encQA) (((q :: r :: t).map encQA).drop 1) = .tuple [encQA q, encQA r] :: zipD ((r :: t).map encQA) (((r :: t).map encQA).drop 1) := by
      unfold zipD
      simp only [List.map_cons, List.drop_succ_cons, List.drop_zero, List.zipWith_cons_cons]
    have hg : gPairs (.tuple [encQA q, encQA r]) [o0, o1, o2, o3, o4] = some [o0, some (.d (.int (q.1 : Nat))), some (.d (encA q.2)), some (.d (.int (r.1 : Nat))), some (.d (encA r.2))] := by simp [encQA]
    have hs := apart_step q r o0
    rw [hz, apartB]
    by_cases h : decide (q.1 + q.2.long + tlGap q.2.tl r.2.tl ≤ r.1) = true
    · rw [if_pos h] at hs
      rw [forL_nx hg hs, ih, h, Bool.true_and]
    · rw [if_neg h] at hs
      rw [forL_rt hg hs]
      rw [Bool.not_eq_true] at h
      rw [h]
      simp
theorem p_are_apart (p : List (Nat × Ask)) : P_are_apart [.list (p.map encQA)] = some (.bool (apartB p)) := by
  have h := apart_loop p (some (.d (.list (p.map encQA)))) none none none none
  have hc : cutD (p.map encQA) (some 1) none = (p.map encQA).drop 1 := cut_from _ 1
  simp (disch := omega) [P_are_apart, runP_ap, B_are_apart, hc, -List.map_drop, -List.drop_one, -gTp_t]
  exact h
/-- plans by their parts -/
structure PlB (k : Sky1) (xs : List Ask) (p : List (Nat × Ask)) : Prop where
  sub : ∀ q ∈ p, q.2 ∈ xs
  beg : ∀ q ∈ p, q.1 ∈ k.begs q.2
  nd : (p.map fun q => q.2.nm).Nodup
  ap : apartB p = true
theorem apart_gap (t u : Str) : tlGap t u = gap (some t) u := rfl
theorem PL.head {k : Sky1} {free : Nat} {tool : Option Str} {left : List Ask} {q : Nat × Ask} {p : List (Nat × Ask)} (h : PL k free tool left (q :: p)) : free + gap tool q.2.tl ≤ q.1 := by
  cases h with
  | cons _ _ hf _ => exact hf
theorem PL.beg {k : Sky1} {free : Nat} {tool : Option Str} {left : List Ask} {p : List (Nat × Ask)} (h : PL k free tool left p) : ∀ q ∈ p, q.1 ∈ k.begs q.2 := by
  induction h with
  | nil => intro q hq; cases hq
  | cons hx hs hf ht ih =>
    intro q hq
    rcases List.mem_cons.mp hq with rfl | hq
    · exact hs
    · exact ih q hq
theorem PL.ap {k : Sky1} {free : Nat} {tool : Option Str} {left : List Ask} {p : List (Nat × Ask)} (h : PL k free tool left p) : apartB p = true := by
  induction h with
  | nil => rfl
  | @cons free tool left x s p hx hs hf ht ih =>
    cases p with
    | nil => rfl
    | cons r p =>
      rw [apartB, ih, Bool.and_true]
      exact decide_eq_true ht.head
theorem PL.plB {k : Sky1} {free : Nat} {tool : Option Str} {left : List Ask} {p : List (Nat × Ask)} (h : PL k free tool left p) : PlB k left p := ⟨h.sub, h.beg, h.nodup, h.ap⟩
theorem others_keep {xs : List Ask} {x y : Ask} (hy : y ∈ xs) (h : y.nm ≠ x.nm) : y ∈ others xs x := List.mem_filter.mpr ⟨hy, decide_eq_true h⟩
theorem PlB.pl {k : Sky1} : ∀ (p : List (Nat × Ask)) {xs : List Ask} {free : Nat} {tool : Option Str}, PlB k xs p → (∀ q r, p = q :: r → free + gap tool q.2.tl ≤ q.1) → PL k free tool xs p
  | [], _, _, _, _, _ => .nil _ _ _
  | q :: p, xs, free, tool, h, hf => by
    have nd := h.nd
    rw [List.map_cons, List.nodup_cons] at nd
    refine .cons (x := q.2) (s := q.1) (h.sub q List.mem_cons_self) (h.beg q List.mem_cons_self) (hf q p rfl) (PlB.pl p ⟨?_, fun r hr => h.beg r (List.mem_cons_of_mem _ hr), nd.2, ?_⟩ ?_)
    · intro r hr
      exact others_keep (h.sub r (List.mem_cons_of_mem _ hr)) fun e => nd.1 (List.mem_map.mpr ⟨r, hr, e⟩)
    · have := h.ap
      cases p with
      | nil => rfl
      | cons r p => rw [apartB, Bool.and_eq_true] at this; exact this.2
    · rintro r p' rfl
      have := h.ap
      rw [apartB, Bool.and_eq_true] at this
      exact of_decide_eq_true this.1
theorem pl_iff {k : Sky1} {xs : List Ask} {p : List (Nat × Ask)} : PL k 0 none xs p ↔ PlB k xs p :=
  ⟨fun h => h.plB, fun h => h.pl p fun q r _ => by show 0 + 0 ≤ q.1; omega⟩
end KK
end
section
/-! Math20: is_plan of runs with known names. -/
namespace KK
open PySem PySem.Spec PyProof.Rows L2 Sky
set_option maxHeartbeats 4000000
theorem dd_go : ∀ (xs acc : List Str), ((xs.foldl stepS acc).length ≤ acc.length + xs.length) ∧ ((xs.foldl stepS acc).length = acc.length + xs.length ↔ (xs.Nodup ∧ ∀ x ∈ xs, acc.any (· == x) = false))
  | [], acc => by simp
  | x :: xs, acc => by
    obtain ⟨h1, h2⟩ := dd_go xs (stepS acc x)
    rw [List.foldl_cons, List.length_cons]
    have hl := stepS_len acc x
    cases hx : acc.any (· == x) with
    | true =>
      rw [hx, if_pos rfl] at hl
      refine ⟨by omega, ⟨fun h => by omega, fun h => ?_⟩⟩
      have := h.2 x List.mem_cons_self
      rw [hx] at this
      cases this
    | false =>
      rw [hx, if_neg Bool.false_ne_true] at hl
      refine ⟨by omega, ?_⟩
      rw [show (acc.length + (xs.length + 1)) = (stepS acc x).length + xs.length by omega, h2, List.nodup_cons]
      have hs : ∀ y, (stepS acc x).any (· == y) = (acc.any (· == y) || decide (y = x)) := fun y => stepS_any acc x y
      constructor
      · rintro ⟨a, b⟩
        refine ⟨⟨fun z => ?_, a⟩, fun y hy => ?_⟩
        · have := b x z
          rw [hs] at this
          simp at this
        · rcases List.mem_cons.mp hy with rfl | hy
          · exact hx
          · have := b y hy
            rw [hs, Bool.or_eq_false_iff] at this
            exact this.1
      · rintro ⟨⟨a, b⟩, c⟩
        refine ⟨b, fun y hy => ?_⟩
        rw [hs, c y (List.mem_cons_of_mem _ hy), Bool.false_or]
        exact decide_eq_false fun e => a (e ▸ hy)
theorem ddS_nodup (xs : List Str) : (ddS xs).length = xs.length ↔ xs.Nodup := by
  have := (dd_go xs []).2
  simp only [List.length_nil, Nat.zero_add] at this
  unfold ddS
  rw [this]
  simp
def leR (a b : Run) : Bool := !decide (ltR b a)
theorem sort_runs (l : List Run) : sortD (l.map encR) = (l.mergeSort leR).map encR := by
  unfold sortD
  exact (List.map_mergeSort (r := leR) (s := fun a b => !PySem.W.dataLt b a) (f := encR) (fun a _ b _ => by unfold leR; rw [lt_R])).symm
theorem alikeB_runs (l : List Run) : alikeAllB (l.map encR) = true := by
  unfold alikeAllB
  rw [List.all_eq_true]
  intro d hd
  obtain ⟨r, hr, rfl⟩ := List.mem_map.mp hd
  rw [Bool.and_eq_true, Bool.and_eq_true]
  refine ⟨⟨rfl, dp_encR 59 r⟩, ?_⟩
  rw [List.all_eq_true]
  intro d hd
  obtain ⟨r', hr, rfl⟩ := List.mem_map.mp hd
  exact alike_R r r'
theorem sortOk_runs (l : List Run) (h : l.length ≤ 16777216) : sortOk (l.map encR) = true := by
  unfold sortOk
  rw [alikeB_runs, Bool.true_and, Bool.and_eq_true, Bool.or_eq_true]
  refine ⟨decide_eq_true (by rw [List.length_map, sizeLine_eq]; exact h), .inl ?_⟩
  rw [List.all_eq_true]
  intro d hd
  obtain ⟨r', hr, rfl⟩ := List.mem_map.mp hd
  rfl
def okQ (k : Sky1) (q : Nat × Ask) : Bool := decide (q.1 < 24) && k.may q.2 q.1
theorem okQ_iff {k : Sky1} {q : Nat × Ask} : okQ k q = true ↔ q.1 ∈ k.begs q.2 := by
  unfold okQ
  rw [begs_iff, Bool.and_eq_true, decide_eq_true_iff]
def srtB (l : List Run) : Bool := decide (l = l.mergeSort leR)
def planB (k : Sky1) (p : List (Nat × Ask)) : Bool := p.all (okQ k) && (decide (p.map fun q => q.2.nm).Nodup && (srtB (runs p) && apartB p))
theorem is_from_i (i lo hi : Int) : P_is_from [.int i, .int lo, .int hi] = some (.bool (decide (lo ≤ i) && decide (i ≤ hi))) := by
  by_cases h : lo ≤ i <;> simp [P_is_from, runP_ap, B_is_from, h]
section
variable {k : Sky1} {ns : List (Int × Int)} {xs : List Ask}
theorem plan_step (hk : k.Ok) (hn : ns[k.n]? = some k.p) (hx : AOk xs) {q : Nat × Ask} (hq : q.2 ∈ xs) (h1 : q.1 ≤ 1000) (o4 o7 o8 o9 : Option D) :
    L_is_plan_0 [some (.d (enS k.t ns)), some (.d (.int (k.n : Nat))), some (.d (.tuple (xs.map encA))), some (.d (enW k.W)), o4, some (.d (tab encA xs)), some (.d (encQ q)), o7, o8, o9] []
      = if okQ k q = true then .nx [some (.d (enS k.t ns)), some (.d (.int (k.n : Nat))), some (.d (.tuple (xs.map encA))), some (.d (enW k.W)), o4, some (.d (tab encA xs)), some (.d (encQ q)), o7, o8, o9] [] else .rt (.d (.bool false)) [] := by
  have m := p_may_begin hk hn (hx.ok _ hq) q.1 h1
  have l := look_tab encA hx.nm hq
  have f := is_from_i (q.1 : Nat) 0 23
  have hin : ∀ S, inOf S (.d (.str q.2.nm)) (.d (tab encA xs)) = some true := fun S => by
    simp only [inOf_d, keyOf_s, Option.map_some, l, Option.isSome_some]
  by_cases h2 : q.1 < 24
  · have h3 : (q.1 : Int) ≤ 23 := by omega
    cases hm : k.may q.2 q.1 <;>
    · rw [hm] at m
      have ho : okQ k q = k.may q.2 q.1 := by unfold okQ; rw [decide_eq_true h2, Bool.true_and]
      rw [ho, hm]
      simp (disch := omega) [L_is_plan_0, encQ, encR, F_is_from, f, h3, hin, l, F_may_begin, m, -inOf_d]
  · have h3 : ¬ (q.1 : Int) ≤ 23 := by omega
    have ho : okQ k q = false := by unfold okQ; rw [decide_eq_false h2, Bool.false_and]
    rw [ho]
    simp (disch := omega) [L_is_plan_0, encQ, encR, F_is_from, f, h3]
theorem plan_loop (hk : k.Ok) (hn : ns[k.n]? = some k.p) (hx : AOk xs) {o4 : Option D} {C : SM} {r : Option PyData} (hC : ∀ o6, endP (C [some (.d (enS k.t ns)), some (.d (.int (k.n : Nat))), some (.d (.tuple (xs.map encA))), some (.d (enW k.W)), o4, some (.d (tab encA xs)), o6, none, none, none] []) = r) :
    ∀ (p : List (Nat × Ask)), (∀ q ∈ p, q.2 ∈ xs ∧ q.1 ≤ 1000) → ∀ o6, endP ((forL (gNm 6) L_is_plan_0 (p.map encQ) [some (.d (enS k.t ns)), some (.d (.int (k.n : Nat))), some (.d (.tuple (xs.map encA))), some (.d (enW k.W)), o4, some (.d (tab encA xs)), o6, none, none, none] []).seq C) = if p.all (okQ k) = true then r else some (.bool false)
  | [], _, o6 => by
    show endP (C _ []) = r
    exact hC o6
  | q :: p, h, o6 => by
    have ih := plan_loop hk hn hx hC p (fun q hq => h q (List.mem_cons_of_mem _ hq)) (some (.d (encQ q)))
    obtain ⟨h1, h2⟩ := h q List.mem_cons_self
    have st := plan_step hk hn hx h1 h2 o4 none none none
    have hg : gNm 6 (encQ q) [some (.d (enS k.t ns)), some (.d (.int (k.n : Nat))), some (.d (.tuple (xs.map encA))), some (.d (enW k.W)), o4, some (.d (tab encA xs)), o6, none, none, none] = some [some (.d (enS k.t ns)), some (.d (.int (k.n : Nat))), some (.d (.tuple (xs.map encA))), some (.d (enW k.W)), o4, some (.d (tab encA xs)), some (.d (encQ q)), none, none, none] := by
      simp only [gNm_ap, List.set_cons_succ, List.set_cons_zero]
    rw [List.map_cons, List.all_cons]
    by_cases ho : okQ k q = true
    · rw [if_pos ho] at st
      rw [forL_nx hg st, ih, ho, Bool.true_and]
    · rw [if_neg ho] at st
      rw [forL_rt hg st]
      rw [Bool.not_eq_true] at ho
      rw [ho, Bool.false_and, if_neg Bool.false_ne_true]
      simp
theorem runs_enc (p : List (Nat × Ask)) : p.map encQ = (runs p).map encR := by
  unfold runs
  rw [List.map_map]
  rfl
theorem p_is_plan (hk : k.Ok) (hn : ns[k.n]? = some k.p) (hx : AOk xs) {p : List (Nat × Ask)} (hp : ∀ q ∈ p, q.2 ∈ xs ∧ q.1 ≤ 1000) (hl : p.length ≤ 60) :
    P_is_plan [enS k.t ns, .int (k.n : Nat), .tuple (xs.map encA), enW k.W, encPl p] = some (.bool (planB k p)) := by
  have t1 := p_table_of hx.nm (by have := hx.len; omega)
  have hpl2 : p.length < 16777216 := by omega
  have hpl3 : p.length + 1 < 64 := by omega
  have hc1 : ∀ o5 o6 o7 : Option D, compL (gTp 2 (gsCons (gNm 8) (gsCons (gNm 9) gsNil))) bYes (mVar 9) [some (.d (enS k.t ns)), some (.d (.int (k.n : Nat))), some (.d (.tuple (xs.map encA))), some (.d (enW k.W)), some (.d (.tuple (p.map encQ))), o5, o6, o7, none, none] (p.map encQ) [] = .ok (p.map fun q => .str q.2.nm) [] := fun o5 o6 o7 =>
    compL_map encQ (fun q => .str q.2.nm) p fun q hq => ⟨_, g_q 8 9 q _, by simp⟩
  have hc2 : ∀ o6 o7 : Option D, compL (gTp 2 (gsCons (gNm 8) (gsCons (gNm 9) gsNil))) bYes (mTup (aCons (mVar 8) (aCons (mOp gIx (mVar 5) (mVar 9)) aNil))) [some (.d (enS k.t ns)), some (.d (.int (k.n : Nat))), some (.d (.tuple (xs.map encA))), some (.d (enW k.W)), some (.d (.tuple (p.map encQ))), some (.d (tab encA xs)), o6, o7, none, none] (p.map encQ) [] = .ok (p.map encQA) [] := fun o6 o7 =>
    compL_map encQ encQA p fun q hq => ⟨_, g_q 8 9 q _, by
      have l := look_tab encA hx.nm (hp q hq).1
      simp [l, encQA]⟩
  have hst := strs_map (fun q : Nat × Ask => q.2.nm) p
  have hdd := ddS_nodup (p.map fun q => q.2.nm)
  have hap := p_are_apart p
  have hso : sortOk (p.map encQ) = true := by rw [runs_enc]; exact sortOk_runs _ (by unfold runs; rw [List.length_map]; omega)
  have hsd : sortD (p.map encQ) = ((runs p).mergeSort leR).map encR := by rw [runs_enc]; exact sort_runs _
  have hd1 : (p.map encQ).all (dp 59) = true := dp_map _ fun q _ => dp_encQ 58 q
  have hd2 : (((runs p).mergeSort leR).map encR).all (dp 59) = true := dp_map _ fun q _ => dp_encR 58 q
  have heq : PyData.eqv (.list (p.map encQ)) (.list (((runs p).mergeSort leR).map encR)) = srtB (runs p) := by
    rw [PyData.eqv, runs_enc, eqv_runs]
    rfl
  have hint : ((ddS (p.map fun q => q.2.nm)).length : Int) = p.length ↔ (p.map fun q => q.2.nm).Nodup := by
    rw [← hdd, List.length_map]
    omega
  rw [encPl_eq]
  have hd0 : dp 60 (.tuple (p.map encQ)) = true := hd1
  have hd3 : dp 60 (.list (p.map encQ)) = true := hd1
  have hd4 : dp 60 (.list (((runs p).mergeSort leR).map encR)) = true := hd2
  simp (disch := omega) [P_is_plan, runP_ap, B_is_plan, F_table_of, t1, hd0, -getElem?_pos]
  refine (plan_loop hk hn hx (r := some (.bool (decide (p.map fun q => q.2.nm).Nodup && (srtB (runs p) && apartB p)))) ?_ p hp none).trans ?_
  · intro o6
    by_cases hnd : (p.map fun q => q.2.nm).Nodup
    · have hi := hint.mpr hnd
      cases hsb : srtB (runs p) <;>
      · rw [hsb] at heq
        simp (disch := omega) [hpl2, hpl3, hc1, hst, hi, hso, hsd, hd3, hd4, heq, hnd, hc2, F_are_apart, hap, -getElem?_pos]
    · have hi : ¬ ((ddS (p.map fun q => q.2.nm)).length : Int) = p.length := fun z => hnd (hint.mp z)
      simp (disch := omega) [hpl2, hpl3, hc1, hst, hi, hnd, -getElem?_pos]
  · unfold planB
    cases p.all (okQ k) <;> simp
end
theorem apart_lt : ∀ (p : List (Nat × Ask)), apartB p = true → (∀ q ∈ p, 1 ≤ q.2.long) → p.Pairwise fun a b => a.1 < b.1
  | [], _, _ => .nil
  | [q], _, _ => .cons (fun _ h => absurd h List.not_mem_nil) .nil
  | q :: r :: t, h, hl => by
    rw [apartB, Bool.and_eq_true] at h
    have ih := apart_lt (r :: t) h.2 fun x hx => hl x (List.mem_cons_of_mem _ hx)
    have h1 := of_decide_eq_true h.1
    have h2 := hl q List.mem_cons_self
    refine .cons (fun x hx => ?_) ih
    rcases List.mem_cons.mp hx with rfl | hx
    · omega
    · have := List.rel_of_pairwise_cons ih hx
      omega
theorem srt_of {p : List (Nat × Ask)} (h : p.Pairwise fun a b => a.1 < b.1) : srtB (runs p) = true := by
  unfold srtB
  refine decide_eq_true (List.mergeSort_of_pairwise ?_).symm
  unfold runs
  rw [List.pairwise_map]
  refine h.imp fun {a b} hab => ?_
  unfold leR ltR
  have h1 : ¬ (b.1 < a.1) := by omega
  have h2 : ¬ (b.1 = a.1) := by omega
  simp [h1, h2]
theorem planB_iff {k : Sky1} {xs : List Ask} {p : List (Nat × Ask)} (hx : ∀ x ∈ xs, 1 ≤ x.long) (hp : ∀ q ∈ p, q.2 ∈ xs) : planB k p = true ↔ PL k 0 none xs p := by
  rw [pl_iff]
  unfold planB
  rw [Bool.and_eq_true, Bool.and_eq_true, Bool.and_eq_true, List.all_eq_true, decide_eq_true_iff]
  constructor
  · rintro ⟨h1, h2, _, h4⟩
    exact ⟨hp, fun q hq => okQ_iff.mp (h1 q hq), h2, h4⟩
  · intro h
    exact ⟨fun q hq => okQ_iff.mpr (h.beg q hq), h.nd, srt_of (apart_lt p h.ap fun q hq => hx _ (hp q hq)), h.ap⟩
end KK
end
section
/-! Math22: the best of all plans, as the law looks for it. -/
namespace KK
open PySem PySem.Spec PyProof.Rows L2 Sky
set_option maxHeartbeats 4000000
def val (p : List (Nat × Ask)) : Val := (0, -wor p, runs p)
def encW (p : List (Nat × Ask)) : PyData := .tuple [.int (0 - wor p), encPl p]
theorem alike_W (a b : List (Nat × Ask)) : PySem.W.alike (encW a) (encW b) = true := by
  simp [encW, encPl, PySem.W.alike, PySem.W.alikeAll, alike_runs]
theorem dp_encW (n : Nat) (p : List (Nat × Ask)) : dp (n + 3) (encW p) = true := by
  have := dp_encPl n p
  simp only [encW, dp_tup', List.all_cons, List.all_nil, dp_int, Bool.and_true, this]
theorem lt_W (a b : List (Nat × Ask)) : PySem.W.dataLt (encW a) (encW b) = decide (ltV (val a) (val b)) := by
  unfold encW encPl
  rw [PySem.W.dataLt_tuple, PySem.W.dataLt_cons (by simp [PySem.W.alike]), PySem.W.dataLt_cons (alike_tup_runs _ _), PySem.W.dataLt_int, lt_L]
  have e0 : PyProof.Rows.lexLt itemOrd (PySem.W.keyToksAll []) (PySem.W.keyToksAll []) = false := PyProof.Rows.lex_irrefl _
  rw [e0]
  unfold val ltV
  simp only [PyData.eqv, eqv_runs]
  by_cases h1 : wor a = wor b
  · by_cases h3 : runs a = runs b
    · have := ltL_irr (runs b)
      simp [h1, h3, this]
    · simp [h1, h3]
  · have h4 : ¬ (0 - wor a = 0 - wor b) := by omega
    have h5 : ¬ (-wor a = -wor b) := by omega
    have h6 : (0 - wor a < 0 - wor b) ↔ (-wor a < -wor b) := by omega
    simp [h1, h4, h5, h6]
theorem min_by {α : Type} {enc : α → PyData} {v : α → Val} (hlt : ∀ a b, PySem.W.dataLt (enc a) (enc b) = decide (ltV (v a) (v b))) : ∀ (l : List α) (f : α), ∃ m, PySem.W.minD (enc f) (l.map enc) = enc m ∧ m ∈ f :: l ∧ ∀ p ∈ f :: l, leV (v m) (v p)
  | [], f => ⟨f, rfl, by simp, fun p hp => by rw [List.mem_singleton.mp hp]; exact leV_refl _⟩
  | y :: l, f => by
    have hs : PySem.W.minD (enc f) ((y :: l).map enc) = PySem.W.minD (enc (if ltV (v y) (v f) then y else f)) (l.map enc) := by
      unfold PySem.W.minD
      rw [List.map_cons, List.foldl_cons, hlt]
      by_cases h : ltV (v y) (v f) <;> simp [h]
    obtain ⟨m, e, hm, hl⟩ := min_by hlt l (if ltV (v y) (v f) then y else f)
    rw [hs]
    refine ⟨m, e, ?_, ?_⟩
    · rcases List.mem_cons.mp hm with h | h
      · by_cases hh : ltV (v y) (v f)
        · rw [if_pos hh] at h; rw [h]; simp
        · rw [if_neg hh] at h; rw [h]; simp
      · exact List.mem_cons_of_mem _ (List.mem_cons_of_mem _ h)
    · have h0 := hl _ List.mem_cons_self
      intro p hp
      have hf : leV (v (if ltV (v y) (v f) then y else f)) (v f) ∧ leV (v (if ltV (v y) (v f) then y else f)) (v y) := by
        by_cases hh : ltV (v y) (v f)
        · rw [if_pos hh]; exact ⟨leV_of_lt hh, leV_refl _⟩
        · rw [if_neg hh]; exact ⟨leV_refl _, hh⟩
      rcases List.mem_cons.mp hp with rfl | hp
      · exact leV_trans h0 hf.1
      · rcases List.mem_cons.mp hp with rfl | hp
        · exact leV_trans h0 hf.2
        · exact hl _ (List.mem_cons_of_mem _ hp)
theorem alike_all {α : Type} {enc : α → PyData} (h1 : ∀ a, isN (.d (enc a)) = false) (h2 : ∀ a, dp 60 (enc a) = true) (h3 : ∀ a b, PySem.W.alike (enc a) (enc b) = true) (l : List α) : alikeAllB (l.map enc) = true := by
  unfold alikeAllB
  rw [List.all_eq_true]
  intro d hd
  obtain ⟨r, hr, rfl⟩ := List.mem_map.mp hd
  rw [Bool.and_eq_true, Bool.and_eq_true]
  refine ⟨⟨by rw [h1]; rfl, h2 r⟩, ?_⟩
  rw [List.all_eq_true]
  intro d hd
  obtain ⟨r', hr, rfl⟩ := List.mem_map.mp hd
  exact h3 r r'
theorem min_all {F : List (List (Nat × Ask))} {Q : List (Nat × Ask) → Prop} (h : ∀ p, p ∈ F ↔ Q p) (h0 : Q []) : ∃ m, minL (F.map encW) = some (encW m) ∧ Least (fun v => ∃ p, Q p ∧ v = val p) (val m) ∧ Q m := by
  cases F with
  | nil => exact absurd ((h []).mpr h0) List.not_mem_nil
  | cons f l =>
    obtain ⟨m, e, hm, hl⟩ := min_by lt_W l f
    refine ⟨m, ?_, ⟨⟨m, (h m).mp hm, rfl⟩, ?_⟩, (h m).mp hm⟩
    · rw [List.map_cons]
      show (if alikeAllB (encW f :: l.map encW) = true then some (PySem.W.minD (encW f) (l.map encW)) else none) = _
      rw [if_pos, e]
      rw [← List.map_cons]
      exact alike_all (fun _ => rfl) (dp_encW 57) alike_W _
    · rintro w ⟨p, hp, rfl⟩
      exact hl p ((h p).mpr hp)
theorem pl_perm {k : Sky1} {xs ys : List Ask} (h : ∀ x, x ∈ xs ↔ x ∈ ys) {p : List (Nat × Ask)} : PL k 0 none xs p ↔ PL k 0 none ys p := by
  rw [pl_iff, pl_iff]
  exact ⟨fun a => ⟨fun q hq => (h _).mp (a.sub q hq), a.beg, a.nd, a.ap⟩, fun a => ⟨fun q hq => (h _).mpr (a.sub q hq), a.beg, a.nd, a.ap⟩⟩
/-- the best plan is the least of all -/
theorem best_allG (P : Prm) (k : Sky1) (xs : List Ask) (hw : ∀ x ∈ xs, 0 ≤ P.wt x) : Least (fun v => ∃ p, PG P k xs 0 none (srt xs) p ∧ v = valG P k p) (bestG P k xs) :=
  best_least P k xs hw xs.length 0 none (srt xs) (fun x hx => srt_mem.mp hx) (Nat.le_of_eq (srt_len xs))
theorem best_all (P : Prm) (k : Sky1) (xs : List Ask) (hP : P.room = none) (hw : ∀ x ∈ xs, 0 ≤ P.wt x) : Least (fun v => ∃ p, PL k 0 none xs p ∧ v = valG P k p) (bestG P k xs) := by
  refine (best_allG P k xs hw).congr fun w => ?_
  constructor
  · rintro ⟨p, hp, e⟩; exact ⟨p, (pl_perm fun x => srt_mem).mp hp.pl, e⟩
  · rintro ⟨p, hp, e⟩; exact ⟨p, ((pl_perm fun x => srt_mem).mpr hp).pg hP, e⟩
theorem val_plain (k : Sky1) (p : List (Nat × Ask)) : valG plain k p = val p := by
  have : sur plain k p = 0 := by
    unfold sur
    induction p with
    | nil => rfl
    | cons q p ih => rw [List.map_cons, List.sum_cons, ih]; rfl
  unfold valG val
  rw [this]
  rfl
theorem rank_nn {xs : List Ask} (h : ∀ x ∈ xs, x.Ok) : ∀ x ∈ xs, 0 ≤ x.rank := fun x hx => by have := (h x hx).rank; omega
theorem best_plain {k : Sky1} {xs : List Ask} (h : ∀ x ∈ xs, x.Ok) : Least (fun v => ∃ p, PL k 0 none xs p ∧ v = val p) (bestP k xs) :=
  (best_all plain k xs rfl (rank_nn h)).congr fun w => by simp only [val_plain]
theorem best_same {k k' : Sky1} {xs ys : List Ask} (hx : ∀ x ∈ xs, x.Ok) (hy : ∀ x ∈ ys, x.Ok) (h : ∀ p, PL k 0 none xs p ↔ PL k' 0 none ys p) : bestP k xs = bestP k' ys :=
  Least.only (best_plain hx) ((best_plain hy).congr fun w => ⟨fun ⟨p, hp, e⟩ => ⟨p, (h p).mpr hp, e⟩, fun ⟨p, hp, e⟩ => ⟨p, (h p).mp hp, e⟩⟩)
/-- one that can be nowhere changes nothing -/
theorem pl_never {k : Sky1} {xs : List Ask} {z : Ask} (hz : k.begs z = []) (p : List (Nat × Ask)) : PL k 0 none (xs ++ [z]) p ↔ PL k 0 none xs p := by
  rw [pl_iff, pl_iff]
  constructor
  · intro a
    refine ⟨fun q hq => ?_, a.beg, a.nd, a.ap⟩
    rcases List.mem_append.mp (a.sub q hq) with h | h
    · exact h
    · have := a.beg q hq
      rw [List.mem_singleton.mp h, hz] at this
      cases this
  · exact fun a => ⟨fun q hq => List.mem_append_left _ (a.sub q hq), a.beg, a.nd, a.ap⟩
end KK
end
section
/-! MathB: the other doors to a search: surest_plan, price; span. -/
namespace KK
open PySem PySem.Spec PyProof.Rows L2 Sky
set_option maxHeartbeats 4000000
section
variable {hf : MK → Int} {k : Sky1} {xs : List Ask} {ns : List (Int × Int)}
def psure : Prm := ⟨fun x => x.rank, true, none⟩
theorem at_sure : At5 psure hf k xs 0 1 (.d .none) 2 [.ins "Night" (nightFs k xs 1 (.d .none) true 2), .dct (worthKV (fun x => x.rank) xs), .mem hf []] [] := ⟨⟨rfl, rfl, rfl, rfl⟩, rfl, mem_nil⟩
theorem put_sure : putFD (Str.ofString "sure") (.d (.bool true)) (nightFs k xs 1 (.d .none) false 2) = nightFs k xs 1 (.d .none) true 2 := by simp [nightFs]
theorem nf_len (rd : D) (b : Bool) (jw j : Nat) : (nightFs k xs jw rd b j).length = 7 := rfl
theorem surest_plan_ok (hk : k.Ok) (hn : ns[k.n]? = some k.p) (hx : AOk xs) : P_surest_plan hf [enS k.t ns, .int (k.n : Nat), .tuple (xs.map encA), enW k.W] = some (.tuple ((bestG psure k xs).2.2.map encR)) := by
  obtain ⟨S, e⟩ := plan_ok (hf := hf) (k := k) hk hx at_sure
  have i := init0 (hf := hf) hk hn hx
  simp (disch := omega) [P_surest_plan, runP_ap, B_surest_plan, i, nf_len, put_sure, e, -getElem?_pos]
/-- one's worth raised by much -/
def pmuch (n : Str) : Prm := ⟨fun x => if x.nm = n then x.rank + 1000 else x.rank, false, none⟩
theorem put_worth (n : Str) (v : Int) : ∀ {xs : List Ask}, Names xs → (∃ x ∈ xs, x.nm = n ∧ x.rank + 1000 = v) → putD (worthKV (fun x => x.rank) xs) (.inr n) (.int v) = worthKV (pmuch n).wt xs := by
  intro xs hn h
  obtain ⟨x, hx, rfl, rfl⟩ := h
  unfold putD
  have ha : ((worthKV (fun x => x.rank) xs).any fun kv => decide (kv.1 = (Sum.inr x.nm : Key))) = true := by
    rw [List.any_eq_true]
    exact ⟨(.inr x.nm, .int x.rank), List.mem_map.mpr ⟨x, hx, rfl⟩, by simp⟩
  rw [if_pos ha]
  unfold worthKV
  rw [List.map_map]
  refine List.map_congr_left fun y hy => ?_
  by_cases h : y.nm = x.nm
  · rw [inj_names hn hy hx h]
    simp [pmuch]
  · have h2 : ¬ (Sum.inr y.nm : Key) = .inr x.nm := fun z => h (Sum.inr.inj z)
    simp [pmuch, h]
theorem at_much (n : Str) : At5 (pmuch n) hf k xs 0 1 (.d .none) 2 [.ins "Night" (nightFs k xs 1 (.d .none) false 2), .dct (worthKV (pmuch n).wt xs), .mem hf []] [] := ⟨⟨rfl, rfl, rfl, rfl⟩, rfl, mem_nil⟩
theorem wt_nn (hx : ∀ x ∈ xs, x.Ok) (n : Str) : ∀ x ∈ xs, 0 ≤ (pmuch n).wt x := fun x h => by
  have := (hx x h).rank
  show 0 ≤ if x.nm = n then x.rank + 1000 else x.rank
  split <;> omega
/-- what a search finds is a plan, the least -/
theorem found_plan {P : Prm} (hP : P.room = none) (hw : ∀ x ∈ xs, 0 ≤ P.wt x) : ∃ m, PL k 0 none xs m ∧ (bestG P k xs).2.2.map encR = m.map encQ ∧ bestG P k xs = valG P k m ∧ ∀ p, PL k 0 none xs p → leV (valG P k m) (valG P k p) := by
  obtain ⟨⟨m, hm, e⟩, hl⟩ := best_all P k xs hP hw
  refine ⟨m, hm, ?_, e, fun p hp => ?_⟩
  · rw [e, runs_enc]
    rfl
  · rw [← e]
    exact hl _ ⟨p, hp, rfl⟩
theorem pl_len (hx : AOk xs) {p : List (Nat × Ask)} (hp : PL k 0 none xs p) : p.length ≤ 7 := by
  have := hp.len
  have := hx.len
  omega
theorem dp_plan (n : Nat) (p : List (Nat × Ask)) : dp (n + 2) (.tuple (p.map encQ)) = true := by
  rw [dp_tup']
  exact dp_map _ fun q _ => dp_encQ n q
theorem price_ok (hk : k.Ok) (hn : ns[k.n]? = some k.p) (hx : AOk xs) {x : Ask} (hm : x ∈ xs) {b m : List (Nat × Ask)} (hb : PL k 0 none xs b) (hbe : (bestP k xs).2.2.map encR = b.map encQ) (hml : PL k 0 none xs m) (hme : (bestG (pmuch x.nm) k xs).2.2.map encR = m.map encQ) :
    P_price hf [enS k.t ns, .int (k.n : Nat), .tuple (xs.map encA), enW k.W, .str x.nm] = some (if x.nm ∈ m.map (fun q => q.2.nm) then .int (wor b - wor m) else .none) := by
  obtain ⟨S, e⟩ := plan_ok (hf := hf) (k := k) hk hx (at_much x.nm)
  have i := init0 (hf := hf) hk hn hx
  have e2 := best_plan_ok (hf := hf) hk hn hx
  rw [hme] at e
  rw [hbe] at e2
  have hl := hx.len
  have w1 := p_worth hx.nm (by omega) hb.sub (by have := pl_len hx hb; omega)
  have w2 := p_worth hx.nm (by omega) hml.sub (by have := pl_len hx hml; omega)
  rw [encPl_eq] at w1 w2
  have hv := valD_kv (fun x => x.rank) hx.nm hm
  have hg : augI (look0 hf k xs) (.r 1) (.d (.str x.nm)) = some x.rank := augI_at (kvs := worthKV (fun x => x.rank) xs) (k := .inr x.nm) rfl rfl hv
  have hp : augPut (look0 hf k xs) (.r 1) (.d (.str x.nm)) (x.rank + 1000) = some [.ins "Night" (nightFs k xs 1 (.d .none) false 2), .dct (worthKV (pmuch x.nm).wt xs), .mem hf []] := by
    rw [augPut_at (kvs := worthKV (fun x => x.rank) xs) (k := .inr x.nm) rfl rfl (by unfold worthKV; rw [List.length_map]; omega), put_worth x.nm _ hx.nm ⟨x, hm, rfl, rfl⟩]
    rfl
  have hmlen : m.length < 16777216 := by have := pl_len hx hml; omega
  have hc : ∀ (T : Store) (ρ1 : Sky.Env), ρ1 = [some (.d (enS k.t ns)), some (.d (.int (k.n : Nat))), some (.d (.tuple (xs.map encA))), some (.d (enW k.W)), some (.d (.str x.nm)), some (.r 0), some (.d (.tuple (m.map encQ))), none, none] →
      compL (gTp 2 (gsCons (gNm 7) (gsCons (gNm 8) gsNil))) bYes (mVar 8) ρ1 (m.map encQ) T = .ok (m.map fun q => .str q.2.nm) T := by
    rintro T ρ1 rfl
    exact compL_map encQ (fun q => .str q.2.nm) m fun q hq => ⟨_, g_q 7 8 q _, by simp⟩
  have hd : (m.map fun q => PyData.str q.2.nm).all (dp 60) = true := dp_map _ fun _ _ => dp_str _ _
  have ha := any_strs (fun q : Nat × Ask => q.2.nm) m x.nm
  have hb2 : P_best_plan hf [enS k.t ns, .int (k.n : Nat), .tuple (xs.map encA), enW k.W] = some (.tuple (b.map encQ)) := e2
  by_cases h : x.nm ∈ m.map fun q => q.2.nm
  · rw [if_pos h]
    rw [decide_eq_true h] at ha
    simp (disch := omega) [P_price, runP_ap, B_price, i, hg, hp, e, hmlen, hc _ _ rfl, hd, ha, F_best_plan, hb2, F_worth, w1, w2, -getElem?_pos, -List.all_map, -List.any_map, -List.mem_map]
  · rw [if_neg h]
    rw [decide_eq_false h] at ha
    simp (disch := omega) [P_price, runP_ap, B_price, i, hg, hp, e, hmlen, hc _ _ rfl, hd, ha, -getElem?_pos, -List.all_map, -List.any_map, -List.mem_map]
end
end KK
end
section
/-! MathC: span, and what the law calls the least. -/
namespace KK
open PySem PySem.Spec PyProof.Rows L2 Sky
set_option maxHeartbeats 4000000
theorem alike_ints {α : Type} (f : α → Int) (l : List α) : alikeAllB (l.map fun x => PyData.int (f x)) = true := alike_all (enc := fun x => PyData.int (f x)) (fun _ => rfl) (fun _ => dp_int _ _) (fun _ _ => rfl) l
theorem fold_min : ∀ (l : List Int) (a v : Int), v ≤ l.foldl min a ↔ v ≤ a ∧ ∀ x ∈ l, v ≤ x
  | [], a, v => by simp
  | b :: l, a, v => by
    rw [List.foldl_cons, fold_min l]
    constructor
    · rintro ⟨h1, h2⟩
      refine ⟨by omega, fun x hx => ?_⟩
      rcases List.mem_cons.mp hx with rfl | hx
      · omega
      · exact h2 x hx
    · rintro ⟨h1, h2⟩
      have := h2 b List.mem_cons_self
      exact ⟨by omega, fun x hx => h2 x (List.mem_cons_of_mem _ hx)⟩
theorem min_ints {α : Type} (f : α → Int) {l : List α} (h : l ≠ []) : ∃ m : Int, (∀ S, cMinL S [.d (.list (l.map fun x => PyData.int (f x)))] = some (.d (.int m))) ∧ ∀ v, v ≤ m ↔ ∀ x ∈ l, v ≤ f x := by
  cases l with
  | nil => exact absurd rfl h
  | cons a l =>
    refine ⟨(l.map f).foldl min (f a), fun S => ?_, fun v => ?_⟩
    · have ha := alike_ints f (a :: l)
      rw [List.map_cons] at ha
      rw [cMinL_l, List.map_cons]
      show Option.map D.d (if alikeAllB (.int (f a) :: l.map fun x => PyData.int (f x)) = true then some (PySem.W.minD (.int (f a)) (l.map fun x => PyData.int (f x))) else none) = _
      rw [if_pos ha]
      have := PySem.W.minD_ints (f a) (l.map f)
      rw [List.map_map] at this
      show some (D.d (PySem.W.minD (.int (f a)) (l.map fun x => PyData.int (f x)))) = _
      rw [← this]
      rfl
    · rw [fold_min]
      constructor
      · rintro ⟨h1, h2⟩ x hx
        rcases List.mem_cons.mp hx with rfl | hx
        · exact h1
        · exact h2 _ (List.mem_map.mpr ⟨x, hx, rfl⟩)
      · intro h
        refine ⟨h a List.mem_cons_self, fun y hy => ?_⟩
        obtain ⟨x, hx, rfl⟩ := List.mem_map.mp hy
        exact h x (List.mem_cons_of_mem _ hx)
/-- what is got for sure -/
def surW (k : Sky1) (p : List (Nat × Ask)) : Int := ((p.filter fun q => k.sure q.2 q.1).map fun q => q.2.rank).sum
theorem sur_eq (k : Sky1) : ∀ p : List (Nat × Ask), sur psure k p = surW k p
  | [] => rfl
  | q :: p => by
    have ih := sur_eq k p
    unfold sur surW at ih ⊢
    rw [List.map_cons, List.sum_cons, ih, List.filter_cons]
    have hs : sval psure k q.2 q.1 = if k.sure q.2 q.1 = true then q.2.rank else 0 := by unfold sval psure; simp
    rw [hs]
    cases k.sure q.2 q.1 <;> simp
theorem worG_sure (p : List (Nat × Ask)) : worG psure p = wor p := rfl
theorem valG_sure (k : Sky1) (p : List (Nat × Ask)) : valG psure k p = (-surW k p, -wor p, runs p) := by unfold valG; rw [sur_eq]; rfl
section
variable {k : Sky1} {xs : List Ask}
theorem p_span (hk : k.Ok) (hx : AOk xs) {p : List (Nat × Ask)} (hp : ∀ q ∈ p, q.2 ∈ xs ∧ q.1 + q.2.long ≤ 24) (hl : p.length ≤ 1000) : P_span [.tuple (xs.map encA), encPl p, enW k.W] = some (.tuple [.int (surW k p), .int (wor p)]) := by
  have hxl := hx.len
  have t1 := p_table_of hx.nm (by omega)
  have w1 := p_worth hx.nm (by omega) (fun q hq => (hp q hq).1) hl
  have hpl2 : p.length < 16777216 := by omega
  have hc : ∀ ρ1 : Sky.Env, ρ1 = [some (.d (.tuple (xs.map encA))), some (.d (.tuple (p.map encQ))), some (.d (enW k.W)), some (.d (tab encA xs)), none, none, none] →
      compL (gTp 2 (gsCons (gNm 5) (gsCons (gNm 6) gsNil))) (asB (mCall 3 F_is_sure (aCons (mOp gIx (mVar 3) (mVar 6)) (aCons (mVar 2) (aCons (mVar 5) aNil))))) (mOp gIx (mOp gIx (mVar 3) (mVar 6)) (mC (.int 6))) ρ1 (p.map encQ) [] = .ok ((p.filter fun q => k.sure q.2 q.1).map fun q => .int q.2.rank) [] := by
    rintro ρ1 rfl
    refine compL_of encQ (fun q => k.sure q.2 q.1) (fun q => .int q.2.rank) p fun q hq => ⟨_, g_q 5 6 q _, ?_, fun _ => ?_⟩
    · have l := look_tab encA hx.nm (hp q hq).1
      have e := p_is_sure hk (hx.ok _ (hp q hq).1) (hp q hq).2
      simp (disch := omega) [l, F_is_sure, e]
    · have l := look_tab encA hx.nm (hp q hq).1
      simp (disch := omega) [l, gA_rank]
  have hs := sum_ints (fun q : Nat × Ask => q.2.rank) (p.filter fun q => k.sure q.2 q.1)
  have hw : ((p.filter fun q => k.sure q.2 q.1).map fun q => q.2.rank).sum = surW k p := rfl
  rw [encPl_eq] at w1 ⊢
  simp (disch := omega) [P_span, runP_ap, B_span, F_table_of, t1, hpl2, hc _ rfl, hs, hw, F_worth, w1, -getElem?_pos]
theorem least_step (hk : k.Ok) {x : Ask} (hx : x.Ok) {q : Nat × Ask} (hq : q.2.nm = x.nm → q.1 + x.long ≤ 24) (f : Int) (o0 o1 o5 o6 o7 o8 : Option D) :
    ∃ p7 : Option D, L__law_least_0 [o0, o1, some (.d (enW k.W)), some (.d (.int f)), some (.d (encA x)), some (.d (.int (q.1 : Nat))), some (.d (.str q.2.nm)), o7, o8] []
      = .nx [o0, o1, some (.d (enW k.W)), some (.d (.int (f + if q.2.nm = x.nm ∧ k.sure x q.1 = true then x.rank else 0))), some (.d (encA x)), some (.d (.int (q.1 : Nat))), some (.d (.str q.2.nm)), p7, o8] [] := by
  by_cases h : q.2.nm = x.nm
  · have hl := hx.long
    have hr := hx.rank
    have he := hq h
    have e1 : ((q.1 : Int) + (x.long : Int) - q.1).toNat = x.long := by omega
    have hlen : (rng (q.1 : Int) x.long).length < 16777216 := by rw [rng_length]; omega
    have hc : ∀ o6' o7' : Option D, compL (gNm 8) bYes (mOp gIx (mOp gIx (mVar 2) (mVar 8)) (mC (.int 0))) [o0, o1, some (.d (enW k.W)), some (.d (.int f)), some (.d (encA x)), some (.d (.int (q.1 : Nat))), o6', o7', none] (rng (q.1 : Int) x.long) [] = .ok ((List.range x.long).map fun i => .int (k.low (q.1 + i))) [] := by
      intro o6' o7'
      unfold rng
      refine compL_map (fun (i : Nat) => PyData.int ((q.1 : Int) + i)) (fun i => .int (k.low (q.1 + i))) (List.range x.long) fun i hi => ⟨_, gNm_ap _ _, ?_⟩
      have hi := List.mem_range.mp hi
      have e3 : ((q.1 : Int) + i).toNat = q.1 + i := by omega
      have e4 := high_at hk (s := q.1 + i) (by omega)
      simp (disch := omega) [e3, e4, encP, -getElem?_pos]
    obtain ⟨m, em, hm⟩ := min_ints (fun i => k.low (q.1 + i)) (l := List.range x.long) (by
      intro z
      have := congrArg List.length z
      rw [List.length_range] at this
      simp at this
      omega)
    refine ⟨some (.d (.int m)), ?_⟩
    by_cases hs : x.need ≤ m
    · have hsu : k.sure x q.1 = true := List.all_eq_true.mpr fun i hi => decide_eq_true ((hm x.need).mp hs i hi)
      simp (disch := omega) [L__law_least_0, gA_nm, gA_long, gA_need, gA_rank, h, e1, hlen, hc, em, hs, hsu, -getElem?_pos]
    · have hsu : k.sure x q.1 = false := by
        rw [Bool.eq_false_iff]
        intro z
        exact hs ((hm x.need).mpr fun i hi => of_decide_eq_true (List.all_eq_true.mp z i hi))
      simp (disch := omega) [L__law_least_0, gA_nm, gA_long, gA_need, gA_rank, h, e1, hlen, hc, em, hs, hsu, -getElem?_pos]
  · refine ⟨o7, ?_⟩
    have h2 : ¬ (q.2.nm = x.nm ∧ k.sure x q.1 = true) := fun z => h z.1
    rw [if_neg h2, Int.add_zero]
    simp (disch := omega) [L__law_least_0, gA_nm, h]
theorem least_loop1 (hk : k.Ok) {x : Ask} (hx : x.Ok) (o0 o1 : Option D) : ∀ (p : List (Nat × Ask)), (∀ q ∈ p, q.2.nm = x.nm → q.1 + x.long ≤ 24) → ∀ (f : Int) (o5 o6 o7 o8 : Option D),
    ∃ p5 p6 p7 p8 : Option D, forL (gTp 2 (gsCons (gNm 5) (gsCons (gNm 6) gsNil))) L__law_least_0 (p.map encQ) [o0, o1, some (.d (enW k.W)), some (.d (.int f)), some (.d (encA x)), o5, o6, o7, o8] []
      = .nx [o0, o1, some (.d (enW k.W)), some (.d (.int (f + (p.map fun q => if q.2.nm = x.nm ∧ k.sure x q.1 = true then x.rank else 0).sum))), some (.d (encA x)), p5, p6, p7, p8] []
  | [], _, f, o5, o6, o7, o8 => ⟨o5, o6, o7, o8, by
    show SR.nx _ _ = _
    rw [List.map_nil, List.sum_nil, Int.add_zero]⟩
  | q :: p, h, f, o5, o6, o7, o8 => by
    obtain ⟨p7, e1⟩ := least_step hk hx (h q List.mem_cons_self) f o0 o1 o5 o6 o7 o8
    obtain ⟨q5, q6, q7, q8, e2⟩ := least_loop1 hk hx o0 o1 p (fun r hr => h r (List.mem_cons_of_mem _ hr)) (f + if q.2.nm = x.nm ∧ k.sure x q.1 = true then x.rank else 0) (some (.d (.int (q.1 : Nat)))) (some (.d (.str q.2.nm))) p7 o8
    refine ⟨q5, q6, q7, q8, ?_⟩
    have h1 : gTp 2 (gsCons (gNm 5) (gsCons (gNm 6) gsNil)) (encQ q) [o0, o1, some (.d (enW k.W)), some (.d (.int f)), some (.d (encA x)), o5, o6, o7, o8] = some [o0, o1, some (.d (enW k.W)), some (.d (.int f)), some (.d (encA x)), some (.d (.int (q.1 : Nat))), some (.d (.str q.2.nm)), o7, o8] := by
      rw [g_q]
      simp only [List.set_cons_succ, List.set_cons_zero]
    rw [List.map_cons, forL_nx h1 e1, e2, List.map_cons, List.sum_cons, Int.add_assoc]
def leastL (k : Sky1) (xs : List Ask) (p : List (Nat × Ask)) : Int := (xs.map fun x => (p.map fun q => if q.2.nm = x.nm ∧ k.sure x q.1 = true then x.rank else 0).sum).sum
theorem least_loop2 (hk : k.Ok) {p : List (Nat × Ask)} (hpl : p.length < 16777216) (o0 : Option D) : ∀ (al : List Ask), (∀ x ∈ al, x.Ok ∧ ∀ q ∈ p, q.2.nm = x.nm → q.1 + x.long ≤ 24) → ∀ (f : Int) (o4 o5 o6 o7 o8 : Option D),
    ∃ p4 p5 p6 p7 p8 : Option D, forL (gNm 4) L__law_least_1 (al.map encA) [o0, some (.d (.tuple (p.map encQ))), some (.d (enW k.W)), some (.d (.int f)), o4, o5, o6, o7, o8] []
      = .nx [o0, some (.d (.tuple (p.map encQ))), some (.d (enW k.W)), some (.d (.int (f + leastL k al p))), p4, p5, p6, p7, p8] []
  | [], _, f, o4, o5, o6, o7, o8 => ⟨o4, o5, o6, o7, o8, by
    show SR.nx _ _ = _
    have : leastL k [] p = 0 := rfl
    rw [this, Int.add_zero]⟩
  | x :: al, h, f, o4, o5, o6, o7, o8 => by
    obtain ⟨hx, hq⟩ := h x List.mem_cons_self
    obtain ⟨p5, p6, p7, p8, e0⟩ := least_loop1 hk hx o0 (some (.d (.tuple (p.map encQ)))) p hq f o5 o6 o7 o8
    obtain ⟨q4, q5, q6, q7, q8, e2⟩ := least_loop2 hk hpl o0 al (fun y hy => h y (List.mem_cons_of_mem _ hy)) (f + (p.map fun q => if q.2.nm = x.nm ∧ k.sure x q.1 = true then x.rank else 0).sum) (some (.d (encA x))) p5 p6 p7 p8
    refine ⟨q4, q5, q6, q7, q8, ?_⟩
    have e1 : L__law_least_1 [o0, some (.d (.tuple (p.map encQ))), some (.d (enW k.W)), some (.d (.int f)), some (.d (encA x)), o5, o6, o7, o8] [] = .nx [o0, some (.d (.tuple (p.map encQ))), some (.d (enW k.W)), some (.d (.int (f + (p.map fun q => if q.2.nm = x.nm ∧ k.sure x q.1 = true then x.rank else 0).sum))), some (.d (encA x)), p5, p6, p7, p8] [] := by
      rw [← e0]
      simp (disch := omega) [L__law_least_1, -gTp_t, -getElem?_pos]
    have h1 : gNm 4 (encA x) [o0, some (.d (.tuple (p.map encQ))), some (.d (enW k.W)), some (.d (.int f)), o4, o5, o6, o7, o8] = some [o0, some (.d (.tuple (p.map encQ))), some (.d (enW k.W)), some (.d (.int f)), some (.d (encA x)), o5, o6, o7, o8] := by
      simp only [gNm_ap, List.set_cons_succ, List.set_cons_zero]
    rw [List.map_cons, forL_nx h1 e1, e2]
    unfold leastL
    rw [List.map_cons, List.sum_cons, Int.add_assoc]
theorem p__law_least (hk : k.Ok) (hx : AOk xs) {p : List (Nat × Ask)} (hp : ∀ q ∈ p, ∀ x ∈ xs, q.2.nm = x.nm → q.1 + x.long ≤ 24) (hl : p.length ≤ 1000) : P__law_least [.tuple (xs.map encA), encPl p, enW k.W] = some (.int (leastL k xs p)) := by
  have hpl : p.length < 16777216 := by omega
  obtain ⟨p4, p5, p6, p7, p8, e⟩ := least_loop2 hk hpl (some (.d (.tuple (xs.map encA)))) xs (fun x hxx => ⟨hx.ok x hxx, fun q hq => hp q hq x hxx⟩) 0 none none none none none
  rw [Int.zero_add] at e
  rw [encPl_eq]
  simp (disch := omega) [P__law_least, runP_ap, B__law_least, e, -getElem?_pos]
theorem sum_add {α : Type} (f g : α → Int) : ∀ l : List α, (l.map fun x => f x + g x).sum = (l.map f).sum + (l.map g).sum
  | [] => rfl
  | x :: l => by
    rw [List.map_cons, List.map_cons, List.map_cons, List.sum_cons, List.sum_cons, List.sum_cons, sum_add f g l]
    omega
theorem sum_one (g : Ask → Int) {y : Ask} : ∀ {xs : List Ask}, Names xs → y ∈ xs → (xs.map fun x => if y.nm = x.nm then g x else 0).sum = g y
  | [], _, h => absurd h List.not_mem_nil
  | x :: xs, hn, h => by
    rw [List.map_cons, List.sum_cons]
    have hn' := hn
    unfold Names at hn'
    rw [List.map_cons, List.nodup_cons] at hn'
    have zero : ∀ l : List Ask, (∀ z ∈ l, y.nm ≠ z.nm) → (l.map fun x => if y.nm = x.nm then g x else 0).sum = 0 := by
      intro l
      induction l with
      | nil => intro _; rfl
      | cons z l ih =>
        intro hz
        rw [List.map_cons, List.sum_cons, ih fun w hw => hz w (List.mem_cons_of_mem _ hw), if_neg (hz z List.mem_cons_self)]
        rfl
    rcases List.mem_cons.mp h with rfl | h
    · rw [if_pos rfl, zero xs fun z hz e => hn'.1 (List.mem_map.mpr ⟨z, hz, e.symm⟩), Int.add_zero]
    · have hne : y.nm ≠ x.nm := fun e => hn'.1 (List.mem_map.mpr ⟨y, h, e⟩)
      rw [if_neg hne, Int.zero_add]
      exact sum_one g hn'.2 h
theorem leastL_eq (hn : Names xs) : ∀ (p : List (Nat × Ask)), (∀ q ∈ p, q.2 ∈ xs) → leastL k xs p = surW k p
  | [], _ => by
    unfold leastL surW
    have : ∀ l : List Ask, (l.map fun x => (([] : List (Nat × Ask)).map fun q => if q.2.nm = x.nm ∧ k.sure x q.1 = true then x.rank else 0).sum).sum = 0 := by
      intro l
      induction l with
      | nil => rfl
      | cons z l ih => rw [List.map_cons, List.sum_cons, ih]; rfl
    rw [this]
    rfl
  | q :: p, h => by
    have ih := leastL_eq hn p fun r hr => h r (List.mem_cons_of_mem _ hr)
    have e1 : leastL k xs (q :: p) = (xs.map fun x => if q.2.nm = x.nm then (if k.sure x q.1 = true then x.rank else 0) else 0).sum + leastL k xs p := by
      unfold leastL
      rw [← sum_add]
      congr 1
      refine List.map_congr_left fun x _ => ?_
      rw [List.map_cons, List.sum_cons]
      by_cases h1 : q.2.nm = x.nm <;> by_cases h2 : k.sure x q.1 = true <;> simp [h1, h2]
    rw [e1, ih, sum_one (fun x => if k.sure x q.1 = true then x.rank else 0) hn (h q List.mem_cons_self)]
    unfold surW
    rw [List.filter_cons]
    by_cases h2 : k.sure q.2 q.1 = true <;> simp [h2]
theorem law_least_pl (hk : k.Ok) (hx : AOk xs) {p : List (Nat × Ask)} (hp : PL k 0 none xs p) : P__law_least [.tuple (xs.map encA), encPl p, enW k.W] = some (.int (surW k p)) := by
  have hl := pl_len hx hp
  rw [p__law_least hk hx (fun q hq x hxx e => by
    have := inj_names hx.nm (hp.sub q hq) hxx e
    rw [← this]
    exact beg_end hk (hx.ok _ (hp.sub q hq)) (hp.beg q hq)) (by omega), leastL_eq hx.nm p hp.sub]
theorem span_pl (hk : k.Ok) (hx : AOk xs) {p : List (Nat × Ask)} (hp : PL k 0 none xs p) : P_span [.tuple (xs.map encA), encPl p, enW k.W] = some (.tuple [.int (surW k p), .int (wor p)]) :=
  p_span hk hx (fun q hq => ⟨hp.sub q hq, beg_end hk (hx.ok _ (hp.sub q hq)) (hp.beg q hq)⟩) (by have := pl_len hx hp; omega)
end
end KK
end
section
/-! Math21: drawn asks, drawn weathers. -/
namespace KK
open PySem PySem.Spec PyProof.Rows L2 Sky
set_option maxHeartbeats 4000000
/-- asks as drawn -/
structure GA (x : Ask) : Prop where
  ok : x.Ok
  tl : x.tl = "cam" ∨ x.tl = "eye"
  hs : x.hs = "hut" ∨ x.hs = "inn" ∨ x.hs = "oak"
theorem ask_step {c : Nat} {dk : List PyData} (h : DK c dk) (hc : c ≤ 100000000) (nm : Str) (F : List PyData) (hF : F.length < 16777216) (o1 o2 o5 o6 o7 o8 o9 o10 o11 o12 : Option D) :
    ∃ (x : Ask) (dk' : List PyData) (p5 p6 p7 p8 p9 p10 p11 p12 : Option D), L__law_asks_0 [some (.r 0), o1, o2, some (.r 1), some (.d (.str nm)), o5, o6, o7, o8, o9, o10, o11, o12] [.lst dk, .lst F]
      = .nx [some (.r 0), o1, o2, some (.r 1), some (.d (.str nm)), p5, p6, p7, p8, p9, p10, p11, p12] [.lst dk', .lst (F ++ [encA x])] ∧ x.nm = nm ∧ GA x ∧ DK (c + 13) dk' := by
  obtain ⟨v1, dk1, e1, a1, b1, d1⟩ := pick_ok h (lim := 24) (by omega) (by omega) (by omega)
  obtain ⟨v2, dk2, e2, a2, b2, d2⟩ := pick_ok d1 (lim := 60) (by omega) (by omega) (by omega)
  obtain ⟨v3, dk3, e3, a3, b3, d3⟩ := pick_ok d2 (lim := 2) (by omega) (by omega) (by omega)
  obtain ⟨v4, dk4, e4, a4, b4, d4⟩ := pick_ok d3 (lim := 31) (by omega) (by omega) (by omega)
  obtain ⟨v5, dk5, e5, a5, b5, d5⟩ := pick_ok d4 (lim := 3) (by omega) (by omega) (by omega)
  obtain ⟨v6, dk6, e6, a6, b6, d6⟩ := pick_ok d5 (lim := 2) (by omega) (by omega) (by omega)
  obtain ⟨l6, hl6⟩ : ∃ l : Int, (if v6 = 0 then 3 else 8) = l := ⟨_, rfl⟩
  have hl6' : 3 ≤ l6 ∧ l6 ≤ 8 := by rw [← hl6]; split <;> omega
  obtain ⟨v7, dk7, e7, a7, b7, d7⟩ := pick_ok d6 (lim := l6) (by omega) (by omega) (by omega)
  obtain ⟨v8, dk8, e8, a8, b8, d8⟩ := pick_ok d7 (lim := 10) (by omega) (by omega) (by omega)
  obtain ⟨v9, dk9, e9, a9, b9, d9⟩ := pick_ok d8 (lim := 3) (by omega) (by omega) (by omega)
  obtain ⟨v10, dk10, e10, a10, b10, d10⟩ := pick_ok d9 (lim := 2) (by omega) (by omega) (by omega)
  obtain ⟨v11, dk11, e11, a11, b11, d11⟩ := pick_ok d10 (lim := 3) (by omega) (by omega) (by omega)
  obtain ⟨v12, dk12, e12, a12, b12, d12⟩ := pick_ok d11 (lim := 2) (by omega) (by omega) (by omega)
  obtain ⟨l12, hl12⟩ : ∃ l : Int, (if v12 = 0 then 3 else 9) = l := ⟨_, rfl⟩
  have hl12' : 3 ≤ l12 ∧ l12 ≤ 9 := by rw [← hl12]; split <;> omega
  obtain ⟨v13, dk13, e13, a13, b13, d13⟩ := pick_ok d12 (lim := l12) (by omega) (by omega) (by omega)
  obtain ⟨at_, hat⟩ : ∃ l : Int, (if v3 = 0 then 2 * v1 else v2) = l := ⟨_, rfl⟩
  obtain ⟨re, hre⟩ : ∃ l : Int, (if v5 = 0 then 5 else if v5 = 1 then 30 else v4) = l := ⟨_, rfl⟩
  obtain ⟨ne, hne⟩ : ∃ l : Int, (if v9 = 0 then 0 else if v9 = 1 then 3 else v8) = l := ⟨_, rfl⟩
  obtain ⟨tl, htl⟩ : ∃ l : Str, (if v10 = 0 then Str.ofString "cam" else Str.ofString "eye") = l := ⟨_, rfl⟩
  obtain ⟨hs, hhs⟩ : ∃ l : Str, (if v11 = 0 then Str.ofString "hut" else if v11 = 1 then Str.ofString "inn" else Str.ofString "oak") = l := ⟨_, rfl⟩
  obtain ⟨lo, hlo⟩ : ∃ l : Nat, 1 + v7 = (l : Int) := ⟨(1 + v7).toNat, by omega⟩
  refine ⟨⟨nm, hs, at_, re, tl, lo, ne, 1 + v13⟩, dk13, some (.d (.int v1)), some (.d (.int at_)), some (.d (.tuple [.int at_, .int re])), some (.d (.int (lo : Nat))), some (.d (.int ne)), some (.d (.str tl)), some (.d (.str hs)), some (.d (.int (1 + v13))), ?_, rfl, ⟨⟨?_, ?_, ?_, ?_, ?_⟩, ?_, ?_⟩, d13⟩
  rotate_left
  · rw [← hat]; show 0 ≤ (if v3 = 0 then 2 * v1 else v2) ∧ (if v3 = 0 then 2 * v1 else v2) < 60
    split <;> omega
  · rw [← hre]; show 0 ≤ (if v5 = 0 then 5 else if v5 = 1 then 30 else v4) ∧ (if v5 = 0 then 5 else if v5 = 1 then 30 else v4) ≤ 30
    split <;> (try split) <;> omega
  · show 1 ≤ lo ∧ lo ≤ 8
    omega
  · rw [← hne]; show 0 ≤ (if v9 = 0 then 0 else if v9 = 1 then 3 else v8) ∧ (if v9 = 0 then 0 else if v9 = 1 then 3 else v8) ≤ 9
    split <;> (try split) <;> omega
  · show 1 ≤ 1 + v13 ∧ 1 + v13 ≤ 9
    omega
  · rw [← htl]; show (if v10 = 0 then Str.ofString "cam" else Str.ofString "eye") = _ ∨ (if v10 = 0 then Str.ofString "cam" else Str.ofString "eye") = _
    by_cases h : v10 = 0
    · rw [if_pos h]; exact .inl rfl
    · rw [if_neg h]; exact .inr rfl
  · rw [← hhs]; show (if v11 = 0 then Str.ofString "hut" else if v11 = 1 then Str.ofString "inn" else Str.ofString "oak") = _ ∨ (if v11 = 0 then Str.ofString "hut" else if v11 = 1 then Str.ofString "inn" else Str.ofString "oak") = _ ∨ (if v11 = 0 then Str.ofString "hut" else if v11 = 1 then Str.ofString "inn" else Str.ofString "oak") = _
    by_cases h : v11 = 0
    · rw [if_pos h]; exact .inl rfl
    · rw [if_neg h]
      by_cases h2 : v11 = 1
      · rw [if_pos h2]; exact .inr (.inl rfl)
      · rw [if_neg h2]; exact .inr (.inr rfl)
  · simp (disch := omega) [L__law_asks_0, F__law_pick, e1, e2, e3, e4, e5, e6, e7, e8, e9, e10, e11, e12, e13, hat, hre, hl6, hne, htl, hhs, hl12, hlo, hF, encA]
theorem forL_nx' {g : TgM} {b : SM} {x : PyData} {xs : List PyData} {ρ ρ1 ρ2 : Sky.Env} {S S2 : Store} (h1 : g x ρ = some ρ1) (h2 : b ρ1 S = .nx ρ2 S2) : forL g b (x :: xs) ρ S = forL g b xs ρ2 S2 := by
  rw [forL, h1]
  simp only []
  rw [h2]
theorem asks_loop : ∀ (nl : List Str) {c : Nat} {dk : List PyData} (h : DK c dk) (hc : c + 13 * nl.length ≤ 100000000) (F : List PyData) (hF : F.length + nl.length < 16777216) (o1 o2 o4 o5 o6 o7 o8 o9 o10 o11 o12 : Option D),
    ∃ (xs : List Ask) (dk' : List PyData) (p4 p5 p6 p7 p8 p9 p10 p11 p12 : Option D), forL (gNm 4) L__law_asks_0 (nl.map .str) [some (.r 0), o1, o2, some (.r 1), o4, o5, o6, o7, o8, o9, o10, o11, o12] [.lst dk, .lst F]
      = .nx [some (.r 0), o1, o2, some (.r 1), p4, p5, p6, p7, p8, p9, p10, p11, p12] [.lst dk', .lst (F ++ xs.map encA)] ∧ xs.map (·.nm) = nl ∧ (∀ x ∈ xs, GA x) ∧ DK (c + 13 * nl.length) dk' := by
  intro nl
  induction nl with
  | nil =>
    intro c dk h hc F hF o1 o2 o4 o5 o6 o7 o8 o9 o10 o11 o12
    refine ⟨[], dk, o4, o5, o6, o7, o8, o9, o10, o11, o12, ?_, rfl, fun _ h => absurd h List.not_mem_nil, h⟩
    show SR.nx _ [Cell.lst dk, Cell.lst F] = _
    rw [List.map_nil, List.append_nil]
  | cons nm nl ih =>
    intro c dk h hc F hF o1 o2 o4 o5 o6 o7 o8 o9 o10 o11 o12
    rw [List.length_cons] at hc hF
    obtain ⟨x, dk1, p5, p6, p7, p8, p9, p10, p11, p12, e1, hn, hg, hd⟩ := ask_step h (by omega) nm F (by omega) o1 o2 o5 o6 o7 o8 o9 o10 o11 o12
    obtain ⟨xs, dk2, q4, q5, q6, q7, q8, q9, q10, q11, q12, e2, hn2, hg2, hd2⟩ := ih hd (by omega) (F ++ [encA x]) (by rw [List.length_append, List.length_singleton]; omega) o1 o2 (some (.d (.str nm))) p5 p6 p7 p8 p9 p10 p11 p12
    refine ⟨x :: xs, dk2, q4, q5, q6, q7, q8, q9, q10, q11, q12, ?_, by rw [List.map_cons, hn, hn2], ?_, hd2.mono (by rw [List.length_cons]; omega)⟩
    · have h1 : gNm 4 (.str nm) [some (.r 0), o1, o2, some (.r 1), o4, o5, o6, o7, o8, o9, o10, o11, o12] = some [some (.r 0), o1, o2, some (.r 1), some (.d (.str nm)), o5, o6, o7, o8, o9, o10, o11, o12] := by
        simp only [gNm_ap, List.set_cons_succ, List.set_cons_zero]
      rw [List.map_cons, forL_nx' h1 e1, e2, List.append_assoc]
      rfl
    · intro y hy
      rcases List.mem_cons.mp hy with rfl | hy
      · exact hg
      · exact hg2 y hy
def six : List Str := ["a", "bb", "c", "dd", "e", "ff"]
theorem asks_ok {c : Nat} {dk : List PyData} {most : Int} (s : PyData) (h : DK c dk) (hc : c ≤ 10000000) (h1 : 0 ≤ most) (h2 : most ≤ 6) : ∃ (xs : List Ask) (dk' : List PyData),
    P__law_asks dk [s, .int most] = some (.tuple (xs.map encA), dk') ∧ (∃ n : Nat, xs.map (·.nm) = six.take n ∧ (n : Int) ≤ most) ∧ (∀ x ∈ xs, GA x) ∧ DK (c + 100) dk' := by
  obtain ⟨v, dk1, e1, a1, b1, d1⟩ := pick_ok h (lim := most + 1) (by omega) (by omega) (by omega)
  obtain ⟨n, hn⟩ : ∃ n : Nat, v = (n : Int) := ⟨v.toNat, by omega⟩
  subst hn
  have hlen : (six.take n).length ≤ 6 := by rw [List.length_take]; exact Nat.min_le_right _ _
  obtain ⟨xs, dk2, q4, q5, q6, q7, q8, q9, q10, q11, q12, e2, hn2, hg2, hd2⟩ := asks_loop (six.take n) d1 (by omega) [] (by simp; omega) (some (.d s)) (some (.d (.int most))) none none none none none none none none none
  have hcut : cutD (six.map PyData.str) none (some (n : Int)) = (six.take n).map .str := by rw [cut_to, List.map_take]
  have hcut' : cutD [PyData.str (Str.ofString "a"), .str (Str.ofString "bb"), .str (Str.ofString "c"), .str (Str.ofString "dd"), .str (Str.ofString "e"), .str (Str.ofString "ff")] none (some (n : Int)) = (six.take n).map .str := hcut
  rw [List.nil_append] at e2
  have hxl : xs.length ≤ 16777216 := by
    have : xs.length = (six.take n).length := by rw [← hn2, List.length_map]
    omega
  refine ⟨xs, dk2, ?_, ⟨n, hn2, by omega⟩, hg2, hd2.mono (by omega)⟩
  simp (disch := omega) [P__law_asks, runD_ap, B__law_asks, F__law_pick, e1, hcut', e2, hxl, -List.map_take]
def WOk (W : List (Int × Int)) : Prop := W.length = 24 ∧ ∀ p ∈ W, 0 ≤ p.1 ∧ p.1 ≤ p.2 ∧ p.2 ≤ 9
theorem weather_ok {c : Nat} {dk : List PyData} (h : DK c dk) (hc : c ≤ 10000000) : ∃ (W : List (Int × Int)) (dk' : List PyData), P__law_weather dk [] = some (.tuple (W.map encP), dk') ∧ WOk W ∧ DK (c + 100) dk' := by
  obtain ⟨v, dk1, e1, a1, b1, d1⟩ := pick_ok h (lim := 10) (by omega) (by omega) (by omega)
  simp (disch := omega) [P__law_weather, runD_ap, B__law_weather, e1, F__law_pick]
  generalize hq : forL _ _ _ _ _ = q
  suffices H : ∃ (W : List (Int × Int)) (dk2 : List PyData) (o2 o3 o4 : Option D), q = .nx [some (.r 0), some (.r 1), o2, o3, o4] [.lst dk2, .lst (W.map encP)] ∧ WOk W ∧ DK (c + 1 + 3 * 24) dk2 by
    obtain ⟨W, dk2, o2, o3, o4, rfl, hw, hd2⟩ := H
    have hlen : W.length ≤ 16777216 := by rw [hw.1]; decide
    refine ⟨W, dk2, ?_, hw, hd2.mono (by omega)⟩
    simp (disch := omega) [hlen]
  rw [← hq]
  obtain ⟨I, hI⟩ := hide fun i ρ S => ∃ (W : List (Int × Int)) (dk : List PyData) (lo hi : Int) (o4 : Option D), ρ = [some (.r 0), some (.r 1), some (.d (.int lo)), some (.d (.int hi)), o4] ∧ S = [.lst dk, .lst (W.map encP)] ∧ W.length = i ∧ (∀ p ∈ W, 0 ≤ p.1 ∧ p.1 ≤ p.2 ∧ p.2 ≤ 9) ∧ 0 ≤ lo ∧ lo ≤ hi ∧ hi ≤ 9 ∧ DK (c + 1 + 3 * i) dk
  refine forR_inv (R := fun q => ∃ (W : List (Int × Int)) (dk2 : List PyData) (o2 o3 o4 : Option D), q = .nx [some (.r 0), some (.r 1), o2, o3, o4] [.lst dk2, .lst (W.map encP)] ∧ WOk W ∧ DK (c + 1 + 3 * 24) dk2) I ?_ ?_ ?_
  · rw [hI]; exact ⟨[], dk1, v, 9, _, rfl, rfl, rfl, fun _ h => absurd h List.not_mem_nil, by omega, by omega, by omega, d1⟩
  · intro i ρ S hi h
    rw [hI] at h
    obtain ⟨W, dk2, lo, hi', o4, rfl, rfl, hl, hn, hlo, hlh, hhi, hd2⟩ := h
    refine ⟨_, gNm_ap _ _, ?_⟩
    obtain ⟨v3, dk3, e3, a3, b3, d3⟩ := pick_ok hd2 (lim := 4) (by omega) (by omega) (by omega)
    have hlen : W.length < 16777216 := by omega
    by_cases hv : v3 = 0
    · obtain ⟨v4, dk4, e4, a4, b4, d4⟩ := pick_ok d3 (lim := 10) (by omega) (by omega) (by omega)
      obtain ⟨v5, dk5, e5, a5, b5, d5⟩ := pick_ok d4 (lim := 10 - v4) (by omega) (by omega) (by omega)
      simp (disch := omega) [L__law_weather_0, F__law_pick, e3, e4, e5, hv, hlen]
      rw [hI]
      refine ⟨W ++ [(v4, v4 + v5)], dk5, v4, v4 + v5, _, rfl, by simp [encP], by simp [hl], ?_, by omega, by omega, by omega, d5.mono (by omega)⟩
      intro p hp
      rcases List.mem_append.mp hp with hp | hp
      · exact hn p hp
      · rw [List.mem_singleton.mp hp]
        refine ⟨?_, ?_, ?_⟩ <;> dsimp only <;> omega
    · simp (disch := omega) [L__law_weather_0, F__law_pick, e3, hv, hlen]
      rw [hI]
      refine ⟨W ++ [(lo, hi')], dk3, lo, hi', _, rfl, by simp [encP], by simp [hl], ?_, by omega, by omega, by omega, d3.mono (by omega)⟩
      intro p hp
      rcases List.mem_append.mp hp with hp | hp
      · exact hn p hp
      · rw [List.mem_singleton.mp hp]
        refine ⟨?_, ?_, ?_⟩ <;> dsimp only <;> omega
  · intro ρ S h
    rw [hI] at h
    obtain ⟨W, dk2, lo, hi', o4, rfl, rfl, hl, hn, hlo, hlh, hhi, hd2⟩ := h
    exact ⟨W, dk2, _, _, _, rfl, ⟨hl, hn⟩, hd2⟩
end KK
end
section
/-! MathD: a drawn scene: asks, a weather, a night. -/
namespace KK
open PySem PySem.Spec PyProof.Rows L2 Sky
set_option maxHeartbeats 4000000
theorem deck_DKt (cell : Int) (turn : Nat) : DK turn [.int (if 1000000000000000000 ≤ cell then cell - 1000000000000000000 else 0), .int (cell % 2147483579), .int (turn : Nat)] :=
  ⟨_, _, _, rfl, Int.emod_nonneg _ (by decide), Int.emod_lt_of_pos _ (by decide), by omega, by omega⟩
theorem six_nodup : six.Nodup := by decide +kernel
theorem tl_ne (t : Str) (h : t = "cam" ∨ t = "eye") : t ≠ Str.ofString "" := by
  rcases h with rfl | rfl <;> decide +kernel
/-- drawn asks are asks -/
theorem aok_of {xs : List Ask} {n : Nat} (hn : xs.map (·.nm) = six.take n) (hg : ∀ x ∈ xs, GA x) : AOk xs := by
  refine ⟨?_, fun x hx => (hg x hx).ok, ?_⟩
  · show (xs.map (·.nm)).Nodup
    rw [hn]
    exact six_nodup.sublist (List.take_sublist _ _)
  · have : xs.length = (six.take n).length := by rw [← hn, List.length_map]
    have h6 : six.length = 6 := rfl
    rw [List.length_take, h6] at this
    omega
/-- what is drawn -/
structure Scene (ns : List (Int × Int)) (most : Int) (k : Sky1) (xs : List Ask) : Prop where
  hk : k.Ok
  hn : ns[k.n]? = some k.p
  ok : AOk xs
  ga : ∀ x ∈ xs, GA x
  nms : ∃ n : Nat, xs.map (·.nm) = six.take n ∧ (n : Int) ≤ most
  len : (xs.length : Int) ≤ most
  W : WOk k.W
theorem Scene.tl {ns : List (Int × Int)} {most : Int} {k : Sky1} {xs : List Ask} (h : Scene ns most k xs) : ∀ x ∈ xs, x.tl ≠ Str.ofString "" := fun x hx => tl_ne _ (h.ga x hx).tl
theorem scene_ok {t : Int} {ns : List (Int × Int)} (ht : 0 ≤ t ∧ t < 60) (hn0 : 1 ≤ ns.length) (hn1 : ns.length ≤ 1000) (hng : NG ns) {c : Nat} {dk : List PyData} (hd : DK c dk) (hc : c ≤ 1000000) {most : Int} (h1 : 0 ≤ most) (h2 : most ≤ 6) :
    ∃ (xs : List Ask) (k : Sky1) (dk1 dk2 dk3 : List PyData), P__law_asks dk [enS t ns, .int most] = some (.tuple (xs.map encA), dk1) ∧ P__law_weather dk1 [] = some (enW k.W, dk2) ∧ P__law_pick dk2 [.int (ns.length : Nat)] = some (.int (k.n : Nat), dk3) ∧
      k.t = t ∧ Scene ns most k xs ∧ DK (c + 201) dk3 := by
  obtain ⟨xs, dk1, e1, ⟨n6, hn6, hn6'⟩, hga, hd1⟩ := asks_ok (most := most) (enS t ns) hd (by omega) h1 h2
  obtain ⟨W, dk2, e2, hW, hd2⟩ := weather_ok hd1 (by omega)
  obtain ⟨v, dk3, e3, hv0, hv1, hd3⟩ := pick_ok hd2 (lim := (ns.length : Nat)) (by omega) (by omega) (by omega)
  obtain ⟨n, rfl⟩ : ∃ n : Nat, v = (n : Int) := ⟨v.toNat, by omega⟩
  have hnl : n < ns.length := by omega
  obtain ⟨p, hp⟩ : ∃ p, ns[n]? = some p := ⟨_, List.getElem?_eq_getElem hnl⟩
  have hx := aok_of hn6 hga
  have hx4 : (xs.length : Int) ≤ most := by
    have : xs.length = (six.take n6).length := by rw [← hn6, List.length_map]
    rw [List.length_take] at this
    omega
  exact ⟨xs, ⟨t, n, p, W⟩, dk1, dk2, dk3, e1, e2, e3, rfl, ⟨⟨by show -1000000 < t ∧ t < 1000000; omega, hng p (List.mem_of_getElem? hp), hW.1⟩, hp, hx, hga, ⟨n6, hn6, hn6'⟩, hx4, hW⟩, hd3.mono (by omega)⟩
end KK
end
section
/-! MathE: airs: got, fits. -/
namespace KK
open PySem PySem.Spec PyProof.Rows L2 Sky
set_option maxHeartbeats 4000000
def strsD (l : List Str) : PyData := .list (l.map .str)
theorem sortD_strs (l : List Str) : sortD (l.map .str) = (sortS l).map .str := by
  unfold sortD sortS
  refine (List.map_mergeSort (r := leS) (s := fun a b => !PySem.W.dataLt b a) (f := PyData.str) (fun a _ b _ => ?_)).symm
  rw [PySem.W.dataLt_str]
  unfold leS
  by_cases h : b.cps.toList < a.cps.toList
  · rw [decide_eq_false (List.not_le.mpr h), decide_eq_true h]; rfl
  · rw [decide_eq_true (List.not_lt.mp h), decide_eq_false h]; rfl
theorem sortOk_strs (l : List Str) (h : l.length ≤ 16777216) : sortOk (l.map .str) = true := by
  unfold sortOk
  rw [alike_all (enc := PyData.str) (fun _ => rfl) (fun _ => dp_str _ _) (fun _ _ => rfl), Bool.true_and, Bool.and_eq_true, Bool.or_eq_true]
  refine ⟨decide_eq_true (by rw [List.length_map, sizeLine_eq]; exact h), .inr ?_⟩
  rw [List.all_eq_true]
  intro d hd
  obtain ⟨r', hr, rfl⟩ := List.mem_map.mp hd
  rfl
@[simp] theorem cSorted_r (S : Store) (i : Nat) : cSorted S [.r i] = (lkC S[i]?).bind fun xs => if sortOk xs = true then some (.d (.list (sortD xs))) else none := id rfl
def at0 (A : List Int) (s : Nat) : Int := A.getD s 0
def encAir (A : List Int) : PyData := .tuple (A.map .int)
/-- whether the air does for a run -/
def okA (A : List Int) (q : Nat × Ask) : Bool := (List.range q.2.long).all fun i => decide (q.2.need ≤ at0 A (q.1 + i))
theorem air_at {A : List Int} (hA : A.length = 24) {s : Nat} (h : s < 24) : A[s]? = some (at0 A s) := by
  unfold at0
  rw [List.getD_eq_getElem?_getD, List.getElem?_eq_getElem (by omega)]
  rfl
/-- runs of known asks, within the night -/
structure RunsOk (xs : List Ask) (p : List (Nat × Ask)) : Prop where
  sub : ∀ q ∈ p, q.2 ∈ xs
  fit : ∀ q ∈ p, q.1 + q.2.long ≤ 24
  nd : (p.map fun q => q.2.nm).Nodup
  len : p.length ≤ 7
def gotL (A : List Int) (p : List (Nat × Ask)) : List Str := (p.filter (okA A)).map fun q => q.2.nm
section
variable {xs : List Ask} {A : List Int}
theorem got_step (hx : AOk xs) (hA : A.length = 24) {q : Nat × Ask} (hq : q.2 ∈ xs) (hf : q.1 + q.2.long ≤ 24) (F : List PyData) (hF : F.length < 16777216) (o0 o1 o7 : Option D) :
    L_got_0 [o0, o1, some (.d (encAir A)), some (.d (tab encA xs)), some (.r 0), some (.d (.int (q.1 : Nat))), some (.d (.str q.2.nm)), o7] [.lst F]
      = .nx [o0, o1, some (.d (encAir A)), some (.d (tab encA xs)), some (.r 0), some (.d (.int (q.1 : Nat))), some (.d (.str q.2.nm)), o7] [.lst (F ++ if okA A q = true then [.str q.2.nm] else [])] := by
  have l := look_tab encA hx.nm hq
  have hl := (hx.ok _ hq).long
  have e1 := p_slots_of q.2 q.1 (hx.ok _ hq) (by omega)
  have hlen : (rng (q.1 : Int) q.2.long).length < 16777216 := by rw [rng_length]; omega
  have hc : compL (gNm 7) bYes (mOp gGe (mOp gIx (mVar 2) (mVar 7)) (mOp gIx (mOp gIx (mVar 3) (mVar 6)) (mC (.int 5)))) [o0, o1, some (.d (encAir A)), some (.d (tab encA xs)), some (.r 0), some (.d (.int (q.1 : Nat))), some (.d (.str q.2.nm)), none] (rng (q.1 : Int) q.2.long) [.lst F] = .ok ((List.range q.2.long).map fun i => .bool (decide (q.2.need ≤ at0 A (q.1 + i)))) [.lst F] := by
    unfold rng
    refine compL_map (fun (i : Nat) => PyData.int ((q.1 : Int) + i)) (fun i => .bool (decide (q.2.need ≤ at0 A (q.1 + i)))) (List.range q.2.long) fun i hi => ⟨_, gNm_ap _ _, ?_⟩
    have hi := List.mem_range.mp hi
    have e3 : ((q.1 : Int) + i).toNat = q.1 + i := by omega
    have e4 := air_at hA (s := q.1 + i) (by omega)
    simp (disch := omega) [encAir, l, gA_need, e3, e4, -getElem?_pos]
  have ha := all_bls (fun i => decide (q.2.need ≤ at0 A (q.1 + i))) (List.range q.2.long)
  have hok : ((List.range q.2.long).all fun i => decide (q.2.need ≤ at0 A (q.1 + i))) = okA A q := rfl
  rw [hok] at ha
  cases h : okA A q <;>
  · rw [h] at ha
    simp (disch := omega) [L_got_0, l, F_slots_of, e1, hlen, hc, ha, hF, -getElem?_pos]
theorem got_loop (hx : AOk xs) (hA : A.length = 24) (o0 o1 : Option D) : ∀ (p : List (Nat × Ask)), (∀ q ∈ p, q.2 ∈ xs ∧ q.1 + q.2.long ≤ 24) → ∀ (F : List PyData), F.length + p.length < 16777216 → ∀ (o5 o6 o7 : Option D),
    ∃ p5 p6 p7 : Option D, forL (gTp 2 (gsCons (gNm 5) (gsCons (gNm 6) gsNil))) L_got_0 (p.map encQ) [o0, o1, some (.d (encAir A)), some (.d (tab encA xs)), some (.r 0), o5, o6, o7] [.lst F]
      = .nx [o0, o1, some (.d (encAir A)), some (.d (tab encA xs)), some (.r 0), p5, p6, p7] [.lst (F ++ (gotL A p).map .str)]
  | [], _, F, _, o5, o6, o7 => ⟨o5, o6, o7, by
    show SR.nx _ [.lst F] = _
    have : gotL A [] = [] := rfl
    rw [this, List.map_nil, List.append_nil]⟩
  | q :: p, h, F, hF, o5, o6, o7 => by
    rw [List.length_cons] at hF
    obtain ⟨h1, h2⟩ := h q List.mem_cons_self
    have e1 := got_step hx hA h1 h2 F (by omega) o0 o1 o7
    have hl : (F ++ if okA A q = true then [PyData.str q.2.nm] else []).length + p.length < 16777216 := by
      rw [List.length_append]
      have := len_ite (okA A q) (PyData.str q.2.nm)
      omega
    obtain ⟨q5, q6, q7, e2⟩ := got_loop hx hA o0 o1 p (fun r hr => h r (List.mem_cons_of_mem _ hr)) _ hl (some (.d (.int (q.1 : Nat)))) (some (.d (.str q.2.nm))) o7
    refine ⟨q5, q6, q7, ?_⟩
    have hg : gTp 2 (gsCons (gNm 5) (gsCons (gNm 6) gsNil)) (encQ q) [o0, o1, some (.d (encAir A)), some (.d (tab encA xs)), some (.r 0), o5, o6, o7] = some [o0, o1, some (.d (encAir A)), some (.d (tab encA xs)), some (.r 0), some (.d (.int (q.1 : Nat))), some (.d (.str q.2.nm)), o7] := by
      rw [g_q]
      simp only [List.set_cons_succ, List.set_cons_zero]
    rw [List.map_cons, forL_nx hg e1, e2, List.append_assoc]
    unfold gotL
    rw [List.filter_cons]
    cases okA A q <;> rfl
theorem got_len (p : List (Nat × Ask)) : (gotL A p).length ≤ p.length := by
  unfold gotL
  rw [List.length_map]
  exact List.length_filter_le _ _
theorem p_got (hx : AOk xs) (hA : A.length = 24) {p : List (Nat × Ask)} (hp : RunsOk xs p) : P_got [.tuple (xs.map encA), .tuple (p.map encQ), encAir A] = some (strsD (sortS (gotL A p))) := by
  have hxl := hx.len
  have hpl := hp.len
  have t1 := p_table_of hx.nm (by omega)
  obtain ⟨p5, p6, p7, e⟩ := got_loop hx hA (some (.d (.tuple (xs.map encA)))) (some (.d (.tuple (p.map encQ)))) p (fun q hq => ⟨hp.sub q hq, hp.fit q hq⟩) [] (by simp; omega) none none none
  rw [List.nil_append] at e
  have hs := sortOk_strs (gotL A p) (by have := got_len (A := A) p; omega)
  have hd := sortD_strs (gotL A p)
  simp (disch := omega) [P_got, runP_ap, B_got, F_table_of, t1, e, hs, hd, strsD, -getElem?_pos, -gTp_t]
/-! the law's own -/
theorem cut_mid {α : Type} (l : List α) (a b : Nat) (h : a + b ≤ l.length) : Sky.cutD l (some (a : Int)) (some ((a + b : Nat) : Int)) = (l.drop a).take b := by
  unfold Sky.cutD
  rw [HT.sIx_nat, HT.sIx_nat, Nat.min_eq_left h, Nat.min_eq_left (show a ≤ l.length by omega), Nat.add_sub_cancel_left]
theorem mid_map (hA : A.length = 24) (s n : Nat) (h : s + n ≤ 24) : ((A.map PyData.int).drop s).take n = (List.range n).map fun i => .int (at0 A (s + i)) := by
  refine List.ext_getElem? fun i => ?_
  rw [List.getElem?_take, List.getElem?_drop, List.getElem?_map, List.getElem?_map]
  by_cases hi : i < n
  · rw [if_pos hi, air_at hA (s := s + i) (by omega), List.getElem?_range hi]
    rfl
  · rw [if_neg hi, List.getElem?_eq_none (by rw [List.length_range]; omega)]
    rfl
theorem lgot_step (hx : AOk xs) (hA : A.length = 24) {q : Nat × Ask} (hq : q.2 ∈ xs) (hf : q.1 + q.2.long ≤ 24) (F : List PyData) (hF : F.length < 16777216) (o0 o1 o7 : Option D) :
    L__law_got_0 [o0, o1, some (.d (encAir A)), some (.d (tab encA xs)), some (.r 0), some (.d (.int (q.1 : Nat))), some (.d (.str q.2.nm)), o7] [.lst F]
      = .nx [o0, o1, some (.d (encAir A)), some (.d (tab encA xs)), some (.r 0), some (.d (.int (q.1 : Nat))), some (.d (.str q.2.nm)), o7] [.lst (F ++ if okA A q = true then [.str q.2.nm] else [])] := by
  have l := look_tab encA hx.nm hq
  have hl := (hx.ok _ hq).long
  have hcut : cutD (A.map PyData.int) (some (q.1 : Int)) (some ((q.1 : Int) + (q.2.long : Int))) = (List.range q.2.long).map fun i => .int (at0 A (q.1 + i)) := by
    rw [← mid_map hA q.1 q.2.long hf, ← cut_mid _ _ _ (by rw [List.length_map]; omega), Int.natCast_add]
  obtain ⟨m, em, hm⟩ := min_ints (fun i => at0 A (q.1 + i)) (l := List.range q.2.long) (by
    intro z
    have := congrArg List.length z
    rw [List.length_range] at this
    simp at this
    omega)
  have em' : ∀ S, cMinL S [.d (.tuple ((List.range q.2.long).map fun i => PyData.int (at0 A (q.1 + i))))] = some (.d (.int m)) := em
  by_cases h : q.2.need ≤ m
  · have hok : okA A q = true := List.all_eq_true.mpr fun i hi => decide_eq_true ((hm q.2.need).mp h i hi)
    rw [hok]
    simp (disch := omega) [L__law_got_0, l, gA_long, gA_need, encAir, hcut, em', h, hF, -getElem?_pos]
  · have hok : okA A q = false := by
      rw [Bool.eq_false_iff]
      intro z
      exact h ((hm q.2.need).mpr fun i hi => of_decide_eq_true (List.all_eq_true.mp z i hi))
    rw [hok]
    simp (disch := omega) [L__law_got_0, l, gA_long, gA_need, encAir, hcut, em', h, -getElem?_pos]
theorem lgot_loop (hx : AOk xs) (hA : A.length = 24) (o0 o1 : Option D) : ∀ (p : List (Nat × Ask)), (∀ q ∈ p, q.2 ∈ xs ∧ q.1 + q.2.long ≤ 24) → ∀ (F : List PyData), F.length + p.length < 16777216 → ∀ (o5 o6 o7 : Option D),
    ∃ p5 p6 p7 : Option D, forL (gTp 2 (gsCons (gNm 5) (gsCons (gNm 6) gsNil))) L__law_got_0 (p.map encQ) [o0, o1, some (.d (encAir A)), some (.d (tab encA xs)), some (.r 0), o5, o6, o7] [.lst F]
      = .nx [o0, o1, some (.d (encAir A)), some (.d (tab encA xs)), some (.r 0), p5, p6, p7] [.lst (F ++ (gotL A p).map .str)]
  | [], _, F, _, o5, o6, o7 => ⟨o5, o6, o7, by
    show SR.nx _ [.lst F] = _
    have : gotL A [] = [] := rfl
    rw [this, List.map_nil, List.append_nil]⟩
  | q :: p, h, F, hF, o5, o6, o7 => by
    rw [List.length_cons] at hF
    obtain ⟨h1, h2⟩ := h q List.mem_cons_self
    have e1 := lgot_step hx hA h1 h2 F (by omega) o0 o1 o7
    have hl : (F ++ if okA A q = true then [PyData.str q.2.nm] else []).length + p.length < 16777216 := by
      rw [List.length_append]
      have := len_ite (okA A q) (PyData.str q.2.nm)
      omega
    obtain ⟨q5, q6, q7, e2⟩ := lgot_loop hx hA o0 o1 p (fun r hr => h r (List.mem_cons_of_mem _ hr)) _ hl (some (.d (.int (q.1 : Nat)))) (some (.d (.str q.2.nm))) o7
    refine ⟨q5, q6, q7, ?_⟩
    have hg : gTp 2 (gsCons (gNm 5) (gsCons (gNm 6) gsNil)) (encQ q) [o0, o1, some (.d (encAir A)), some (.d (tab encA xs)), some (.r 0), o5, o6, o7] = some [o0, o1, some (.d (encAir A)), some (.d (tab encA xs)), some (.r 0), some (.d (.int (q.1 : Nat))), some (.d (.str q.2.nm)), o7] := by
      rw [g_q]
      simp only [List.set_cons_succ, List.set_cons_zero]
    rw [List.map_cons, forL_nx hg e1, e2, List.append_assoc]
    unfold gotL
    rw [List.filter_cons]
    cases okA A q <;> rfl
theorem p__law_got (hx : AOk xs) (hA : A.length = 24) {p : List (Nat × Ask)} (hp : RunsOk xs p) : P__law_got [.tuple (xs.map encA), .tuple (p.map encQ), encAir A] = some (strsD (sortS (gotL A p))) := by
  have hxl := hx.len
  have hpl := hp.len
  have hxl2 : xs.length < 16777216 := by omega
  have hcomp : ∀ ρ1 : Sky.Env, ρ1 = [some (.d (.tuple (xs.map encA))), some (.d (.tuple (p.map encQ))), some (.d (encAir A)), none, none, none, none, none] →
      compL (gNm 7) bYes (mTup (aCons (mOp gIx (mVar 7) (mC (.int 0))) (aCons (mVar 7) aNil))) ρ1 (xs.map encA) [] = .ok (xs.map fun x => .tuple [.str x.nm, encA x]) [] := by
    rintro ρ1 rfl
    exact compL_map encA (fun x => .tuple [.str x.nm, encA x]) xs fun x hm => ⟨_, gNm_ap _ _, by simp (disch := omega) [gA_nm]⟩
  have hdd := fun S => dict_tab S encA hx.nm
  obtain ⟨p5, p6, p7, e⟩ := lgot_loop hx hA (some (.d (.tuple (xs.map encA)))) (some (.d (.tuple (p.map encQ)))) p (fun q hq => ⟨hp.sub q hq, hp.fit q hq⟩) [] (by simp; omega) none none none
  rw [List.nil_append] at e
  have hs := sortOk_strs (gotL A p) (by have := got_len (A := A) p; omega)
  have hd := sortD_strs (gotL A p)
  simp (disch := omega) [P__law_got, runP_ap, B__law_got, hxl2, hcomp _ rfl, hdd, e, hs, hd, strsD, -getElem?_pos, -gTp_t]
/-! fits -/
def fitsB (W : List (Int × Int)) (A : List Int) : Bool := (List.zipWith (fun p a => decide (p.1 ≤ a) && decide (a ≤ p.2)) W A).all fun b => b
theorem p_fits (W : List (Int × Int)) (hW : W.length = 24) : P_fits [enW W, encAir A] = some (.bool (fitsB W A)) := by
  have hz : zipD (W.map encP) (A.map PyData.int) = (List.zip W A).map fun z => .tuple [encP z.1, .int z.2] := by
    unfold zipD
    rw [List.zipWith_map, List.zip, List.map_zipWith]
  have hl : ((List.zip W A).map fun z => PyData.tuple [encP z.1, .int z.2]).length < 16777216 := by
    rw [List.length_map, List.length_zip]
    omega
  have hc : ∀ ρ1 : Sky.Env, ρ1 = [some (.d (enW W)), some (.d (.tuple (A.map .int))), none, none, none] →
      compL (gTp 2 (gsCons (gTp 2 (gsCons (gNm 2) (gsCons (gNm 3) gsNil))) (gsCons (gNm 4) gsNil))) bYes (mChain gLe gLe (mVar 2) (mVar 4) (mVar 3)) ρ1 ((List.zip W A).map fun z => .tuple [encP z.1, .int z.2]) [] = .ok ((List.zip W A).map fun z => .bool (decide (z.1.1 ≤ z.2) && decide (z.2 ≤ z.1.2))) [] := by
    rintro ρ1 rfl
    refine compL_map (fun z : (Int × Int) × Int => PyData.tuple [encP z.1, .int z.2]) (fun z => .bool (decide (z.1.1 ≤ z.2) && decide (z.2 ≤ z.1.2))) (List.zip W A) fun z hz => ⟨_, by simp [encP]; rfl, ?_⟩
    by_cases h : z.1.1 ≤ z.2 <;> simp [h]
  have ha := all_bls (fun z : (Int × Int) × Int => decide (z.1.1 ≤ z.2) && decide (z.2 ≤ z.1.2)) (List.zip W A)
  have hf : ((List.zip W A).all fun z => decide (z.1.1 ≤ z.2) && decide (z.2 ≤ z.1.2)) = fitsB W A := by
    unfold fitsB
    rw [List.zip, show (List.zipWith (fun (p : Int × Int) a => decide (p.1 ≤ a) && decide (a ≤ p.2)) W A) = (List.zipWith Prod.mk W A).map (fun z => decide (z.1.1 ≤ z.2) && decide (z.2 ≤ z.1.2)) by rw [List.map_zipWith], List.all_map]
    rfl
  rw [hf] at ha
  have hlz : (W.zip A).length < 16777216 := by rw [List.length_zip]; omega
  simp (disch := omega) [P_fits, runP_ap, B_fits, encAir, hz, hlz, hc _ rfl, ha, -getElem?_pos, -List.length_zip]
end
end KK
end
section
/-! MathF: drawn airs; the spans. -/
namespace KK
open PySem PySem.Spec PyProof.Rows L2 Sky
set_option maxHeartbeats 4000000
theorem fitsB_cons (p : Int × Int) (W : List (Int × Int)) (a : Int) (A : List Int) : fitsB (p :: W) (a :: A) = ((decide (p.1 ≤ a) && decide (a ≤ p.2)) && fitsB W A) := rfl
theorem air_comp (ρ : Sky.Env) (h0 : ρ[0]? = some (some (.r 0))) (hl : ρ.length = 4) : ∀ (W : List (Int × Int)), (∀ p ∈ W, 0 ≤ p.1 ∧ p.1 ≤ p.2 ∧ p.2 ≤ 9) → ∀ {c : Nat} {dk : List PyData}, DK c dk → c + W.length ≤ 100000000 →
    ∃ (A : List Int) (dk' : List PyData), compL (gTp 2 (gsCons (gNm 2) (gsCons (gNm 3) gsNil))) bYes (mOp gAdd (mVar 2) (mCall 2 F__law_pick (aCons (mVar 0) (aCons (mOp gAdd (mOp gSub (mVar 3) (mVar 2)) (mC (.int 1))) aNil)))) ρ (W.map encP) [.lst dk] = .ok (A.map .int) [.lst dk'] ∧ A.length = W.length ∧ fitsB W A = true ∧ DK (c + W.length) dk'
  | [], _, c, dk, h, _ => ⟨[], dk, rfl, rfl, rfl, h⟩
  | p :: W, hW, c, dk, h, hc => by
    rw [List.length_cons] at hc
    obtain ⟨h1, h2, h3⟩ := hW p List.mem_cons_self
    obtain ⟨v, dk1, e1, a1, b1, d1⟩ := pick_ok h (lim := p.2 - p.1 + 1) (by omega) (by omega) (by omega)
    obtain ⟨A, dk2, e2, hA, hf, d2⟩ := air_comp ρ h0 hl W (fun q hq => hW q (List.mem_cons_of_mem _ hq)) d1 (by omega)
    match ρ, h0, hl with
    | [x0, x1, x2, x3], h0, _ =>
      simp at h0
      subst h0
      refine ⟨(p.1 + v) :: A, dk2, ?_, by rw [List.length_cons, List.length_cons, hA], ?_, d2.mono (by rw [List.length_cons]; omega)⟩
      · rw [List.map_cons]
        have hp : F__law_pick [.r 0, .d (.int (p.2 - p.1 + 1))] [.lst dk] = .ok (.d (.int v)) [.lst dk1] := by simp [F__law_pick, e1]
        unfold compL
        simp (disch := omega) [encP, hp, e2]
      · rw [fitsB_cons, hf, decide_eq_true (show p.1 ≤ p.1 + v by omega), decide_eq_true (show p.1 + v ≤ p.2 by omega)]
        rfl
theorem air_ok {c : Nat} {dk : List PyData} (h : DK c dk) (hc : c ≤ 10000000) {W : List (Int × Int)} (hW : WOk W) : ∃ (A : List Int) (dk' : List PyData), P__law_air dk [enW W] = some (encAir A, dk') ∧ A.length = 24 ∧ fitsB W A = true ∧ DK (c + 24) dk' := by
  have hl := hW.1
  obtain ⟨A, dk', e, hA, hf, hd⟩ := air_comp [some (.r 0), some (.d (enW W)), none, none] rfl rfl W hW.2 h (by omega)
  have hWl : W.length < 16777216 := by omega
  have hAl : A.length ≤ 16777216 := by omega
  refine ⟨A, dk', ?_, by omega, hf, hd.mono (by omega)⟩
  simp (disch := omega) [P__law_air, runD_ap, B__law_air, hWl, e, hAl, encAir, -getElem?_pos, -gTp_t]
theorem fits_at : ∀ {W : List (Int × Int)} {A : List Int}, fitsB W A = true → W.length = A.length → ∀ s, s < A.length → (W.getD s (0, 0)).1 ≤ at0 A s ∧ at0 A s ≤ (W.getD s (0, 0)).2
  | [], [], _, _, s, h => by simp at h
  | [], _ :: _, _, h, _, _ => by simp at h
  | _ :: _, [], _, h, _, _ => by simp at h
  | p :: W, a :: A, h, hl, s, hs => by
    rw [fitsB_cons, Bool.and_eq_true, Bool.and_eq_true] at h
    cases s with
    | zero => exact ⟨of_decide_eq_true h.1.1, of_decide_eq_true h.1.2⟩
    | succ s => exact fits_at h.2 (by simpa using hl) s (by simpa using hs)
theorem fits_bad : ∀ {W : List (Int × Int)} {A : List Int} (s : Nat), s < W.length → s < A.length → ¬ ((W.getD s (0, 0)).1 ≤ at0 A s ∧ at0 A s ≤ (W.getD s (0, 0)).2) → fitsB W A = false
  | [], _, s, h, _, _ => by simp at h
  | _ :: _, [], s, _, h, _ => by simp at h
  | p :: W, a :: A, s, h1, h2, h => by
    rw [fitsB_cons]
    cases s with
    | zero =>
      have h : ¬ (p.1 ≤ a ∧ a ≤ p.2) := h
      by_cases q : p.1 ≤ a
      · rw [decide_eq_false (fun z => h ⟨q, z⟩)]; simp
      · rw [decide_eq_false q]; simp
    | succ s =>
      rw [fits_bad s (by simpa using h1) (by simpa using h2) h, Bool.and_false]
theorem at_set (A : List Int) (n : Nat) (x : Int) (s : Nat) (h : n < A.length) : at0 (A.set n x) s = if s = n then x else at0 A s := by
  unfold at0
  rw [List.getD_eq_getElem?_getD, List.getD_eq_getElem?_getD, List.getElem?_set]
  by_cases hs : s = n
  · subst hs
    rw [if_pos rfl, if_pos rfl, if_pos h]
    rfl
  · rw [if_neg (fun z => hs z.symm), if_neg hs]
theorem set_split {α : Type} : ∀ (l : List α) (n : Nat) (x : α), n < l.length → l.take n ++ [x] ++ l.drop (n + 1) = l.set n x
  | [], n, _, h => by simp at h
  | a :: l, 0, x, _ => rfl
  | a :: l, n + 1, x, h => by
    have := set_split l n x (by simpa using h)
    rw [List.take_succ_cons, List.drop_succ_cons, List.set_cons_succ, List.cons_append, List.cons_append, this]
/-! what is got, summed -/
section
variable {xs : List Ask} {k : Sky1} {A B : List Int}
theorem wor_filter (hx : ∀ x ∈ xs, x.Ok) (f g : Nat × Ask → Bool) : ∀ (p : List (Nat × Ask)), (∀ q ∈ p, q.2 ∈ xs) → (∀ q ∈ p, f q = true → g q = true) → wor (p.filter f) ≤ wor (p.filter g)
  | [], _, _ => Int.le_refl _
  | q :: p, h, hfg => by
    have ih := wor_filter hx f g p (fun r hr => h r (List.mem_cons_of_mem _ hr)) fun r hr => hfg r (List.mem_cons_of_mem _ hr)
    have hr := (hx q.2 (h q List.mem_cons_self)).rank
    have e : ∀ l : List (Nat × Ask), wor (q :: l) = q.2.rank + wor l := fun _ => rfl
    rw [List.filter_cons, List.filter_cons]
    cases hf : f q with
    | true =>
      rw [hfg q List.mem_cons_self hf, if_pos rfl, if_pos rfl, e, e]
      omega
    | false =>
      rw [if_neg Bool.false_ne_true]
      split
      · rw [e]; omega
      · exact ih
theorem mem_sortS {l : List Str} {x : Str} : x ∈ sortS l ↔ x ∈ l := (List.mergeSort_perm l leS).mem_iff
def worN (xs : List Ask) (l : List Str) : Int := ((xs.filter fun x => decide (x.nm ∈ l)).map (·.rank)).sum
theorem worN_got (hn : Names xs) {p : List (Nat × Ask)} (hp : RunsOk xs p) : worN xs (sortS (gotL A p)) = wor (p.filter (okA A)) := by
  rw [← worL_eq hn (p := p.filter (okA A)) (fun q hq => hp.sub q (List.mem_filter.mp hq).1) (hp.nd.sublist ((List.filter_sublist (p := okA A)).map _))]
  unfold worN worL
  congr 2
  refine List.filter_congr fun x _ => ?_
  have : (x.nm ∈ sortS (gotL A p)) ↔ x.nm ∈ (p.filter (okA A)).map fun q => q.2.nm := mem_sortS
  by_cases h : x.nm ∈ sortS (gotL A p)
  · rw [decide_eq_true h, decide_eq_true (this.mp h)]
  · rw [decide_eq_false h, decide_eq_false fun z => h (this.mpr z)]
def encZ (n : Str) : PyData := .tuple [.int 0, .str n]
theorem p__law_worthN {l : List Str} (hl : xs.length ≤ 1000) (hll : l.length ≤ 1000) : P__law_worth [.tuple (xs.map encA), .list (l.map encZ)] = some (.int (worN xs l)) := by
  have hpl2 : l.length < 16777216 := by omega
  have hxl2 : xs.length < 16777216 := by omega
  have hin : ∀ o2 : Option D, compL (gTp 2 (gsCons (gNm 3) (gsCons (gNm 4) gsNil))) bYes (mVar 4) [some (.d (.tuple (xs.map encA))), some (.d (.list (l.map encZ))), o2, none, none] (l.map encZ) [] = .ok (l.map .str) [] := by
    intro o2
    exact compL_map encZ .str l fun n hn => ⟨_, by simp [encZ]; rfl, by simp⟩
  have hcomp : ∀ ρ1 : Sky.Env, ρ1 = [some (.d (.tuple (xs.map encA))), some (.d (.list (l.map encZ))), none, none, none] → compL (gNm 2) (asB (mOp gIn (mOp gIx (mVar 2) (mC (.int 0))) (mComp (iSeq (mVar 1)) (gTp 2 (gsCons (gNm 3) (gsCons (gNm 4) gsNil))) bYes (mVar 4) [3, 4]))) (mOp gIx (mVar 2) (mC (.int 6))) ρ1 (xs.map encA) []
      = .ok ((xs.filter fun x => decide (x.nm ∈ l)).map fun x => .int x.rank) [] := by
    rintro ρ1 rfl
    refine compL_of encA _ _ xs fun x hx => ⟨_, gNm_ap _ _, ?_, fun _ => ?_⟩
    · have hd : (l.map PyData.str).all (dp 60) = true := dp_map _ fun _ _ => dp_str _ _
      have ha : ((l.map PyData.str).any fun z => PyData.eqv z (.str x.nm)) = decide (x.nm ∈ l) := by
        have := any_strs (fun n : Str => n) l x.nm
        rw [List.map_id'] at this
        exact this
      simp (disch := omega) [gA_nm, hpl2, hin, hd, ha, -List.all_map, -List.any_map, -List.mem_map, -List.all_eq_true]
    · simp (disch := omega) [gA_rank]
  have hs := sum_ints (fun x : Ask => x.rank) (xs.filter fun x => decide (x.nm ∈ l))
  have hw : ((xs.filter fun x => decide (x.nm ∈ l)).map fun x => x.rank).sum = worN xs l := rfl
  simp (disch := omega) [P__law_worth, runP_ap, B__law_worth, hxl2, hcomp _ rfl, hs, hw, -getElem?_pos, -List.mem_map]
def lows (W : List (Int × Int)) : List Int := W.map (·.1)
def highs (W : List (Int × Int)) : List Int := W.map (·.2)
theorem at_lows (W : List (Int × Int)) (s : Nat) : at0 (lows W) s = (W.getD s (0, 0)).1 := by
  unfold at0 lows
  rw [List.getD_eq_getElem?_getD, List.getD_eq_getElem?_getD, List.getElem?_map]
  cases W[s]? <;> rfl
theorem at_highs (W : List (Int × Int)) (s : Nat) : at0 (highs W) s = (W.getD s (0, 0)).2 := by
  unfold at0 highs
  rw [List.getD_eq_getElem?_getD, List.getD_eq_getElem?_getD, List.getElem?_map]
  cases W[s]? <;> rfl
theorem ok_lows (q : Nat × Ask) : okA (lows k.W) q = k.sure q.2 q.1 := by
  unfold okA Sky1.sure
  congr 1
  funext i
  rw [at_lows]
  rfl
theorem ok_mono (h : ∀ s, s < 24 → at0 A s ≤ at0 B s) {q : Nat × Ask} (hf : q.1 + q.2.long ≤ 24) (ho : okA A q = true) : okA B q = true := by
  refine List.all_eq_true.mpr fun i hi => decide_eq_true ?_
  have h1 := of_decide_eq_true (List.all_eq_true.mp ho i hi)
  have hi := List.mem_range.mp hi
  have := h (q.1 + i) (by omega)
  omega
theorem ok_highs {q : Nat × Ask} (h : q.1 ∈ k.begs q.2) : okA (highs k.W) q = true := by
  refine List.all_eq_true.mpr fun i hi => decide_eq_true ?_
  have h1 := List.all_eq_true.mp (begs_iff.mp h).2 i hi
  unfold Sky1.good at h1
  rw [Bool.and_eq_true] at h1
  have h2 := of_decide_eq_true h1.2
  rw [at_highs]
  exact h2
theorem filter_all {α : Type} {f : α → Bool} {l : List α} (h : ∀ x ∈ l, f x = true) : l.filter f = l := List.filter_eq_self.mpr h
end
end KK
end
section
/-! MathG: the law's look at one plan's span. -/
namespace KK
open PySem PySem.Spec PyProof.Rows L2 Sky
set_option maxHeartbeats 8000000
section
variable {xs : List Ask} {k : Sky1} {ns : List (Int × Int)}
/-- a plan, or a part of one -/
structure Part (k : Sky1) (xs : List Ask) (p : List (Nat × Ask)) : Prop where
  ro : RunsOk xs p
  beg : ∀ q ∈ p, q.1 ∈ k.begs q.2
abbrev toldD (A : List Int) (p : List (Nat × Ask)) : PyData := strsD (sortS (gotL A p))
theorem told_len (A : List Int) (p : List (Nat × Ask)) : (sortS (gotL A p)).length ≤ p.length := by
  rw [show (sortS (gotL A p)).length = (gotL A p).length from (List.mergeSort_perm _ _).length_eq]
  exact got_len p
theorem span_turn (hk : k.Ok) (hW : WOk k.W) (hx : AOk xs) {p : List (Nat × Ask)} (hp : Part k xs p) {c : Nat} {dk : List PyData} (hd : DK c dk) (hc : c ≤ 1000000) (o6 o7 o8 o9 o10 o11 o12 o13 o14 o15 o16 o17 o18 o19 : Option D) :
    ∃ (dk' : List PyData) (p9 p10 p11 p12 p13 p14 p15 p16 p17 p18 p19 : Option D), L__law_span_right_0 [some (.r 0), some (.d (.tuple (xs.map encA))), some (.d (.tuple (p.map encQ))), some (.d (enW k.W)), some (.d (.int (surW k p))), some (.d (.int (wor p))), o6, o7, o8, o9, o10, o11, o12, o13, o14, o15, o16, o17, o18, o19] [.lst dk]
      = .nx [some (.r 0), some (.d (.tuple (xs.map encA))), some (.d (.tuple (p.map encQ))), some (.d (enW k.W)), some (.d (.int (surW k p))), some (.d (.int (wor p))), o6, o7, o8, p9, p10, p11, p12, p13, p14, p15, p16, p17, p18, p19] [.lst dk'] ∧ DK (c + 25) dk' := by
  generalize hX : L__law_span_right_0 _ [.lst dk] = X
  have hro := hp.ro
  have hxl := hx.len
  have hpl := hro.len
  obtain ⟨A, dk1, e1, hA, hfit, hd1⟩ := air_ok hd (by omega) hW
  obtain ⟨v, dk2, e2, hv0, hv1, hd2⟩ := pick_ok hd1 (lim := 24) (by omega) (by omega) (by omega)
  obtain ⟨n, rfl⟩ : ∃ n : Nat, v = (n : Int) := ⟨v.toNat, by omega⟩
  have hn : n < 24 := by omega
  have hWl := hW.1
  have hWA : k.W.length = A.length := by omega
  have hb := fits_at hfit hWA
  have g1 := p_got hx hA hro
  have g2 := p__law_got hx hA hro
  have tl := told_len A p
  have w1 := p__law_worthN (xs := xs) (l := sortS (gotL A p)) (by omega) (by omega)
  rw [worN_got hx.nm hro] at w1
  have i1 : surW k p ≤ wor (p.filter (okA A)) := by
    have e : surW k p = wor (p.filter fun q => k.sure q.2 q.1) := rfl
    rw [e]
    refine wor_filter hx.ok _ _ p hro.sub fun q hq h => ?_
    rw [← ok_lows] at h
    refine ok_mono (fun s hs => ?_) (hro.fit q hq) h
    rw [at_lows]
    exact (hb s (by omega)).1
  have i2 : wor (p.filter (okA A)) ≤ wor p := by
    have := wor_filter hx.ok (okA A) (fun _ => true) p hro.sub (fun _ _ _ => rfl)
    rwa [filter_all (l := p) (f := fun _ => true) (fun _ _ => rfl)] at this
  have f1 := p_fits (A := A) k.W hW.1
  rw [hfit] at f1
  have htl : (sortS (gotL A p)).length < 16777216 := by omega
  have hc1 : ∀ (o11' : Option D) (T : Store), compL (gNm 18) bYes (mTup (aCons (mC (.int 0)) (aCons (mVar 18) aNil))) [some (.r 0), some (.d (.tuple (xs.map encA))), some (.d (.tuple (p.map encQ))), some (.d (enW k.W)), some (.d (.int (surW k p))), some (.d (.int (wor p))), o6, o7, o8, some (.d (encAir A)), some (.d (toldD A p)), o11', o12, o13, o14, o15, o16, o17, none, o19] ((sortS (gotL A p)).map .str) T = .ok ((sortS (gotL A p)).map encZ) T := fun o11' T =>
    compL_map .str encZ (sortS (gotL A p)) fun n hn => ⟨_, gNm_ap _ _, by simp [encZ]⟩
  have hdt : dp 60 (toldD A p) = true := dp_map _ fun _ _ => dp_str _ _
  have hde := eqv_same _ hdt
  have hWn : k.W[n]? = some (k.low n, k.high n) := high_at hk hn
  have hAn : A[n]? = some (at0 A n) := air_at hA hn
  -- the air, one slot better, beyond, under
  obtain ⟨x, hx'⟩ : ∃ x : Int, (if at0 A n + 1 < k.high n then at0 A n + 1 else k.high n) = x := ⟨_, rfl⟩
  have hxle : at0 A n ≤ x := by
    have := (hb n (by omega)).2
    have hh : (k.W.getD n (0, 0)).2 = k.high n := rfl
    rw [← hx']
    split <;> omega
  have hset : ∀ y : Int, (A.map PyData.int).take n ++ (.int y :: (A.map PyData.int).drop (n + 1)) = (A.set n y).map .int := fun y => by
    have := set_split (A.map PyData.int) n (.int y) (by rw [List.length_map]; omega)
    rw [List.append_assoc] at this
    rw [List.map_set, ← this]
    rfl
  have hA' : ∀ y : Int, (A.set n y).length = 24 := fun y => by rw [List.length_set]; exact hA
  have g3 := p_got hx (hA' x) hro
  have hsub : ∀ m ∈ sortS (gotL A p), m ∈ sortS (gotL (A.set n x) p) := by
    intro m hm
    rw [mem_sortS] at hm ⊢
    obtain ⟨q, hq, e⟩ := List.mem_map.mp hm
    rw [List.mem_filter] at hq
    refine List.mem_map.mpr ⟨q, List.mem_filter.mpr ⟨hq.1, ok_mono (fun s hs => ?_) (hro.fit q hq.1) hq.2⟩, e⟩
    rw [at_set A n x s (by omega)]
    split
    · rename_i h; rw [h]; exact hxle
    · exact Int.le_refl _
  have hfil : ((sortS (gotL A p)).filter fun m => !decide (m ∈ sortS (gotL (A.set n x) p))) = [] := by
    rw [List.filter_eq_nil_iff]
    intro m hm
    rw [decide_eq_true (hsub m hm)]
    simp
  have hset3 : (PyData.tuple ((A.set n x).map .int)) = encAir (A.set n x) := rfl
  have hc2 : ∀ (o11' o12' : Option D) (T : Store), compL (gNm 18) (asB (mOp gNin (mVar 18) (mCall 3 F_got (aCons (mVar 1) (aCons (mVar 2) (aCons (mVar 13) aNil)))))) (mVar 18) [some (.r 0), some (.d (.tuple (xs.map encA))), some (.d (.tuple (p.map encQ))), some (.d (enW k.W)), some (.d (.int (surW k p))), some (.d (.int (wor p))), o6, o7, o8, some (.d (encAir A)), some (.d (toldD A p)), o11', o12', some (.d (encAir (A.set n x))), o14, o15, o16, o17, none, o19] ((sortS (gotL A p)).map .str) T = .ok [] T := fun o11' o12' T => by
    rw [compL_of .str (fun m => !decide (m ∈ sortS (gotL (A.set n x) p))) .str (sortS (gotL A p)), hfil]
    · rfl
    intro m hm
    refine ⟨_, gNm_ap _ _, ?_, fun _ => by simp⟩
    have hd : ((sortS (gotL (A.set n x) p)).map PyData.str).all (dp 60) = true := dp_map _ fun _ _ => dp_str _ _
    have ha : (((sortS (gotL (A.set n x) p)).map PyData.str).any fun z => PyData.eqv z (.str m)) = decide (m ∈ sortS (gotL (A.set n x) p)) := by
      have := any_strs (fun n : Str => n) (sortS (gotL (A.set n x) p)) m
      rw [List.map_id'] at this
      exact this
    simp (disch := omega) [F_got, g3, strsD, hd, ha, -List.all_map, -List.any_map, -List.mem_map, -List.all_eq_true]
  have f2 := p_fits (A := A.set n (k.high n + 1)) k.W hW.1
  have f3 := p_fits (A := A.set n (k.low n - 1)) k.W hW.1
  rw [fits_bad n (by omega) (by rw [hA']; exact hn) (by
    rw [at_set A n _ n (by omega), if_pos rfl]
    have hh : (k.W.getD n (0, 0)).2 = k.high n := rfl
    rw [hh]
    omega)] at f2
  rw [fits_bad n (by omega) (by rw [hA']; exact hn) (by
    rw [at_set A n _ n (by omega), if_pos rfl]
    have hh : (k.W.getD n (0, 0)).1 = k.low n := rfl
    rw [hh]
    omega)] at f3
  have hcutA : cutD (A.map PyData.int) none (some (n : Int)) = (A.map PyData.int).take n := cut_to _ n
  have hcutB : cutD (A.map PyData.int) (some ((n : Int) + 1)) none = (A.map PyData.int).drop (n + 1) := by
    have := cut_from (A.map PyData.int) (n + 1)
    rwa [Int.natCast_add] at this
  obtain ⟨L, hL, hL2⟩ : ∃ L, (A.map PyData.int).take n = L ∧ L.length ≤ 24 := ⟨_, rfl, by rw [List.length_take, List.length_map]; omega⟩
  obtain ⟨R, hR, hR2⟩ : ∃ R, (A.map PyData.int).drop (n + 1) = R ∧ R.length ≤ 24 := ⟨_, rfl, by rw [List.length_drop, List.length_map]; omega⟩
  rw [hL] at hcutA
  rw [hR] at hcutB
  simp only [hL, hR] at hset
  have l1 : L.length + 1 ≤ 16777216 := by omega
  have l2 : L.length + 1 + R.length ≤ 16777216 := by omega
  have l2' : L.length + (R.length + 1) ≤ 16777216 := by omega
  have eA : encAir A = .tuple (A.map .int) := rfl
  have eW : ∀ (T : Store) (i : Int), gIx T (.d (enW k.W)) (.d (.int (n : Int))) = some (.d (encP (k.low n, k.high n))) := fun T i => by
    simp (disch := omega) [hWn, -getElem?_pos]
  have eAx : ∀ (T : Store), gIx T (.d (encAir A)) (.d (.int (n : Int))) = some (.d (.int (at0 A n))) := fun T => by
    simp (disch := omega) [encAir, hAn, -getElem?_pos]
  have eW' := fun T => eW T 0
  have eP0 : ∀ (T : Store) (q : Int × Int), gIx T (.d (encP q)) (.d (.int 0)) = some (.d (.int q.1)) := fun T q => by simp (disch := omega) [encP]
  have eP1 : ∀ (T : Store) (q : Int × Int), gIx T (.d (encP q)) (.d (.int 1)) = some (.d (.int q.2)) := fun T q => by simp (disch := omega) [encP]
  have sl1 : ∀ T : Store, gSl T (.d (encAir A)) none (some (n : Int)) = some (.d (.tuple L)) := fun T => by rw [eA, gSl_t, hcutA]
  have sl2 : ∀ T : Store, gSl T (.d (encAir A)) (some ((n : Int) + 1)) none = some (.d (.tuple R)) := fun T => by rw [eA, gSl_t, hcutB]
  have hset2 : ∀ y : Int, PyData.tuple (L ++ .int y :: R) = encAir (A.set n y) := fun y => by rw [hset]; rfl
  have hts : ∀ T : Store, kSeq (.ok (.d (toldD A p)) T) = .ok ((sortS (gotL A p)).map .str) T := fun _ => rfl
  have i3 : surW k p ≤ wor (p.filter (okA A)) ∧ wor (p.filter (okA A)) ≤ wor p := ⟨i1, i2⟩
  have hair : F__law_air [.r 0, .d (enW k.W)] [.lst dk] = .ok (.d (encAir A)) [.lst dk1] := by simp [F__law_air, e1]
  have hpick : F__law_pick [.r 0, .d (.int 24)] [.lst dk1] = .ok (.d (.int (n : Int))) [.lst dk2] := by simp [F__law_pick, e2]
  have hgot : ∀ T, F_got [.d (.tuple (xs.map encA)), .d (.tuple (p.map encQ)), .d (encAir A)] T = .ok (.d (toldD A p)) T := fun T => by simp [F_got, g1]
  have hlgot : ∀ T, F__law_got [.d (.tuple (xs.map encA)), .d (.tuple (p.map encQ)), .d (encAir A)] T = .ok (.d (toldD A p)) T := fun T => by simp [F__law_got, g2]
  have hfits : ∀ T, F_fits [.d (enW k.W), .d (encAir A)] T = .ok (.d (.bool true)) T := fun T => by simp [F_fits, f1]
  have hfits2 : ∀ T, F_fits [.d (enW k.W), .d (encAir (A.set n (k.high n + 1)))] T = .ok (.d (.bool false)) T := fun T => by simp [F_fits, f2]
  have hfits3 : ∀ T, F_fits [.d (enW k.W), .d (encAir (A.set n (k.low n - 1)))] T = .ok (.d (.bool false)) T := fun T => by simp [F_fits, f3]
  have hworth : ∀ T, F__law_worth [.d (.tuple (xs.map encA)), .d (.list ((sortS (gotL A p)).map encZ))] T = .ok (.d (.int (wor (p.filter (okA A))))) T := fun T => by simp [F__law_worth, w1]
  clear g1 g2 g3 w1 f1 f2 f3 e1 e2 hfit hb hsub hfil
  generalize hAx : A.set n x = Ax at hset2 hc2
  have hsx := hset2 x
  simp (disch := omega) [L__law_span_right_0, hair, hgot, hts, htl, hc1, hworth, hlgot, hdt, hde, i1, i2, hfits, hpick, sl1, sl2, eW', eAx, eP0, eP1, hx', l1, l2, l2', hset2, hAx, hc2, hfits2, hfits3, -getElem?_pos, -gIx_t] at hX
  subst hX
  exact ⟨dk2, _, _, _, _, _, _, _, _, _, _, _, rfl, hd2.mono (by omega)⟩
theorem span_turns (hk : k.Ok) (hW : WOk k.W) (hx : AOk xs) {p : List (Nat × Ask)} (hp : Part k xs p) {c : Nat} {dk : List PyData} (hd : DK c dk) (hc : c ≤ 100000) (o6 o7 o8 o9 o10 o11 o12 o13 o14 o15 o16 o17 o18 o19 : Option D) :
    ∃ (dk' : List PyData) (p8 p9 p10 p11 p12 p13 p14 p15 p16 p17 p18 p19 : Option D), forL (gNm 8) L__law_span_right_0 (rng 0 4) [some (.r 0), some (.d (.tuple (xs.map encA))), some (.d (.tuple (p.map encQ))), some (.d (enW k.W)), some (.d (.int (surW k p))), some (.d (.int (wor p))), o6, o7, o8, o9, o10, o11, o12, o13, o14, o15, o16, o17, o18, o19] [.lst dk]
      = .nx [some (.r 0), some (.d (.tuple (xs.map encA))), some (.d (.tuple (p.map encQ))), some (.d (enW k.W)), some (.d (.int (surW k p))), some (.d (.int (wor p))), o6, o7, p8, p9, p10, p11, p12, p13, p14, p15, p16, p17, p18, p19] [.lst dk'] ∧ DK (c + 100) dk' := by
  obtain ⟨I, hI⟩ := hide fun i ρ S' => (∃ p8 p9 p10 p11 p12 p13 p14 p15 p16 p17 p18 p19 : Option D, ρ = [some (.r 0), some (.d (.tuple (xs.map encA))), some (.d (.tuple (p.map encQ))), some (.d (enW k.W)), some (.d (.int (surW k p))), some (.d (.int (wor p))), o6, o7, p8, p9, p10, p11, p12, p13, p14, p15, p16, p17, p18, p19]) ∧ ∃ dk, S' = [.lst dk] ∧ DK (c + 25 * i) dk
  refine forR_inv (R := fun q => ∃ (dk' : List PyData) (p8 p9 p10 p11 p12 p13 p14 p15 p16 p17 p18 p19 : Option D), q = .nx [some (.r 0), some (.d (.tuple (xs.map encA))), some (.d (.tuple (p.map encQ))), some (.d (enW k.W)), some (.d (.int (surW k p))), some (.d (.int (wor p))), o6, o7, p8, p9, p10, p11, p12, p13, p14, p15, p16, p17, p18, p19] [.lst dk'] ∧ DK (c + 100) dk') I ?_ ?_ ?_
  · rw [hI]; exact ⟨⟨_, _, _, _, _, _, _, _, _, _, _, _, rfl⟩, dk, rfl, hd⟩
  · intro i ρ S' hi h
    rw [hI] at h
    obtain ⟨⟨p8, p9, p10, p11, p12, p13, p14, p15, p16, p17, p18, p19, rfl⟩, dk0, rfl, hd0⟩ := h
    refine ⟨_, gNm_ap _ _, ?_⟩
    have hi4 : i < 4 := hi
    obtain ⟨dk1, q9, q10, q11, q12, q13, q14, q15, q16, q17, q18, q19, e, hd1⟩ := span_turn hk hW hx hp hd0 (by omega) o6 o7 (some (.d (.int (0 + (i : Nat))))) p9 p10 p11 p12 p13 p14 p15 p16 p17 p18 p19
    simp only [List.set_cons_succ, List.set_cons_zero]
    rw [e, hI]
    exact ⟨⟨_, _, _, _, _, _, _, _, _, _, _, _, rfl⟩, dk1, rfl, hd1.mono (by omega)⟩
  · intro ρ S h
    rw [hI] at h
    obtain ⟨⟨p8, p9, p10, p11, p12, p13, p14, p15, p16, p17, p18, p19, rfl⟩, dk0, rfl, hd0⟩ := h
    exact ⟨dk0, _, _, _, _, _, _, _, _, _, _, _, _, rfl, hd0⟩
theorem p__law_span_right (hk : k.Ok) (hW : WOk k.W) (hx : AOk xs) {p : List (Nat × Ask)} (hp : Part k xs p) {c : Nat} {dk : List PyData} (hd : DK c dk) (hc : c ≤ 100000) :
    ∃ dk', P__law_span_right dk [.tuple (xs.map encA), .tuple (p.map encQ), enW k.W] = some (.bool true, dk') ∧ DK (c + 100) dk' := by
  have hro := hp.ro
  have hxl := hx.len
  have hpl := hro.len
  have s1 := p_span hk hx (p := p) (fun q hq => ⟨hro.sub q hq, hro.fit q hq⟩) (by omega)
  have s2 := p__law_least hk hx (p := p) (fun q hq x hxx e => by
    have := inj_names hx.nm (hro.sub q hq) hxx e
    rw [← this]
    exact hro.fit q hq) (by omega)
  rw [leastL_eq hx.nm p hro.sub] at s2
  have s3 := p__law_worth (xs := xs) (by omega) (p := p) (by omega)
  rw [worL_eq hx.nm hro.sub hro.nd] at s3
  rw [encPl_eq] at s1 s2 s3
  have hWl := hW.1
  have hLl : (lows k.W).length = 24 := by unfold lows; rw [List.length_map]; exact hWl
  have hHl : (highs k.W).length = 24 := by unfold highs; rw [List.length_map]; exact hWl
  have g1 := p_got hx hLl hro
  have g2 := p_got hx hHl hro
  have gH : gotL (highs k.W) p = p.map fun q => q.2.nm := by
    unfold gotL
    rw [filter_all fun q hq => ok_highs (hp.beg q hq)]
  rw [gH] at g2
  have tl := told_len (lows k.W) p
  have w1 := p__law_worthN (xs := xs) (l := sortS (gotL (lows k.W) p)) (by omega) (by omega)
  rw [worN_got hx.nm hro, show wor (p.filter (okA (lows k.W))) = surW k p by unfold wor surW; congr 2; exact List.filter_congr fun q _ => ok_lows q] at w1
  obtain ⟨dk', q8, q9, q10, q11, q12, q13, q14, q15, q16, q17, q18, q19, e, hd'⟩ := span_turns hk hW hx hp hd hc (some (.d (encAir (lows k.W)))) (some (.d (encAir (highs k.W)))) none none none none none none none none none none none none
  refine ⟨dk', ?_, hd'⟩
  have hWl2 : k.W.length < 16777216 := by omega
  have hLl2 : (lows k.W).length ≤ 16777216 := by omega
  have hHl2 : (highs k.W).length ≤ 16777216 := by omega
  have hpl2 : p.length < 16777216 := by omega
  have htl : (sortS (gotL (lows k.W) p)).length < 16777216 := by omega
  have hca : ∀ (T : Store), compL (gTp 2 (gsCons (gNm 16) (gsCons (gNm 17) gsNil))) bYes (mVar 16) [some (.r 0), some (.d (.tuple (xs.map encA))), some (.d (.tuple (p.map encQ))), some (.d (enW k.W)), some (.d (.int (surW k p))), some (.d (.int (wor p))), none, none, none, none, none, none, none, none, none, none, none, none, none, none] (k.W.map encP) T = .ok ((lows k.W).map .int) T := fun T => by
    rw [show (lows k.W).map PyData.int = k.W.map fun q => PyData.int q.1 by unfold lows; rw [List.map_map]; rfl]
    exact compL_map encP (fun q => .int q.1) k.W fun q hq => ⟨_, by simp [encP]; rfl, by simp⟩
  have hcb : ∀ (T : Store), compL (gTp 2 (gsCons (gNm 16) (gsCons (gNm 17) gsNil))) bYes (mVar 17) [some (.r 0), some (.d (.tuple (xs.map encA))), some (.d (.tuple (p.map encQ))), some (.d (enW k.W)), some (.d (.int (surW k p))), some (.d (.int (wor p))), none, none, none, none, none, none, none, none, none, none, none, none, none, none] (k.W.map encP) T = .ok ((highs k.W).map .int) T := fun T => by
    rw [show (highs k.W).map PyData.int = k.W.map fun q => PyData.int q.2 by unfold highs; rw [List.map_map]; rfl]
    exact compL_map encP (fun q => .int q.2) k.W fun q hq => ⟨_, by simp [encP]; rfl, by simp⟩
  have hcc : ∀ (T : Store), compL (gNm 18) bYes (mTup (aCons (mC (.int 0)) (aCons (mVar 18) aNil))) [some (.r 0), some (.d (.tuple (xs.map encA))), some (.d (.tuple (p.map encQ))), some (.d (enW k.W)), some (.d (.int (surW k p))), some (.d (.int (wor p))), some (.d (encAir (lows k.W))), some (.d (encAir (highs k.W))), none, none, none, none, none, none, none, none, none, none, none, none] ((sortS (gotL (lows k.W) p)).map .str) T = .ok ((sortS (gotL (lows k.W) p)).map encZ) T := fun T =>
    compL_map .str encZ _ fun n hn => ⟨_, gNm_ap _ _, by simp [encZ]⟩
  have hcd : ∀ (T : Store), compL (gTp 2 (gsCons (gNm 19) (gsCons (gNm 18) gsNil))) bYes (mVar 18) [some (.r 0), some (.d (.tuple (xs.map encA))), some (.d (.tuple (p.map encQ))), some (.d (enW k.W)), some (.d (.int (surW k p))), some (.d (.int (wor p))), some (.d (encAir (lows k.W))), some (.d (encAir (highs k.W))), none, none, none, none, none, none, none, none, none, none, none, none] (p.map encQ) T = .ok ((p.map fun q => q.2.nm).map .str) T := fun T => by
    rw [List.map_map]
    exact compL_map encQ (fun q => .str q.2.nm) p fun q hq => ⟨_, g_q 19 18 q _, by simp⟩
  have hso := sortOk_strs (p.map fun q => q.2.nm) (by rw [List.length_map]; omega)
  have hsd := sortD_strs (p.map fun q => q.2.nm)
  have hts : ∀ T : Store, kSeq (.ok (.d (toldD (lows k.W) p)) T) = .ok ((sortS (gotL (lows k.W) p)).map .str) T := fun _ => rfl
  have eL : PyData.tuple ((lows k.W).map .int) = encAir (lows k.W) := rfl
  have eH : PyData.tuple ((highs k.W).map .int) = encAir (highs k.W) := rfl
  have eS : PyData.list ((sortS (p.map fun q => q.2.nm)).map .str) = strsD (sortS (p.map fun q => q.2.nm)) := rfl
  have hds : dp 60 (strsD (sortS (p.map fun q => q.2.nm))) = true := dp_map _ fun _ _ => dp_str _ _
  have hdse := eqv_same _ hds
  have hpair : PyData.eqv (.tuple [.int (surW k p), .int (wor p)]) (.tuple [.int (surW k p), .int (wor p)]) = true := eqv_same _ (by simp)
  generalize hN : (p.map fun q => q.2.nm) = N at *
  simp (disch := omega) [P__law_span_right, runD_ap, B__law_span_right, F_span, s1, F__law_least, s2, F__law_worth, s3, hpair, hWl2, hca, hLl2, hcb, hHl2, eL, eH, F_got, g1, hts, htl, hcc, w1, g2, hpl2, hcd, hso, hsd, eS, hds, hdse, e, -getElem?_pos]
end
end KK
end
section
/-! MathH: one thing made easier. -/
namespace KK
open PySem PySem.Spec PyProof.Rows L2 Sky
set_option maxHeartbeats 8000000
def wider (x : Ask) (v : Int) : Ask := { x with r := if x.r + 1 + v < 30 then x.r + 1 + v else 30 }
def needless (x : Ask) : Ask := { x with need := if 1 < x.need then x.need - 1 else 0 }
def shorter (x : Ask) : Ask := { x with long := if 1 < x.long - 1 then x.long - 1 else 1 }
def cam (x : Ask) : Ask := { x with tl := "cam" }
def ext (u : Int) : Ask := ⟨"zz", "hut", u, 9, "eye", 1, 0, 1⟩
def better (W : List (Int × Int)) (s : Nat) (p : Int × Int) : List (Int × Int) := W.set s (p.1, if p.2 + 1 < 9 then p.2 + 1 else 9)
def widen (p : Int × Int) : Int × Int := (if 1 < p.1 then p.1 - 1 else 0, if p.2 + 1 < 23 then p.2 + 1 else 23)
def encI (t : Int) (ns : List (Int × Int)) (xs : List Ask) (W : List (Int × Int)) : PyData := .tuple [enS t ns, .tuple (xs.map encA), enW W]
theorem cut2 (l : List PyData) : cutD l none (some 2) = l.take 2 := cut_to l 2
theorem cut3 (l : List PyData) : cutD l none (some 3) = l.take 3 := cut_to l 3
theorem cut4 (l : List PyData) : cutD l none (some 4) = l.take 4 := cut_to l 4
theorem cut5 (l : List PyData) : cutD l none (some 5) = l.take 5 := cut_to l 5
theorem cut6 (l : List PyData) : cutD l none (some 6) = l.take 6 := cut_to l 6
theorem cutf1 (l : List PyData) : cutD l (some 1) none = l.drop 1 := cut_from l 1
theorem cutf2 (l : List PyData) : cutD l (some 2) none = l.drop 2 := cut_from l 2
theorem cutf3 (l : List PyData) : cutD l (some 3) none = l.drop 3 := cut_from l 3
theorem cutf4 (l : List PyData) : cutD l (some 4) none = l.drop 4 := cut_from l 4
theorem cutf5 (l : List PyData) : cutD l (some 5) none = l.drop 5 := cut_from l 5
theorem cutf6 (l : List PyData) : cutD l (some 6) none = l.drop 6 := cut_from l 6
theorem eased_ok {c : Nat} {dk : List PyData} (hd : DK c dk) (hc : c ≤ 1000000) (t : Int) {ns : List (Int × Int)} (hnl : ns.length ≤ 1000) {xs : List Ask} (hx : ∀ x ∈ xs, x.Ok) (hne : 0 < xs.length) (hxl : xs.length ≤ 6) {W : List (Int × Int)} (hW : WOk W) :
    ∃ (n s : Nat) (x : Ask) (p : Int × Int) (v u : Int) (dk' : List PyData), xs[n]? = some x ∧ W[s]? = some p ∧ s < 24 ∧ 0 ≤ v ∧ 0 ≤ u ∧ u < 60 ∧ DK (c + 4) dk' ∧
      P__law_eased dk [enS t ns, .tuple (xs.map encA), enW W] = some (.list [encI t ns (xs.set n (wider x v)) W, encI t ns (xs.set n (needless x)) W, encI t ns (xs.set n (shorter x)) W, encI t ns xs (better W s p), encI t (ns.map widen) xs W, encI t ns (xs.map cam) W, encI t ns (xs ++ [ext u]) W], dk') := by
  obtain ⟨v1, dk1, e1, a1, b1, d1⟩ := pick_ok hd (lim := (xs.length : Nat)) (by omega) (by omega) (by omega)
  obtain ⟨v2, dk2, e2, a2, b2, d2⟩ := pick_ok d1 (lim := 24) (by omega) (by omega) (by omega)
  obtain ⟨v, dk3, e3, a3, b3, d3⟩ := pick_ok d2 (lim := 9) (by omega) (by omega) (by omega)
  obtain ⟨u, dk4, e4, a4, b4, d4⟩ := pick_ok d3 (lim := 60) (by omega) (by omega) (by omega)
  obtain ⟨n, rfl⟩ : ∃ n : Nat, v1 = (n : Int) := ⟨v1.toNat, by omega⟩
  obtain ⟨s, rfl⟩ : ∃ s : Nat, v2 = (s : Int) := ⟨v2.toNat, by omega⟩
  have hn : n < xs.length := by omega
  have hs : s < 24 := by omega
  have hWl := hW.1
  obtain ⟨x, hxn⟩ : ∃ x, xs[n]? = some x := ⟨_, List.getElem?_eq_getElem hn⟩
  obtain ⟨p, hps⟩ : ∃ p, W[s]? = some p := ⟨_, List.getElem?_eq_getElem (by omega)⟩
  have hxo := hx x (List.mem_of_getElem? hxn)
  refine ⟨n, s, x, p, v, u, dk4, hxn, hps, hs, a3, a4, b4, d4.mono (by omega), ?_⟩
  have k1 : ∀ (T : List PyData), F__law_pick [.r 0, .d (.int (xs.length : Nat))] [.lst dk] = .ok (.d (.int (n : Int))) [.lst dk1] := fun _ => by simp [F__law_pick, e1]
  have k2 : F__law_pick [.r 0, .d (.int 24)] [.lst dk1] = .ok (.d (.int (s : Int))) [.lst dk2] := by simp [F__law_pick, e2]
  have k3 : F__law_pick [.r 0, .d (.int 9)] [.lst dk2] = .ok (.d (.int v)) [.lst dk3] := by simp [F__law_pick, e3]
  have k4 : F__law_pick [.r 0, .d (.int 60)] [.lst dk3] = .ok (.d (.int u)) [.lst dk4] := by simp [F__law_pick, e4]
  have k1' := k1 []
  -- the asks, split at n
  obtain ⟨L, hL, hL2⟩ : ∃ L, (xs.map encA).take n = L ∧ L.length ≤ 24 := ⟨_, rfl, by rw [List.length_take, List.length_map]; omega⟩
  obtain ⟨R, hR, hR2⟩ : ∃ R, (xs.map encA).drop (n + 1) = R ∧ R.length ≤ 24 := ⟨_, rfl, by rw [List.length_drop, List.length_map]; omega⟩
  have hcutA : cutD (xs.map encA) none (some (n : Int)) = L := by rw [← hL]; exact cut_to _ n
  have hcutB : cutD (xs.map encA) (some ((n : Int) + 1)) none = R := by
    have := cut_from (xs.map encA) (n + 1)
    rw [Int.natCast_add] at this
    rw [← hR]; exact this
  have hset : ∀ y : Ask, PyData.tuple (L ++ encA y :: R) = .tuple ((xs.set n y).map encA) := fun y => by
    have := set_split (xs.map encA) n (encA y) (by rw [List.length_map]; omega)
    rw [List.append_assoc, hL, hR] at this
    rw [List.map_set, ← this]
    rfl
  -- the weather, split at s
  obtain ⟨L', hL', hL2'⟩ : ∃ L, (W.map encP).take s = L ∧ L.length ≤ 24 := ⟨_, rfl, by rw [List.length_take, List.length_map]; omega⟩
  obtain ⟨R', hR', hR2'⟩ : ∃ R, (W.map encP).drop (s + 1) = R ∧ R.length ≤ 24 := ⟨_, rfl, by rw [List.length_drop, List.length_map]; omega⟩
  have hcutA' : cutD (W.map encP) none (some (s : Int)) = L' := by rw [← hL']; exact cut_to _ s
  have hcutB' : cutD (W.map encP) (some ((s : Int) + 1)) none = R' := by
    have := cut_from (W.map encP) (s + 1)
    rw [Int.natCast_add] at this
    rw [← hR']; exact this
  have hset' : ∀ y : Int × Int, PyData.tuple (L' ++ encP y :: R') = .tuple ((W.set s y).map encP) := fun y => by
    have := set_split (W.map encP) s (encP y) (by rw [List.length_map]; omega)
    rw [List.append_assoc, hL', hR'] at this
    rw [List.map_set, ← this]
    rfl
  have hix : ∀ T, gIx T (.d (.tuple (xs.map encA))) (.d (.int (n : Int))) = some (.d (encA x)) := fun T => by
    simp (disch := omega) [hxn, -getElem?_pos]
  have hiw : ∀ T, gIx T (.d (enW W)) (.d (.int (s : Int))) = some (.d (encP p)) := fun T => by
    simp (disch := omega) [hps, -getElem?_pos]
  have gsp : ∀ T, gIx T (.d (encA x)) (.d (.int 2)) = some (.d (.tuple [.int x.a, .int x.r])) := fun T => by simp (disch := omega) [encA]
  have a2 : ∀ (T : Store) (y : Ask), gSl T (.d (encA y)) none (some 2) = some (.d (.tuple [.str y.nm, .str y.hs])) := fun T y => by simp [encA, cut2]
  have a3' : ∀ (T : Store) (y : Ask), gSl T (.d (encA y)) none (some 3) = some (.d (.tuple [.str y.nm, .str y.hs, .tuple [.int y.a, .int y.r]])) := fun T y => by simp [encA, cut3]
  have a4' : ∀ (T : Store) (y : Ask), gSl T (.d (encA y)) none (some 4) = some (.d (.tuple [.str y.nm, .str y.hs, .tuple [.int y.a, .int y.r], .str y.tl])) := fun T y => by simp [encA, cut4]
  have a5' : ∀ (T : Store) (y : Ask), gSl T (.d (encA y)) none (some 5) = some (.d (.tuple [.str y.nm, .str y.hs, .tuple [.int y.a, .int y.r], .str y.tl, .int (y.long : Nat)])) := fun T y => by simp [encA, cut5]
  have b3' : ∀ (T : Store) (y : Ask), gSl T (.d (encA y)) (some 3) none = some (.d (.tuple [.str y.tl, .int (y.long : Nat), .int y.need, .int y.rank])) := fun T y => by simp [encA, cutf3]
  have b4' : ∀ (T : Store) (y : Ask), gSl T (.d (encA y)) (some 4) none = some (.d (.tuple [.int (y.long : Nat), .int y.need, .int y.rank])) := fun T y => by simp [encA, cutf4]
  have b5' : ∀ (T : Store) (y : Ask), gSl T (.d (encA y)) (some 5) none = some (.d (.tuple [.int y.need, .int y.rank])) := fun T y => by simp [encA, cutf5]
  have b6' : ∀ (T : Store) (y : Ask), gSl T (.d (encA y)) (some 6) none = some (.d (.tuple [.int y.rank])) := fun T y => by simp [encA, cutf6]
  have sl1 : ∀ T : Store, gSl T (.d (.tuple (xs.map encA))) none (some (n : Int)) = some (.d (.tuple L)) := fun T => by rw [gSl_t, hcutA]
  have sl2 : ∀ T : Store, gSl T (.d (.tuple (xs.map encA))) (some ((n : Int) + 1)) none = some (.d (.tuple R)) := fun T => by rw [gSl_t, hcutB]
  have sl3 : ∀ T : Store, gSl T (.d (enW W)) none (some (s : Int)) = some (.d (.tuple L')) := fun T => by rw [gSl_t, hcutA']
  have sl4 : ∀ T : Store, gSl T (.d (enW W)) (some ((s : Int) + 1)) none = some (.d (.tuple R')) := fun T => by rw [gSl_t, hcutB']
  have hwd : PyData.tuple [.str x.nm, .str x.hs, .tuple [.int x.a, .int (if x.r + 1 + v < 30 then x.r + 1 + v else 30)], .str x.tl, .int (x.long : Nat), .int x.need, .int x.rank] = encA (wider x v) := rfl
  have hnd : PyData.tuple [.str x.nm, .str x.hs, .tuple [.int x.a, .int x.r], .str x.tl, .int (x.long : Nat), .int (if 1 < x.need then x.need - 1 else 0), .int x.rank] = encA (needless x) := rfl
  have hsh : PyData.tuple [.str x.nm, .str x.hs, .tuple [.int x.a, .int x.r], .str x.tl, .int (if 1 < (x.long : Int) - 1 then (x.long : Int) - 1 else 1), .int x.need, .int x.rank] = encA (shorter x) := by
    have hl := hxo.long
    have : (if 1 < (x.long : Int) - 1 then (x.long : Int) - 1 else 1) = ((if 1 < x.long - 1 then x.long - 1 else 1 : Nat) : Int) := by split <;> split <;> omega
    rw [this]
    rfl
  have hnl2 : ns.length < 16777216 := by omega
  have hxl2 : xs.length < 16777216 := by omega

  have hl1 : L.length + 1 ≤ 16777216 := by omega
  have hl2 : L.length + (R.length + 1) ≤ 16777216 := by omega
  have hl3 : L.length + 1 + R.length ≤ 16777216 := by omega
  have hl1' : L'.length + 1 ≤ 16777216 := by omega
  have hl2' : L'.length + (R'.length + 1) ≤ 16777216 := by omega
  have hl3' : L'.length + 1 + R'.length ≤ 16777216 := by omega
  have hl4 : xs.length + 1 ≤ 16777216 := by omega
  have hl5 : xs.length ≤ 16777216 := by omega
  have hl6 : ns.length ≤ 16777216 := by omega
  have hc1 : ∀ (ρ1 : Sky.Env) (T : Store) (o7 o8 : Option D), ρ1 = [some (.r 0), some (.d (enS t ns)), some (.d (.tuple (xs.map encA))), some (.d (enW W)), some (.d (.int (n : Int))), some (.d (.int (s : Int))), some (.d (encA x)), o7, o8, none, none, none, none, none, none, none, none, none, none] →
      compL (gNm 16) bYes (mTup (aCons (mVar 1) (aCons (mOp gAdd (mOp gAdd (mSl (mVar 2) oNone (oSome (mVar 4))) (mTup (aCons (mVar 16) aNil))) (mSl (mVar 2) (oSome (mOp gAdd (mVar 4) (mC (.int 1)))) oNone)) (aCons (mVar 3) aNil)))) ρ1 [encA (wider x v), encA (needless x), encA (shorter x)] T
        = .ok [encI t ns (xs.set n (wider x v)) W, encI t ns (xs.set n (needless x)) W, encI t ns (xs.set n (shorter x)) W] T := by
    rintro ρ1 T o7 o8 rfl
    refine compL_map encA (fun y => encI t ns (xs.set n y) W) [wider x v, needless x, shorter x] fun y _ => ⟨_, gNm_ap _ _, ?_⟩
    have := hset y
    simp (disch := omega) [sl1, sl2, hl1, hl2, hl3, this, encI, -gSl_t]
  have hc2 : ∀ (ρ1 : Sky.Env) (T : Store) (o7 o8 o9 o10 o11 o12 : Option D), ρ1 = [some (.r 0), some (.d (enS t ns)), some (.d (.tuple (xs.map encA))), some (.d (enW W)), some (.d (.int (n : Int))), some (.d (.int (s : Int))), some (.d (encA x)), o7, o8, o9, o10, o11, o12, none, none, none, none, none, none] →
      compL (gTp 2 (gsCons (gNm 17) (gsCons (gNm 18) gsNil))) bYes (mTup (aCons (mCl cMax2 (aCons (mC (.int 0)) (aCons (mOp Sky.gSub (mVar 17) (mC (.int 1))) aNil))) (aCons (mCl cMin2 (aCons (mC (.int 23)) (aCons (mOp gAdd (mVar 18) (mC (.int 1))) aNil))) aNil))) ρ1 (ns.map encP) T = .ok ((ns.map widen).map encP) T := by
    rintro ρ1 T o7 o8 o9 o10 o11 o12 rfl
    rw [List.map_map]
    exact compL_map encP (encP ∘ widen) ns fun q hq => ⟨_, by simp [encP]; rfl, by simp [encP, widen]⟩
  have hc3 : ∀ (ρ1 : Sky.Env) (T : Store) (o7 o8 o9 o10 o11 o12 o13 : Option D), ρ1 = [some (.r 0), some (.d (enS t ns)), some (.d (.tuple (xs.map encA))), some (.d (enW W)), some (.d (.int (n : Int))), some (.d (.int (s : Int))), some (.d (encA x)), o7, o8, o9, o10, o11, o12, o13, none, none, none, none, none] →
      compL (gNm 16) bYes (mOp gAdd (mOp gAdd (mSl (mVar 16) oNone (oSome (mC (.int 3)))) (mTup (aCons (mC (.str "cam")) aNil))) (mSl (mVar 16) (oSome (mC (.int 4))) oNone)) ρ1 (xs.map encA) T = .ok ((xs.map cam).map encA) T := by
    rintro ρ1 T o7 o8 o9 o10 o11 o12 o13 rfl
    rw [List.map_map]
    exact compL_map encA (encA ∘ cam) xs fun q hq => ⟨_, gNm_ap _ _, by
      simp (disch := omega) [a3', b4', -gSl_t]
      rfl⟩
  have hbt := hset' (p.1, if p.2 + 1 < 9 then p.2 + 1 else 9)
  have hbt2 : encP (p.1, if p.2 + 1 < 9 then p.2 + 1 else 9) = .tuple [.int p.1, .int (if p.2 + 1 < 9 then p.2 + 1 else 9)] := rfl
  rw [hbt2] at hbt
  have hext : (xs ++ [ext u]).map encA = xs.map encA ++ [.tuple [.str (Str.ofString "zz"), .str (Str.ofString "hut"), .tuple [.int u, .int 9], .str (Str.ofString "eye"), .int 1, .int 0, .int 1]] := by
    rw [List.map_append]
    rfl
  have hc1' := fun T o7 o8 => hc1 _ T o7 o8 rfl
  have hc2' := fun T o7 o8 o9 o10 o11 o12 => hc2 _ T o7 o8 o9 o10 o11 o12 rfl
  have hc3' := fun T o7 o8 o9 o10 o11 o12 o13 => hc3 _ T o7 o8 o9 o10 o11 o12 o13 rfl
  simp (disch := omega) [P__law_eased, runD_ap, B__law_eased, k1', k2, k3, k4, hxn, gsp, a2, a3', a4', a5', b3', b4', b5', b6', gA_need, gA_long, hwd, hnd, hsh, hc1', hps, encP, sl3, sl4, hl1', hl2', hl3', hbt, hnl2, hc2', hl6, hxl2, hc3', hl4, hl5, encI, better, -gSl_t, -getElem?_pos]
  rfl
end KK
end
section
/-! MathI: easier nights have no worse plans; nights led on. -/
namespace KK
open PySem PySem.Spec PyProof.Rows L2 Sky
set_option maxHeartbeats 4000000
def mapP (φ : Ask → Ask) (p : List (Nat × Ask)) : List (Nat × Ask) := p.map fun q => (q.1, φ q.2)
structure Easier (k k' : Sky1) (φ : Ask → Ask) (xs ys : List Ask) : Prop where
  mem : ∀ x ∈ xs, φ x ∈ ys
  nm : ∀ x ∈ xs, (φ x).nm = x.nm
  long : ∀ x ∈ xs, (φ x).long ≤ x.long
  beg : ∀ x ∈ xs, ∀ s ∈ k.begs x, s ∈ k'.begs (φ x)
  tl : ∀ x ∈ xs, ∀ y ∈ xs, tlGap (φ x).tl (φ y).tl ≤ tlGap x.tl y.tl
section
variable {k k' : Sky1} {φ : Ask → Ask} {xs ys : List Ask}
theorem Easier.ap (e : Easier k k' φ xs ys) : ∀ (p : List (Nat × Ask)), (∀ q ∈ p, q.2 ∈ xs) → apartB p = true → apartB (mapP φ p) = true
  | [], _, _ => rfl
  | [q], _, _ => rfl
  | q :: r :: t, h, ha => by
    rw [apartB, Bool.and_eq_true] at ha
    have ih := e.ap (r :: t) (fun z hz => h z (List.mem_cons_of_mem _ hz)) ha.2
    have h1 := of_decide_eq_true ha.1
    have l1 := e.long q.2 (h q List.mem_cons_self)
    have l2 := e.tl q.2 (h q List.mem_cons_self) r.2 (h r (List.mem_cons_of_mem _ List.mem_cons_self))
    show apartB ((q.1, φ q.2) :: (r.1, φ r.2) :: mapP φ t) = true
    rw [apartB, Bool.and_eq_true]
    refine ⟨decide_eq_true ?_, ih⟩
    show q.1 + (φ q.2).long + tlGap (φ q.2).tl (φ r.2).tl ≤ r.1
    omega
theorem mapP_mem {p : List (Nat × Ask)} {q : Nat × Ask} (h : q ∈ mapP φ p) : ∃ r ∈ p, q = (r.1, φ r.2) := by
  obtain ⟨r, hr, e⟩ := List.mem_map.mp h
  exact ⟨r, hr, e.symm⟩
theorem Easier.names (e : Easier k k' φ xs ys) {p : List (Nat × Ask)} (h : ∀ q ∈ p, q.2 ∈ xs) : ((mapP φ p).map fun q => q.2.nm) = p.map fun q => q.2.nm := by
  unfold mapP
  rw [List.map_map]
  exact List.map_congr_left fun q hq => e.nm q.2 (h q hq)
theorem Easier.pl (e : Easier k k' φ xs ys) {p : List (Nat × Ask)} (h : PL k 0 none xs p) : PL k' 0 none ys (mapP φ p) := by
  rw [pl_iff] at h ⊢
  refine ⟨fun q hq => ?_, fun q hq => ?_, ?_, e.ap p h.sub h.ap⟩
  · obtain ⟨r, hr, rfl⟩ := mapP_mem hq
    exact e.mem r.2 (h.sub r hr)
  · obtain ⟨r, hr, rfl⟩ := mapP_mem hq
    exact e.beg r.2 (h.sub r hr) _ (h.beg r hr)
  · rw [e.names h.sub]
    exact h.nd
theorem wor_mapP (hr : ∀ x ∈ xs, x.rank ≤ (φ x).rank) : ∀ (p : List (Nat × Ask)), (∀ q ∈ p, q.2 ∈ xs) → wor p ≤ wor (mapP φ p)
  | [], _ => Int.le_refl _
  | q :: p, h => by
    have ih := wor_mapP hr p fun z hz => h z (List.mem_cons_of_mem _ hz)
    have h1 := hr q.2 (h q List.mem_cons_self)
    have e1 : wor (q :: p) = q.2.rank + wor p := rfl
    have e2 : wor (mapP φ (q :: p)) = (φ q.2).rank + wor (mapP φ p) := rfl
    omega
theorem begs_mono {x y : Ask} (hl : y.long ≤ x.long) (hg : ∀ s, k.good x s = true → k'.good y s = true) : ∀ s ∈ k.begs x, s ∈ k'.begs y := by
  intro s hs
  rw [begs_iff] at hs ⊢
  refine ⟨hs.1, List.all_eq_true.mpr fun i hi => ?_⟩
  have hi' : i ∈ List.range x.long := List.mem_range.mpr (by have := List.mem_range.mp hi; omega)
  have h1 := List.all_eq_true.mp hs.2 i hi'
  exact hg _ h1
theorem good_iff {x : Ask} {s : Nat} : k.good x s = true ↔ (k.p.1 ≤ (s : Int) ∧ (s : Int) ≤ k.p.2) ∧ isUp k.t x.a x.r k.n s = true ∧ x.need ≤ k.high s := by
  unfold Sky1.good Sky1.dark
  rw [Bool.and_eq_true, Bool.and_eq_true, Bool.and_eq_true, decide_eq_true_iff, decide_eq_true_iff, decide_eq_true_iff]
  constructor
  · rintro ⟨⟨a, b⟩, c⟩; exact ⟨a, b, c⟩
  · rintro ⟨a, b, c⟩; exact ⟨⟨a, b⟩, c⟩
theorem up_wide {t a r w n s : Int} (h : r ≤ w) (hu : isUp t a r n s = true) : isUp t a w n s = true := by
  unfold isUp at hu ⊢
  rw [decide_eq_true_iff] at hu ⊢
  omega
end
end KK
end
section
/-! MathJ: the seven ways that a night is made easier. -/
namespace KK
open PySem PySem.Spec PyProof.Rows L2 Sky
set_option maxHeartbeats 4000000
theorem leV_wor {P : Prm} {k : Sky1} {a b : List (Nat × Ask)} (hs : sur P k a = sur P k b) (h : leV (valG P k a) (valG P k b)) : worG P b ≤ worG P a := by
  refine Int.not_lt.mp fun z => h (.inr ⟨?_, .inl ?_⟩)
  · show -sur P k b = -sur P k a
    rw [hs]
  · show -worG P b < -worG P a
    omega
theorem sur_none {P : Prm} (hP : P.sure = false) (k : Sky1) : ∀ p : List (Nat × Ask), sur P k p = 0
  | [] => rfl
  | q :: p => by
    have := sur_none hP k p
    unfold sur at this ⊢
    rw [List.map_cons, List.sum_cons, this]
    unfold sval
    rw [hP]
    rfl
/-- night 0 of a season -/
abbrev sky0 (t : Int) (p : Int × Int) (W : List (Int × Int)) : Sky1 := ⟨t, 0, p, W⟩
/-- what best_plan says of night 0 -/
theorem best0 {hf : MK → Int} {t : Int} {p : Int × Int} {W : List (Int × Int)} {ns : List (Int × Int)} {xs : List Ask} (hk : (sky0 t p W).Ok) (hn : ns[0]? = some p) (hx : AOk xs) :
    ∃ b, P_best_plan hf [enS t ns, .int 0, .tuple (xs.map encA), enW W] = some (.tuple (b.map encQ)) ∧ PL (sky0 t p W) 0 none xs b ∧ (∀ q, PL (sky0 t p W) 0 none xs q → wor q ≤ wor b) ∧ (∀ q, PL (sky0 t p W) 0 none xs q → leV (val b) (val q)) := by
  obtain ⟨b, hb, eb, evb, hbl⟩ := found_plan (P := plain) (k := sky0 t p W) (xs := xs) rfl (rank_nn hx.ok)
  have e := best_plan_ok (hf := hf) hk (ns := ns) hn hx
  rw [show (bestP (sky0 t p W) xs).2.2.map encR = b.map encQ from eb] at e
  exact ⟨b, e, hb, fun q hq => leV_wor (P := plain) ((sur_none rfl _ b).trans (sur_none rfl _ q).symm) (hbl q hq), fun q hq => by
    have := hbl q hq
    rwa [val_plain, val_plain] at this⟩
/-- at least so much is to be had -/
def Enough (b t : Int) (ns : List (Int × Int)) (ys : List Ask) (W : List (Int × Int)) : Prop := ∃ p, ns[0]? = some p ∧ (sky0 t p W).Ok ∧ AOk ys ∧ ∃ q, PL (sky0 t p W) 0 none ys q ∧ b ≤ wor q
section
variable {t : Int} {p : Int × Int} {W : List (Int × Int)} {ns : List (Int × Int)} {xs ys : List Ask} {φ : Ask → Ask}
theorem enough_of {p' : Int × Int} {W' : List (Int × Int)} {ns' : List (Int × Int)} {b : List (Nat × Ask)} (hb : PL (sky0 t p W) 0 none xs b) (hn : ns'[0]? = some p') (hk : (sky0 t p' W').Ok) (hy : AOk ys) (e : Easier (sky0 t p W) (sky0 t p' W') φ xs ys) (hr : ∀ x ∈ xs, x.rank ≤ (φ x).rank) : Enough (wor b) t ns' ys W' :=
  ⟨p', hn, hk, hy, mapP φ b, e.pl hb, wor_mapP hr b hb.sub⟩
theorem names_set {n : Nat} {x y : Ask} (hn : xs[n]? = some x) (h : y.nm = x.nm) : (xs.set n y).map (·.nm) = xs.map (·.nm) := by
  rw [List.map_set, h]
  refine List.ext_getElem? fun i => ?_
  rw [List.getElem?_set]
  by_cases hi : n = i
  · subst hi
    rw [List.getElem?_map, hn, if_pos rfl]
    have : n < (xs.map (·.nm)).length := by rw [List.length_map]; exact (List.getElem?_eq_some_iff.mp hn).1
    rw [if_pos this]
    rfl
  · rw [if_neg hi]
theorem aok_set {n : Nat} {x y : Ask} (hx : AOk xs) (hn : xs[n]? = some x) (h : y.nm = x.nm) (hy : y.Ok) : AOk (xs.set n y) :=
  ⟨by show ((xs.set n y).map (·.nm)).Nodup; rw [names_set hn h]; exact hx.nm, fun z hz => by
    rcases List.mem_or_eq_of_mem_set hz with h | rfl
    · exact hx.ok z h
    · exact hy, by rw [List.length_set]; exact hx.len⟩
theorem easier_set {n : Nat} {x y : Ask} {k k' : Sky1} (hx : AOk xs) (hn : xs[n]? = some x) (h : y.nm = x.nm) (htl : y.tl = x.tl) (hl : y.long ≤ x.long) (hb : ∀ s ∈ k.begs x, s ∈ k'.begs y) (hbo : ∀ z ∈ xs, ∀ s ∈ k.begs z, s ∈ k'.begs z) :
    Easier k k' (fun z => if z.nm = x.nm then y else z) xs (xs.set n y) := by
  have hxm := List.mem_of_getElem? hn
  have hnl := (List.getElem?_eq_some_iff.mp hn).1
  have cas : ∀ z ∈ xs, (z = x ∧ (if z.nm = x.nm then y else z) = y) ∨ (z.nm ≠ x.nm ∧ (if z.nm = x.nm then y else z) = z) := fun z hz => by
    by_cases c : z.nm = x.nm
    · exact .inl ⟨inj_names hx.nm hz hxm c, if_pos c⟩
    · exact .inr ⟨c, if_neg c⟩
  have tlc : ∀ z ∈ xs, (if z.nm = x.nm then y else z).tl = z.tl := fun z hz => by
    rcases cas z hz with ⟨rfl, e⟩ | ⟨_, e⟩
    · rw [e]; exact htl
    · rw [e]
  refine ⟨fun z hz => ?_, fun z hz => ?_, fun z hz => ?_, fun z hz s hs => ?_, fun z hz w hw => by rw [tlc z hz, tlc w hw]; exact Nat.le_refl _⟩
  · rcases cas z hz with ⟨rfl, e⟩ | ⟨c, e⟩
    · rw [e]
      exact List.mem_set hnl y
    · rw [e]
      obtain ⟨i, hi⟩ := List.mem_iff_getElem?.mp hz
      have hin : n ≠ i := by
        rintro rfl
        rw [hn] at hi
        exact c (by rw [Option.some.inj hi])
      refine List.mem_iff_getElem?.mpr ⟨i, ?_⟩
      rw [List.getElem?_set_ne hin]
      exact hi
  · rcases cas z hz with ⟨rfl, e⟩ | ⟨c, e⟩
    · rw [e]; exact h
    · rw [e]
  · rcases cas z hz with ⟨rfl, e⟩ | ⟨c, e⟩
    · rw [e]; exact hl
    · rw [e]; exact Nat.le_refl _
  · rcases cas z hz with ⟨rfl, e⟩ | ⟨c, e⟩
    · rw [e]; exact hb s hs
    · rw [e]; exact hbo z hz s hs
theorem rank_set {x y : Ask} (hx : AOk xs) (hxm : x ∈ xs) (h : x.rank ≤ y.rank) : ∀ z ∈ xs, z.rank ≤ (if z.nm = x.nm then y else z).rank := fun z hz => by
  by_cases c : z.nm = x.nm
  · rw [if_pos c, inj_names hx.nm hz hxm c]; exact h
  · rw [if_neg c]; exact Int.le_refl _
theorem easier_id {k k' : Sky1} (hsub : ∀ x ∈ xs, x ∈ ys) (hb : ∀ x ∈ xs, ∀ s ∈ k.begs x, s ∈ k'.begs x) : Easier k k' (fun x => x) xs ys :=
  ⟨hsub, fun _ _ => rfl, fun _ _ => Nat.le_refl _, hb, fun _ _ _ _ => Nat.le_refl _⟩
variable (hk : (sky0 t p W).Ok) (hn0 : ns[0]? = some p) (hx : AOk xs)
include hk hn0 hx
theorem en_wider {n : Nat} {x : Ask} {v : Int} {b : List (Nat × Ask)} (hb : PL (sky0 t p W) 0 none xs b) (hn : xs[n]? = some x) (hv : 0 ≤ v) : Enough (wor b) t ns (xs.set n (wider x v)) W := by
  have hxo := hx.ok x (List.mem_of_getElem? hn)
  have hr := hxo.r
  have hle : x.r ≤ (wider x v).r ∧ 0 ≤ (wider x v).r ∧ (wider x v).r ≤ 30 := by
    show x.r ≤ (if x.r + 1 + v < 30 then x.r + 1 + v else 30) ∧ 0 ≤ (if x.r + 1 + v < 30 then x.r + 1 + v else 30) ∧ (if x.r + 1 + v < 30 then x.r + 1 + v else 30) ≤ 30
    split <;> omega
  refine enough_of hb hn0 hk (aok_set hx hn rfl ⟨hxo.a, hle.2, hxo.long, hxo.need, hxo.rank⟩) (easier_set hx hn rfl rfl (Nat.le_refl _) (begs_mono (Nat.le_refl _) fun s h => ?_) fun _ _ _ h => h) (rank_set hx (List.mem_of_getElem? hn) (Int.le_refl _))
  rw [good_iff] at h ⊢
  exact ⟨h.1, up_wide hle.1 h.2.1, h.2.2⟩
theorem en_needless {n : Nat} {x : Ask} {b : List (Nat × Ask)} (hb : PL (sky0 t p W) 0 none xs b) (hn : xs[n]? = some x) : Enough (wor b) t ns (xs.set n (needless x)) W := by
  have hxo := hx.ok x (List.mem_of_getElem? hn)
  have hr := hxo.need
  have hle : (needless x).need ≤ x.need ∧ 0 ≤ (needless x).need := by
    show (if 1 < x.need then x.need - 1 else 0) ≤ x.need ∧ 0 ≤ (if 1 < x.need then x.need - 1 else 0)
    split <;> omega
  refine enough_of hb hn0 hk (aok_set hx hn rfl ⟨hxo.a, hxo.r, hxo.long, ⟨hle.2, by omega⟩, hxo.rank⟩) (easier_set hx hn rfl rfl (Nat.le_refl _) (begs_mono (Nat.le_refl _) fun s h => ?_) fun _ _ _ h => h) (rank_set hx (List.mem_of_getElem? hn) (Int.le_refl _))
  rw [good_iff] at h ⊢
  exact ⟨h.1, h.2.1, Int.le_trans hle.1 h.2.2⟩
theorem en_shorter {n : Nat} {x : Ask} {b : List (Nat × Ask)} (hb : PL (sky0 t p W) 0 none xs b) (hn : xs[n]? = some x) : Enough (wor b) t ns (xs.set n (shorter x)) W := by
  have hxo := hx.ok x (List.mem_of_getElem? hn)
  have hr := hxo.long
  have hle : (shorter x).long ≤ x.long ∧ 1 ≤ (shorter x).long := by
    show (if 1 < x.long - 1 then x.long - 1 else 1) ≤ x.long ∧ 1 ≤ (if 1 < x.long - 1 then x.long - 1 else 1)
    split <;> omega
  refine enough_of hb hn0 hk (aok_set hx hn rfl ⟨hxo.a, hxo.r, ⟨hle.2, by omega⟩, hxo.need, hxo.rank⟩) (easier_set hx hn rfl rfl hle.1 (begs_mono hle.1 fun s h => ?_) fun _ _ _ h => h) (rank_set hx (List.mem_of_getElem? hn) (Int.le_refl _))
  rw [good_iff] at h ⊢
  exact h
theorem en_better {s : Nat} {q : Int × Int} {b : List (Nat × Ask)} (hb : PL (sky0 t p W) 0 none xs b) (hs : W[s]? = some q) (hq : q.2 ≤ 9) : Enough (wor b) t ns xs (better W s q) := by
  have hW := hk.W
  have hsl := (List.getElem?_eq_some_iff.mp hs).1
  have hh : ∀ i, (sky0 t p W).high i ≤ (sky0 t p (better W s q)).high i := fun i => by
    show (W.getD i (0, 0)).2 ≤ ((better W s q).getD i (0, 0)).2
    unfold better
    rw [List.getD_eq_getElem?_getD, List.getD_eq_getElem?_getD, List.getElem?_set]
    by_cases hi : s = i
    · subst hi
      rw [if_pos rfl, if_pos hsl, hs]
      show q.2 ≤ if q.2 + 1 < 9 then q.2 + 1 else 9
      split <;> omega
    · rw [if_neg hi]; exact Int.le_refl _
  refine enough_of hb hn0 ⟨hk.t, hk.p, by show (better W s q).length = 24; unfold better; rw [List.length_set]; exact hW⟩ hx (easier_id (fun _ h => h) fun x hxx => begs_mono (Nat.le_refl _) fun i h => ?_) fun _ _ => Int.le_refl _
  rw [good_iff] at h ⊢
  exact ⟨h.1, h.2.1, Int.le_trans h.2.2 (hh i)⟩
theorem en_widen {b : List (Nat × Ask)} (hb : PL (sky0 t p W) 0 none xs b) : Enough (wor b) t (ns.map widen) xs W := by
  have hp := hk.p
  have h1 : (ns.map widen)[0]? = some (widen p) := by rw [List.getElem?_map, hn0]; rfl
  have hp1 : (sky0 t p W).p = p := rfl
  rw [hp1] at hp
  have hw : 0 ≤ (widen p).1 ∧ (widen p).1 ≤ p.1 ∧ p.2 ≤ (widen p).2 ∧ (widen p).2 ≤ 23 := by
    show 0 ≤ (if 1 < p.1 then p.1 - 1 else 0) ∧ (if 1 < p.1 then p.1 - 1 else 0) ≤ p.1 ∧ p.2 ≤ (if p.2 + 1 < 23 then p.2 + 1 else 23) ∧ (if p.2 + 1 < 23 then p.2 + 1 else 23) ≤ 23
    split <;> split <;> omega
  refine enough_of hb h1 ⟨hk.t, by show 0 ≤ (widen p).1 ∧ (widen p).1 ≤ (widen p).2 ∧ (widen p).2 ≤ 23; omega, hk.W⟩ hx (easier_id (fun _ h => h) fun x hxx => begs_mono (Nat.le_refl _) fun i h => ?_) fun _ _ => Int.le_refl _
  rw [good_iff] at h ⊢
  refine ⟨?_, h.2.1, h.2.2⟩
  have h0 : p.1 ≤ (i : Int) ∧ (i : Int) ≤ p.2 := h.1
  show (widen p).1 ≤ (i : Int) ∧ (i : Int) ≤ (widen p).2
  omega
theorem en_cam {b : List (Nat × Ask)} (hb : PL (sky0 t p W) 0 none xs b) : Enough (wor b) t ns (xs.map cam) W := by
  refine enough_of (φ := cam) hb hn0 hk ⟨?_, fun y hy => ?_, by rw [List.length_map]; exact hx.len⟩ ⟨fun x h => List.mem_map.mpr ⟨x, h, rfl⟩, fun _ _ => rfl, fun _ _ => Nat.le_refl _, fun x hxx => begs_mono (Nat.le_refl _) fun i h => h, fun x _ y _ => ?_⟩ fun _ _ => Int.le_refl _
  · show ((xs.map cam).map (·.nm)).Nodup
    rw [List.map_map]
    exact hx.nm
  · obtain ⟨x, hxx, rfl⟩ := List.mem_map.mp hy
    have := hx.ok x hxx
    exact ⟨this.a, this.r, this.long, this.need, this.rank⟩
  · show tlGap (Str.ofString "cam") (Str.ofString "cam") ≤ _
    unfold tlGap
    rw [if_pos rfl]
    exact Nat.zero_le _
theorem en_ext {u : Int} (hu : 0 ≤ u ∧ u < 60) (hz : ∀ x ∈ xs, x.nm ≠ Str.ofString "zz") (hl : xs.length ≤ 6) {b : List (Nat × Ask)} (hb : PL (sky0 t p W) 0 none xs b) : Enough (wor b) t ns (xs ++ [ext u]) W := by
  refine enough_of hb hn0 hk ⟨?_, fun y hy => ?_, by rw [List.length_append, List.length_singleton]; omega⟩ (easier_id (fun x h => List.mem_append_left _ h) fun _ _ _ h => h) fun _ _ => Int.le_refl _
  · show ((xs ++ [ext u]).map (·.nm)).Nodup
    rw [List.map_append, List.nodup_append]
    refine ⟨hx.nm, by simp, fun a ha c hc => ?_⟩
    obtain ⟨x, hxx, rfl⟩ := List.mem_map.mp ha
    have : c = Str.ofString "zz" := by simpa [ext] using hc
    rw [this]
    exact hz x hxx
  · rcases List.mem_append.mp hy with h | h
    · exact hx.ok y h
    · rw [List.mem_singleton.mp h]
      exact ⟨hu, by show (0 : Int) ≤ 9 ∧ (9 : Int) ≤ 30; decide, by show 1 ≤ 1 ∧ 1 ≤ 8; decide, by show (0 : Int) ≤ 0 ∧ (0 : Int) ≤ 9; decide, by show (1 : Int) ≤ 1 ∧ (1 : Int) ≤ 9; decide⟩
end
end KK
end
section
/-! MathK: a rank more; a night led on; better lows. -/
namespace KK
open PySem PySem.Spec PyProof.Rows L2 Sky
set_option maxHeartbeats 4000000
def raise (x : Ask) : Ask := { x with rank := if x.rank + 1 < 9 then x.rank + 1 else 9 }
/-- the second one a rank more -/
def rk : List Ask → List Ask
  | a :: b :: r => a :: raise b :: r
  | l => l
section
variable {k : Sky1} {xs : List Ask}
theorem rk_none (h : xs[1]? = none) : rk xs = xs := by
  match xs, h with
  | [], _ => rfl
  | [a], _ => rfl
  | a :: b :: r, h => cases h
theorem rk_some {b : Ask} (h : xs[1]? = some b) : rk xs = xs.set 1 (raise b) := by
  match xs, h with
  | [], h => cases h
  | [a], h => cases h
  | a :: b' :: r, h => cases h; rfl
theorem raise_ok {b : Ask} (h : b.Ok) : (raise b).Ok := by
  have := h.rank
  refine ⟨h.a, h.r, h.long, h.need, ?_⟩
  show 1 ≤ (if b.rank + 1 < 9 then b.rank + 1 else 9) ∧ (if b.rank + 1 < 9 then b.rank + 1 else 9) ≤ 9
  split <;> omega
theorem aok_rk (hx : AOk xs) : AOk (rk xs) := by
  cases h : xs[1]? with
  | none => rw [rk_none h]; exact hx
  | some b => rw [rk_some h]; exact aok_set hx h rfl (raise_ok (hx.ok b (List.mem_of_getElem? h)))
theorem wor_one {ys : List Ask} {φ : Ask → Ask} {n : Str} (hφ : ∀ x ∈ ys, x.rank ≤ (φ x).rank + if x.nm = n then 1 else 0) : ∀ (p : List (Nat × Ask)), (∀ q ∈ p, q.2 ∈ ys) → (p.map fun q => q.2.nm).Nodup → wor p ≤ wor (mapP φ p) + if n ∈ (p.map fun q => q.2.nm) then 1 else 0
  | [], _, _ => by show (0 : Int) ≤ 0 + _; split <;> omega
  | q :: p, h, hn => by
    rw [List.map_cons, List.nodup_cons] at hn
    have ih := wor_one hφ p (fun z hz => h z (List.mem_cons_of_mem _ hz)) hn.2
    have h1 := hφ q.2 (h q List.mem_cons_self)
    have e1 : wor (q :: p) = q.2.rank + wor p := rfl
    have e2 : wor (mapP φ (q :: p)) = (φ q.2).rank + wor (mapP φ p) := rfl
    rw [e1, e2, List.map_cons]
    by_cases c : q.2.nm = n
    · have hno : ¬ n ∈ p.map fun q => q.2.nm := by rw [← c]; exact hn.1
      rw [if_pos c] at h1
      rw [if_neg hno] at ih
      rw [if_pos (by rw [c]; exact List.mem_cons_self)]
      omega
    · rw [if_neg c] at h1
      by_cases d : n ∈ p.map fun q => q.2.nm
      · rw [if_pos d] at ih
        rw [if_pos (List.mem_cons_of_mem _ d)]
        omega
      · rw [if_neg d] at ih
        rw [if_neg (fun z => by
          rcases List.mem_cons.mp z with z | z
          · exact c z.symm
          · exact d z)]
        omega
theorem rk_up (hx : AOk xs) {p : List (Nat × Ask)} (hp : PL k 0 none xs p) : ∃ q, PL k 0 none (rk xs) q ∧ wor p ≤ wor q := by
  cases h : xs[1]? with
  | none => rw [rk_none h]; exact ⟨p, hp, Int.le_refl _⟩
  | some b =>
    rw [rk_some h]
    have hbm := List.mem_of_getElem? h
    have hle : b.rank ≤ (raise b).rank := by
      have := (hx.ok b hbm).rank
      show b.rank ≤ if b.rank + 1 < 9 then b.rank + 1 else 9
      split <;> omega
    have e := easier_set (k := k) (k' := k) (y := raise b) hx h rfl rfl (Nat.le_refl _) (fun _ h => h) (fun _ _ _ h => h)
    exact ⟨_, e.pl hp, wor_mapP (rank_set hx hbm hle) p hp.sub⟩
theorem rk_down (hx : AOk xs) {p : List (Nat × Ask)} (hp : PL k 0 none (rk xs) p) : ∃ q, PL k 0 none xs q ∧ wor p ≤ wor q + 1 := by
  cases h : xs[1]? with
  | none => rw [rk_none h] at hp; exact ⟨p, hp, by omega⟩
  | some b =>
    rw [rk_some h] at hp
    have hbm := List.mem_of_getElem? h
    have hnl := (List.getElem?_eq_some_iff.mp h).1
    have hx' : AOk (xs.set 1 (raise b)) := aok_set hx h rfl (raise_ok (hx.ok b hbm))
    have h' : (xs.set 1 (raise b))[1]? = some (raise b) := by rw [List.getElem?_set, if_pos rfl, if_pos hnl]
    have e := easier_set (k := k) (k' := k) (y := b) hx' h' rfl rfl (Nat.le_refl _) (fun _ h => h) (fun _ _ _ h => h)
    have back : (xs.set 1 (raise b)).set 1 b = xs := by
      rw [List.set_set]
      refine List.ext_getElem? fun i => ?_
      rw [List.getElem?_set]
      by_cases hi : 1 = i
      · subst hi; rw [if_pos rfl, if_pos hnl, h]
      · rw [if_neg hi]
    rw [back] at e
    refine ⟨_, e.pl hp, ?_⟩
    have hw := wor_one (φ := fun z => if z.nm = (raise b).nm then b else z) (n := b.nm) (ys := xs.set 1 (raise b)) (fun z hz => by
      by_cases c : z.nm = b.nm
      · have hzb := inj_names hx'.nm hz (List.mem_of_getElem? h') c
        rw [if_pos c, hzb]
        show (if b.rank + 1 < 9 then b.rank + 1 else 9) ≤ (if b.nm = b.nm then b else raise b).rank + 1
        rw [if_pos rfl]
        have := (hx.ok b hbm).rank
        split <;> omega
      · rw [if_neg c]
        show z.rank ≤ (if z.nm = b.nm then b else z).rank + 0
        rw [if_neg c]
        omega) p hp.sub hp.nodup
    split at hw <;> omega
end
/-! ### led on -/
def ledA (d : Nat) (x : Ask) : Ask := { x with a := (x.a + 2 * (d : Int)) % 60 }
def ledW (d : Nat) (W : List (Int × Int)) : List (Int × Int) := List.replicate d (0, 0) ++ W.take (24 - d)
def shift (d : Nat) (p : List (Nat × Ask)) : List (Nat × Ask) := p.map fun q => (q.1 + d, ledA d q.2)
theorem ring (x : Int) : 0 ≤ x % 60 ∧ x % 60 < 60 := ⟨Int.emod_nonneg _ (by decide), Int.emod_lt_of_pos _ (by decide)⟩
theorem up_led {t a r n s : Int} {d : Nat} (ha : 0 ≤ a ∧ a < 60) : isUp t ((a + 2 * (d : Int)) % 60) r n (s + d) = isUp t a r n s := by
  unfold isUp
  have e : (t * n + 2 * (s + (d : Int))) % 60 = ((t * n + 2 * s) % 60 + (2 * (d : Int)) % 60) % 60 := by omega
  have e2 : (a + 2 * (d : Int)) % 60 = (a + (2 * (d : Int)) % 60) % 60 := by omega
  rw [e, e2]
  have h1 := ring (t * n + 2 * s)
  have h2 := ring (2 * (d : Int))
  generalize (t * n + 2 * s) % 60 = m at h1
  generalize (2 * (d : Int)) % 60 = g at h2
  have : rd ((a + g) % 60) ((m + g) % 60) = rd a m := by
    unfold rd
    split <;> split <;> split <;> split <;> omega
  rw [this]
section
variable {t : Int} {p : Int × Int} {W : List (Int × Int)} {xs : List Ask} {d : Nat}
theorem led_high (hW : W.length = 24) (hd : d ≤ 24) {s : Nat} (hs : s + d < 24) : (sky0 t (p.1 + d, p.2 + d) (ledW d W)).high (s + d) = (sky0 t p W).high s := by
  unfold Sky1.high
  show ((ledW d W).getD (s + d) (0, 0)).2 = (W.getD s (0, 0)).2
  unfold ledW
  rw [List.getD_eq_getElem?_getD, List.getD_eq_getElem?_getD, List.getElem?_append_right (by rw [List.length_replicate]; omega), List.length_replicate, Nat.add_sub_cancel, List.getElem?_take, if_pos (by omega)]
theorem led_good (hW : W.length = 24) (hp : 0 ≤ p.1 ∧ p.2 + d ≤ 23) {x : Ask} (hx : x.Ok) {s : Nat} (hs : s + d < 24) : (sky0 t (p.1 + d, p.2 + d) (ledW d W)).good (ledA d x) (s + d) = (sky0 t p W).good x s := by
  have e : ∀ a b : Bool, (a = true ↔ b = true) → a = b := by decide
  apply e
  rw [good_iff, good_iff, led_high hW (by omega) hs]
  have u : isUp t ((x.a + 2 * (d : Int)) % 60) x.r 0 ((s : Int) + d) = isUp t x.a x.r 0 s := up_led hx.a
  have u2 : isUp (sky0 t (p.1 + d, p.2 + d) (ledW d W)).t (ledA d x).a (ledA d x).r ((sky0 t (p.1 + d, p.2 + d) (ledW d W)).n : Nat) ((s + d : Nat) : Int) = isUp (sky0 t p W).t x.a x.r ((sky0 t p W).n : Nat) (s : Nat) := by
    rw [Int.natCast_add]
    exact u
  rw [u2]
  have h1 : (sky0 t (p.1 + d, p.2 + d) (ledW d W)).p.1 = p.1 + d := rfl
  have h2 : (sky0 t (p.1 + d, p.2 + d) (ledW d W)).p.2 = p.2 + d := rfl
  have h3 : (sky0 t p W).p = p := rfl
  have h4 : (ledA d x).need = x.need := rfl
  rw [h1, h2, h3, h4, Int.natCast_add]
  constructor
  · rintro ⟨a, b, c⟩; exact ⟨by omega, b, c⟩
  · rintro ⟨a, b, c⟩; exact ⟨by omega, b, c⟩
theorem led_begs (hW : W.length = 24) (hp : 0 ≤ p.1 ∧ p.2 + d = 23) {x : Ask} (hx : x.Ok) {s : Nat} : s + d ∈ (sky0 t (p.1 + d, p.2 + d) (ledW d W)).begs (ledA d x) ↔ s ∈ (sky0 t p W).begs x := by
  rw [begs_iff, begs_iff]
  have hl : (ledA d x).long = x.long := rfl
  constructor
  · rintro ⟨h1, h2⟩
    refine ⟨by omega, List.all_eq_true.mpr fun i hi => ?_⟩
    have h3 := List.all_eq_true.mp h2 i (by rw [hl]; exact hi)
    have h4 := (good_iff.mp h3).1.2
    have h5 : (sky0 t (p.1 + d, p.2 + d) (ledW d W)).p.2 = p.2 + d := rfl
    rw [h5] at h4
    rw [show s + d + i = (s + i) + d by omega, led_good hW ⟨hp.1, by omega⟩ hx (by omega)] at h3
    exact h3
  · rintro ⟨h1, h2⟩
    have hlong := hx.long
    have h0 := (good_iff.mp (List.all_eq_true.mp h2 0 (List.mem_range.mpr (by omega)))).1.2
    have h5 : (sky0 t p W).p.2 = p.2 := rfl
    rw [h5] at h0
    refine ⟨by omega, List.all_eq_true.mpr fun i hi => ?_⟩
    rw [hl] at hi
    have h3 := List.all_eq_true.mp h2 i hi
    have h4 := (good_iff.mp h3).1.2
    rw [h5] at h4
    rw [show s + d + i = (s + i) + d by omega, led_good hW ⟨hp.1, by omega⟩ hx (by omega)]
    exact h3
theorem led_from (hp : 0 ≤ p.1) {x : Ask} (hx : x.Ok) {s : Nat} (h : s ∈ (sky0 t (p.1 + d, p.2 + d) (ledW d W)).begs (ledA d x)) : d ≤ s := by
  have hlong := hx.long
  have h2 := (begs_iff.mp h).2
  have h0 := (good_iff.mp (List.all_eq_true.mp h2 0 (List.mem_range.mpr (by show 0 < x.long; omega)))).1.1
  have h5 : (sky0 t (p.1 + d, p.2 + d) (ledW d W)).p.1 = p.1 + d := rfl
  rw [h5] at h0
  omega
theorem shift_ap : ∀ q : List (Nat × Ask), apartB (shift d q) = apartB q
  | [] => rfl
  | [_] => rfl
  | q :: r :: l => by
    have ih := shift_ap (r :: l)
    show apartB ((q.1 + d, ledA d q.2) :: (r.1 + d, ledA d r.2) :: shift d l) = _
    rw [apartB, apartB]
    have e : apartB ((r.1 + d, ledA d r.2) :: shift d l) = apartB (r :: l) := ih
    rw [e]
    congr 1
    show decide (q.1 + d + q.2.long + tlGap q.2.tl r.2.tl ≤ r.1 + d) = _
    by_cases h : q.1 + q.2.long + tlGap q.2.tl r.2.tl ≤ r.1
    · rw [decide_eq_true h, decide_eq_true (by omega)]
    · rw [decide_eq_false h, decide_eq_false (by omega)]
theorem shift_nm (q : List (Nat × Ask)) : ((shift d q).map fun q => q.2.nm) = q.map fun q => q.2.nm := by
  unfold shift
  rw [List.map_map]
  rfl
theorem shift_pl (hW : W.length = 24) (hp : 0 ≤ p.1 ∧ p.2 + d = 23) (hx : ∀ x ∈ xs, x.Ok) {q : List (Nat × Ask)} (h : PL (sky0 t p W) 0 none xs q) : PL (sky0 t (p.1 + d, p.2 + d) (ledW d W)) 0 none (xs.map (ledA d)) (shift d q) := by
  rw [pl_iff] at h ⊢
  refine ⟨fun r hr => ?_, fun r hr => ?_, by rw [shift_nm]; exact h.nd, by rw [shift_ap]; exact h.ap⟩
  · obtain ⟨z, hz, rfl⟩ := List.mem_map.mp hr
    exact List.mem_map.mpr ⟨z.2, h.sub z hz, rfl⟩
  · obtain ⟨z, hz, rfl⟩ := List.mem_map.mp hr
    exact (led_begs hW hp (hx _ (h.sub z hz))).mpr (h.beg z hz)
/-- each plan of the later night is a plan led on -/
theorem shift_back (hW : W.length = 24) (hp : 0 ≤ p.1 ∧ p.2 + d = 23) (hx : AOk xs) {q : List (Nat × Ask)} (h : PL (sky0 t (p.1 + d, p.2 + d) (ledW d W)) 0 none (xs.map (ledA d)) q) : ∃ q', PL (sky0 t p W) 0 none xs q' ∧ q = shift d q' := by
  have pre : ∀ z ∈ q, ∃ y : Nat × Ask, y.2 ∈ xs ∧ y.1 ∈ (sky0 t p W).begs y.2 ∧ z = (y.1 + d, ledA d y.2) := fun z hz => by
    obtain ⟨x, hxx, e⟩ := List.mem_map.mp (h.sub z hz)
    have hb := h.beg z hz
    rw [← e] at hb
    have hd := led_from hp.1 (hx.ok x hxx) hb
    refine ⟨(z.1 - d, x), hxx, ?_, ?_⟩
    · rw [show z.1 = (z.1 - d) + d by omega] at hb
      exact (led_begs hW hp (hx.ok x hxx)).mp hb
    · show z = (z.1 - d + d, ledA d x)
      rw [e, Nat.sub_add_cancel hd]
  have go : ∀ l : List (Nat × Ask), (∀ z ∈ l, ∃ y : Nat × Ask, y.2 ∈ xs ∧ y.1 ∈ (sky0 t p W).begs y.2 ∧ z = (y.1 + d, ledA d y.2)) → ∃ l', l = shift d l' ∧ ∀ y ∈ l', y.2 ∈ xs ∧ y.1 ∈ (sky0 t p W).begs y.2 := by
    intro l
    induction l with
    | nil => intro _; exact ⟨[], rfl, fun _ h => absurd h List.not_mem_nil⟩
    | cons z l ih =>
      intro hl
      obtain ⟨y, h1, h2, rfl⟩ := hl z List.mem_cons_self
      obtain ⟨l', rfl, h3⟩ := ih fun w hw => hl w (List.mem_cons_of_mem _ hw)
      refine ⟨y :: l', rfl, fun w hw => ?_⟩
      rcases List.mem_cons.mp hw with rfl | hw
      · exact ⟨h1, h2⟩
      · exact h3 w hw
  obtain ⟨q', rfl, h3⟩ := go q pre
  refine ⟨q', ?_, rfl⟩
  have hn := h.nodup
  have ha := h.ap
  rw [shift_nm] at hn
  rw [shift_ap] at ha
  rw [pl_iff]
  exact ⟨fun y hy => (h3 y hy).1, fun y hy => (h3 y hy).2, hn, ha⟩
theorem shift_wor (q : List (Nat × Ask)) : wor (shift d q) = wor q := by
  unfold wor shift
  rw [List.map_map]
  rfl
theorem shift_lt : ∀ (a b : List (Nat × Ask)), ltL (runs (shift d a)) (runs (shift d b)) ↔ ltL (runs a) (runs b)
  | [], [] => Iff.rfl
  | [], _ :: _ => Iff.rfl
  | _ :: _, [] => Iff.rfl
  | x :: a, y :: b => by
    have ih := shift_lt a b
    show (ltR (x.1 + d, x.2.nm) (y.1 + d, y.2.nm) ∨ ((x.1 + d, x.2.nm) = (y.1 + d, y.2.nm) ∧ ltL (runs (shift d a)) (runs (shift d b)))) ↔ (ltR (x.1, x.2.nm) (y.1, y.2.nm) ∨ ((x.1, x.2.nm) = (y.1, y.2.nm) ∧ ltL (runs a) (runs b)))
    rw [ih]
    have e1 : ltR (x.1 + d, x.2.nm) (y.1 + d, y.2.nm) ↔ ltR (x.1, x.2.nm) (y.1, y.2.nm) := by
      unfold ltR
      show (x.1 + d < y.1 + d ∨ (x.1 + d = y.1 + d ∧ _)) ↔ (x.1 < y.1 ∨ (x.1 = y.1 ∧ _))
      constructor
      · rintro (h | ⟨h, h'⟩)
        · exact .inl (by omega)
        · exact .inr ⟨by omega, h'⟩
      · rintro (h | ⟨h, h'⟩)
        · exact .inl (by omega)
        · exact .inr ⟨by omega, h'⟩
    have e2 : ((x.1 + d, x.2.nm) = (y.1 + d, y.2.nm)) ↔ ((x.1, x.2.nm) = (y.1, y.2.nm)) := by
      simp
    rw [e1, e2]
theorem shift_lev {a b : List (Nat × Ask)} (h : leV (val a) (val b)) : leV (val (shift d a)) (val (shift d b)) := by
  intro z
  apply h
  rcases z with z | ⟨z, z' | ⟨z', z''⟩⟩
  · exact .inl z
  · exact .inr ⟨z, .inl (by
      have : -wor (shift d b) < -wor (shift d a) := z'
      rw [shift_wor, shift_wor] at this
      exact this)⟩
  · refine .inr ⟨z, .inr ⟨?_, (shift_lt b a).mp z''⟩⟩
    have : -wor (shift d b) = -wor (shift d a) := z'
    rw [shift_wor, shift_wor] at this
    exact this
end
end KK
end
section
/-! MathL: prices by what they are; sorted runs; a night mirrored. -/
namespace KK
open PySem PySem.Spec PyProof.Rows L2 Sky
set_option maxHeartbeats 4000000
section
variable {k : Sky1} {ns : List (Int × Int)} {xs : List Ask} {hf : MK → Int}
theorem wor_nn (hx : ∀ x ∈ xs, x.Ok) : ∀ (p : List (Nat × Ask)), (∀ q ∈ p, q.2 ∈ xs) → 0 ≤ wor p ∧ wor p ≤ 9 * p.length ∧ ∀ q ∈ p, q.2.rank ≤ wor p
  | [], _ => ⟨Int.le_refl _, Int.le_refl _, fun _ h => absurd h List.not_mem_nil⟩
  | r :: p, h => by
    obtain ⟨h1, h2, h3⟩ := wor_nn hx p fun q hq => h q (List.mem_cons_of_mem _ hq)
    have hr := (hx r.2 (h r List.mem_cons_self)).rank
    have e : wor (r :: p) = r.2.rank + wor p := rfl
    rw [e, List.length_cons]
    refine ⟨by omega, by omega, fun q hq => ?_⟩
    rcases List.mem_cons.mp hq with rfl | hq
    · omega
    · have := h3 q hq; omega
theorem wor_much (n : Str) : ∀ (p : List (Nat × Ask)), (p.map fun q => q.2.nm).Nodup → worG (pmuch n) p = wor p + if n ∈ (p.map fun q => q.2.nm) then 1000 else 0
  | [], _ => rfl
  | r :: p, h => by
    rw [List.map_cons, List.nodup_cons] at h
    have ih := wor_much n p h.2
    have e1 : wor (r :: p) = r.2.rank + wor p := rfl
    have e2 : worG (pmuch n) (r :: p) = (if r.2.nm = n then r.2.rank + 1000 else r.2.rank) + worG (pmuch n) p := rfl
    rw [e1, e2, ih, List.map_cons]
    by_cases h1 : r.2.nm = n
    · have h2 : ¬ n ∈ p.map fun q => q.2.nm := by rw [← h1]; exact h.1
      have h3 : n ∈ r.2.nm :: p.map fun q => q.2.nm := by rw [h1]; exact List.mem_cons_self
      rw [if_pos h1, if_neg h2, if_pos h3]
      omega
    · rw [if_neg h1]
      by_cases h2 : n ∈ p.map fun q => q.2.nm
      · rw [if_pos h2, if_pos (List.mem_cons_of_mem _ h2)]
        omega
      · rw [if_neg h2, if_neg (fun z => by rcases List.mem_cons.mp z with z | z; · exact h1 z.symm
                                           · exact h2 z)]
        omega
def nms (p : List (Nat × Ask)) : List Str := p.map fun q => q.2.nm
theorem much0 (hx : AOk xs) (n : Str) : ∃ m, PL k 0 none xs m ∧ (bestG (pmuch n) k xs).2.2.map encR = m.map encQ ∧ ((∃ p, PL k 0 none xs p ∧ n ∈ nms p) → n ∈ nms m) ∧ (n ∈ nms m → ∀ p, PL k 0 none xs p → n ∈ nms p → wor p ≤ wor m) := by
  obtain ⟨m, hm, em, ev, hl⟩ := found_plan (P := pmuch n) (k := k) (xs := xs) rfl (wt_nn hx.ok n)
  have hs := fun p => sur_none (P := pmuch n) rfl k p
  have hle : ∀ p, PL k 0 none xs p → worG (pmuch n) p ≤ worG (pmuch n) m := fun p hp => leV_wor ((hs m).trans (hs p).symm) (hl p hp)
  have hwm := wor_much n m hm.nodup
  have hb := wor_nn hx.ok m hm.sub
  have hml := pl_len hx hm
  refine ⟨m, hm, em, ?_, ?_⟩
  · rintro ⟨p, hp, hn⟩
    refine Decidable.byContradiction fun z => ?_
    have h1 := hle p hp
    have hwp := wor_much n p hp.nodup
    have hpn := wor_nn hx.ok p hp.sub
    rw [if_pos (show n ∈ p.map fun q => q.2.nm from hn)] at hwp
    rw [if_neg (show ¬ n ∈ m.map fun q => q.2.nm from z)] at hwm
    omega
  · intro hn p hp hpn
    have h1 := hle p hp
    have hwp := wor_much n p hp.nodup
    rw [if_pos (show n ∈ p.map fun q => q.2.nm from hpn)] at hwp
    rw [if_pos (show n ∈ m.map fun q => q.2.nm from hn)] at hwm
    omega
/-- what a price is -/
def PrOf (k : Sky1) (xs : List Ask) (n : Str) (r : PyData) : Prop := (r = .none ∧ ∀ p, PL k 0 none xs p → ¬ n ∈ nms p) ∨ ∃ b m, PL k 0 none xs b ∧ (∀ p, PL k 0 none xs p → wor p ≤ wor b) ∧ PL k 0 none xs m ∧ n ∈ nms m ∧ (∀ p, PL k 0 none xs p → n ∈ nms p → wor p ≤ wor m) ∧ r = .int (wor b - wor m)
theorem price0 (hk : k.Ok) (hn : ns[k.n]? = some k.p) (hx : AOk xs) {x : Ask} (hm : x ∈ xs) : ∃ r : PyData, P_price hf [enS k.t ns, .int (k.n : Nat), .tuple (xs.map encA), enW k.W, .str x.nm] = some r ∧ PrOf k xs x.nm r := by
  obtain ⟨m, hml, em, m1, m2⟩ := much0 (k := k) hx x.nm
  obtain ⟨b, hb, eb, evb, hbl⟩ := found_plan (P := plain) (k := k) (xs := xs) rfl (rank_nn hx.ok)
  have htop : ∀ p, PL k 0 none xs p → wor p ≤ wor b := fun p hp => leV_wor (P := plain) ((sur_none rfl k b).trans (sur_none rfl k p).symm) (hbl p hp)
  refine ⟨_, price_ok (hf := hf) hk hn hx hm hb eb hml em, ?_⟩
  by_cases h : x.nm ∈ m.map (fun q => q.2.nm)
  · rw [if_pos h]
    exact .inr ⟨b, m, hb, htop, hml, h, m2 h, rfl⟩
  · rw [if_neg h]
    exact .inl ⟨rfl, fun p hp z => h (m1 ⟨p, hp, z⟩)⟩
theorem prOf_kind {n : Str} {r : PyData} (h : PrOf k xs n r) : r = .none ∨ ∃ i : Int, r = .int i := by
  rcases h with ⟨h, _⟩ | ⟨b, m, _, _, _, _, _, h⟩
  · exact .inl h
  · exact .inr ⟨_, h⟩
/-- each plan of the one has its like among those of the other -/
def Twin (k : Sky1) (xs : List Ask) (k' : Sky1) (ys : List Ask) : Prop := ∀ p, PL k 0 none xs p → ∃ p', PL k' 0 none ys p' ∧ wor p' = wor p ∧ surW k' p' = surW k p ∧ ∀ n, n ∈ nms p' ↔ n ∈ nms p
theorem twin_price {k' : Sky1} {ys : List Ask} (h1 : Twin k xs k' ys) (h2 : Twin k' ys k xs) {n : Str} {r r' : PyData} (h : PrOf k xs n r) (h' : PrOf k' ys n r') : r = r' := by
  rcases h with ⟨rfl, z⟩ | ⟨b, m, hb, tb, hm, nm, tm, rfl⟩
  · rcases h' with ⟨rfl, _⟩ | ⟨b', m', hb', tb', hm', nm', tm', rfl⟩
    · rfl
    · obtain ⟨p, hp, _, _, e⟩ := h2 m' hm'
      exact absurd ((e n).mpr nm') (z p hp)
  · rcases h' with ⟨rfl, z⟩ | ⟨b', m', hb', tb', hm', nm', tm', rfl⟩
    · obtain ⟨p, hp, _, _, e⟩ := h1 m hm
      exact absurd ((e n).mpr nm) (z p hp)
    · obtain ⟨p1, hp1, w1, _, _⟩ := h1 b hb
      obtain ⟨p2, hp2, w2, _, e2⟩ := h1 m hm
      obtain ⟨p3, hp3, w3, _, _⟩ := h2 b' hb'
      obtain ⟨p4, hp4, w4, _, e4⟩ := h2 m' hm'
      have a1 := tb' p1 hp1
      have a2 := tm' p2 hp2 ((e2 n).mpr nm)
      have a3 := tb p3 hp3
      have a4 := tm p4 hp4 ((e4 n).mpr nm')
      rw [show wor b - wor m = wor b' - wor m' by omega]
end
theorem sure0 {hf : MK → Int} {t : Int} {p : Int × Int} {W : List (Int × Int)} {ns : List (Int × Int)} {xs : List Ask} (hk : (sky0 t p W).Ok) (hn : ns[0]? = some p) (hx : AOk xs) :
    ∃ m, P_surest_plan hf [enS t ns, .int 0, .tuple (xs.map encA), enW W] = some (.tuple (m.map encQ)) ∧ PL (sky0 t p W) 0 none xs m ∧ ∀ q, PL (sky0 t p W) 0 none xs q → leV (valG psure (sky0 t p W) m) (valG psure (sky0 t p W) q) := by
  obtain ⟨m, hm, em, evm, hml⟩ := found_plan (P := psure) (k := sky0 t p W) (xs := xs) rfl (rank_nn hx.ok)
  have e := surest_plan_ok (hf := hf) hk (ns := ns) hn hx
  rw [em] at e
  exact ⟨m, e, hm, hml⟩
/-- two numbers of leV -/
theorem leV_two {k k' : Sky1} {a b a' b' : List (Nat × Ask)} (h : leV (valG psure k a) (valG psure k b)) (h' : leV (valG psure k' a') (valG psure k' b')) (e1 : surW k b = surW k' a') (e2 : wor b = wor a') (e3 : surW k' b' = surW k a) (e4 : wor b' = wor a) : surW k a = surW k' a' ∧ wor a = wor a' := by
  rw [valG_sure, valG_sure] at h h'
  have f : ∀ {s w s' w' : Int} {r r' : List Run}, leV (s, w, r) (s', w', r') → s < s' ∨ (s = s' ∧ w ≤ w') := by
    intro s w s' w' r r' z
    rcases Int.lt_trichotomy s s' with c | c | c
    · exact .inl c
    · refine .inr ⟨c, Int.not_lt.mp fun d => z (.inr ⟨c.symm, .inl d⟩)⟩
    · exact absurd (.inl c) z
  have f1 := f h
  have f2 := f h'
  omega
/-! ### runs sorted -/
theorem leR_tr (a b c : Run) (h1 : leR a b = true) (h2 : leR b c = true) : leR a c = true := by
  unfold leR at *
  rw [Bool.not_eq_true', decide_eq_false_iff_not] at *
  intro z
  rcases ltR_tri a b with c1 | c1 | c1
  · exact h2 (ltR_trans z c1)
  · subst c1; exact h2 z
  · exact h1 c1
theorem leR_tot (a b : Run) : (leR a b || leR b a) = true := by
  unfold leR
  by_cases h : ltR b a
  · have : ¬ ltR a b := fun z => ltR_irr a (ltR_trans z h)
    simp [h, this]
  · simp [h]
theorem leR_anti (a b : Run) (h1 : leR a b = true) (h2 : leR b a = true) : a = b := by
  unfold leR at *
  rw [Bool.not_eq_true', decide_eq_false_iff_not] at *
  rcases ltR_tri a b with c1 | c1 | c1
  · exact absurd c1 h2
  · exact c1
  · exact absurd c1 h1
theorem sort_unique {l l' : List Run} (hp : l.Perm l') (hs : l'.Pairwise fun a b => leR a b = true) : l.mergeSort leR = l' :=
  List.Perm.eq_of_pairwise (le := fun a b => leR a b = true) (fun a b _ _ h1 h2 => leR_anti a b h1 h2) (List.pairwise_mergeSort leR_tr leR_tot l) hs ((List.mergeSort_perm l leR).trans hp)
theorem leR_of_lt {a b : Run} (h : a.1 < b.1) : leR a b = true := by
  unfold leR ltR
  have h1 : ¬ (b.1 < a.1) := by omega
  have h2 : ¬ (b.1 = a.1) := by omega
  simp [h1, h2]
theorem runs_pw {p : List (Nat × Ask)} (h : p.Pairwise fun a b => a.1 < b.1) : (runs p).Pairwise fun a b => leR a b = true := by
  unfold runs
  rw [List.pairwise_map]
  exact h.imp fun {a b} hab => leR_of_lt hab
/-! ### a night mirrored -/
def apR (a b : Nat × Ask) : Prop := a.1 + a.2.long + tlGap a.2.tl b.2.tl ≤ b.1
theorem tlGap_le (a b : Str) : tlGap a b ≤ 1 := by unfold tlGap; split <;> omega
theorem tlGap_comm (a b : Str) : tlGap a b = tlGap b a := by
  unfold tlGap
  by_cases h : a = b
  · rw [if_pos h, if_pos h.symm]
  · rw [if_neg h, if_neg fun z => h z.symm]
theorem apart_pw : ∀ (p : List (Nat × Ask)), (∀ q ∈ p, 1 ≤ q.2.long) → (apartB p = true ↔ p.Pairwise apR)
  | [], _ => ⟨fun _ => .nil, fun _ => rfl⟩
  | [q], _ => ⟨fun _ => .cons (fun _ h => absurd h List.not_mem_nil) .nil, fun _ => rfl⟩
  | q :: r :: t, hl => by
    have ih := apart_pw (r :: t) fun x hx => hl x (List.mem_cons_of_mem _ hx)
    rw [apartB, Bool.and_eq_true, decide_eq_true_iff, ih, List.pairwise_cons (l := r :: t)]
    constructor
    · rintro ⟨h1, h2⟩
      refine ⟨fun x hx => ?_, h2⟩
      rcases List.mem_cons.mp hx with rfl | hx
      · exact h1
      · have h3 : apR r x := List.rel_of_pairwise_cons h2 hx
        unfold apR at *
        have h4 := hl r (by simp)
        have h5 := tlGap_le q.2.tl x.2.tl
        omega
    · rintro ⟨h1, h2⟩
      exact ⟨h1 r List.mem_cons_self, h2⟩
def mirA (x : Ask) : Ask := { x with a := (46 - x.a) % 60 }
def mirP (p : Int × Int) : Int × Int := (23 - p.2, 23 - p.1)
def mirQ (q : Nat × Ask) : Nat × Ask := (24 - q.1 - q.2.long, mirA q.2)
def mir (p : List (Nat × Ask)) : List (Nat × Ask) := (p.map mirQ).reverse
theorem up_mir {a r s : Int} (ha : 0 ≤ a ∧ a < 60) : isUp 0 ((46 - a) % 60) r 0 (23 - s) = isUp 0 a r 0 s := by
  unfold isUp
  have e : (0 * 0 + 2 * (23 - s)) % 60 = (46 - (0 * 0 + 2 * s) % 60) % 60 := by omega
  rw [e]
  have h1 := ring (0 * 0 + 2 * s)
  generalize (0 * 0 + 2 * s) % 60 = m at h1
  have : rd ((46 - a) % 60) ((46 - m) % 60) = rd a m := by
    unfold rd
    split <;> split <;> split <;> split <;> omega
  rw [this]
section
variable {p : Int × Int} {W : List (Int × Int)} {xs : List Ask}
theorem getD_rev (hW : W.length = 24) {s : Nat} (hs : s < 24) : W.reverse.getD (23 - s) (0, 0) = W.getD s (0, 0) := by
  rw [List.getD_eq_getElem?_getD, List.getD_eq_getElem?_getD, List.getElem?_reverse (by omega), show W.length - 1 - (23 - s) = s by omega]
theorem good_mir (hW : W.length = 24) {x : Ask} (hx : 0 ≤ x.a ∧ x.a < 60) {s : Nat} (hs : s < 24) : (sky0 0 (mirP p) W.reverse).good (mirA x) (23 - s) = (sky0 0 p W).good x s := by
  have e : ∀ a b : Bool, (a = true ↔ b = true) → a = b := by decide
  apply e
  rw [good_iff, good_iff]
  have u : isUp 0 ((46 - x.a) % 60) x.r 0 (((23 - s : Nat) : Int)) = isUp 0 x.a x.r 0 s := by
    rw [show ((23 - s : Nat) : Int) = 23 - (s : Int) by omega]
    exact up_mir hx
  have u2 : isUp (sky0 0 (mirP p) W.reverse).t (mirA x).a (mirA x).r ((sky0 0 (mirP p) W.reverse).n : Nat) ((23 - s : Nat) : Int) = isUp (sky0 0 p W).t x.a x.r ((sky0 0 p W).n : Nat) (s : Nat) := u
  have hh : (sky0 0 (mirP p) W.reverse).high (23 - s) = (sky0 0 p W).high s := by
    unfold Sky1.high
    show (W.reverse.getD (23 - s) (0, 0)).2 = _
    rw [getD_rev hW hs]
  rw [u2, hh]
  have h1 : (sky0 0 (mirP p) W.reverse).p.1 = 23 - p.2 := rfl
  have h2 : (sky0 0 (mirP p) W.reverse).p.2 = 23 - p.1 := rfl
  have h3 : (sky0 0 p W).p = p := rfl
  have h4 : (mirA x).need = x.need := rfl
  rw [h1, h2, h3, h4]
  constructor
  · rintro ⟨a, b, c⟩; exact ⟨by omega, b, c⟩
  · rintro ⟨a, b, c⟩; exact ⟨by omega, b, c⟩
theorem all_mir {f g : Nat → Bool} {n s : Nat} (h : s + n ≤ 24) (hfg : ∀ i, i < 24 → f (23 - i) = g i) : ((List.range n).all fun i => f (24 - s - n + i)) = (List.range n).all fun i => g (s + i) := by
  have e : ∀ a b : Bool, (a = true ↔ b = true) → a = b := by decide
  apply e
  rw [List.all_eq_true, List.all_eq_true]
  constructor
  · intro z i hi
    have hi := List.mem_range.mp hi
    have := z (n - 1 - i) (List.mem_range.mpr (by omega))
    rw [← hfg (s + i) (by omega), show 23 - (s + i) = 24 - s - n + (n - 1 - i) by omega]
    exact this
  · intro z i hi
    have hi := List.mem_range.mp hi
    have := z (n - 1 - i) (List.mem_range.mpr (by omega))
    rw [← hfg _ (by omega)] at this
    rw [show 24 - s - n + i = 23 - (s + (n - 1 - i)) by omega]
    exact this
theorem mir_begs (hk : (sky0 0 p W).Ok) {x : Ask} (hx : x.Ok) {s : Nat} (h : s ∈ (sky0 0 p W).begs x) : 24 - s - x.long ∈ (sky0 0 (mirP p) W.reverse).begs (mirA x) := by
  have he := beg_end hk hx h
  have hl := hx.long
  rw [begs_iff] at h ⊢
  refine ⟨by omega, ?_⟩
  have : (sky0 0 (mirP p) W.reverse).may (mirA x) (24 - s - x.long) = (sky0 0 p W).may x s := all_mir (f := (sky0 0 (mirP p) W.reverse).good (mirA x)) (g := (sky0 0 p W).good x) (n := x.long) he fun i hi => good_mir hk.W hx.a hi
  rw [this]
  exact h.2
theorem mir_sure (hk : (sky0 0 p W).Ok) {x : Ask} {s : Nat} (he : s + x.long ≤ 24) : (sky0 0 (mirP p) W.reverse).sure (mirA x) (24 - s - x.long) = (sky0 0 p W).sure x s :=
  all_mir (f := fun i => decide (x.need ≤ (sky0 0 (mirP p) W.reverse).low i)) (g := fun i => decide (x.need ≤ (sky0 0 p W).low i)) (n := x.long) he fun i hi => by
    unfold Sky1.low
    show decide (x.need ≤ (W.reverse.getD (23 - i) (0, 0)).1) = _
    rw [getD_rev hk.W hi]
theorem mir_nms (q : List (Nat × Ask)) : nms (mir q) = (nms q).reverse := by
  unfold nms mir
  rw [List.map_reverse, List.map_map]
  rfl
theorem mir_wor (q : List (Nat × Ask)) : wor (mir q) = wor q := by
  unfold wor mir
  rw [List.map_reverse, List.sum_reverse, List.map_map]
  rfl
theorem mir_sur (hk : (sky0 0 p W).Ok) {q : List (Nat × Ask)} (h : ∀ r ∈ q, r.1 + r.2.long ≤ 24) : surW (sky0 0 (mirP p) W.reverse) (mir q) = surW (sky0 0 p W) q := by
  unfold surW mir
  rw [List.filter_reverse, List.map_reverse, List.sum_reverse, List.filter_map, List.map_map]
  have e : q.filter ((fun q => (sky0 0 (mirP p) W.reverse).sure q.2 q.1) ∘ mirQ) = q.filter fun q => (sky0 0 p W).sure q.2 q.1 := List.filter_congr fun r hr => mir_sure hk (h r hr)
  rw [e]
  rfl
theorem mir_ok (hk : (sky0 0 p W).Ok) : (sky0 0 (mirP p) W.reverse).Ok := by
  have hp := hk.p
  refine ⟨hk.t, ?_, by show W.reverse.length = 24; rw [List.length_reverse]; exact hk.W⟩
  show 0 ≤ 23 - p.2 ∧ 23 - p.2 ≤ 23 - p.1 ∧ 23 - p.1 ≤ 23
  have h1 : 0 ≤ p.1 ∧ p.1 ≤ p.2 ∧ p.2 ≤ 23 := hp
  omega
theorem mir_aok (hx : AOk xs) : AOk (xs.map mirA) := ⟨by show ((xs.map mirA).map (·.nm)).Nodup; rw [List.map_map]; exact hx.nm, fun y hy => by
    obtain ⟨x, hxx, rfl⟩ := List.mem_map.mp hy
    have := hx.ok x hxx
    exact ⟨ring _, this.r, this.long, this.need, this.rank⟩, by rw [List.length_map]; exact hx.len⟩
theorem mir_pl (hk : (sky0 0 p W).Ok) (hx : AOk xs) {q : List (Nat × Ask)} (h : PL (sky0 0 p W) 0 none xs q) : PL (sky0 0 (mirP p) W.reverse) 0 none (xs.map mirA) (mir q) := by
  have hpb := pl_iff.mp h
  have hlong : ∀ r ∈ q, 1 ≤ r.2.long := fun r hr => (hx.ok _ (hpb.sub r hr)).long.1
  have hend : ∀ r ∈ q, r.1 + r.2.long ≤ 24 := fun r hr => beg_end hk (hx.ok _ (hpb.sub r hr)) (hpb.beg r hr)
  rw [pl_iff]
  refine ⟨fun r hr => ?_, fun r hr => ?_, ?_, ?_⟩
  · obtain ⟨z, hz, rfl⟩ := List.mem_map.mp (List.mem_reverse.mp hr)
    exact List.mem_map.mpr ⟨z.2, hpb.sub z hz, rfl⟩
  · obtain ⟨z, hz, rfl⟩ := List.mem_map.mp (List.mem_reverse.mp hr)
    exact mir_begs hk (hx.ok _ (hpb.sub z hz)) (hpb.beg z hz)
  · have := mir_nms q
    unfold nms at this
    rw [this]
    exact (List.reverse_perm _).nodup_iff.mpr hpb.nd
  · rw [apart_pw _ fun r hr => by
      obtain ⟨z, hz, rfl⟩ := List.mem_map.mp (List.mem_reverse.mp hr)
      exact hlong z hz]
    unfold mir
    rw [List.pairwise_reverse, List.pairwise_map]
    refine List.Pairwise.imp_of_mem (fun {a b} ha hb hab => ?_) ((apart_pw q hlong).mp hpb.ap)
    have h1 := hend b hb
    have h2 := hend a ha
    unfold apR at *
    show 24 - b.1 - b.2.long + b.2.long + tlGap b.2.tl a.2.tl ≤ 24 - a.1 - a.2.long
    rw [tlGap_comm]
    omega
theorem mir_mirP (p : Int × Int) : mirP (mirP p) = p := by
  unfold mirP
  show (23 - (23 - p.1), 23 - (23 - p.2)) = p
  rw [show 23 - (23 - p.1) = p.1 by omega, show 23 - (23 - p.2) = p.2 by omega]
theorem mir_mirA (hx : AOk xs) : (xs.map mirA).map mirA = xs := by
  rw [List.map_map]
  have : ∀ x ∈ xs, (mirA ∘ mirA) x = id x := fun x hxx => by
    have h := (hx.ok x hxx).a
    show mirA (mirA x) = x
    unfold mirA
    show ({ x with a := (46 - (46 - x.a) % 60) % 60 } : Ask) = x
    rw [show (46 - (46 - x.a) % 60) % 60 = x.a by omega]
  rw [List.map_congr_left this, List.map_id]
theorem mir_twin (hk : (sky0 0 p W).Ok) (hx : AOk xs) : Twin (sky0 0 p W) xs (sky0 0 (mirP p) W.reverse) (xs.map mirA) := fun q hq =>
  ⟨mir q, mir_pl hk hx hq, mir_wor q, mir_sur hk fun r hr => beg_end hk (hx.ok _ (hq.sub r hr)) (hq.beg r hr), fun n => by rw [mir_nms]; exact List.mem_reverse⟩
theorem mir_niwt (hk : (sky0 0 p W).Ok) (hx : AOk xs) : Twin (sky0 0 (mirP p) W.reverse) (xs.map mirA) (sky0 0 p W) xs := by
  have := mir_twin (mir_ok hk) (mir_aok hx)
  rw [mir_mirP, List.reverse_reverse, mir_mirA hx] at this
  exact this
/-- the runs mirrored, sorted, are the mirrored plan's -/
theorem mir_sort (hk : (sky0 0 p W).Ok) (hx : AOk xs) {q : List (Nat × Ask)} (h : PL (sky0 0 p W) 0 none xs q) : (runs (q.map mirQ)).mergeSort leR = runs (mir q) := by
  have hm := mir_pl hk hx h
  refine sort_unique ?_ (runs_pw (apart_lt _ hm.ap fun r hr => (((mir_aok hx).ok _ (hm.sub r hr)).long.1)))
  unfold mir runs
  rw [List.map_reverse]
  exact (List.reverse_perm _).symm
end
theorem sub_pl {k : Sky1} {xs : List Ask} (hx : ∀ x ∈ xs, x.Ok) {q q' : List (Nat × Ask)} (hs : q'.Sublist q) (h : PL k 0 none xs q) : PL k 0 none xs q' := by
  have hpb := pl_iff.mp h
  have hlong : ∀ r ∈ q, 1 ≤ r.2.long := fun r hr => (hx _ (hpb.sub r hr)).long.1
  rw [pl_iff]
  exact ⟨fun r hr => hpb.sub r (hs.subset hr), fun r hr => hpb.beg r (hs.subset hr), (hs.map _).nodup hpb.nd, (apart_pw q' fun r hr => hlong r (hs.subset hr)).mpr (((apart_pw q hlong).mp hpb.ap).sublist hs)⟩
end KK
end
section
/-! MathM: the longest rows of good slots, and these mirrored. -/
namespace KK
open PySem PySem.Spec PyProof.Rows L2 Sky
set_option maxHeartbeats 4000000
/-- the longest rows of good slots among the first k -/
def st1 (g : Nat → Bool) : Nat → List (Nat × Nat)
  | 0 => []
  | k + 1 => if g k = true then (match (st1 g k).getLast? with
    | some p => if p.2 + 1 = k then (st1 g k).dropLast ++ [(p.1, k)] else st1 g k ++ [(k, k)]
    | none => [(k, k)]) else st1 g k
def encN (p : Nat × Nat) : PyData := .tuple [.int (p.1 : Nat), .int (p.2 : Nat)]
theorem dp_encN (n : Nat) (p : Nat × Nat) : dp (n + 1) (encN p) = true := by simp [encN]
theorem all_encN (n : Nat) (l : List (Nat × Nat)) : (l.map encN).all (dp (n + 1)) = true := by
  rw [List.all_eq_true]
  intro x hx
  obtain ⟨p, _, rfl⟩ := List.mem_map.mp hx
  exact dp_encN n p
theorem st1_len (g : Nat → Bool) : ∀ k, (st1 g k).length ≤ k
  | 0 => Nat.le_refl _
  | k + 1 => by
    have ih := st1_len g k
    unfold st1
    split
    · split
      · split
        · simp; omega
        · simp; omega
      · simp
    · omega
theorem st1_lt (g : Nat → Bool) : ∀ k, ∀ p ∈ st1 g k, p.2 < k
  | 0 => fun p h => absurd h (List.not_mem_nil)
  | k + 1 => by
    have ih := st1_lt g k
    intro p hp
    unfold st1 at hp
    split at hp
    · split at hp
      · split at hp
        · rcases List.mem_append.mp hp with h | h
          · have := ih p ((List.dropLast_sublist _).subset h); omega
          · rw [List.mem_singleton.mp h]; dsimp only; omega
        · rcases List.mem_append.mp hp with h | h
          · have := ih p h; omega
          · rw [List.mem_singleton.mp h]; dsimp only; omega
      · rw [List.mem_singleton.mp hp]; dsimp only; omega
    · have := ih p hp; omega
structure Rw (l : List (Nat × Nat)) (g : Nat → Bool) : Prop where
  pw : l.Pairwise fun a b => a.2 + 1 < b.1
  le : ∀ p ∈ l, p.1 ≤ p.2
  iff : ∀ s, g s = true ↔ ∃ p ∈ l, p.1 ≤ s ∧ s ≤ p.2
theorem rw_step {f : List (Nat × Nat)} {g : Nat → Bool} {k : Nat} (h : Rw f fun s => decide (s < k) && g s) (hg : g k = true) : Rw (match f.getLast? with
    | some p => if p.2 + 1 = k then f.dropLast ++ [(p.1, k)] else f ++ [(k, k)]
    | none => [(k, k)]) fun s => decide (s < k + 1) && g s := by
  have lt : ∀ p ∈ f, p.2 < k := fun p hp => by
    have := (h.iff p.2).mpr ⟨p, hp, h.le p hp, Nat.le_refl _⟩
    rw [Bool.and_eq_true] at this
    exact of_decide_eq_true this.1
  have old : ∀ s, s < k → (g s = true ↔ ∃ p ∈ f, p.1 ≤ s ∧ s ≤ p.2) := fun s hs => by
    rw [← h.iff s, decide_eq_true hs, Bool.true_and]
  rcases List.eq_nil_or_concat f with rfl | ⟨f0, p, rfl⟩
  · show Rw [(k, k)] _
    refine ⟨.cons (fun _ z => absurd z List.not_mem_nil) .nil, fun q hq => by rw [List.mem_singleton.mp hq]; exact Nat.le_refl _, fun s => ?_⟩
    rw [Bool.and_eq_true, decide_eq_true_iff]
    constructor
    · rintro ⟨h1, h2⟩
      by_cases c : s < k
      · obtain ⟨q, hq, _⟩ := (old s c).mp h2
        cases hq
      · exact ⟨(k, k), List.mem_singleton.mpr rfl, by show k ≤ s; omega, by show s ≤ k; omega⟩
    · rintro ⟨q, hq, h1, h2⟩
      rw [List.mem_singleton.mp hq] at h1 h2
      have : s = k := Nat.le_antisymm h2 h1
      rw [this]
      exact ⟨by omega, hg⟩
  · rw [List.concat_eq_append] at *
    rw [List.getLast?_concat, List.dropLast_concat]
    have hpw := List.pairwise_append.mp h.pw
    have hpp := lt p (by simp)
    have hple := h.le p (by simp)
    show Rw (if p.2 + 1 = k then f0 ++ [(p.1, k)] else f0 ++ [p] ++ [(k, k)]) _
    by_cases c : p.2 + 1 = k
    · rw [if_pos c]
      refine ⟨List.pairwise_append.mpr ⟨hpw.1, .cons (fun _ z => absurd z List.not_mem_nil) .nil, fun a ha b hb => ?_⟩, fun q hq => ?_, fun s => ?_⟩
      · rw [List.mem_singleton.mp hb]
        exact hpw.2.2 a ha p (List.mem_singleton.mpr rfl)
      · rcases List.mem_append.mp hq with hq | hq
        · exact h.le q (List.mem_append_left _ hq)
        · rw [List.mem_singleton.mp hq]
          show p.1 ≤ k
          omega
      · rw [Bool.and_eq_true, decide_eq_true_iff]
        constructor
        · rintro ⟨h1, h2⟩
          by_cases d : s < k
          · obtain ⟨q, hq, e1, e2⟩ := (old s d).mp h2
            rcases List.mem_append.mp hq with hq | hq
            · exact ⟨q, List.mem_append_left _ hq, e1, e2⟩
            · rw [List.mem_singleton.mp hq] at e1 e2
              exact ⟨(p.1, k), by simp, e1, by show s ≤ k; omega⟩
          · exact ⟨(p.1, k), by simp, by show p.1 ≤ s; omega, by show s ≤ k; omega⟩
        · rintro ⟨q, hq, h1, h2⟩
          rcases List.mem_append.mp hq with hq | hq
          · have h3 := lt q (List.mem_append_left _ hq)
            have h4 := (old s (by omega)).mpr ⟨q, List.mem_append_left _ hq, h1, h2⟩
            exact ⟨by omega, h4⟩
          · rw [List.mem_singleton.mp hq] at h1 h2
            have h1' : p.1 ≤ s := h1
            have h2' : s ≤ k := h2
            by_cases d : s = k
            · rw [d]; exact ⟨by omega, hg⟩
            · exact ⟨by omega, (old s (by omega)).mpr ⟨p, by simp, h1', by omega⟩⟩
    · rw [if_neg c]
      refine ⟨List.pairwise_append.mpr ⟨h.pw, .cons (fun _ z => absurd z List.not_mem_nil) .nil, fun a ha b hb => ?_⟩, fun q hq => ?_, fun s => ?_⟩
      · rw [List.mem_singleton.mp hb]
        show a.2 + 1 < k
        rcases List.mem_append.mp ha with ha | ha
        · have h1 := hpw.2.2 a ha p (List.mem_singleton.mpr rfl)
          omega
        · rw [List.mem_singleton.mp ha]
          omega
      · rcases List.mem_append.mp hq with hq | hq
        · exact h.le q hq
        · rw [List.mem_singleton.mp hq]
          exact Nat.le_refl _
      · rw [Bool.and_eq_true, decide_eq_true_iff]
        constructor
        · rintro ⟨h1, h2⟩
          by_cases d : s < k
          · obtain ⟨q, hq, e1, e2⟩ := (old s d).mp h2
            exact ⟨q, List.mem_append_left _ hq, e1, e2⟩
          · exact ⟨(k, k), by simp, by show k ≤ s; omega, by show s ≤ k; omega⟩
        · rintro ⟨q, hq, h1, h2⟩
          rcases List.mem_append.mp hq with hq | hq
          · have h3 := lt q hq
            exact ⟨by omega, (old s (by omega)).mpr ⟨q, hq, h1, h2⟩⟩
          · rw [List.mem_singleton.mp hq] at h1 h2
            have : s = k := Nat.le_antisymm h2 h1
            rw [this]
            exact ⟨by omega, hg⟩
theorem st1_rw (g : Nat → Bool) : ∀ k, Rw (st1 g k) fun s => decide (s < k) && g s
  | 0 => ⟨.nil, fun _ h => absurd h List.not_mem_nil, fun s => by simp [st1]⟩
  | k + 1 => by
    have ih := st1_rw g k
    unfold st1
    by_cases h : g k = true
    · rw [if_pos h]
      exact rw_step ih h
    · rw [if_neg h]
      refine ⟨ih.pw, ih.le, fun s => ?_⟩
      rw [← ih.iff s]
      by_cases c : s = k
      · subst c
        rw [Bool.not_eq_true] at h
        simp [h]
      · have : (s < k + 1) = (s < k) := by apply propext; omega
        simp only [this]
theorem rw_unique : ∀ (l l' : List (Nat × Nat)) (g : Nat → Bool), Rw l g → Rw l' g → l = l'
  | [], [], _, _, _ => rfl
  | [], p :: l', g, h, h' => by
    have := (h'.iff p.1).mpr ⟨p, List.mem_cons_self, Nat.le_refl _, h'.le p List.mem_cons_self⟩
    obtain ⟨q, hq, _⟩ := (h.iff p.1).mp this
    cases hq
  | p :: l, [], g, h, h' => by
    have := (h.iff p.1).mpr ⟨p, List.mem_cons_self, Nat.le_refl _, h.le p List.mem_cons_self⟩
    obtain ⟨q, hq, _⟩ := (h'.iff p.1).mp this
    cases hq
  | p :: l, p' :: l', g, h, h' => by
    have fst : ∀ {a : Nat × Nat} {m : List (Nat × Nat)}, Rw (a :: m) g → ∀ s, g s = true → a.1 ≤ s ∧ (s ≤ a.2 ∨ a.2 + 1 < s) := by
      intro a m z s hs
      obtain ⟨q, hq, e1, e2⟩ := (z.iff s).mp hs
      rcases List.mem_cons.mp hq with rfl | hq
      · exact ⟨e1, .inl e2⟩
      · have h1 := List.rel_of_pairwise_cons z.pw hq
        have h2 := z.le a List.mem_cons_self
        omega
    have at_ : ∀ {a : Nat × Nat} {m : List (Nat × Nat)}, Rw (a :: m) g → ∀ s, a.1 ≤ s → s ≤ a.2 → g s = true := fun z s h1 h2 => (z.iff s).mpr ⟨_, List.mem_cons_self, h1, h2⟩
    have hp := h.le p List.mem_cons_self
    have hp' := h'.le p' List.mem_cons_self
    have e1 : p.1 = p'.1 := Nat.le_antisymm (fst h _ (at_ h' p'.1 (Nat.le_refl _) hp')).1 (fst h' _ (at_ h p.1 (Nat.le_refl _) hp)).1
    have e2 : p.2 = p'.2 := by
      refine Nat.le_antisymm (Nat.not_lt.mp fun z => ?_) (Nat.not_lt.mp fun z => ?_)
      · have := (fst h' _ (at_ h (p'.2 + 1) (by omega) (by omega))).2
        omega
      · have := (fst h _ (at_ h' (p.2 + 1) (by omega) (by omega))).2
        omega
    have hpp : p = p' := Prod.ext e1 e2
    subst hpp
    have tl : ∀ {m : List (Nat × Nat)}, Rw (p :: m) g → Rw m fun s => decide (p.2 < s) && g s := fun {m} z => by
      refine ⟨(List.pairwise_cons.mp z.pw).2, fun q hq => z.le q (List.mem_cons_of_mem _ hq), fun s => ?_⟩
      rw [Bool.and_eq_true, decide_eq_true_iff, z.iff s]
      constructor
      · rintro ⟨h1, q, hq, h2, h3⟩
        rcases List.mem_cons.mp hq with rfl | hq
        · omega
        · exact ⟨q, hq, h2, h3⟩
      · rintro ⟨q, hq, h2, h3⟩
        have := List.rel_of_pairwise_cons z.pw hq
        exact ⟨by omega, q, List.mem_cons_of_mem _ hq, h2, h3⟩
    rw [rw_unique l l' _ (tl h) (tl h')]
def mirN (p : Nat × Nat) : Nat × Nat := (23 - p.2, 23 - p.1)
theorem mir_rw {l : List (Nat × Nat)} {g : Nat → Bool} (h : Rw l g) (h23 : ∀ p ∈ l, p.2 ≤ 23) : Rw (l.map mirN).reverse fun s => decide (s < 24) && g (23 - s) := by
  refine ⟨?_, fun q hq => ?_, fun s => ?_⟩
  · rw [List.pairwise_reverse, List.pairwise_map]
    refine List.Pairwise.imp_of_mem (fun {a b} ha hb hab => ?_) h.pw
    have h1 := h23 b hb
    have h2 := h.le b hb
    show 23 - b.1 + 1 < 23 - a.2
    omega
  · obtain ⟨p, hp, rfl⟩ := List.mem_map.mp (List.mem_reverse.mp hq)
    have h1 := h.le p hp
    show 23 - p.2 ≤ 23 - p.1
    omega
  · rw [Bool.and_eq_true, decide_eq_true_iff, h.iff]
    constructor
    · rintro ⟨h1, p, hp, h2, h3⟩
      have := h23 p hp
      exact ⟨mirN p, List.mem_reverse.mpr (List.mem_map.mpr ⟨p, hp, rfl⟩), by show 23 - p.2 ≤ s; omega, by show s ≤ 23 - p.1; omega⟩
    · rintro ⟨q, hq, h2, h3⟩
      obtain ⟨p, hp, rfl⟩ := List.mem_map.mp (List.mem_reverse.mp hq)
      have h4 := h23 p hp
      have h5 := h.le p hp
      have h2' : 23 - p.2 ≤ s := h2
      have h3' : s ≤ 23 - p.1 := h3
      exact ⟨by omega, p, hp, by omega, by omega⟩
theorem st1_mir {g g' : Nat → Bool} (h : ∀ s, s < 24 → g' (23 - s) = g s) : ((st1 g 24).map mirN).reverse = st1 g' 24 := by
  have h1 := mir_rw (st1_rw g 24) fun p hp => by have := st1_lt g 24 p hp; omega
  have h2 := st1_rw g' 24
  refine rw_unique _ _ _ h1 ⟨h2.pw, h2.le, fun s => ?_⟩
  rw [← h2.iff s]
  by_cases c : s < 24
  · have := h (23 - s) (by omega)
    rw [show 23 - (23 - s) = s by omega] at this
    rw [this]
    simp [c]
    omega
  · simp [c]
/-! sorting -/
def leN (a b : Nat × Nat) : Bool := !decide (b.1 < a.1 ∨ (b.1 = a.1 ∧ b.2 < a.2))
theorem lt_N (p q : Nat × Nat) : PySem.W.dataLt (encN p) (encN q) = decide (p.1 < q.1 ∨ (p.1 = q.1 ∧ p.2 < q.2)) := by
  unfold encN
  rw [PySem.W.dataLt_pair (by simp [PySem.W.alike]) (by simp [PySem.W.alike]), PySem.W.dataLt_int, PySem.W.dataLt_int]
  obtain ⟨a, b⟩ := p
  obtain ⟨c, d⟩ := q
  by_cases h1 : a = c
  · subst h1
    by_cases h2 : b = d
    · subst h2; simp
    · have e : ((b : Int) < d) = (b < d) := by apply propext; omega
      simp [e]
      omega
  · have : ¬ ((a : Int) = c) := by omega
    have e : ((a : Int) < c) = (a < c) := by apply propext; omega
    simp [h1, this, e]
theorem sort_N (l : List (Nat × Nat)) : sortD (l.map encN) = (l.mergeSort leN).map encN := by
  unfold sortD
  exact (List.map_mergeSort (r := leN) (s := fun a b => !PySem.W.dataLt b a) (f := encN) (fun a _ b _ => by unfold leN; rw [lt_N])).symm
theorem alike_N (p q : Nat × Nat) : PySem.W.alike (encN p) (encN q) = true := by simp [PySem.W.alike, PySem.W.alikeAll, encN]
theorem sortOk_N (l : List (Nat × Nat)) (h : l.length ≤ 16777216) : sortOk (l.map encN) = true := by
  unfold sortOk
  rw [alike_all (enc := encN) (fun _ => rfl) (fun p => dp_encN 59 p) alike_N, Bool.true_and, Bool.and_eq_true, Bool.or_eq_true]
  refine ⟨decide_eq_true (by rw [List.length_map, sizeLine_eq]; exact h), .inl ?_⟩
  rw [List.all_eq_true]
  intro d hd
  obtain ⟨r', hr, rfl⟩ := List.mem_map.mp hd
  rfl
theorem leN_iff (a b : Nat × Nat) : leN a b = true ↔ (a.1 < b.1 ∨ (a.1 = b.1 ∧ a.2 ≤ b.2)) := by
  unfold leN
  rw [Bool.not_eq_true', decide_eq_false_iff_not]
  omega
theorem sort_rows {l : List (Nat × Nat)} {g : Nat → Bool} (h : Rw l.reverse g) : l.mergeSort leN = l.reverse := by
  refine List.Perm.eq_of_pairwise (le := fun a b => leN a b = true) (fun a b _ _ h1 h2 => ?_) (List.pairwise_mergeSort (fun a b c h1 h2 => ?_) (fun a b => ?_) l) ?_ ((List.mergeSort_perm l leN).trans (List.reverse_perm _).symm)
  · rw [leN_iff] at h1 h2
    exact Prod.ext (by omega) (by omega)
  · rw [leN_iff] at *
    omega
  · rw [Bool.or_eq_true, leN_iff, leN_iff]
    omega
  · refine List.Pairwise.imp_of_mem (fun {a b} ha hb hab => ?_) h.pw
    have := h.le a ha
    rw [leN_iff]
    omega
theorem rows_mir {g g' : Nat → Bool} (h : ∀ s, s < 24 → g' (23 - s) = g s) : sortD (((st1 g 24).map mirN).map encN) = (st1 g' 24).map encN := by
  rw [sort_N, sort_rows (g := fun s => decide (s < 24) && g' s) (by rw [st1_mir h]; exact st1_rw g' 24), st1_mir h]
end KK
end
section
namespace KK
open PySem PySem.Spec PyProof.Rows L2 Sky
noncomputable section
/-! stretches: 0 season, 1 spot, 2 night, 3 found, 4 slot -/
def L_stretches_0 : SM :=
    (sIf (bAnd (asB (mCall 3 F_is_dark (aCons (mVar 0) (aCons (mVar 2) (aCons (mVar 4) aNil))))) (asB (mCall 4 F_is_up (aCons (mVar 0) (aCons (mVar 1) (aCons (mVar 2) (aCons (mVar 4) aNil))))))) (sIf (bAnd (asB (mOp gNe (mVar 3) (mLst aNil))) (asB (mOp gEq (mOp gIx (mOp gIx (mVar 3) (mNeg (mC (.int 1)))) (mC (.int 1))) (mOp gSub (mVar 4) (mC (.int 1)))))) (sSub (mVar 3) (mNeg (mC (.int 1))) (mTup (aCons (mOp gIx (mOp gIx (mVar 3) (mNeg (mC (.int 1)))) (mC (.int 0))) (aCons (mVar 4) aNil)))) (sExpr (mApp (mVar 3) (mTup (aCons (mVar 4) (aCons (mVar 4) aNil)))))) sNx)
def B_stretches : SM :=
    (sSeq (sSet 3 (mLstC aNil))
    (sSeq (sFor (iRng1 (mC (.int 24))) (gNm 4) (L_stretches_0))
    (sRet (mVar 3))))
def P_stretches : List PyData → Option PyData := runP 5 (B_stretches)
def F_stretches : Fn := pureF (P_stretches)
/-! _law_mirrored: 0 season, 1 asks, 2 weather, 3 first, 4 last, 5 found, 6 ask, 7 spot -/
def L__law_mirrored_0 : SM :=
    (sSeq (sSet 7 (mTup (aCons (mOp gMod (mOp gSub (mC (.int 46)) (mOp gIx (mOp gIx (mVar 6) (mC (.int 2))) (mC (.int 0)))) (mC (.int 60))) (aCons (mOp gIx (mOp gIx (mVar 6) (mC (.int 2))) (mC (.int 1))) aNil))))
    (sExpr (mApp (mVar 5) (mOp gAdd (mOp gAdd (mSl (mVar 6) oNone (oSome (mC (.int 2)))) (mTup (aCons (mVar 7) aNil))) (mSl (mVar 6) (oSome (mC (.int 3))) oNone)))))
def B__law_mirrored : SM :=
    (sSeq (sAsg (mOp gIx (mOp gIx (mVar 0) (mC (.int 1))) (mC (.int 0))) (gTp 2 (gsCons (gNm 3) (gsCons (gNm 4) gsNil))))
    (sSeq (sSet 5 (mLstC aNil))
    (sSeq (sFor (iSeq (mVar 1)) (gNm 6) (L__law_mirrored_0))
    (sRet (mTup (aCons (mTup (aCons (mC (.int 0)) (aCons (mTup (aCons (mTup (aCons (mOp gSub (mC (.int 23)) (mVar 4)) (aCons (mOp gSub (mC (.int 23)) (mVar 3)) aNil))) aNil)) aNil))) (aCons (mCl cTup (aCons (mVar 5) aNil)) (aCons (mRevT (mVar 2)) aNil))))))))
def P__law_mirrored : List PyData → Option PyData := runP 8 (B__law_mirrored)
def F__law_mirrored : Fn := pureF (P__law_mirrored)
/-- _law_plan_back: 0 asks, 1 plan, 2 long, 3 ask, 4 slot, 5 name -/
def B__law_plan_back : SM :=
    (sSeq (sSet 2 (mCl cDict (aCons (mComp (iSeq (mVar 0)) (gNm 3) bYes (mTup (aCons (mOp gIx (mVar 3) (mC (.int 0))) (aCons (mOp gIx (mVar 3) (mC (.int 4))) aNil))) [3]) aNil)))
    (sRet (mCl cTup (aCons (mCl cSorted (aCons (mComp (iSeq (mVar 1)) (gTp 2 (gsCons (gNm 4) (gsCons (gNm 5) gsNil))) bYes (mTup (aCons (mOp gSub (mOp gSub (mC (.int 24)) (mVar 4)) (mOp gIx (mVar 2) (mVar 5))) (aCons (mVar 5) aNil))) [4, 5]) aNil)) aNil))))
def P__law_plan_back : List PyData → Option PyData := runP 6 (B__law_plan_back)
def F__law_plan_back : Fn := pureF (P__law_plan_back)
/-! law: 0 script, 1 cell, 2 deck, 3 season, 4 asks, 5 weather, 6 back, 7 others, 8 air, 9 one, 10 other, 11 sure, 12 firm, 13 plan, 14 turned, 15 ask, 16 more, 17 told, 18 rows, 19 first, 20 last -/
def L_law_0 (hf : MK → Int) : SM :=
    (sSeq (sSet 14 (mCall 2 F__law_plan_back (aCons (mVar 4) (aCons (mVar 13) aNil))))
    (sSeq (sIf (asB (mOp gIsNT (mCall 5 F_is_plan (aCons (mVar 6) (aCons (mC (.int 0)) (aCons (mVar 7) (aCons (mVar 8) (aCons (mVar 14) aNil)))))) (mC (.bool true)))) (sRet (mC (.bool false))) sNx)
    (sIf (asB (mOp gNe (mCall 3 F_span (aCons (mVar 7) (aCons (mVar 14) (aCons (mVar 8) aNil)))) (mCall 3 F_span (aCons (mVar 4) (aCons (mVar 13) (aCons (mVar 5) aNil)))))) (sRet (mC (.bool false))) sNx)))
def L_law_1 (hf : MK → Int) : SM :=
    (sSeq (sIf (asB (mOp gIn (mVar 15) (mSl (mVar 4) oNone (oSome (mC (.int 2)))))) (sSeq (sSet 17 (mCall 5 (F_price hf) (aCons (mVar 3) (aCons (mC (.int 0)) (aCons (mVar 4) (aCons (mVar 5) (aCons (mOp gIx (mVar 15) (mC (.int 0))) aNil)))))))
    (sIf (asB (mOp gNe (mVar 17) (mCall 5 (F_price hf) (aCons (mVar 6) (aCons (mC (.int 0)) (aCons (mVar 7) (aCons (mVar 8) (aCons (mOp gIx (mVar 15) (mC (.int 0))) aNil)))))))) (sRet (mC (.bool false))) sNx)) sNx)
    (sSeq (sSet 18 (mComp (iSeq (mCall 3 F_stretches (aCons (mVar 3) (aCons (mOp gIx (mVar 15) (mC (.int 2))) (aCons (mC (.int 0)) aNil))))) (gTp 2 (gsCons (gNm 19) (gsCons (gNm 20) gsNil))) bYes (mTup (aCons (mOp gSub (mC (.int 23)) (mVar 20)) (aCons (mOp gSub (mC (.int 23)) (mVar 19)) aNil))) [19, 20]))
    (sIf (asB (mOp gNe (mCl cSorted (aCons (mVar 18) aNil)) (mCall 3 F_stretches (aCons (mVar 6) (aCons (mOp gIx (mVar 16) (mC (.int 2))) (aCons (mC (.int 0)) aNil)))))) (sRet (mC (.bool false))) sNx)))
def L_law_2 (hf : MK → Int) : SM :=
    (sSeq (sSet 2 (mCall 2 F__law_deck (aCons (mVar 1) (aCons (mC (.int 19)) aNil))))
    (sSeq (sSet 3 (mTup (aCons (mC (.int 0)) (aCons (mOp gIx (mCall 2 F__law_season (aCons (mVar 2) (aCons (mC (.int 1)) aNil))) (mC (.int 1))) aNil))))
    (sSeq (sPar 4 5 (aCons (mCall 3 F__law_asks (aCons (mVar 2) (aCons (mVar 3) (aCons (mC (.int 4)) aNil)))) (aCons (mCall 1 F__law_weather (aCons (mVar 2) aNil)) aNil)))
    (sSeq (sAsg (mCall 3 F__law_mirrored (aCons (mVar 3) (aCons (mVar 4) (aCons (mVar 5) aNil)))) (gTp 3 (gsCons (gNm 6) (gsCons (gNm 7) (gsCons (gNm 8) gsNil)))))
    (sSeq (sPar 9 10 (aCons (mCall 4 (F_best_plan hf) (aCons (mVar 3) (aCons (mC (.int 0)) (aCons (mVar 4) (aCons (mVar 5) aNil))))) (aCons (mCall 4 (F_best_plan hf) (aCons (mVar 6) (aCons (mC (.int 0)) (aCons (mVar 7) (aCons (mVar 8) aNil))))) aNil)))
    (sSeq (sIf (asB (mOp gNe (mCall 2 F_worth (aCons (mVar 4) (aCons (mVar 9) aNil))) (mCall 2 F_worth (aCons (mVar 7) (aCons (mVar 10) aNil))))) (sRet (mC (.bool false))) sNx)
    (sSeq (sPar 11 12 (aCons (mCall 4 (F_surest_plan hf) (aCons (mVar 3) (aCons (mC (.int 0)) (aCons (mVar 4) (aCons (mVar 5) aNil))))) (aCons (mCall 4 (F_surest_plan hf) (aCons (mVar 6) (aCons (mC (.int 0)) (aCons (mVar 7) (aCons (mVar 8) aNil))))) aNil)))
    (sSeq (sIf (asB (mOp gNe (mCall 3 F_span (aCons (mVar 4) (aCons (mVar 11) (aCons (mVar 5) aNil)))) (mCall 3 F_span (aCons (mVar 7) (aCons (mVar 12) (aCons (mVar 8) aNil)))))) (sRet (mC (.bool false))) sNx)
    (sSeq (sFor (iSeq (mTup (aCons (mVar 9) (aCons (mVar 11) (aCons (mSl (mVar 9) oNone (oSome (mC (.int 1)))) aNil))))) (gNm 13) (L_law_0 hf))
    (sFor (iZip (aCons (mVar 4) (aCons (mVar 7) aNil))) (gTp 2 (gsCons (gNm 15) (gsCons (gNm 16) gsNil))) (L_law_1 hf)))))))))))
def B_law (hf : MK → Int) : SM :=
    (sSeq (sFor (iSeq (mOp gAdd (mLst (aCons (mC (.int 0)) aNil)) (mSl (mVar 0) oNone (oSome (mC (.int 5)))))) (gNm 1) (L_law_2 hf))
    (sRet (mC (.bool true))))
def F_law (hf : MK → Int) : Fn := runF 21 (B_law hf)
end
end KK
namespace KK
open PySem PySem.Spec PyProof.Rows L2 Sky
def topS (i : Nat) : Stmt := PySem.Challenge.pw_skynights_k19_whole_nights_mirrored.main.body.getD i (.Pass ⟨0, 0, 0, 0⟩)
abbrev s_is_from : Stmt := topS 3
abbrev s_middle : Stmt := topS 4
abbrev s_is_up : Stmt := topS 5
abbrev s_is_dark : Stmt := topS 6
abbrev s_stretches : Stmt := topS 7
abbrev s_slots_of : Stmt := topS 10
abbrev s_may_begin : Stmt := topS 11
abbrev s_begins : Stmt := topS 12
abbrev s_table_of : Stmt := topS 13
abbrev s_are_apart : Stmt := topS 14
abbrev s_is_plan : Stmt := topS 15
abbrev s_worth : Stmt := topS 16
abbrev s_is_sure : Stmt := topS 17
abbrev s_Night___init__ : Stmt := inClass (topS 18) 0
abbrev s_Night_has_room : Stmt := inClass (topS 18) 1
abbrev s_Night_places : Stmt := inClass (topS 18) 2
abbrev s_Night_value : Stmt := inClass (topS 18) 3
abbrev s_Night_best : Stmt := inClass (topS 18) 4
abbrev s_Night_plan : Stmt := inClass (topS 18) 5
abbrev s_best_plan : Stmt := topS 19
abbrev s_price : Stmt := topS 20
abbrev s_span : Stmt := topS 21
abbrev s_surest_plan : Stmt := topS 22
abbrev s__law_deck : Stmt := topS 24
abbrev s__law_pick : Stmt := topS 25
abbrev s__law_season : Stmt := topS 26
abbrev s__law_asks : Stmt := topS 29
abbrev s__law_weather : Stmt := topS 30
abbrev s__law_mirrored : Stmt := topS 32
abbrev s__law_plan_back : Stmt := topS 33
abbrev s_law : Stmt := topS 34
structure Glob (K : PySem.W.Frag) (mg : MG) : Prop where
  b_abs : mg "abs" = none
  b_all : mg "all" = none
  b_bool : mg "bool" = none
  b_dict : mg "dict" = none
  b_int : mg "int" = none
  b_isinstance : mg "isinstance" = none
  b_len : mg "len" = none
  b_list : mg "list" = none
  b_min : mg "min" = none
  b_range : mg "range" = none
  b_set : mg "set" = none
  b_sorted : mg "sorted" = none
  b_str : mg "str" = none
  b_sum : mg "sum" = none
  b_tuple : mg "tuple" = none
  b_zip : mg "zip" = none
  i_MUCH : ∃ t, mg "MUCH" = some (.int 1000 t)
  i_RING : ∃ t, mg "RING" = some (.int 60 t)
  i_SLOTS : ∃ t, mg "SLOTS" = some (.int 24 t)
structure Txt (K : PySem.W.Frag) (mg : MG) : Prop where
  is_from : TX K mg "is_from" "is_from" s_is_from ["thing", "low", "high"]
  middle : TX K mg "middle" "middle" s_middle ["season", "night", "slot"]
  is_up : TX K mg "is_up" "is_up" s_is_up ["season", "spot", "night", "slot"]
  is_dark : TX K mg "is_dark" "is_dark" s_is_dark ["season", "night", "slot"]
  stretches : TX K mg "stretches" "stretches" s_stretches ["season", "spot", "night"]
  slots_of : TX K mg "slots_of" "slots_of" s_slots_of ["ask", "slot"]
  may_begin : TX K mg "may_begin" "may_begin" s_may_begin ["season", "night", "ask", "weather", "slot"]
  begins : TX K mg "begins" "begins" s_begins ["season", "night", "ask", "weather"]
  table_of : TX K mg "table_of" "table_of" s_table_of ["asks"]
  are_apart : TX K mg "are_apart" "are_apart" s_are_apart ["runs"]
  is_plan : TX K mg "is_plan" "is_plan" s_is_plan ["season", "night", "asks", "weather", "thing"]
  worth : TX K mg "worth" "worth" s_worth ["asks", "plan"]
  is_sure : TX K mg "is_sure" "is_sure" s_is_sure ["ask", "weather", "slot"]
  Night___init__ : TXK K mg "Night" "Night.__init__" s_Night___init__ ["self", "season", "night", "asks", "weather"]
  Night_has_room : TXM K mg "Night" "has_room" "Night.has_room" s_Night_has_room ["self", "name", "left"]
  Night_places : TXM K mg "Night" "places" "Night.places" s_Night_places ["self", "name", "free"]
  Night_value : TXM K mg "Night" "value" "Night.value" s_Night_value ["self", "name", "slot"]
  Night_best : TXM K mg "Night" "best" "Night.best" s_Night_best ["self", "free", "tool", "left"]
  Night_plan : TXM K mg "Night" "plan" "Night.plan" s_Night_plan ["self"]
  best_plan : TX K mg "best_plan" "best_plan" s_best_plan ["season", "night", "asks", "weather"]
  price : TX K mg "price" "price" s_price ["season", "night", "asks", "weather", "name"]
  span : TX K mg "span" "span" s_span ["asks", "plan", "weather"]
  surest_plan : TX K mg "surest_plan" "surest_plan" s_surest_plan ["season", "night", "asks", "weather"]
  _law_deck : TX K mg "_law_deck" "_law_deck" s__law_deck ["cell", "turn"]
  _law_pick : TX K mg "_law_pick" "_law_pick" s__law_pick ["deck", "limit"]
  _law_season : TX K mg "_law_season" "_law_season" s__law_season ["deck", "most"]
  _law_asks : TX K mg "_law_asks" "_law_asks" s__law_asks ["deck", "season", "most"]
  _law_weather : TX K mg "_law_weather" "_law_weather" s__law_weather ["deck"]
  _law_mirrored : TX K mg "_law_mirrored" "_law_mirrored" s__law_mirrored ["season", "asks", "weather"]
  _law_plan_back : TX K mg "_law_plan_back" "_law_plan_back" s__law_plan_back ["asks", "plan"]
  law : TX K mg "law" "law" s_law ["script"]
  f_Night_known : TC K mg "Night" "known"
  f_Night_room : TC K mg "Night" "room"
  f_Night_spots : TC K mg "Night" "spots"
  f_Night_sure : TC K mg "Night" "sure"
  f_Night_table : TC K mg "Night" "table"
  f_Night_weather : TC K mg "Night" "weather"
  f_Night_worths : TC K mg "Night" "worths"
section
variable {P : Program} {w : World} {K : PySem.W.Frag} {mg : MG} {base : Heap}
theorem sc_is_from : FnScope ["thing", "low", "high"] ["thing", "low", "high"] (defScope s_is_from) := ⟨rfl, rfl, rfl, by decide +kernel, rfl, by decide +kernel, by decide +kernel⟩
theorem ok_is_from (G : Glob K mg) (T : Txt K mg) : FM P w K mg base 1 "is_from" 3 (F_is_from) := fm_pure T.is_from sc_is_from rfl rfl fun f cdv A outer s H E c =>
    (pmb_one (pms_ret (pm_and (pm_isi isi_int rfl G.b_isinstance rfl G.b_int (by decide +kernel) (pm_var 0)) (pm_and (pm_not (pm_isi isi_bool rfl G.b_isinstance rfl G.b_bool (by decide +kernel) (pm_var 0))) (pm_one (pm_chain o_le o_le (pm_var 1) (pm_var 0) (pm_var 2)))))))
theorem sc_middle : FnScope ["season", "night", "slot"] ["season", "night", "slot"] (defScope s_middle) := ⟨rfl, rfl, rfl, by decide +kernel, rfl, by decide +kernel, by decide +kernel⟩
theorem ok_middle (G : Glob K mg) (T : Txt K mg) : FM P w K mg base 1 "middle" 3 (F_middle) := fm_pure T.middle sc_middle rfl rfl fun f cdv A outer s H E c =>
    (pmb_one (pms_ret (pm_op o_mod (pm_op o_add (pm_op o_mul (pm_ix c.hu1 (pm_var 0) pm_int) (pm_var 1)) (pm_op o_mul pm_int (pm_var 2))) (pm_gint rfl G.i_RING))))
theorem sc_is_up : FnScope ["season", "spot", "night", "slot", "way"] ["season", "spot", "night", "slot"] (defScope s_is_up) := ⟨rfl, rfl, rfl, by decide +kernel, rfl, by decide +kernel, by decide +kernel⟩
theorem ok_is_up (G : Glob K mg) (T : Txt K mg) : FM P w K mg base 2 "is_up" 4 (F_is_up) := fm_pure T.is_up sc_is_up rfl rfl fun f cdv A outer s H E c =>
    (pmb_cons (pms_set 4 c.nd (pm_callB k_abs rfl G.b_abs (by decide +kernel) (pma_cons (pm_op o_sub (pm_ix c.hu1 (pm_var 1) pm_int) (pm_call c ((ok_middle G T).mono (by decide)) (pma_cons (pm_var 0) (pma_cons (pm_var 2) (pma_cons (pm_var 3) pma_nil))))) pma_nil)))
    (pmb_one (pms_ret (pm_cmp o_le (pm_callB (k_min2 c.calm) rfl G.b_min (by decide +kernel) (pma_cons (pm_var 4) (pma_cons (pm_op o_sub (pm_gint rfl G.i_RING) (pm_var 4)) pma_nil))) (pm_ix c.hu1 (pm_var 1) pm_int)))))
theorem sc_is_dark : FnScope ["season", "night", "slot", "first", "last"] ["season", "night", "slot"] (defScope s_is_dark) := ⟨rfl, rfl, rfl, by decide +kernel, rfl, by decide +kernel, by decide +kernel⟩
theorem ok_is_dark (G : Glob K mg) (T : Txt K mg) : FM P w K mg base 1 "is_dark" 3 (F_is_dark) := fm_pure T.is_dark sc_is_dark rfl rfl fun f cdv A outer s H E c =>
    (pmb_cons (pms_asg (pm_ix c.hu1 (pm_ix c.hu1 (pm_var 0) pm_int) (pm_var 1)) (pmg_tup c.calm (pmgs_cons (pmg_nm 3 c.nd) (pmgs_cons (pmg_nm 4 c.nd) pmgs_nil))))
    (pmb_one (pms_ret (pm_chain o_le o_le (pm_var 3) (pm_var 2) (pm_var 4)))))
theorem sc_stretches : FnScope ["season", "spot", "night", "found", "slot"] ["season", "spot", "night"] (defScope s_stretches) := ⟨rfl, rfl, rfl, by decide +kernel, rfl, by decide +kernel, by decide +kernel⟩
theorem ok_stretches (G : Glob K mg) (T : Txt K mg) : FM P w K mg base 3 "stretches" 3 (F_stretches) := fm_pure T.stretches sc_stretches rfl rfl fun f cdv A outer s H E c =>
    (pmb_cons (pms_set 3 c.nd (pm_lstC pma_nil))
    (pmb_cons (pms_for c.own c.calm (pmi_range1 rfl G.b_range (pm_gint rfl G.i_SLOTS)) (pmg_nm 4 c.nd) (pmb_one (pms_if (pmt_bo (pmw_and (pmt_val (pm_call c ((ok_is_dark G T).mono (by decide)) (pma_cons (pm_var 0) (pma_cons (pm_var 2) (pma_cons (pm_var 4) pma_nil))))) (pmw_and1 (pmt_val (pm_call c ((ok_is_up G T).mono (by decide)) (pma_cons (pm_var 0) (pma_cons (pm_var 1) (pma_cons (pm_var 2) (pma_cons (pm_var 4) pma_nil))))))))) (pmb_one (pms_if (pmt_bo (pmw_and (pmt_cmp (o_ne c.hu) (pm_var 3) (pm_lst pma_nil)) (pmw_and1 (pmt_cmp (o_eq c.hu) (pm_ix c.hu1 (pm_ix c.hu1 (pm_var 3) (pm_neg pm_int)) pm_int) (pm_op o_sub (pm_var 4) pm_int))))) (pmb_one (pms_sub c.hu1 (pm_var 3) (pm_neg pm_int) (pm_tup (pma_cons (pm_ix c.hu1 (pm_ix c.hu1 (pm_var 3) (pm_neg pm_int)) pm_int) (pma_cons (pm_var 4) pma_nil))))) (pmb_one (pms_expr (pm_app (pm_var 3) (pm_tup (pma_cons (pm_var 4) (pma_cons (pm_var 4) pma_nil)))))))) pmb_nil)))
    (pmb_one (pms_ret (pm_var 3)))))
theorem sc_slots_of : FnScope ["ask", "slot"] ["ask", "slot"] (defScope s_slots_of) := ⟨rfl, rfl, rfl, by decide +kernel, rfl, by decide +kernel, by decide +kernel⟩
theorem ok_slots_of (G : Glob K mg) (T : Txt K mg) : FM P w K mg base 1 "slots_of" 2 (F_slots_of) := fm_pure T.slots_of sc_slots_of rfl rfl fun f cdv A outer s H E c =>
    (pmb_one (pms_ret (pm_lrg2 c.calm rfl G.b_list rfl G.b_range (pm_var 1) (pm_op o_add (pm_var 1) (pm_ix c.hu1 (pm_var 0) pm_int)))))
theorem sc_may_begin : FnScope ["season", "night", "ask", "weather", "slot", "here"] ["season", "night", "ask", "weather", "slot"] (defScope s_may_begin) := ⟨rfl, rfl, rfl, by decide +kernel, rfl, by decide +kernel, by decide +kernel⟩
theorem ok_may_begin (G : Glob K mg) (T : Txt K mg) : FM P w K mg base 3 "may_begin" 5 (F_may_begin) := fm_pure T.may_begin sc_may_begin rfl rfl fun f cdv A outer s H E c =>
    (pmb_cons (pms_for c.own c.calm (pmi_seq (pm_call c ((ok_slots_of G T).mono (by decide)) (pma_cons (pm_var 2) (pma_cons (pm_var 4) pma_nil)))) (pmg_nm 5 c.nd) (pmb_cons (pms_if (pmt_bo (pmw_or (pmt_not (pmt_val (pm_call c ((ok_is_dark G T).mono (by decide)) (pma_cons (pm_var 0) (pma_cons (pm_var 1) (pma_cons (pm_var 5) pma_nil)))))) (pmw_or1 (pmt_not (pmt_val (pm_call c ((ok_is_up G T).mono (by decide)) (pma_cons (pm_var 0) (pma_cons (pm_ix c.hu1 (pm_var 2) pm_int) (pma_cons (pm_var 1) (pma_cons (pm_var 5) pma_nil)))))))))) (pmb_one (pms_ret pm_bl)) pmb_nil)
    (pmb_one (pms_if (pmt_cmp o_lt (pm_ix c.hu1 (pm_ix c.hu1 (pm_var 3) (pm_var 5)) pm_int) (pm_ix c.hu1 (pm_var 2) pm_int)) (pmb_one (pms_ret pm_bl)) pmb_nil))))
    (pmb_one (pms_ret pm_bl)))
theorem sc_begins : FnScope ["season", "night", "ask", "weather", "first", "last", "slot"] ["season", "night", "ask", "weather"] (defScope s_begins) := ⟨rfl, rfl, rfl, by decide +kernel, rfl, by decide +kernel, by decide +kernel⟩
theorem ok_begins (G : Glob K mg) (T : Txt K mg) : FM P w K mg base 4 "begins" 4 (F_begins) := fm_pure T.begins sc_begins rfl rfl fun f cdv A outer s H E c =>
    (pmb_cons (pms_asg (pm_ix c.hu1 (pm_ix c.hu1 (pm_var 0) pm_int) (pm_var 1)) (pmg_tup c.calm (pmgs_cons (pmg_nm 4 c.nd) (pmgs_cons (pmg_nm 5 c.nd) pmgs_nil))))
    (pmb_one (pms_ret (pm_comp (own := [("slot", 6)]) (sl := [6]) c.calm c.nd (pmi_range2 rfl G.b_range (pm_var 4) (pm_op o_add (pm_var 5) pm_int)) (blkOk_by (N := ["season", "night", "ask", "weather", "first", "last", "slot"]) (sc := defScope s_begins) (by decide +kernel)) (fun _ _ _ _ _ => (pmg_nm 6 (c.blk).nd)) (fun _ _ _ _ _ => (pmts_one (pmt_val (pm_call (c.blk) ((ok_may_begin G T).mono (by decide)) (pma_cons (pm_var 0) (pma_cons (pm_var 1) (pma_cons (pm_var 2) (pma_cons (pm_var 3) (pma_cons (pm_var 6) pma_nil))))))))) (fun _ _ _ _ _ => (pm_var 6))))))
theorem sc_table_of : FnScope ["asks", "ask"] ["asks"] (defScope s_table_of) := ⟨rfl, rfl, rfl, by decide +kernel, rfl, by decide +kernel, by decide +kernel⟩
theorem ok_table_of (G : Glob K mg) (T : Txt K mg) : FM P w K mg base 1 "table_of" 1 (F_table_of) := fm_pure T.table_of sc_table_of rfl rfl fun f cdv A outer s H E c =>
    (pmb_one (pms_ret (pm_dc (own := [("ask", 1)]) (sl := [1]) c.calm c.nd (pmi_seq (pm_var 0)) (blkOk_by (N := ["asks", "ask"]) (sc := defScope s_table_of) (by decide +kernel)) (fun _ _ _ _ _ => (pmg_nm 1 (c.blk).nd)) (fun _ _ _ _ _ => pmts_nil) (fun _ _ _ _ _ => (pm_ix (c.blk).hu1 (pm_var 1) pm_int)) (fun _ _ _ _ _ => (pm_var 1)))))
theorem sc_are_apart : FnScope ["runs", "slot", "ask", "later", "other"] ["runs"] (defScope s_are_apart) := ⟨rfl, rfl, rfl, by decide +kernel, rfl, by decide +kernel, by decide +kernel⟩
theorem ok_are_apart (G : Glob K mg) (T : Txt K mg) : FM P w K mg base 1 "are_apart" 1 (F_are_apart) := fm_pure T.are_apart sc_are_apart rfl rfl fun f cdv A outer s H E c =>
    (pmb_cons (pms_for c.own c.calm (pmi_zip rfl G.b_zip (pma_cons (pm_var 0) (pma_cons (pm_sl (pm_var 0) (pmo_some pm_int) pmo_none) pma_nil))) (pmg_tup c.calm (pmgs_cons (pmg_tup c.calm (pmgs_cons (pmg_nm 1 c.nd) (pmgs_cons (pmg_nm 2 c.nd) pmgs_nil))) (pmgs_cons (pmg_tup c.calm (pmgs_cons (pmg_nm 3 c.nd) (pmgs_cons (pmg_nm 4 c.nd) pmgs_nil))) pmgs_nil))) (pmb_one (pms_if (pmt_cmp o_lt (pm_var 3) (pm_op o_add (pm_op o_add (pm_var 1) (pm_ix c.hu1 (pm_var 2) pm_int)) (pm_callT k_int rfl G.b_int (by decide +kernel) (pma_cons (pm_cmp (o_ne c.hu) (pm_ix c.hu1 (pm_var 2) pm_int) (pm_ix c.hu1 (pm_var 4) pm_int)) pma_nil)))) (pmb_one (pms_ret pm_bl)) pmb_nil)))
    (pmb_one (pms_ret pm_bl)))
theorem sc_is_plan : FnScope ["season", "night", "asks", "weather", "thing", "table", "run", "names", "slot", "name"] ["season", "night", "asks", "weather", "thing"] (defScope s_is_plan) := ⟨rfl, rfl, rfl, by decide +kernel, rfl, by decide +kernel, by decide +kernel⟩
theorem ok_is_plan (G : Glob K mg) (T : Txt K mg) : FM P w K mg base 4 "is_plan" 5 (F_is_plan) := fm_pure T.is_plan sc_is_plan rfl rfl fun f cdv A outer s H E c =>
    (pmb_cons (pms_set 5 c.nd (pm_call c ((ok_table_of G T).mono (by decide)) (pma_cons (pm_var 2) pma_nil)))
    (pmb_cons (pms_if (pmt_not (pmt_val (pm_isi isi_tuple rfl G.b_isinstance rfl G.b_tuple (by decide +kernel) (pm_var 4)))) (pmb_one (pms_ret pm_bl)) pmb_nil)
    (pmb_cons (pms_for c.own c.calm (pmi_seq (pm_var 4)) (pmg_nm 6 c.nd) (pmb_cons (pms_if (pmt_bo (pmw_or (pmt_not (pmt_val (pm_isi isi_tuple rfl G.b_isinstance rfl G.b_tuple (by decide +kernel) (pm_var 6)))) (pmw_or (pmt_cmp (o_ne c.hu) (pm_callB k_len rfl G.b_len (by decide +kernel) (pma_cons (pm_var 6) pma_nil)) pm_int) (pmw_or1 (pmt_not (pmt_val (pm_call c ((ok_is_from G T).mono (by decide)) (pma_cons (pm_ix c.hu1 (pm_var 6) pm_int) (pma_cons pm_int (pma_cons pm_int pma_nil)))))))))) (pmb_one (pms_ret pm_bl)) pmb_nil)
    (pmb_cons (pms_if (pmt_bo (pmw_or (pmt_not (pmt_val (pm_isi isi_str rfl G.b_isinstance rfl G.b_str (by decide +kernel) (pm_ix c.hu1 (pm_var 6) pm_int)))) (pmw_or1 (pmt_cmp (o_nin c.hu) (pm_ix c.hu1 (pm_var 6) pm_int) (pm_var 5))))) (pmb_one (pms_ret pm_bl)) pmb_nil)
    (pmb_one (pms_if (pmt_not (pmt_val (pm_call c ((ok_may_begin G T).mono (by decide)) (pma_cons (pm_var 0) (pma_cons (pm_var 1) (pma_cons (pm_ix c.hu1 (pm_var 5) (pm_ix c.hu1 (pm_var 6) pm_int)) (pma_cons (pm_var 3) (pma_cons (pm_ix c.hu1 (pm_var 6) pm_int) pma_nil)))))))) (pmb_one (pms_ret pm_bl)) pmb_nil)))))
    (pmb_cons (pms_setLc (own := [("slot", 8), ("name", 9)]) (sl := [8, 9]) 7 c.calm c.nd (pmi_seq (pm_var 4)) (blkOk_by (N := ["season", "night", "asks", "weather", "thing", "table", "run", "names", "slot", "name"]) (sc := defScope s_is_plan) (by decide +kernel)) (sw_true rfl rfl rfl (by decide +kernel)) (fun _ _ _ _ _ => (pmg_tup (c.blk).calm (pmgs_cons (pmg_nm 8 (c.blk).nd) (pmgs_cons (pmg_nm 9 (c.blk).nd) pmgs_nil)))) (fun _ _ _ _ _ => pmts_nil) (fun _ _ _ _ _ => (pm_var 9)))
    (pmb_cons (pms_if (pmt_bo (pmw_or (pmt_cmp (o_ne c.hu) (pm_lenset c.calm rfl G.b_len rfl G.b_set (pm_var 7)) (pm_callB k_len rfl G.b_len (by decide +kernel) (pma_cons (pm_var 7) pma_nil))) (pmw_or1 (pmt_cmp (o_ne c.hu) (pm_callT k_lst rfl G.b_list (by decide +kernel) (pma_cons (pm_var 4) pma_nil)) (pm_callB (k_sorted c.hu) rfl G.b_sorted (by decide +kernel) (pma_cons (pm_var 4) pma_nil)))))) (pmb_one (pms_ret pm_bl)) pmb_nil)
    (pmb_one (pms_ret (pm_call c ((ok_are_apart G T).mono (by decide)) (pma_cons (pm_comp (own := [("slot", 8), ("name", 9)]) (sl := [8, 9]) c.calm c.nd (pmi_seq (pm_var 4)) (blkOk_by (N := ["season", "night", "asks", "weather", "thing", "table", "run", "names", "slot", "name"]) (sc := defScope s_is_plan) (by decide +kernel)) (fun _ _ _ _ _ => (pmg_tup (c.blk).calm (pmgs_cons (pmg_nm 8 (c.blk).nd) (pmgs_cons (pmg_nm 9 (c.blk).nd) pmgs_nil)))) (fun _ _ _ _ _ => pmts_nil) (fun _ _ _ _ _ => (pm_tup (pma_cons (pm_var 8) (pma_cons (pm_ix (c.blk).hu1 (pm_var 5) (pm_var 9)) pma_nil))))) pma_nil)))))))))
theorem sc_worth : FnScope ["asks", "plan", "table", "slot", "name"] ["asks", "plan"] (defScope s_worth) := ⟨rfl, rfl, rfl, by decide +kernel, rfl, by decide +kernel, by decide +kernel⟩
theorem ok_worth (G : Glob K mg) (T : Txt K mg) : FM P w K mg base 2 "worth" 2 (F_worth) := fm_pure T.worth sc_worth rfl rfl fun f cdv A outer s H E c =>
    (pmb_cons (pms_set 2 c.nd (pm_call c ((ok_table_of G T).mono (by decide)) (pma_cons (pm_var 0) pma_nil)))
    (pmb_one (pms_ret (pm_callB (k_sum c.calm) rfl G.b_sum (by decide +kernel) (pma_cons (pm_comp (own := [("slot", 3), ("name", 4)]) (sl := [3, 4]) c.calm c.nd (pmi_seq (pm_var 1)) (blkOk_by (N := ["asks", "plan", "table", "slot", "name"]) (sc := defScope s_worth) (by decide +kernel)) (fun _ _ _ _ _ => (pmg_tup (c.blk).calm (pmgs_cons (pmg_nm 3 (c.blk).nd) (pmgs_cons (pmg_nm 4 (c.blk).nd) pmgs_nil)))) (fun _ _ _ _ _ => pmts_nil) (fun _ _ _ _ _ => (pm_ix (c.blk).hu1 (pm_ix (c.blk).hu1 (pm_var 2) (pm_var 4)) pm_int))) pma_nil)))))
theorem sc_is_sure : FnScope ["ask", "weather", "slot", "here"] ["ask", "weather", "slot"] (defScope s_is_sure) := ⟨rfl, rfl, rfl, by decide +kernel, rfl, by decide +kernel, by decide +kernel⟩
theorem ok_is_sure (G : Glob K mg) (T : Txt K mg) : FM P w K mg base 2 "is_sure" 3 (F_is_sure) := fm_pure T.is_sure sc_is_sure rfl rfl fun f cdv A outer s H E c =>
    (pmb_one (pms_ret (pm_callB (k_all c.calm) rfl G.b_all (by decide +kernel) (pma_cons (pm_comp (own := [("here", 3)]) (sl := [3]) c.calm c.nd (pmi_seq (pm_call c ((ok_slots_of G T).mono (by decide)) (pma_cons (pm_var 0) (pma_cons (pm_var 2) pma_nil)))) (blkOk_by (N := ["ask", "weather", "slot", "here"]) (sc := defScope s_is_sure) (by decide +kernel)) (fun _ _ _ _ _ => (pmg_nm 3 (c.blk).nd)) (fun _ _ _ _ _ => pmts_nil) (fun _ _ _ _ _ => (pm_cmp o_ge (pm_ix (c.blk).hu1 (pm_ix (c.blk).hu1 (pm_var 1) (pm_var 3)) pm_int) (pm_ix (c.blk).hu1 (pm_var 0) pm_int)))) pma_nil))))
theorem sc_Night___init__ : FnScope ["self", "season", "night", "asks", "weather", "ask"] ["self", "season", "night", "asks", "weather"] (defScope s_Night___init__) := ⟨rfl, rfl, rfl, by decide +kernel, rfl, by decide +kernel, by decide +kernel⟩
theorem ok_Night___init__ (G : Glob K mg) (T : Txt K mg) : FMK P w K mg base 5 "Night" 4 (F_Night___init__ (mkHash P w)) := fmk_full T.Night___init__ sc_Night___init__ rfl rfl fun f cdv A outer s H E c =>
    (pmb_cons (pms_fl T.f_Night_table (pm_var 0) (pm_call c ((ok_table_of G T).mono (by decide)) (pma_cons (pm_var 3) pma_nil)))
    (pmb_cons (pms_fl T.f_Night_weather (pm_var 0) (pm_var 4))
    (pmb_cons (pms_fl T.f_Night_spots (pm_var 0) (pm_dc (own := [("ask", 5)]) (sl := [5]) c.calm c.nd (pmi_seq (pm_var 3)) (blkOk_by (N := ["self", "season", "night", "asks", "weather", "ask"]) (sc := defScope s_Night___init__) (by decide +kernel)) (fun _ _ _ _ _ => (pmg_nm 5 (c.blk).nd)) (fun _ _ _ _ _ => pmts_nil) (fun _ _ _ _ _ => (pm_ix (c.blk).hu1 (pm_var 5) pm_int)) (fun _ _ _ _ _ => (pm_call (c.blk) ((ok_begins G T).mono (by decide)) (pma_cons (pm_var 1) (pma_cons (pm_var 2) (pma_cons (pm_var 5) (pma_cons (pm_var 4) pma_nil))))))))
    (pmb_cons (pms_fl T.f_Night_worths (pm_var 0) (pm_dcC (own := [("ask", 5)]) (sl := [5]) c.calm c.nd (pmi_seq (pm_var 3)) (blkOk_by (N := ["self", "season", "night", "asks", "weather", "ask"]) (sc := defScope s_Night___init__) (by decide +kernel)) (fun _ _ _ _ _ => (pmg_nm 5 (c.blk).nd)) (fun _ _ _ _ _ => pmts_nil) (fun _ _ _ _ _ => (pm_ix (c.blk).hu1 (pm_var 5) pm_int)) (fun _ _ _ _ _ => (pm_ix (c.blk).hu1 (pm_var 5) pm_int))))
    (pmb_cons (pms_fl T.f_Night_room (pm_var 0) pm_non)
    (pmb_cons (pms_fl T.f_Night_sure (pm_var 0) pm_bl)
    (pmb_one (pms_fl T.f_Night_known (pm_var 0) (pm_mem _)))))))))
theorem sc_Night_has_room : FnScope ["self", "name", "left", "house", "planned", "ask"] ["self", "name", "left"] (defScope s_Night_has_room) := ⟨rfl, rfl, rfl, by decide +kernel, rfl, by decide +kernel, by decide +kernel⟩
theorem ok_Night_has_room (G : Glob K mg) (T : Txt K mg) : FMM P w K mg base 1 "Night" "has_room" 3 (F_Night_has_room) := FMM.gc (fmm_full T.Night_has_room sc_Night_has_room rfl rfl fun f cdv A outer s H E c =>
    (pmb_cons (pms_if (pmt_cmp o_is (pm_fld T.f_Night_room (pm_var 0)) pm_non) (pmb_one (pms_ret pm_bl)) pmb_nil)
    (pmb_cons (pms_set 3 c.nd (pm_ix c.hu1 (pm_ix c.hu1 (pm_fld T.f_Night_table (pm_var 0)) (pm_var 1)) pm_int))
    (pmb_cons (pms_setLc (own := [("ask", 5)]) (sl := [5]) 4 c.calm c.nd (pmi_values (pm_fld T.f_Night_table (pm_var 0))) (blkOk_by (N := ["self", "name", "left", "house", "planned", "ask"]) (sc := defScope s_Night_has_room) (by decide +kernel)) (sw_true rfl rfl rfl (by decide +kernel)) (fun _ _ _ _ _ => (pmg_nm 5 (c.blk).nd)) (fun _ _ _ _ _ => (pmts_one (pmt_bo (pmw_and (pmt_cmp (o_eq (c.blk).hu) (pm_ix (c.blk).hu1 (pm_var 5) pm_int) (pm_var 3)) (pmw_and1 (pmt_cmp (o_nin (c.blk).hu) (pm_ix (c.blk).hu1 (pm_var 5) pm_int) (pm_var 2))))))) (fun _ _ _ _ _ => (pm_ix (c.blk).hu1 (pm_var 5) pm_int)))
    (pmb_one (pms_ret (pm_cmp o_le (pm_op o_add (pm_callB (k_sum c.calm) rfl G.b_sum (by decide +kernel) (pma_cons (pm_var 4) pma_nil)) (pm_ix c.hu1 (pm_ix c.hu1 (pm_fld T.f_Night_table (pm_var 0)) (pm_var 1)) pm_int)) (pm_ix c.hu1 (pm_fld T.f_Night_room (pm_var 0)) (pm_var 3)))))))))
theorem sc_Night_places : FnScope ["self", "name", "free", "later", "found", "slot"] ["self", "name", "free"] (defScope s_Night_places) := ⟨rfl, rfl, rfl, by decide +kernel, rfl, by decide +kernel, by decide +kernel⟩
theorem ok_Night_places (G : Glob K mg) (T : Txt K mg) : FMM P w K mg base 3 "Night" "places" 3 (F_Night_places) := FMM.gc (fmm_full T.Night_places sc_Night_places rfl rfl fun f cdv A outer s H E c =>
    (pmb_cons (pms_setLc (own := [("slot", 5)]) (sl := [5]) 3 c.calm c.nd (pmi_seq (pm_ix c.hu1 (pm_fld T.f_Night_spots (pm_var 0)) (pm_var 1))) (blkOk_by (N := ["self", "name", "free", "later", "found", "slot"]) (sc := defScope s_Night_places) (by decide +kernel)) (sw_true rfl rfl rfl (by decide +kernel)) (fun _ _ _ _ _ => (pmg_nm 5 (c.blk).nd)) (fun _ _ _ _ _ => (pmts_one (pmt_cmp o_ge (pm_var 5) (pm_var 2)))) (fun _ _ _ _ _ => (pm_var 5)))
    (pmb_cons (pms_set 4 c.nd (pm_slC (pm_var 3) pmo_none (pmo_some pm_int)))
    (pmb_cons (pms_if (pmt_val (pm_fld T.f_Night_sure (pm_var 0))) (pmb_one (pms_augL 4 c.nd (pm_sl (pm_comp (own := [("slot", 5)]) (sl := [5]) c.calm c.nd (pmi_seq (pm_var 3)) (blkOk_by (N := ["self", "name", "free", "later", "found", "slot"]) (sc := defScope s_Night_places) (by decide +kernel)) (fun _ _ _ _ _ => (pmg_nm 5 (c.blk).nd)) (fun _ _ _ _ _ => (pmts_one (pmt_val (pm_call (c.blk) ((ok_is_sure G T).mono (by decide)) (pma_cons (pm_ix (c.blk).hu1 (pm_fld T.f_Night_table (pm_var 0)) (pm_var 1)) (pma_cons (pm_fld T.f_Night_weather (pm_var 0)) (pma_cons (pm_var 5) pma_nil))))))) (fun _ _ _ _ _ => (pm_var 5))) pmo_none (pmo_some pm_int)))) pmb_nil)
    (pmb_one (pms_ret (pm_var 4)))))))
theorem sc_Night_value : FnScope ["self", "name", "slot", "amount", "surely"] ["self", "name", "slot"] (defScope s_Night_value) := ⟨rfl, rfl, rfl, by decide +kernel, rfl, by decide +kernel, by decide +kernel⟩
theorem ok_Night_value (G : Glob K mg) (T : Txt K mg) : FMM P w K mg base 3 "Night" "value" 3 (F_Night_value) := FMM.gc (fmm_full T.Night_value sc_Night_value rfl rfl fun f cdv A outer s H E c =>
    (pmb_cons (pms_set 3 c.nd (pm_ix c.hu1 (pm_fld T.f_Night_worths (pm_var 0)) (pm_var 1)))
    (pmb_cons (pms_set 4 c.nd (pm_if (pmt_bo (pmw_and (pmt_val (pm_fld T.f_Night_sure (pm_var 0))) (pmw_and1 (pmt_val (pm_call c ((ok_is_sure G T).mono (by decide)) (pma_cons (pm_ix c.hu1 (pm_fld T.f_Night_table (pm_var 0)) (pm_var 1)) (pma_cons (pm_fld T.f_Night_weather (pm_var 0)) (pma_cons (pm_var 2) pma_nil)))))))) (pm_var 3) pm_int))
    (pmb_one (pms_ret (pm_tup (pma_cons (pm_neg (pm_var 4)) (pma_cons (pm_neg (pm_var 3)) pma_nil))))))))
theorem sc_Night_best : FnScope ["self", "free", "tool", "left", "key", "found", "name", "ask", "begin", "slot", "others", "surely", "all_in", "runs", "here", "one"] ["self", "free", "tool", "left"] (defScope s_Night_best) := ⟨rfl, rfl, rfl, by decide +kernel, rfl, by decide +kernel, by decide +kernel⟩
theorem ok_Night_best (G : Glob K mg) (T : Txt K mg) : ∀ n : Nat, FMM P w K mg base (3 + n) "Night" "best" 4 (F_Night_best (mkHash P w) n)
  | 0 => fmm_no T.Night_best sc_Night_best rfl
  | n + 1 => FMM.gc (fmm_full T.Night_best sc_Night_best rfl rfl fun f cdv A outer s H E c =>
    (pmb_cons (pms_set 4 c.nd (pm_tup (pma_cons (pm_var 1) (pma_cons (pm_var 2) (pma_cons (pm_var 3) pma_nil)))))
    (pmb_cons (pms_if (pmt_cmp (o_mnin c.hu) (pm_var 4) (pm_fld T.f_Night_known (pm_var 0))) (pmb_cons (pms_set 5 c.nd (pm_tup (pma_cons pm_int (pma_cons pm_int (pma_cons (pm_tup pma_nil) pma_nil)))))
    (pmb_cons (pms_for c.own c.calm (pmi_seq (pm_var 3)) (pmg_nm 6 c.nd) (pmb_cons (pms_set 7 c.nd (pm_ix c.hu1 (pm_fld T.f_Night_table (pm_var 0)) (pm_var 6)))
    (pmb_cons (pms_set 8 c.nd (pm_op o_add (pm_var 1) (pm_callT k_int rfl G.b_int (by decide +kernel) (pma_cons (pm_cmp (o_nin c.hu) (pm_var 2) (pm_tup (pma_cons pm_non (pma_cons (pm_ix c.hu1 (pm_var 7) pm_int) pma_nil)))) pma_nil))))
    (pmb_one (pms_for c.own c.calm (pmi_seq (pm_if (pmt_val (pm_meth c ((ok_Night_has_room G T).mono (Nat.le_trans (show 1 ≤ 3 by decide) (Nat.le_add_right 3 n))) (pm_var 0) (pma_cons (pm_var 6) (pma_cons (pm_var 3) pma_nil)))) (pm_meth c ((ok_Night_places G T).mono (Nat.le_trans (show 3 ≤ 3 by decide) (Nat.le_add_right 3 n))) (pm_var 0) (pma_cons (pm_var 6) (pma_cons (pm_var 8) pma_nil))) (pm_lst pma_nil))) (pmg_nm 9 c.nd) (pmb_cons (pms_set 10 c.nd (pm_callT k_tup rfl G.b_tuple (by decide +kernel) (pma_cons (pm_comp (own := [("one", 15)]) (sl := [15]) c.calm c.nd (pmi_seq (pm_var 3)) (blkOk_by (N := ["self", "free", "tool", "left", "key", "found", "name", "ask", "begin", "slot", "others", "surely", "all_in", "runs", "here", "one"]) (sc := defScope s_Night_best) (by decide +kernel)) (fun _ _ _ _ _ => (pmg_nm 15 (c.blk).nd)) (fun _ _ _ _ _ => (pmts_one (pmt_cmp (o_ne (c.blk).hu) (pm_var 15) (pm_var 6)))) (fun _ _ _ _ _ => (pm_var 15))) pma_nil)))
    (pmb_cons (pms_asg (pm_meth c (ok_Night_best G T n) (pm_var 0) (pma_cons (pm_op o_add (pm_var 9) (pm_ix c.hu1 (pm_var 7) pm_int)) (pma_cons (pm_ix c.hu1 (pm_var 7) pm_int) (pma_cons (pm_var 10) pma_nil)))) (pmg_tup c.calm (pmgs_cons (pmg_nm 11 c.nd) (pmgs_cons (pmg_nm 12 c.nd) (pmgs_cons (pmg_nm 13 c.nd) pmgs_nil)))))
    (pmb_cons (pms_set 14 c.nd (pm_meth c ((ok_Night_value G T).mono (Nat.le_trans (show 3 ≤ 3 by decide) (Nat.le_add_right 3 n))) (pm_var 0) (pma_cons (pm_var 6) (pma_cons (pm_var 9) pma_nil))))
    (pmb_one (pms_set 5 c.nd (pm_callB (k_minT c.calm c.hu) rfl G.b_min (by decide +kernel) (pma_cons (pm_var 5) (pma_cons (pm_tup (pma_cons (pm_op o_add (pm_var 11) (pm_ix c.hu1 (pm_var 14) pm_int)) (pma_cons (pm_op o_add (pm_var 12) (pm_ix c.hu1 (pm_var 14) pm_int)) (pma_cons (pm_op o_add (pm_tup (pma_cons (pm_tup (pma_cons (pm_var 9) (pma_cons (pm_var 6) pma_nil))) pma_nil)) (pm_var 13)) pma_nil)))) pma_nil)))))))))))))
    (pmb_one (pms_msub c.hu (pm_fld T.f_Night_known (pm_var 0)) (pm_var 4) (pm_var 5))))) pmb_nil)
    (pmb_one (pms_ret (pm_mix c.hu (pm_fld T.f_Night_known (pm_var 0)) (pm_var 4)))))))
theorem sc_Night_plan : FnScope ["self"] ["self"] (defScope s_Night_plan) := ⟨rfl, rfl, rfl, by decide +kernel, rfl, by decide +kernel, by decide +kernel⟩
theorem ok_Night_plan (G : Glob K mg) (T : Txt K mg) : FMM P w K mg base 12 "Night" "plan" 1 (F_Night_plan (mkHash P w)) := FMM.gc (fmm_full T.Night_plan sc_Night_plan rfl rfl fun f cdv A outer s H E c =>
    (pmb_one (pms_ret (pm_ix c.hu1 (pm_meth c ((ok_Night_best G T 8).mono (by decide)) (pm_var 0) (pma_cons pm_int (pma_cons pm_non (pma_cons (pm_callT k_tup rfl G.b_tuple (by decide +kernel) (pma_cons (pm_callB (k_sortedD c.calm) rfl G.b_sorted (by decide +kernel) (pma_cons (pm_fld T.f_Night_table (pm_var 0)) pma_nil)) pma_nil)) pma_nil)))) pm_int))))
theorem sc_best_plan : FnScope ["season", "night", "asks", "weather"] ["season", "night", "asks", "weather"] (defScope s_best_plan) := ⟨rfl, rfl, rfl, by decide +kernel, rfl, by decide +kernel, by decide +kernel⟩
theorem ok_best_plan (G : Glob K mg) (T : Txt K mg) : FM P w K mg base 13 "best_plan" 4 (F_best_plan (mkHash P w)) := fm_pure T.best_plan sc_best_plan rfl rfl fun f cdv A outer s H E c =>
    (pmb_one (pms_ret (pm_meth0 c ((ok_Night_plan G T).mono (by decide)) (pm_make c ((ok_Night___init__ G T).mono (by decide)) (pma_cons (pm_var 0) (pma_cons (pm_var 1) (pma_cons (pm_var 2) (pma_cons (pm_var 3) pma_nil))))))))
theorem sc_price : FnScope ["season", "night", "asks", "weather", "name", "look", "plan", "slot", "one"] ["season", "night", "asks", "weather", "name"] (defScope s_price) := ⟨rfl, rfl, rfl, by decide +kernel, rfl, by decide +kernel, by decide +kernel⟩
theorem ok_price (G : Glob K mg) (T : Txt K mg) : FM P w K mg base 14 "price" 5 (F_price (mkHash P w)) := fm_pure T.price sc_price rfl rfl fun f cdv A outer s H E c =>
    (pmb_cons (pms_set 5 c.nd (pm_make c ((ok_Night___init__ G T).mono (by decide)) (pma_cons (pm_var 0) (pma_cons (pm_var 1) (pma_cons (pm_var 2) (pma_cons (pm_var 3) pma_nil))))))
    (pmb_cons (pms_augA c.hu1 (pm_fld T.f_Night_worths (pm_var 5)) (pm_var 4) (pm_gint rfl G.i_MUCH))
    (pmb_cons (pms_set 6 c.nd (pm_meth0 c ((ok_Night_plan G T).mono (by decide)) (pm_var 5)))
    (pmb_cons (pms_if (pmt_cmp (o_nin c.hu) (pm_var 4) (pm_comp (own := [("slot", 7), ("one", 8)]) (sl := [7, 8]) c.calm c.nd (pmi_seq (pm_var 6)) (blkOk_by (N := ["season", "night", "asks", "weather", "name", "look", "plan", "slot", "one"]) (sc := defScope s_price) (by decide +kernel)) (fun _ _ _ _ _ => (pmg_tup (c.blk).calm (pmgs_cons (pmg_nm 7 (c.blk).nd) (pmgs_cons (pmg_nm 8 (c.blk).nd) pmgs_nil)))) (fun _ _ _ _ _ => pmts_nil) (fun _ _ _ _ _ => (pm_var 8)))) (pmb_one (pms_ret pm_non)) pmb_nil)
    (pmb_one (pms_ret (pm_op o_sub (pm_call c ((ok_worth G T).mono (by decide)) (pma_cons (pm_var 2) (pma_cons (pm_call c ((ok_best_plan G T).mono (by decide)) (pma_cons (pm_var 0) (pma_cons (pm_var 1) (pma_cons (pm_var 2) (pma_cons (pm_var 3) pma_nil))))) pma_nil))) (pm_call c ((ok_worth G T).mono (by decide)) (pma_cons (pm_var 2) (pma_cons (pm_var 6) pma_nil))))))))))
theorem sc_span : FnScope ["asks", "plan", "weather", "table", "least", "slot", "name"] ["asks", "plan", "weather"] (defScope s_span) := ⟨rfl, rfl, rfl, by decide +kernel, rfl, by decide +kernel, by decide +kernel⟩
theorem ok_span (G : Glob K mg) (T : Txt K mg) : FM P w K mg base 3 "span" 3 (F_span) := fm_pure T.span sc_span rfl rfl fun f cdv A outer s H E c =>
    (pmb_cons (pms_set 3 c.nd (pm_call c ((ok_table_of G T).mono (by decide)) (pma_cons (pm_var 0) pma_nil)))
    (pmb_cons (pms_setLc (own := [("slot", 5), ("name", 6)]) (sl := [5, 6]) 4 c.calm c.nd (pmi_seq (pm_var 1)) (blkOk_by (N := ["asks", "plan", "weather", "table", "least", "slot", "name"]) (sc := defScope s_span) (by decide +kernel)) (sw_true rfl rfl rfl (by decide +kernel)) (fun _ _ _ _ _ => (pmg_tup (c.blk).calm (pmgs_cons (pmg_nm 5 (c.blk).nd) (pmgs_cons (pmg_nm 6 (c.blk).nd) pmgs_nil)))) (fun _ _ _ _ _ => (pmts_one (pmt_val (pm_call (c.blk) ((ok_is_sure G T).mono (by decide)) (pma_cons (pm_ix (c.blk).hu1 (pm_var 3) (pm_var 6)) (pma_cons (pm_var 2) (pma_cons (pm_var 5) pma_nil))))))) (fun _ _ _ _ _ => (pm_ix (c.blk).hu1 (pm_ix (c.blk).hu1 (pm_var 3) (pm_var 6)) pm_int)))
    (pmb_one (pms_ret (pm_tup (pma_cons (pm_callB (k_sum c.calm) rfl G.b_sum (by decide +kernel) (pma_cons (pm_var 4) pma_nil)) (pma_cons (pm_call c ((ok_worth G T).mono (by decide)) (pma_cons (pm_var 0) (pma_cons (pm_var 1) pma_nil))) pma_nil)))))))
theorem sc_surest_plan : FnScope ["season", "night", "asks", "weather", "look"] ["season", "night", "asks", "weather"] (defScope s_surest_plan) := ⟨rfl, rfl, rfl, by decide +kernel, rfl, by decide +kernel, by decide +kernel⟩
theorem ok_surest_plan (G : Glob K mg) (T : Txt K mg) : FM P w K mg base 13 "surest_plan" 4 (F_surest_plan (mkHash P w)) := fm_pure T.surest_plan sc_surest_plan rfl rfl fun f cdv A outer s H E c =>
    (pmb_cons (pms_set 4 c.nd (pm_make c ((ok_Night___init__ G T).mono (by decide)) (pma_cons (pm_var 0) (pma_cons (pm_var 1) (pma_cons (pm_var 2) (pma_cons (pm_var 3) pma_nil))))))
    (pmb_cons (pms_fl T.f_Night_sure (pm_var 4) pm_bl)
    (pmb_one (pms_ret (pm_meth0 c ((ok_Night_plan G T).mono (by decide)) (pm_var 4))))))
theorem sc__law_deck : FnScope ["cell", "turn"] ["cell", "turn"] (defScope s__law_deck) := ⟨rfl, rfl, rfl, by decide +kernel, rfl, by decide +kernel, by decide +kernel⟩
theorem ok__law_deck (G : Glob K mg) (T : Txt K mg) : FM P w K mg base 1 "_law_deck" 2 (F__law_deck) := fm_full T._law_deck sc__law_deck rfl rfl fun f cdv A outer s H E c =>
    (pmb_cons (pms_if (pmt_cmp o_ge (pm_var 0) (pm_op o_pow pm_int pm_int)) (pmb_one (pms_ret (pm_lstC (pma_cons (pm_op o_sub (pm_var 0) (pm_op o_pow pm_int pm_int)) (pma_cons (pm_op o_mod (pm_var 0) pm_int) (pma_cons (pm_var 1) pma_nil)))))) pmb_nil)
    (pmb_one (pms_ret (pm_lstC (pma_cons pm_int (pma_cons (pm_op o_mod (pm_var 0) pm_int) (pma_cons (pm_var 1) pma_nil)))))))
theorem sc__law_pick : FnScope ["deck", "limit", "found", "number"] ["deck", "limit"] (defScope s__law_pick) := ⟨rfl, rfl, rfl, by decide +kernel, rfl, by decide +kernel, by decide +kernel⟩
theorem ok__law_pick (G : Glob K mg) (T : Txt K mg) : FM P w K mg base 1 "_law_pick" 2 (F__law_pick) := fm_deck T._law_pick sc__law_pick rfl rfl fun f cdv A outer s H E c =>
    (pmb_cons (pms_if (pmt_cmp o_gt (pm_ix c.hu1 (pm_var 0) pm_int) pm_int) (pmb_cons (pms_set 2 c.nd (pm_op o_mod (pm_ix c.hu1 (pm_var 0) pm_int) (pm_var 1)))
    (pmb_cons (pms_sub c.hu1 (pm_var 0) pm_int (pm_op o_div (pm_ix c.hu1 (pm_var 0) pm_int) (pm_var 1)))
    (pmb_one (pms_ret (pm_var 2))))) pmb_nil)
    (pmb_cons (pms_sub c.hu1 (pm_var 0) pm_int (pm_op o_add (pm_ix c.hu1 (pm_var 0) pm_int) pm_int))
    (pmb_cons (pms_set 3 c.nd (pm_op o_mod (pm_op o_pow (pm_op o_add (pm_ix c.hu1 (pm_var 0) pm_int) (pm_op o_mul pm_int (pm_ix c.hu1 (pm_var 0) pm_int))) pm_int) pm_int))
    (pmb_cons (pms_set 2 c.nd (pm_op o_div (pm_op o_mod (pm_op o_pow (pm_op o_add (pm_var 3) (pm_op o_mul pm_int (pm_ix c.hu1 (pm_var 0) pm_int))) pm_int) pm_int) pm_int))
    (pmb_cons (pms_if (pmt_cmp o_gt (pm_var 1) pm_int) (pmb_one (pms_ret (pm_op o_mod (pm_op o_add (pm_op o_mul (pm_var 2) pm_int) (pm_var 3)) (pm_var 1)))) pmb_nil)
    (pmb_one (pms_ret (pm_op o_mod (pm_var 2) (pm_var 1)))))))))
theorem sc__law_season : FnScope ["deck", "most", "nights", "k", "first"] ["deck", "most"] (defScope s__law_season) := ⟨rfl, rfl, rfl, by decide +kernel, rfl, by decide +kernel, by decide +kernel⟩
theorem ok__law_season (G : Glob K mg) (T : Txt K mg) : FM P w K mg base 2 "_law_season" 2 (F__law_season) := fm_deck T._law_season sc__law_season rfl rfl fun f cdv A outer s H E c =>
    (pmb_cons (pms_set 2 c.nd (pm_lstC pma_nil))
    (pmb_cons (pms_for c.own c.calm (pmi_range1 rfl G.b_range (pm_op o_add pm_int (pm_call c ((ok__law_pick G T).mono (by decide)) (pma_cons (pm_var 0) (pma_cons (pm_var 1) pma_nil))))) (pmg_nm 3 c.nd) (pmb_cons (pms_set 4 c.nd (pm_ix c.hu1 (pm_lst (pma_cons pm_int (pma_cons (pm_call c ((ok__law_pick G T).mono (by decide)) (pma_cons (pm_var 0) (pma_cons pm_int pma_nil))) pma_nil))) (pm_call c ((ok__law_pick G T).mono (by decide)) (pma_cons (pm_var 0) (pma_cons pm_int pma_nil)))))
    (pmb_one (pms_expr (pm_app (pm_var 2) (pm_tup (pma_cons (pm_var 4) (pma_cons (pm_ix c.hu1 (pm_lst (pma_cons pm_int (pma_cons (pm_op o_add (pm_var 4) (pm_call c ((ok__law_pick G T).mono (by decide)) (pma_cons (pm_var 0) (pma_cons (pm_op o_sub pm_int (pm_var 4)) pma_nil)))) pma_nil))) (pm_call c ((ok__law_pick G T).mono (by decide)) (pma_cons (pm_var 0) (pma_cons pm_int pma_nil)))) pma_nil))))))))
    (pmb_one (pms_ret (pm_tup (pma_cons (pm_ix c.hu1 (pm_lst (pma_cons pm_int (pma_cons pm_int (pma_cons pm_int (pma_cons (pm_call c ((ok__law_pick G T).mono (by decide)) (pma_cons (pm_var 0) (pma_cons pm_int pma_nil))) pma_nil))))) (pm_call c ((ok__law_pick G T).mono (by decide)) (pma_cons (pm_var 0) (pma_cons pm_int pma_nil)))) (pma_cons (pm_callT k_tup rfl G.b_tuple (by decide +kernel) (pma_cons (pm_var 2) pma_nil)) pma_nil)))))))
theorem sc__law_asks : FnScope ["deck", "season", "most", "found", "name", "slot", "at", "spot", "long", "need", "tool", "house", "rank"] ["deck", "season", "most"] (defScope s__law_asks) := ⟨rfl, rfl, rfl, by decide +kernel, rfl, by decide +kernel, by decide +kernel⟩
theorem ok__law_asks (G : Glob K mg) (T : Txt K mg) : FM P w K mg base 2 "_law_asks" 3 (F__law_asks) := fm_deck T._law_asks sc__law_asks rfl rfl fun f cdv A outer s H E c =>
    (pmb_cons (pms_set 3 c.nd (pm_lstC pma_nil))
    (pmb_cons (pms_for c.own c.calm (pmi_seq (pm_sl (pm_lst (pma_cons pm_str (pma_cons pm_str (pma_cons pm_str (pma_cons pm_str (pma_cons pm_str (pma_cons pm_str pma_nil))))))) pmo_none (pmo_some (pm_call c ((ok__law_pick G T).mono (by decide)) (pma_cons (pm_var 0) (pma_cons (pm_op o_add (pm_var 2) pm_int) pma_nil)))))) (pmg_nm 4 c.nd) (pmb_cons (pms_set 5 c.nd (pm_call c ((ok__law_pick G T).mono (by decide)) (pma_cons (pm_var 0) (pma_cons pm_int pma_nil))))
    (pmb_cons (pms_set 6 c.nd (pm_ix c.hu1 (pm_lst (pma_cons (pm_op o_mul pm_int (pm_var 5)) (pma_cons (pm_call c ((ok__law_pick G T).mono (by decide)) (pma_cons (pm_var 0) (pma_cons pm_int pma_nil))) pma_nil))) (pm_call c ((ok__law_pick G T).mono (by decide)) (pma_cons (pm_var 0) (pma_cons pm_int pma_nil)))))
    (pmb_cons (pms_set 7 c.nd (pm_tup (pma_cons (pm_var 6) (pma_cons (pm_ix c.hu1 (pm_lst (pma_cons pm_int (pma_cons pm_int (pma_cons (pm_call c ((ok__law_pick G T).mono (by decide)) (pma_cons (pm_var 0) (pma_cons pm_int pma_nil))) pma_nil)))) (pm_call c ((ok__law_pick G T).mono (by decide)) (pma_cons (pm_var 0) (pma_cons pm_int pma_nil)))) pma_nil))))
    (pmb_cons (pms_set 8 c.nd (pm_op o_add pm_int (pm_call c ((ok__law_pick G T).mono (by decide)) (pma_cons (pm_var 0) (pma_cons (pm_ix c.hu1 (pm_lst (pma_cons pm_int (pma_cons pm_int pma_nil))) (pm_call c ((ok__law_pick G T).mono (by decide)) (pma_cons (pm_var 0) (pma_cons pm_int pma_nil)))) pma_nil)))))
    (pmb_cons (pms_set 9 c.nd (pm_ix c.hu1 (pm_lst (pma_cons pm_int (pma_cons pm_int (pma_cons (pm_call c ((ok__law_pick G T).mono (by decide)) (pma_cons (pm_var 0) (pma_cons pm_int pma_nil))) pma_nil)))) (pm_call c ((ok__law_pick G T).mono (by decide)) (pma_cons (pm_var 0) (pma_cons pm_int pma_nil)))))
    (pmb_cons (pms_set 10 c.nd (pm_ix c.hu1 (pm_lst (pma_cons pm_str (pma_cons pm_str pma_nil))) (pm_call c ((ok__law_pick G T).mono (by decide)) (pma_cons (pm_var 0) (pma_cons pm_int pma_nil)))))
    (pmb_cons (pms_set 11 c.nd (pm_ix c.hu1 (pm_lst (pma_cons pm_str (pma_cons pm_str (pma_cons pm_str pma_nil)))) (pm_call c ((ok__law_pick G T).mono (by decide)) (pma_cons (pm_var 0) (pma_cons pm_int pma_nil)))))
    (pmb_cons (pms_set 12 c.nd (pm_op o_add pm_int (pm_call c ((ok__law_pick G T).mono (by decide)) (pma_cons (pm_var 0) (pma_cons (pm_ix c.hu1 (pm_lst (pma_cons pm_int (pma_cons pm_int pma_nil))) (pm_call c ((ok__law_pick G T).mono (by decide)) (pma_cons (pm_var 0) (pma_cons pm_int pma_nil)))) pma_nil)))))
    (pmb_one (pms_expr (pm_app (pm_var 3) (pm_tup (pma_cons (pm_var 4) (pma_cons (pm_var 11) (pma_cons (pm_var 7) (pma_cons (pm_var 10) (pma_cons (pm_var 8) (pma_cons (pm_var 9) (pma_cons (pm_var 12) pma_nil))))))))))))))))))))
    (pmb_one (pms_ret (pm_callT k_tup rfl G.b_tuple (by decide +kernel) (pma_cons (pm_var 3) pma_nil))))))
theorem sc__law_weather : FnScope ["deck", "found", "low", "high", "slot"] ["deck"] (defScope s__law_weather) := ⟨rfl, rfl, rfl, by decide +kernel, rfl, by decide +kernel, by decide +kernel⟩
theorem ok__law_weather (G : Glob K mg) (T : Txt K mg) : FM P w K mg base 2 "_law_weather" 1 (F__law_weather) := fm_deck T._law_weather sc__law_weather rfl rfl fun f cdv A outer s H E c =>
    (pmb_cons (pms_set 1 c.nd (pm_lstC pma_nil))
    (pmb_cons (pms_par 2 3 c.calm c.nd (pma_cons (pm_call c ((ok__law_pick G T).mono (by decide)) (pma_cons (pm_var 0) (pma_cons pm_int pma_nil))) (pma_cons pm_int pma_nil)))
    (pmb_cons (pms_for c.own c.calm (pmi_range1 rfl G.b_range pm_int) (pmg_nm 4 c.nd) (pmb_cons (pms_if (pmt_cmp (o_eq c.hu) (pm_call c ((ok__law_pick G T).mono (by decide)) (pma_cons (pm_var 0) (pma_cons pm_int pma_nil))) pm_int) (pmb_cons (pms_set 2 c.nd (pm_call c ((ok__law_pick G T).mono (by decide)) (pma_cons (pm_var 0) (pma_cons pm_int pma_nil))))
    (pmb_one (pms_set 3 c.nd (pm_op o_add (pm_var 2) (pm_call c ((ok__law_pick G T).mono (by decide)) (pma_cons (pm_var 0) (pma_cons (pm_op o_sub pm_int (pm_var 2)) pma_nil))))))) pmb_nil)
    (pmb_one (pms_expr (pm_app (pm_var 1) (pm_tup (pma_cons (pm_var 2) (pma_cons (pm_var 3) pma_nil))))))))
    (pmb_one (pms_ret (pm_callT k_tup rfl G.b_tuple (by decide +kernel) (pma_cons (pm_var 1) pma_nil)))))))
theorem sc__law_mirrored : FnScope ["season", "asks", "weather", "first", "last", "found", "ask", "spot"] ["season", "asks", "weather"] (defScope s__law_mirrored) := ⟨rfl, rfl, rfl, by decide +kernel, rfl, by decide +kernel, by decide +kernel⟩
theorem ok__law_mirrored (G : Glob K mg) (T : Txt K mg) : FM P w K mg base 1 "_law_mirrored" 3 (F__law_mirrored) := fm_pure T._law_mirrored sc__law_mirrored rfl rfl fun f cdv A outer s H E c =>
    (pmb_cons (pms_asg (pm_ix c.hu1 (pm_ix c.hu1 (pm_var 0) pm_int) pm_int) (pmg_tup c.calm (pmgs_cons (pmg_nm 3 c.nd) (pmgs_cons (pmg_nm 4 c.nd) pmgs_nil))))
    (pmb_cons (pms_set 5 c.nd (pm_lstC pma_nil))
    (pmb_cons (pms_for c.own c.calm (pmi_seq (pm_var 1)) (pmg_nm 6 c.nd) (pmb_cons (pms_set 7 c.nd (pm_tup (pma_cons (pm_op o_mod (pm_op o_sub pm_int (pm_ix c.hu1 (pm_ix c.hu1 (pm_var 6) pm_int) pm_int)) pm_int) (pma_cons (pm_ix c.hu1 (pm_ix c.hu1 (pm_var 6) pm_int) pm_int) pma_nil))))
    (pmb_one (pms_expr (pm_app (pm_var 5) (pm_op o_add (pm_op o_add (pm_sl (pm_var 6) pmo_none (pmo_some pm_int)) (pm_tup (pma_cons (pm_var 7) pma_nil))) (pm_sl (pm_var 6) (pmo_some pm_int) pmo_none)))))))
    (pmb_one (pms_ret (pm_tup (pma_cons (pm_tup (pma_cons pm_int (pma_cons (pm_tup (pma_cons (pm_tup (pma_cons (pm_op o_sub pm_int (pm_var 4)) (pma_cons (pm_op o_sub pm_int (pm_var 3)) pma_nil))) pma_nil)) pma_nil))) (pma_cons (pm_callT k_tup rfl G.b_tuple (by decide +kernel) (pma_cons (pm_var 5) pma_nil)) (pma_cons (pm_revT (pm_var 2)) pma_nil)))))))))
theorem sc__law_plan_back : FnScope ["asks", "plan", "long", "ask", "slot", "name"] ["asks", "plan"] (defScope s__law_plan_back) := ⟨rfl, rfl, rfl, by decide +kernel, rfl, by decide +kernel, by decide +kernel⟩
theorem ok__law_plan_back (G : Glob K mg) (T : Txt K mg) : FM P w K mg base 1 "_law_plan_back" 2 (F__law_plan_back) := fm_pure T._law_plan_back sc__law_plan_back rfl rfl fun f cdv A outer s H E c =>
    (pmb_cons (pms_set 2 c.nd (pm_callT (k_dict c.calm) rfl G.b_dict (by decide +kernel) (pma_cons (pm_comp (own := [("ask", 3)]) (sl := [3]) c.calm c.nd (pmi_seq (pm_var 0)) (blkOk_by (N := ["asks", "plan", "long", "ask", "slot", "name"]) (sc := defScope s__law_plan_back) (by decide +kernel)) (fun _ _ _ _ _ => (pmg_nm 3 (c.blk).nd)) (fun _ _ _ _ _ => pmts_nil) (fun _ _ _ _ _ => (pm_tup (pma_cons (pm_ix (c.blk).hu1 (pm_var 3) pm_int) (pma_cons (pm_ix (c.blk).hu1 (pm_var 3) pm_int) pma_nil))))) pma_nil)))
    (pmb_one (pms_ret (pm_callT k_tup rfl G.b_tuple (by decide +kernel) (pma_cons (pm_callB (k_sorted c.hu) rfl G.b_sorted (by decide +kernel) (pma_cons (pm_comp (own := [("slot", 4), ("name", 5)]) (sl := [4, 5]) c.calm c.nd (pmi_seq (pm_var 1)) (blkOk_by (N := ["asks", "plan", "long", "ask", "slot", "name"]) (sc := defScope s__law_plan_back) (by decide +kernel)) (fun _ _ _ _ _ => (pmg_tup (c.blk).calm (pmgs_cons (pmg_nm 4 (c.blk).nd) (pmgs_cons (pmg_nm 5 (c.blk).nd) pmgs_nil)))) (fun _ _ _ _ _ => pmts_nil) (fun _ _ _ _ _ => (pm_tup (pma_cons (pm_op o_sub (pm_op o_sub pm_int (pm_var 4)) (pm_ix (c.blk).hu1 (pm_var 2) (pm_var 5))) (pma_cons (pm_var 5) pma_nil))))) pma_nil)) pma_nil)))))
theorem sc_law : FnScope ["script", "cell", "deck", "season", "asks", "weather", "back", "others", "air", "one", "other", "sure", "firm", "plan", "turned", "ask", "more", "told", "rows", "first", "last"] ["script"] (defScope s_law) := ⟨rfl, rfl, rfl, by decide +kernel, rfl, by decide +kernel, by decide +kernel⟩
theorem bo_law (G : Glob K mg) (T : Txt K mg) : BodyOk P w K mg base 14 ["script", "cell", "deck", "season", "asks", "weather", "back", "others", "air", "one", "other", "sure", "firm", "plan", "turned", "ask", "more", "told", "rows", "first", "last"] "law" s_law (B_law (mkHash P w)) := fun f cdv A outer s H E c =>
    (pmb_cons (pms_for c.own c.calm (pmi_seq (pm_op o_add (pm_lst (pma_cons pm_int pma_nil)) (pm_sl (pm_var 0) pmo_none (pmo_some pm_int)))) (pmg_nm 1 c.nd) (pmb_cons (pms_set 2 c.nd (pm_call c ((ok__law_deck G T).mono (by decide)) (pma_cons (pm_var 1) (pma_cons pm_int pma_nil))))
    (pmb_cons (pms_set 3 c.nd (pm_tup (pma_cons pm_int (pma_cons (pm_ix c.hu1 (pm_call c ((ok__law_season G T).mono (by decide)) (pma_cons (pm_var 2) (pma_cons pm_int pma_nil))) pm_int) pma_nil))))
    (pmb_cons (pms_par 4 5 c.calm c.nd (pma_cons (pm_call c ((ok__law_asks G T).mono (by decide)) (pma_cons (pm_var 2) (pma_cons (pm_var 3) (pma_cons pm_int pma_nil)))) (pma_cons (pm_call c ((ok__law_weather G T).mono (by decide)) (pma_cons (pm_var 2) pma_nil)) pma_nil)))
    (pmb_cons (pms_asg (pm_call c ((ok__law_mirrored G T).mono (by decide)) (pma_cons (pm_var 3) (pma_cons (pm_var 4) (pma_cons (pm_var 5) pma_nil)))) (pmg_tup c.calm (pmgs_cons (pmg_nm 6 c.nd) (pmgs_cons (pmg_nm 7 c.nd) (pmgs_cons (pmg_nm 8 c.nd) pmgs_nil)))))
    (pmb_cons (pms_par 9 10 c.calm c.nd (pma_cons (pm_call c ((ok_best_plan G T).mono (by decide)) (pma_cons (pm_var 3) (pma_cons pm_int (pma_cons (pm_var 4) (pma_cons (pm_var 5) pma_nil))))) (pma_cons (pm_call c ((ok_best_plan G T).mono (by decide)) (pma_cons (pm_var 6) (pma_cons pm_int (pma_cons (pm_var 7) (pma_cons (pm_var 8) pma_nil))))) pma_nil)))
    (pmb_cons (pms_if (pmt_cmp (o_ne c.hu) (pm_call c ((ok_worth G T).mono (by decide)) (pma_cons (pm_var 4) (pma_cons (pm_var 9) pma_nil))) (pm_call c ((ok_worth G T).mono (by decide)) (pma_cons (pm_var 7) (pma_cons (pm_var 10) pma_nil)))) (pmb_one (pms_ret pm_bl)) pmb_nil)
    (pmb_cons (pms_par 11 12 c.calm c.nd (pma_cons (pm_call c ((ok_surest_plan G T).mono (by decide)) (pma_cons (pm_var 3) (pma_cons pm_int (pma_cons (pm_var 4) (pma_cons (pm_var 5) pma_nil))))) (pma_cons (pm_call c ((ok_surest_plan G T).mono (by decide)) (pma_cons (pm_var 6) (pma_cons pm_int (pma_cons (pm_var 7) (pma_cons (pm_var 8) pma_nil))))) pma_nil)))
    (pmb_cons (pms_if (pmt_cmp (o_ne c.hu) (pm_call c ((ok_span G T).mono (by decide)) (pma_cons (pm_var 4) (pma_cons (pm_var 11) (pma_cons (pm_var 5) pma_nil)))) (pm_call c ((ok_span G T).mono (by decide)) (pma_cons (pm_var 7) (pma_cons (pm_var 12) (pma_cons (pm_var 8) pma_nil))))) (pmb_one (pms_ret pm_bl)) pmb_nil)
    (pmb_cons (pms_for c.own c.calm (pmi_seq (pm_tup (pma_cons (pm_var 9) (pma_cons (pm_var 11) (pma_cons (pm_sl (pm_var 9) pmo_none (pmo_some pm_int)) pma_nil))))) (pmg_nm 13 c.nd) (pmb_cons (pms_set 14 c.nd (pm_call c ((ok__law_plan_back G T).mono (by decide)) (pma_cons (pm_var 4) (pma_cons (pm_var 13) pma_nil))))
    (pmb_cons (pms_if (pmt_cmp o_isNT (pm_call c ((ok_is_plan G T).mono (by decide)) (pma_cons (pm_var 6) (pma_cons pm_int (pma_cons (pm_var 7) (pma_cons (pm_var 8) (pma_cons (pm_var 14) pma_nil)))))) pm_bl) (pmb_one (pms_ret pm_bl)) pmb_nil)
    (pmb_one (pms_if (pmt_cmp (o_ne c.hu) (pm_call c ((ok_span G T).mono (by decide)) (pma_cons (pm_var 7) (pma_cons (pm_var 14) (pma_cons (pm_var 8) pma_nil)))) (pm_call c ((ok_span G T).mono (by decide)) (pma_cons (pm_var 4) (pma_cons (pm_var 13) (pma_cons (pm_var 5) pma_nil))))) (pmb_one (pms_ret pm_bl)) pmb_nil)))))
    (pmb_one (pms_for c.own c.calm (pmi_zip rfl G.b_zip (pma_cons (pm_var 4) (pma_cons (pm_var 7) pma_nil))) (pmg_tup c.calm (pmgs_cons (pmg_nm 15 c.nd) (pmgs_cons (pmg_nm 16 c.nd) pmgs_nil))) (pmb_cons (pms_if (pmt_cmp (o_in c.hu) (pm_var 15) (pm_sl (pm_var 4) pmo_none (pmo_some pm_int))) (pmb_cons (pms_set 17 c.nd (pm_call c ((ok_price G T).mono (by decide)) (pma_cons (pm_var 3) (pma_cons pm_int (pma_cons (pm_var 4) (pma_cons (pm_var 5) (pma_cons (pm_ix c.hu1 (pm_var 15) pm_int) pma_nil)))))))
    (pmb_one (pms_if (pmt_cmp (o_ne c.hu) (pm_var 17) (pm_call c ((ok_price G T).mono (by decide)) (pma_cons (pm_var 6) (pma_cons pm_int (pma_cons (pm_var 7) (pma_cons (pm_var 8) (pma_cons (pm_ix c.hu1 (pm_var 15) pm_int) pma_nil))))))) (pmb_one (pms_ret pm_bl)) pmb_nil))) pmb_nil)
    (pmb_cons (pms_setLc (own := [("first", 19), ("last", 20)]) (sl := [19, 20]) 18 c.calm c.nd (pmi_seq (pm_call c ((ok_stretches G T).mono (by decide)) (pma_cons (pm_var 3) (pma_cons (pm_ix c.hu1 (pm_var 15) pm_int) (pma_cons pm_int pma_nil))))) (blkOk_by (N := ["script", "cell", "deck", "season", "asks", "weather", "back", "others", "air", "one", "other", "sure", "firm", "plan", "turned", "ask", "more", "told", "rows", "first", "last"]) (sc := defScope s_law) (by decide +kernel)) (sw_true rfl rfl rfl (by decide +kernel)) (fun _ _ _ _ _ => (pmg_tup (c.blk).calm (pmgs_cons (pmg_nm 19 (c.blk).nd) (pmgs_cons (pmg_nm 20 (c.blk).nd) pmgs_nil)))) (fun _ _ _ _ _ => pmts_nil) (fun _ _ _ _ _ => (pm_tup (pma_cons (pm_op o_sub pm_int (pm_var 20)) (pma_cons (pm_op o_sub pm_int (pm_var 19)) pma_nil)))))
    (pmb_one (pms_if (pmt_cmp (o_ne c.hu) (pm_callB (k_sorted c.hu) rfl G.b_sorted (by decide +kernel) (pma_cons (pm_var 18) pma_nil)) (pm_call c ((ok_stretches G T).mono (by decide)) (pma_cons (pm_var 6) (pma_cons (pm_ix c.hu1 (pm_var 16) pm_int) (pma_cons pm_int pma_nil))))) (pmb_one (pms_ret pm_bl)) pmb_nil))))))))))))))))
    (pmb_one (pms_ret pm_bl)))
end
end KK
end
section
namespace KK
open PySem PySem.Spec PyProof.Rows L2 Sky
set_option maxHeartbeats 8000000
theorem p_stretches {se sp : PyData} {n : Int} {d u : Nat → Bool} (hd : ∀ k : Nat, k < 24 → P_is_dark [se, .int n, .int k] = some (.bool (d k))) (hu : ∀ k : Nat, k < 24 → P_is_up [se, sp, .int n, .int k] = some (.bool (u k))) :
    P_stretches [se, sp, .int n] = some (.list ((st1 (fun k => d k && u k) 24).map encN)) := by
  simp (disch := omega) [P_stretches, runP_ap, B_stretches]
  generalize hq : forL _ _ _ _ _ = q
  suffices H : ∃ o : Option D, q = .nx [some (.d se), some (.d sp), some (.d (.int n)), some (.r 0), o] [.lst ((st1 (fun k => d k && u k) 24).map encN)] by
    obtain ⟨o, rfl⟩ := H
    simp
  rw [← hq]
  obtain ⟨I, hI⟩ := hide fun i ρ S' => (∃ o : Option D, ρ = [some (.d se), some (.d sp), some (.d (.int n)), some (.r 0), o]) ∧ S' = [.lst ((st1 (fun k => d k && u k) i).map encN)]
  refine forR_inv (R := fun q => ∃ o : Option D, q = .nx [some (.d se), some (.d sp), some (.d (.int n)), some (.r 0), o] [.lst ((st1 (fun k => d k && u k) 24).map encN)]) I ?_ ?_ ?_
  · rw [hI]; exact ⟨⟨_, rfl⟩, rfl⟩
  · intro i ρ S' hi h
    rw [hI] at h
    obtain ⟨⟨o, rfl⟩, rfl⟩ := h
    refine ⟨_, gNm_ap _ _, ?_⟩
    have hi' : i < 24 := hi
    have hl := st1_len (fun k => d k && u k) i
    have e1 := hd i hi'
    have e2 := hu i hi'
    have A := all_encN 58 (st1 (fun k => d k && u k) i)
    have Z : st1 (fun k => d k && u k) (i + 1) = if (d i && u i) = true then (match (st1 (fun k => d k && u k) i).getLast? with
      | some p => if p.2 + 1 = i then (st1 (fun k => d k && u k) i).dropLast ++ [(p.1, i)] else st1 (fun k => d k && u k) i ++ [(i, i)]
      | none => [(i, i)]) else st1 (fun k => d k && u k) i := rfl
    suffices H : Bd (fun ρ S' => (∃ o : Option D, ρ = [some (.d se), some (.d sp), some (.d (.int n)), some (.r 0), o]) ∧ S' = [.lst ((st1 (fun k => d k && u k) (i + 1)).map encN)]) _ _ by rw [hI]; exact H
    rw [Z]
    clear Z hI
    generalize st1 (fun k => d k && u k) i = f at hl A
    generalize hII : (fun (ρ : Sky.Env) (S' : Store) => (∃ o : Option D, ρ = [some (.d se), some (.d sp), some (.d (.int n)), some (.r 0), o]) ∧ S' = [.lst (List.map encN (if (d i && u i) = true then (match f.getLast? with
      | some p => if p.2 + 1 = i then f.dropLast ++ [(p.1, i)] else f ++ [(i, i)]
      | none => [(i, i)]) else f))]) = II
    cases hdi : d i with
    | false =>
      simp (disch := omega) [L_stretches_0, F_is_dark, F_is_up, e1, e2, hdi]
      rw [← hII]
      exact ⟨⟨_, rfl⟩, by simp [hdi]⟩
    | true =>
      cases hui : u i with
      | false =>
        simp (disch := omega) [L_stretches_0, F_is_dark, F_is_up, e1, e2, hdi, hui]
        rw [← hII]
        exact ⟨⟨_, rfl⟩, by simp [hdi, hui]⟩
      | true =>
        rcases List.eq_nil_or_concat f with rfl | ⟨f0, p, rfl⟩
        · simp (disch := omega) [L_stretches_0, F_is_dark, F_is_up, e1, e2, hdi, hui]
          rw [← hII]
          exact ⟨⟨_, rfl⟩, by simp [hdi, hui, encN]⟩
        · by_cases hc : p.2 + 1 = i
          · have hc2 : (p.2 : Int) = (i : Int) - 1 := by omega
            simp (disch := omega) [L_stretches_0, F_is_dark, F_is_up, e1, e2, hdi, hui, A, encN, hc2]
            rw [← hII]
            exact ⟨⟨_, rfl⟩, by simp [hdi, hui, encN, hc, List.set_append]⟩
          · have hc2 : ¬ (p.2 : Int) = (i : Int) - 1 := by omega
            have hl2 : f0.length + 1 < 16777216 := by rw [List.length_concat] at hl; omega
            simp (disch := omega) [L_stretches_0, F_is_dark, F_is_up, e1, e2, hdi, hui, A, encN, hc2, hl2]
            rw [← hII]
            exact ⟨⟨_, rfl⟩, by simp [hdi, hui, encN, hc]⟩
  · intro ρ S h
    rw [hI] at h
    obtain ⟨⟨o, rfl⟩, rfl⟩ := h
    exact ⟨o, rfl⟩

theorem mirr_loop (o0 o1 o2 o3 o4 : Option D) : ∀ (xs : List Ask) (F : List PyData), F.length + xs.length < 16777216 → ∀ (o6 o7 : Option D),
    ∃ p6 p7 : Option D, forL (gNm 6) L__law_mirrored_0 (xs.map encA) [o0, o1, o2, o3, o4, some (.r 0), o6, o7] [.lst F] = .nx [o0, o1, o2, o3, o4, some (.r 0), p6, p7] [.lst (F ++ (xs.map mirA).map encA)]
  | [], F, _, o6, o7 => ⟨o6, o7, by
    show SR.nx _ [.lst F] = _
    rw [List.map_nil, List.map_nil, List.append_nil]⟩
  | x :: xs, F, hF, o6, o7 => by
    rw [List.length_cons] at hF
    obtain ⟨q6, q7, e2⟩ := mirr_loop o0 o1 o2 o3 o4 xs (F ++ [encA (mirA x)]) (by rw [List.length_append, List.length_singleton]; omega) (some (.d (encA x))) (some (.d (.tuple [.int ((46 - x.a) % 60), .int x.r])))
    refine ⟨q6, q7, ?_⟩
    have hg : gNm 6 (encA x) [o0, o1, o2, o3, o4, some (.r 0), o6, o7] = some [o0, o1, o2, o3, o4, some (.r 0), some (.d (encA x)), o7] := by
      simp only [gNm_ap, List.set_cons_succ, List.set_cons_zero]
    have gsp : ∀ T, gIx T (.d (encA x)) (.d (.int 2)) = some (.d (.tuple [.int x.a, .int x.r])) := fun T => by simp (disch := omega) [encA]
    have a2 : ∀ (T : Store), gSl T (.d (encA x)) none (some 2) = some (.d (.tuple [.str x.nm, .str x.hs])) := fun T => by simp [encA, cut2]
    have b3 : ∀ (T : Store), gSl T (.d (encA x)) (some 3) none = some (.d (.tuple [.str x.tl, .int (x.long : Nat), .int x.need, .int x.rank])) := fun T => by simp [encA, cutf3]
    have e1 : L__law_mirrored_0 [o0, o1, o2, o3, o4, some (.r 0), some (.d (encA x)), o7] [.lst F] = .nx [o0, o1, o2, o3, o4, some (.r 0), some (.d (encA x)), some (.d (.tuple [.int ((46 - x.a) % 60), .int x.r]))] [.lst (F ++ [encA (mirA x)])] := by
      have hF2 : F.length < 16777216 := by omega
      have hl : encA (mirA x) = .tuple [.str x.nm, .str x.hs, .tuple [.int ((46 - x.a) % 60), .int x.r], .str x.tl, .int (x.long : Nat), .int x.need, .int x.rank] := rfl
      rw [hl]
      simp (disch := omega) [L__law_mirrored_0, gsp, a2, b3, hF2, -gSl_t]
    rw [List.map_cons, forL_nx hg e1, e2, List.append_assoc]
    rfl
theorem p__law_mirrored {t : Int} {p : Int × Int} {W : List (Int × Int)} {ns : List (Int × Int)} {xs : List Ask} (hn : ns[0]? = some p) (hxl : xs.length ≤ 1000) :
    P__law_mirrored [enS t ns, .tuple (xs.map encA), enW W] = some (.tuple [enS 0 [mirP p], .tuple ((xs.map mirA).map encA), enW W.reverse]) := by
  obtain ⟨p6, p7, e⟩ := mirr_loop (some (.d (enS t ns))) (some (.d (.tuple (xs.map encA)))) (some (.d (enW W))) (some (.d (.int p.1))) (some (.d (.int p.2))) xs [] (by simp; omega) none none
  rw [List.nil_append] at e
  have hxl2 : xs.length ≤ 16777216 := by omega
  have hen : enW W.reverse = .tuple (W.map encP).reverse := by rw [← List.map_reverse]
  rw [hen]
  simp (disch := omega) [P__law_mirrored, runP_ap, B__law_mirrored, hn, encP, e, hxl2, mirP, -getElem?_pos, -List.map_map, -List.map_reverse]
section
variable {hf : MK → Int} {p : Int × Int} {W : List (Int × Int)} {ns : List (Int × Int)} {xs : List Ask}
theorem p__law_plan_back (hk : (sky0 0 p W).Ok) (hx : AOk xs) {q : List (Nat × Ask)} (h : PL (sky0 0 p W) 0 none xs q) : P__law_plan_back [.tuple (xs.map encA), .tuple (q.map encQ)] = some (.tuple ((mir q).map encQ)) := by
  have hxl := hx.len
  have hpl := pl_len hx h
  have hxl2 : xs.length < 16777216 := by omega
  have hql : q.length < 16777216 := by omega
  have hcomp : ∀ ρ1 : Sky.Env, ρ1 = [some (.d (.tuple (xs.map encA))), some (.d (.tuple (q.map encQ))), none, none, none, none] →
      compL (gNm 3) bYes (mTup (aCons (mOp gIx (mVar 3) (mC (.int 0))) (aCons (mOp gIx (mVar 3) (mC (.int 4))) aNil))) ρ1 (xs.map encA) [] = .ok (xs.map fun x => .tuple [.str x.nm, .int (x.long : Nat)]) [] := by
    rintro ρ1 rfl
    exact compL_map encA (fun x => .tuple [.str x.nm, .int (x.long : Nat)]) xs fun x hm => ⟨_, gNm_ap _ _, by simp (disch := omega) [gA_nm, gA_long]⟩
  have hdd := fun S => dict_tab S (fun x : Ask => .int (x.long : Nat)) hx.nm
  have hc2 : ∀ ρ1 : Sky.Env, ρ1 = [some (.d (.tuple (xs.map encA))), some (.d (.tuple (q.map encQ))), some (.d (tab (fun x : Ask => .int (x.long : Nat)) xs)), none, none, none] →
      compL (gTp 2 (gsCons (gNm 4) (gsCons (gNm 5) gsNil))) bYes (mTup (aCons (mOp gSub (mOp gSub (mC (.int 24)) (mVar 4)) (mOp gIx (mVar 2) (mVar 5))) (aCons (mVar 5) aNil))) ρ1 (q.map encQ) [] = .ok (q.map fun r => encQ (mirQ r)) [] := by
    rintro ρ1 rfl
    refine compL_map encQ (fun r => encQ (mirQ r)) q fun r hr => ⟨_, g_q 4 5 r _, ?_⟩
    have l := look_tab (fun x : Ask => .int (x.long : Nat)) hx.nm (h.sub r hr)
    have he := beg_end hk (hx.ok _ (h.sub r hr)) (h.beg r hr)
    have e : encQ (mirQ r) = .tuple [.int (24 - (r.1 : Int) - (r.2.long : Int)), .str r.2.nm] := by
      show PyData.tuple [.int ((24 - r.1 - r.2.long : Nat) : Int), .str r.2.nm] = _
      rw [show ((24 - r.1 - r.2.long : Nat) : Int) = 24 - (r.1 : Int) - (r.2.long : Int) by omega]
    rw [e]
    simp [l]
  have hm : (q.map fun r => encQ (mirQ r)) = (runs (q.map mirQ)).map encR := by
    rw [← runs_enc, List.map_map]
    rfl
  have hs := sortOk_runs (runs (q.map mirQ)) (by unfold runs; rw [List.length_map, List.length_map]; omega)
  have hd := sort_runs (runs (q.map mirQ))
  rw [mir_sort hk hx h, ← runs_enc (mir q)] at hd
  have hml : (mir q).length ≤ 16777216 := by unfold mir; rw [List.length_reverse, List.length_map]; omega
  simp (disch := omega) [P__law_plan_back, runP_ap, B__law_plan_back, hxl2, hcomp _ rfl, hdd, hql, hc2 _ rfl, hm, hs, hd, hml, -getElem?_pos, -gTp_t]
theorem k19_plan (hk : (sky0 0 p W).Ok) (hn : ns[0]? = some p) (hx : AOk xs) {q : List (Nat × Ask)} (h : PL (sky0 0 p W) 0 none xs q) (o0 o1 o2 o9 o10 o11 o12 o14 o15 o16 o17 o18 o19 o20 : Option D) (S : Store) :
    L_law_0 hf [o0, o1, o2, some (.d (enS 0 ns)), some (.d (.tuple (xs.map encA))), some (.d (enW W)), some (.d (enS 0 [mirP p])), some (.d (.tuple ((xs.map mirA).map encA))), some (.d (enW W.reverse)), o9, o10, o11, o12, some (.d (.tuple (q.map encQ))), o14, o15, o16, o17, o18, o19, o20] S
      = .nx [o0, o1, o2, some (.d (enS 0 ns)), some (.d (.tuple (xs.map encA))), some (.d (enW W)), some (.d (enS 0 [mirP p])), some (.d (.tuple ((xs.map mirA).map encA))), some (.d (enW W.reverse)), o9, o10, o11, o12, some (.d (.tuple (q.map encQ))), some (.d (.tuple ((mir q).map encQ))), o15, o16, o17, o18, o19, o20] S := by
  have e1 := p__law_plan_back hk hx h
  have hm := mir_pl hk hx h
  have hmk := mir_ok hk
  have hmx := mir_aok hx
  have hml := pl_len hmx hm
  have hB : planB (sky0 0 (mirP p) W.reverse) (mir q) = true := (planB_iff (fun x h => (hmx.ok x h).long.1) hm.sub).mpr hm
  have e2 := p_is_plan hmk (ns := [mirP p]) rfl hmx (p := mir q) (fun r hr => ⟨hm.sub r hr, by have := (begs_iff.mp (hm.beg r hr)).1; omega⟩) (by omega)
  rw [hB, encPl_eq] at e2
  have e2' : P_is_plan [enS 0 [mirP p], .int 0, .tuple ((xs.map mirA).map encA), enW W.reverse, .tuple ((mir q).map encQ)] = some (.bool true) := e2
  have s1 := span_pl hk hx h
  have s2 := span_pl hmk hmx hm
  rw [encPl_eq] at s1 s2
  rw [mir_wor, mir_sur hk fun r hr => beg_end hk (hx.ok _ (h.sub r hr)) (h.beg r hr)] at s2
  have hE : PyData.eqv (.tuple [.int (surW (sky0 0 p W) q), .int (wor q)]) (.tuple [.int (surW (sky0 0 p W) q), .int (wor q)]) = true := eqv_same _ (by simp)
  simp (disch := omega) [L_law_0, F__law_plan_back, e1, F_is_plan, e2', F_span, s1, s2, hE, -List.map_map]
theorem k19_ask (hk : (sky0 0 p W).Ok) (hn : ns[0]? = some p) (hx : AOk xs) {x : Ask} (hm : x ∈ xs) (o0 o1 o2 o9 o10 o11 o12 o13 o14 o17 o18 o19 o20 : Option D) (S : Store) :
    ∃ p17 p18 p19 p20 : Option D, L_law_1 hf [o0, o1, o2, some (.d (enS 0 ns)), some (.d (.tuple (xs.map encA))), some (.d (enW W)), some (.d (enS 0 [mirP p])), some (.d (.tuple ((xs.map mirA).map encA))), some (.d (enW W.reverse)), o9, o10, o11, o12, o13, o14, some (.d (encA x)), some (.d (encA (mirA x))), o17, o18, o19, o20] S
      = .nx [o0, o1, o2, some (.d (enS 0 ns)), some (.d (.tuple (xs.map encA))), some (.d (enW W)), some (.d (enS 0 [mirP p])), some (.d (.tuple ((xs.map mirA).map encA))), some (.d (enW W.reverse)), o9, o10, o11, o12, o13, o14, some (.d (encA x)), some (.d (encA (mirA x))), p17, p18, p19, p20] S := by
  generalize hX : L_law_1 hf _ S = X
  have hmk := mir_ok hk
  have hmx := mir_aok hx
  have hxo := hx.ok x hm
  obtain ⟨r, e1, h1⟩ := price0 (hf := hf) hk (ns := ns) hn hx hm
  obtain ⟨r', e2, h2⟩ := price0 (hf := hf) hmk (ns := [mirP p]) rfl hmx (x := mirA x) (List.mem_map.mpr ⟨x, hm, rfl⟩)
  have hrr : r = r' := twin_price (mir_twin hk hx) (mir_niwt hk hx) h1 h2
  subst hrr
  have e1' : P_price hf [enS 0 ns, .int 0, .tuple (xs.map encA), enW W, .str x.nm] = some r := e1
  have e2' : P_price hf [enS 0 [mirP p], .int 0, .tuple ((xs.map mirA).map encA), enW W.reverse, .str x.nm] = some r := e2
  have hdr : dp 60 r = true := by rcases prOf_kind h1 with rfl | ⟨i, rfl⟩ <;> rfl
  have hE := eqv_same _ hdr
  have gsp : ∀ T, gIx T (.d (encA x)) (.d (.int 2)) = some (.d (.tuple [.int x.a, .int x.r])) := fun T => by simp (disch := omega) [encA]
  have gsp2 : ∀ T, gIx T (.d (encA (mirA x))) (.d (.int 2)) = some (.d (.tuple [.int ((46 - x.a) % 60), .int x.r])) := fun T => by simp (disch := omega) [encA, mirA]
  have ts : P_stretches [enS 0 ns, .tuple [.int x.a, .int x.r], .int 0] = some (.list ((st1 (fun k => (decide (p.1 ≤ (k : Int)) && decide ((k : Int) ≤ p.2)) && isUp 0 x.a x.r 0 k) 24).map encN)) :=
    p_stretches (d := fun k => decide (p.1 ≤ (k : Int)) && decide ((k : Int) ≤ p.2)) (u := fun k => isUp 0 x.a x.r 0 k) (fun k _ => p_is_dark _ ns p 0 k (by omega) hn) (fun k _ => p_is_up _ _ _ _ _ _ (by omega))
  have ts2 : P_stretches [enS 0 [mirP p], .tuple [.int ((46 - x.a) % 60), .int x.r], .int 0] = some (.list ((st1 (fun k => (decide ((mirP p).1 ≤ (k : Int)) && decide ((k : Int) ≤ (mirP p).2)) && isUp 0 ((46 - x.a) % 60) x.r 0 k) 24).map encN)) :=
    p_stretches (d := fun k => decide ((mirP p).1 ≤ (k : Int)) && decide ((k : Int) ≤ (mirP p).2)) (u := fun k => isUp 0 ((46 - x.a) % 60) x.r 0 k) (fun k _ => p_is_dark _ [mirP p] (mirP p) 0 k (by omega) rfl) (fun k _ => p_is_up _ _ _ _ _ _ (by omega))
  have hgg : ∀ s, s < 24 → (fun k : Nat => (decide ((mirP p).1 ≤ (k : Int)) && decide ((k : Int) ≤ (mirP p).2)) && isUp 0 ((46 - x.a) % 60) x.r 0 k) (23 - s) = (fun k : Nat => (decide (p.1 ≤ (k : Int)) && decide ((k : Int) ≤ p.2)) && isUp 0 x.a x.r 0 k) s := by
    intro s hs
    show ((decide (23 - p.2 ≤ ((23 - s : Nat) : Int)) && decide (((23 - s : Nat) : Int) ≤ 23 - p.1)) && isUp 0 ((46 - x.a) % 60) x.r 0 ((23 - s : Nat) : Int)) = _
    rw [show ((23 - s : Nat) : Int) = 23 - (s : Int) by omega, up_mir hxo.a]
    have q1 : decide (23 - p.2 ≤ 23 - (s : Int)) = decide ((s : Int) ≤ p.2) := decide_eq_decide.mpr (by omega)
    have q2 : decide (23 - (s : Int) ≤ 23 - p.1) = decide (p.1 ≤ (s : Int)) := decide_eq_decide.mpr (by omega)
    rw [q1, q2, Bool.and_comm (decide ((s : Int) ≤ p.2))]
  have hsort := rows_mir (g := fun k : Nat => (decide (p.1 ≤ (k : Int)) && decide ((k : Int) ≤ p.2)) && isUp 0 x.a x.r 0 k) (g' := fun k : Nat => (decide ((mirP p).1 ≤ (k : Int)) && decide ((k : Int) ≤ (mirP p).2)) && isUp 0 ((46 - x.a) % 60) x.r 0 k) hgg
  clear hgg
  generalize (fun k : Nat => (decide ((mirP p).1 ≤ (k : Int)) && decide ((k : Int) ≤ (mirP p).2)) && isUp 0 ((46 - x.a) % 60) x.r 0 k) = g' at ts2 hsort
  generalize (fun k : Nat => (decide (p.1 ≤ (k : Int)) && decide ((k : Int) ≤ p.2)) && isUp 0 x.a x.r 0 k) = g at ts hsort
  have hl1 := st1_len g 24
  have hlt := st1_lt g 24
  have hle := (st1_rw g 24).le
  generalize st1 g 24 = L at ts hsort hl1 hlt hle
  generalize st1 g' 24 = L' at ts2 hsort
  have hc : ∀ (o17' : Option D) (T : Store), compL (gTp 2 (gsCons (gNm 19) (gsCons (gNm 20) gsNil))) bYes (mTup (aCons (mOp gSub (mC (.int 23)) (mVar 20)) (aCons (mOp gSub (mC (.int 23)) (mVar 19)) aNil))) [o0, o1, o2, some (.d (enS 0 ns)), some (.d (.tuple (xs.map encA))), some (.d (enW W)), some (.d (enS 0 [mirP p])), some (.d (.tuple ((xs.map mirA).map encA))), some (.d (enW W.reverse)), o9, o10, o11, o12, o13, o14, some (.d (encA x)), some (.d (encA (mirA x))), o17', o18, none, none] (L.map encN) T = .ok (L.map fun z => encN (mirN z)) T := by
    intro o17' T
    refine compL_map encN (fun z => encN (mirN z)) L fun z hz => ⟨_, by simp [encN]; rfl, ?_⟩
    have h23 := hlt z hz
    have e : encN (mirN z) = .tuple [.int (23 - (z.2 : Int)), .int (23 - (z.1 : Int))] := by
      have h3 := hle z hz
      show PyData.tuple [.int ((23 - z.2 : Nat) : Int), .int ((23 - z.1 : Nat) : Int)] = _
      rw [show ((23 - z.2 : Nat) : Int) = 23 - (z.2 : Int) by omega, show ((23 - z.1 : Nat) : Int) = 23 - (z.1 : Int) by omega]
    rw [e]
    simp
  have hmm : (L.map fun z => encN (mirN z)) = (L.map mirN).map encN := by rw [List.map_map]; rfl
  have hs := sortOk_N (L.map mirN) (by rw [List.length_map]; omega)
  have hll : L.length < 16777216 := by omega
  have hdL : dp 60 (.list (L'.map encN)) = true := all_encN 58 L'
  have hE2 := eqv_same _ hdL
  have hany : ∃ b : Bool, ∀ T : Store, inOf T (.d (encA x)) (.d (.tuple ((xs.take 2).map encA))) = some b := by
    refine ⟨((xs.take 2).map encA).any fun z => PyData.eqv z (encA x), fun T => ?_⟩
    have : ((xs.take 2).map encA).all (dp 60) = true := dp_map _ fun x _ => dp_encA 57 x
    rw [inOf_t]
    show (some (encA x)).bind _ = _
    rw [Option.bind_some, if_pos ⟨dp_encA 57 x, this⟩]
  obtain ⟨b, hb⟩ := hany
  have sl : ∀ T : Store, gSl T (.d (.tuple (xs.map encA))) none (some 2) = some (.d (.tuple ((xs.take 2).map encA))) := fun T => by
    rw [gSl_t, cut2, List.map_take]
  cases b <;>
  · simp (disch := omega) [L_law_1, sl, hb, gA_nm, F_price, e1', e2', hdr, hE, gsp, gsp2, F_stretches, ts, ts2, hll, hc, hmm, hs, hsort, hdL, hE2, -getElem?_pos, -gIx_t, -gSl_t, -inOf_t, -List.map_map, -List.map_take] at hX
    subst hX
    exact ⟨_, _, _, _, rfl⟩
end
section
variable {hf : MK → Int} {p : Int × Int} {W : List (Int × Int)} {ns : List (Int × Int)} {xs : List Ask}
theorem k19_asks (hk : (sky0 0 p W).Ok) (hn : ns[0]? = some p) (hx : AOk xs) (o0 o1 o2 o9 o10 o11 o12 o13 o14 : Option D) (S : Store) : ∀ (al : List Ask), (∀ x ∈ al, x ∈ xs) → ∀ (o15 o16 o17 o18 o19 o20 : Option D),
    ∃ p15 p16 p17 p18 p19 p20 : Option D, forL (gTp 2 (gsCons (gNm 15) (gsCons (gNm 16) gsNil))) (L_law_1 hf) (al.map fun x => .tuple [encA x, encA (mirA x)]) [o0, o1, o2, some (.d (enS 0 ns)), some (.d (.tuple (xs.map encA))), some (.d (enW W)), some (.d (enS 0 [mirP p])), some (.d (.tuple ((xs.map mirA).map encA))), some (.d (enW W.reverse)), o9, o10, o11, o12, o13, o14, o15, o16, o17, o18, o19, o20] S
      = .nx [o0, o1, o2, some (.d (enS 0 ns)), some (.d (.tuple (xs.map encA))), some (.d (enW W)), some (.d (enS 0 [mirP p])), some (.d (.tuple ((xs.map mirA).map encA))), some (.d (enW W.reverse)), o9, o10, o11, o12, o13, o14, p15, p16, p17, p18, p19, p20] S
  | [], _, o15, o16, o17, o18, o19, o20 => ⟨_, _, _, _, _, _, rfl⟩
  | x :: al, h, o15, o16, o17, o18, o19, o20 => by
    obtain ⟨p17, p18, p19, p20, e1⟩ := k19_ask (hf := hf) hk hn hx (h x List.mem_cons_self) o0 o1 o2 o9 o10 o11 o12 o13 o14 o17 o18 o19 o20 S
    obtain ⟨q15, q16, q17, q18, q19, q20, e2⟩ := k19_asks hk hn hx o0 o1 o2 o9 o10 o11 o12 o13 o14 S al (fun y hy => h y (List.mem_cons_of_mem _ hy)) (some (.d (encA x))) (some (.d (encA (mirA x)))) p17 p18 p19 p20
    refine ⟨q15, q16, q17, q18, q19, q20, ?_⟩
    have hg : gTp 2 (gsCons (gNm 15) (gsCons (gNm 16) gsNil)) (.tuple [encA x, encA (mirA x)]) [o0, o1, o2, some (.d (enS 0 ns)), some (.d (.tuple (xs.map encA))), some (.d (enW W)), some (.d (enS 0 [mirP p])), some (.d (.tuple ((xs.map mirA).map encA))), some (.d (enW W.reverse)), o9, o10, o11, o12, o13, o14, o15, o16, o17, o18, o19, o20]
        = some [o0, o1, o2, some (.d (enS 0 ns)), some (.d (.tuple (xs.map encA))), some (.d (enW W)), some (.d (enS 0 [mirP p])), some (.d (.tuple ((xs.map mirA).map encA))), some (.d (enW W.reverse)), o9, o10, o11, o12, o13, o14, some (.d (encA x)), some (.d (encA (mirA x))), o17, o18, o19, o20] := by
      simp
    rw [List.map_cons, forL_nx hg e1, e2]
end
theorem k19_cell {hf : MK → Int} (cell : Int) (S : Store) (o0 o2 o3 o4 o5 o6 o7 o8 o9 o10 o11 o12 o13 o14 o15 o16 o17 o18 o19 o20 : Option D) :
    ∃ (S' : Store) (p1 p2 p3 p4 p5 p6 p7 p8 p9 p10 p11 p12 p13 p14 p15 p16 p17 p18 p19 p20 : Option D), L_law_2 hf [o0, some (.d (.int cell)), o2, o3, o4, o5, o6, o7, o8, o9, o10, o11, o12, o13, o14, o15, o16, o17, o18, o19, o20] S = .nx [o0, p1, p2, p3, p4, p5, p6, p7, p8, p9, p10, p11, p12, p13, p14, p15, p16, p17, p18, p19, p20] S' := by
  generalize hX : L_law_2 hf _ S = X
  have e0 := deck_eq cell 19
  have d0 := deck_DKt cell 19
  rw [show ((19 : Nat) : Int) = 19 from rfl] at d0
  generalize ([.int (if 1000000000000000000 ≤ cell then cell - 1000000000000000000 else 0), .int (cell % 2147483579), .int 19] : List PyData) = dk at e0 d0
  obtain ⟨t, ns, dk1, e1, ht0, ht1, hn0, hn1, hng, hd1⟩ := season_ok d0 (most := 1) (by omega) (by omega) (by omega)
  obtain ⟨xs, dk2, e2, ⟨n6, hn6, hn6'⟩, hga, hd2⟩ := asks_ok (most := 4) (enS 0 ns) hd1 (by omega) (by decide) (by decide)
  obtain ⟨W, dk3, e3, hW, hd3⟩ := weather_ok hd2 (by omega)
  have hx := aok_of hn6 hga
  have hxl : xs.length ≤ 4 := by
    have : xs.length = (six.take n6).length := by rw [← hn6, List.length_map]
    rw [List.length_take] at this
    omega
  obtain ⟨p, hp⟩ : ∃ p, ns[0]? = some p := ⟨_, List.getElem?_eq_getElem (by omega)⟩
  have hpr := hng p (List.mem_of_getElem? hp)
  have hk : (sky0 0 p W).Ok := ⟨by show -1000000 < (0 : Int) ∧ (0 : Int) < 1000000; omega, hpr, hW.1⟩
  have hmk := mir_ok hk
  have hmx := mir_aok hx
  have e4 := p__law_mirrored (t := 0) (W := W) hp (xs := xs) (by omega)
  have tw := mir_twin hk hx
  have wt := mir_niwt hk hx
  obtain ⟨b, e5, hb, htop, _⟩ := best0 (hf := hf) hk hp hx
  obtain ⟨b', e6, hb', htop', _⟩ := best0 (hf := hf) (ns := [mirP p]) hmk rfl hmx
  have w1 := p_worth hx.nm (by omega) hb.sub (by have := pl_len hx hb; omega)
  have w2 := p_worth hmx.nm (by have := hmx.len; omega) hb'.sub (by have := pl_len hmx hb'; omega)
  rw [encPl_eq] at w1 w2
  have hww : wor b' = wor b := by
    obtain ⟨q1, h1, h2, _, _⟩ := tw b hb
    obtain ⟨q2, h3, h4, _, _⟩ := wt b' hb'
    have := htop' q1 h1
    have := htop q2 h3
    omega
  rw [hww] at w2
  obtain ⟨m, e7, hm, hml⟩ := sure0 (hf := hf) hk hp hx
  obtain ⟨m', e8, hm', hml'⟩ := sure0 (hf := hf) (ns := [mirP p]) hmk rfl hmx
  have s1 := span_pl hk hx hm
  have s2 := span_pl hmk hmx hm'
  rw [encPl_eq] at s1 s2
  have hss : surW (sky0 0 p W) m = surW (sky0 0 (mirP p) W.reverse) m' ∧ wor m = wor m' := by
    obtain ⟨q1, h1, h2, h3, _⟩ := tw m hm
    obtain ⟨q2, h4, h5, h6, _⟩ := wt m' hm'
    exact leV_two (hml q2 h4) (hml' q1 h1) h6 h5 h3 h2
  rw [← hss.1, ← hss.2] at s2
  have hE : PyData.eqv (.tuple [.int (surW (sky0 0 p W) m), .int (wor m)]) (.tuple [.int (surW (sky0 0 p W) m), .int (wor m)]) = true := eqv_same _ (by simp)
  have hb1 := sub_pl hx.ok (List.take_sublist 1 b) hb
  have sl : ∀ T : Store, gSl T (.d (.tuple (b.map encQ))) none (some 1) = some (.d (.tuple ((b.take 1).map encQ))) := fun T => by
    rw [gSl_t, show (1 : Int) = ((1 : Nat) : Int) from rfl, cut_to, List.map_take]
  have t1 := k19_plan (hf := hf) hk hp hx hb
  have t2 := k19_plan (hf := hf) hk hp hx hm
  have t3 := k19_plan (hf := hf) hk hp hx hb1
  have hz : zipD (xs.map encA) ((xs.map mirA).map encA) = xs.map fun x => .tuple [encA x, encA (mirA x)] := by
    unfold zipD
    rw [List.map_map, List.zipWith_map, List.zipWith_self]
    rfl
  have iS : ∀ (T : Store), gIx T (.d (enS t ns)) (.d (.int 1)) = some (.d (.tuple (ns.map encP))) := fun T => by simp (disch := omega)
  have hen : PyData.tuple [.int 0, .tuple (ns.map encP)] = enS 0 ns := rfl
  have g5 : ∀ (x y z : PyData) (ρ : Sky.Env), gTp 3 (gsCons (gNm 6) (gsCons (gNm 7) (gsCons (gNm 8) gsNil))) (.tuple [x, y, z]) ρ = some (((ρ.set 6 (some (.d x))).set 7 (some (.d y))).set 8 (some (.d z))) := fun x y z ρ => by simp
  obtain ⟨q15, q16, q17, q18, q19, q20, e9⟩ := k19_asks (hf := hf) hk hp hx o0 (some (.d (.int cell))) (some (.r S.length)) (some (.d (.tuple (b.map encQ)))) (some (.d (.tuple (b'.map encQ)))) (some (.d (.tuple (m.map encQ)))) (some (.d (.tuple (m'.map encQ)))) (some (.d (.tuple ((b.take 1).map encQ)))) (some (.d (.tuple ((mir (b.take 1)).map encQ)))) (S ++ [.lst dk3]) xs (fun _ h => h) o15 o16 o17 o18 o19 o20
  have hg : ∀ (x : PyData) (o13' o14' : Option D), gNm 13 x [o0, some (.d (.int cell)), some (.r S.length), some (.d (enS 0 ns)), some (.d (.tuple (xs.map encA))), some (.d (enW W)), some (.d (enS 0 [mirP p])), some (.d (.tuple ((xs.map mirA).map encA))), some (.d (enW W.reverse)), some (.d (.tuple (b.map encQ))), some (.d (.tuple (b'.map encQ))), some (.d (.tuple (m.map encQ))), some (.d (.tuple (m'.map encQ))), o13', o14', o15, o16, o17, o18, o19, o20] = some [o0, some (.d (.int cell)), some (.r S.length), some (.d (enS 0 ns)), some (.d (.tuple (xs.map encA))), some (.d (enW W)), some (.d (enS 0 [mirP p])), some (.d (.tuple ((xs.map mirA).map encA))), some (.d (enW W.reverse)), some (.d (.tuple (b.map encQ))), some (.d (.tuple (b'.map encQ))), some (.d (.tuple (m.map encQ))), some (.d (.tuple (m'.map encQ))), some (.d x), o14', o15, o16, o17, o18, o19, o20] := fun x _ _ => by simp only [gNm_ap, List.set_cons_succ, List.set_cons_zero]
  have fl : forL (gNm 13) (L_law_0 hf) [.tuple (b.map encQ), .tuple (m.map encQ), .tuple ((b.take 1).map encQ)] [o0, some (.d (.int cell)), some (.r S.length), some (.d (enS 0 ns)), some (.d (.tuple (xs.map encA))), some (.d (enW W)), some (.d (enS 0 [mirP p])), some (.d (.tuple ((xs.map mirA).map encA))), some (.d (enW W.reverse)), some (.d (.tuple (b.map encQ))), some (.d (.tuple (b'.map encQ))), some (.d (.tuple (m.map encQ))), some (.d (.tuple (m'.map encQ))), o13, o14, o15, o16, o17, o18, o19, o20] (S ++ [.lst dk3])
      = .nx [o0, some (.d (.int cell)), some (.r S.length), some (.d (enS 0 ns)), some (.d (.tuple (xs.map encA))), some (.d (enW W)), some (.d (enS 0 [mirP p])), some (.d (.tuple ((xs.map mirA).map encA))), some (.d (enW W.reverse)), some (.d (.tuple (b.map encQ))), some (.d (.tuple (b'.map encQ))), some (.d (.tuple (m.map encQ))), some (.d (.tuple (m'.map encQ))), some (.d (.tuple ((b.take 1).map encQ))), some (.d (.tuple ((mir (b.take 1)).map encQ))), o15, o16, o17, o18, o19, o20] (S ++ [.lst dk3]) := by
    rw [forL_nx (hg _ _ _) (t1 _ _ _ _ _ _ _ _ _ _ _ _ _ _ _), forL_nx (hg _ _ _) (t2 _ _ _ _ _ _ _ _ _ _ _ _ _ _ _), forL_nx (hg _ _ _) (t3 _ _ _ _ _ _ _ _ _ _ _ _ _ _ _)]
    rfl
  simp (disch := omega) [L_law_2, e0, F__law_season, e1, iS, hen, F__law_asks, e2, F__law_weather, e3, F__law_mirrored, e4, g5, F_best_plan, e5, e6, F_worth, w1, w2, F_surest_plan, e7, e8, F_span, s1, s2, hE, sl, fl, hz, e9, -getElem?_pos, -gIx_t, -gSl_t, -gTp_t, -List.map_map, -List.map_take] at hX
  subst hX
  exact ⟨_, _, _, _, _, _, _, _, _, _, _, _, _, _, _, _, _, _, _, _, _, rfl⟩

theorem law_true (hf : MK → Int) (ns : List Int) (hl : ns.length ≤ 63) : ∃ S, F_law hf [.s ns] [] = .ok (.d (.bool true)) S := by
  obtain ⟨l, hl2, c8⟩ : ∃ l : List Int, 1 + l.length ≤ 16777216 ∧ cutD ns none (some 5) = l := ⟨_, by rw [List.length_take]; omega, cut_to ns 5⟩
  simp (disch := omega) [F_law, runF_ap, B_law, c8, hl2]
  generalize hq : forL _ _ _ _ _ = q
  suffices H : ∃ ρ S, q = .nx ρ S by
    obtain ⟨ρ, S, rfl⟩ := H
    exact ⟨S, by simp⟩
  rw [← hq]
  obtain ⟨I, hI⟩ := hide fun i ρ S' => ∃ o1 o2 o3 o4 o5 o6 o7 o8 o9 o10 o11 o12 o13 o14 o15 o16 o17 o18 o19 o20 : Option D, ρ = [some (.s ns), o1, o2, o3, o4, o5, o6, o7, o8, o9, o10, o11, o12, o13, o14, o15, o16, o17, o18, o19, o20]
  refine forL_inv (R := fun q => ∃ ρ S, q = .nx ρ S) _ I ?_ ?_ ?_
  · rw [hI]; exact ⟨_, _, _, _, _, _, _, _, _, _, _, _, _, _, _, _, _, _, _, _, rfl⟩
  · intro i x ρ S' hx h
    rw [hI] at h
    obtain ⟨o1, o2, o3, o4, o5, o6, o7, o8, o9, o10, o11, o12, o13, o14, o15, o16, o17, o18, o19, o20, rfl⟩ := h
    refine ⟨_, gNm_ap _ _, ?_⟩
    obtain ⟨cell, rfl⟩ : ∃ cell : Int, x = .int cell := by
      have := List.mem_of_getElem? hx
      rcases List.mem_cons.mp this with rfl | h
      · exact ⟨_, rfl⟩
      · obtain ⟨z, _, rfl⟩ := List.mem_map.mp h
        exact ⟨_, rfl⟩
    obtain ⟨S2, y1, y2, y3, y4, y5, y6, y7, y8, y9, y10, y11, y12, y13, y14, y15, y16, y17, y18, y19, y20, e⟩ := k19_cell (hf := hf) cell S' (some (.s ns)) o2 o3 o4 o5 o6 o7 o8 o9 o10 o11 o12 o13 o14 o15 o16 o17 o18 o19 o20
    simp only [List.set_cons_succ, List.set_cons_zero]
    rw [e]
    show I _ _ _
    rw [hI]
    exact ⟨_, _, _, _, _, _, _, _, _, _, _, _, _, _, _, _, _, _, _, _, rfl⟩
  · intro ρ S h
    exact ⟨ρ, S, rfl⟩
end KK
end
section
namespace KK
open PySem PySem.Spec PyProof.Rows L2 Sky
set_option maxHeartbeats 8000000 in
theorem all_mk {l : PySem.W.OpenLaw} {w : World} {K : PySem.W.Frag} {h : Heap} {mg : Str → Option Value} {fa : Addr} (X : K.In h) (G : h.Ns mainGlobals mg) (hfa : mg "law" = some (.ref fa))
    {C_Night : Addr}
    {f_is_from : Addr} {od_is_from an_is_from : Option Addr} {sl_is_from : Array (Option Value)} {oc_is_from kV_is_from dc_is_from pm_is_from cd_is_from ct_is_from : Value}
    {f_middle : Addr} {od_middle an_middle : Option Addr} {sl_middle : Array (Option Value)} {oc_middle kV_middle dc_middle pm_middle cd_middle ct_middle : Value}
    {f_is_up : Addr} {od_is_up an_is_up : Option Addr} {sl_is_up : Array (Option Value)} {oc_is_up kV_is_up dc_is_up pm_is_up cd_is_up ct_is_up : Value}
    {f_is_dark : Addr} {od_is_dark an_is_dark : Option Addr} {sl_is_dark : Array (Option Value)} {oc_is_dark kV_is_dark dc_is_dark pm_is_dark cd_is_dark ct_is_dark : Value}
    {f_stretches : Addr} {od_stretches an_stretches : Option Addr} {sl_stretches : Array (Option Value)} {oc_stretches kV_stretches dc_stretches pm_stretches cd_stretches ct_stretches : Value}
    {f_slots_of : Addr} {od_slots_of an_slots_of : Option Addr} {sl_slots_of : Array (Option Value)} {oc_slots_of kV_slots_of dc_slots_of pm_slots_of cd_slots_of ct_slots_of : Value}
    {f_may_begin : Addr} {od_may_begin an_may_begin : Option Addr} {sl_may_begin : Array (Option Value)} {oc_may_begin kV_may_begin dc_may_begin pm_may_begin cd_may_begin ct_may_begin : Value}
    {f_begins : Addr} {od_begins an_begins : Option Addr} {sl_begins : Array (Option Value)} {oc_begins kV_begins dc_begins pm_begins cd_begins ct_begins : Value}
    {f_table_of : Addr} {od_table_of an_table_of : Option Addr} {sl_table_of : Array (Option Value)} {oc_table_of kV_table_of dc_table_of pm_table_of cd_table_of ct_table_of : Value}
    {f_are_apart : Addr} {od_are_apart an_are_apart : Option Addr} {sl_are_apart : Array (Option Value)} {oc_are_apart kV_are_apart dc_are_apart pm_are_apart cd_are_apart ct_are_apart : Value}
    {f_is_plan : Addr} {od_is_plan an_is_plan : Option Addr} {sl_is_plan : Array (Option Value)} {oc_is_plan kV_is_plan dc_is_plan pm_is_plan cd_is_plan ct_is_plan : Value}
    {f_worth : Addr} {od_worth an_worth : Option Addr} {sl_worth : Array (Option Value)} {oc_worth kV_worth dc_worth pm_worth cd_worth ct_worth : Value}
    {f_is_sure : Addr} {od_is_sure an_is_sure : Option Addr} {sl_is_sure : Array (Option Value)} {oc_is_sure kV_is_sure dc_is_sure pm_is_sure cd_is_sure ct_is_sure : Value}
    {f_Night___init__ : Addr} {od_Night___init__ an_Night___init__ : Option Addr} {sl_Night___init__ : Array (Option Value)} {oc_Night___init__ kV_Night___init__ dc_Night___init__ pm_Night___init__ cd_Night___init__ ct_Night___init__ : Value}
    {f_Night_has_room : Addr} {od_Night_has_room an_Night_has_room : Option Addr} {sl_Night_has_room : Array (Option Value)} {oc_Night_has_room kV_Night_has_room dc_Night_has_room pm_Night_has_room cd_Night_has_room ct_Night_has_room : Value}
    {f_Night_places : Addr} {od_Night_places an_Night_places : Option Addr} {sl_Night_places : Array (Option Value)} {oc_Night_places kV_Night_places dc_Night_places pm_Night_places cd_Night_places ct_Night_places : Value}
    {f_Night_value : Addr} {od_Night_value an_Night_value : Option Addr} {sl_Night_value : Array (Option Value)} {oc_Night_value kV_Night_value dc_Night_value pm_Night_value cd_Night_value ct_Night_value : Value}
    {f_Night_best : Addr} {od_Night_best an_Night_best : Option Addr} {sl_Night_best : Array (Option Value)} {oc_Night_best kV_Night_best dc_Night_best pm_Night_best cd_Night_best ct_Night_best : Value}
    {f_Night_plan : Addr} {od_Night_plan an_Night_plan : Option Addr} {sl_Night_plan : Array (Option Value)} {oc_Night_plan kV_Night_plan dc_Night_plan pm_Night_plan cd_Night_plan ct_Night_plan : Value}
    {f_best_plan : Addr} {od_best_plan an_best_plan : Option Addr} {sl_best_plan : Array (Option Value)} {oc_best_plan kV_best_plan dc_best_plan pm_best_plan cd_best_plan ct_best_plan : Value}
    {f_price : Addr} {od_price an_price : Option Addr} {sl_price : Array (Option Value)} {oc_price kV_price dc_price pm_price cd_price ct_price : Value}
    {f_span : Addr} {od_span an_span : Option Addr} {sl_span : Array (Option Value)} {oc_span kV_span dc_span pm_span cd_span ct_span : Value}
    {f_surest_plan : Addr} {od_surest_plan an_surest_plan : Option Addr} {sl_surest_plan : Array (Option Value)} {oc_surest_plan kV_surest_plan dc_surest_plan pm_surest_plan cd_surest_plan ct_surest_plan : Value}
    {f__law_deck : Addr} {od__law_deck an__law_deck : Option Addr} {sl__law_deck : Array (Option Value)} {oc__law_deck kV__law_deck dc__law_deck pm__law_deck cd__law_deck ct__law_deck : Value}
    {f__law_pick : Addr} {od__law_pick an__law_pick : Option Addr} {sl__law_pick : Array (Option Value)} {oc__law_pick kV__law_pick dc__law_pick pm__law_pick cd__law_pick ct__law_pick : Value}
    {f__law_season : Addr} {od__law_season an__law_season : Option Addr} {sl__law_season : Array (Option Value)} {oc__law_season kV__law_season dc__law_season pm__law_season cd__law_season ct__law_season : Value}
    {f__law_asks : Addr} {od__law_asks an__law_asks : Option Addr} {sl__law_asks : Array (Option Value)} {oc__law_asks kV__law_asks dc__law_asks pm__law_asks cd__law_asks ct__law_asks : Value}
    {f__law_weather : Addr} {od__law_weather an__law_weather : Option Addr} {sl__law_weather : Array (Option Value)} {oc__law_weather kV__law_weather dc__law_weather pm__law_weather cd__law_weather ct__law_weather : Value}
    {f__law_mirrored : Addr} {od__law_mirrored an__law_mirrored : Option Addr} {sl__law_mirrored : Array (Option Value)} {oc__law_mirrored kV__law_mirrored dc__law_mirrored pm__law_mirrored cd__law_mirrored ct__law_mirrored : Value}
    {f__law_plan_back : Addr} {od__law_plan_back an__law_plan_back : Option Addr} {sl__law_plan_back : Array (Option Value)} {oc__law_plan_back kV__law_plan_back dc__law_plan_back pm__law_plan_back cd__law_plan_back ct__law_plan_back : Value}
    {f_law : Addr} {od_law an_law : Option Addr} {sl_law : Array (Option Value)} {oc_law kV_law dc_law pm_law cd_law ct_law : Value}
    {t_MUCH : Tok}
    {t_RING : Tok}
    {t_SLOTS : Tok}
    (aC_Night : PySem.W.nsIn K mainGlobals "Night" = some (some (.ref C_Night)))
    (pg_Night : PySem.W.plainGet K C_Night Str.empty = true)
    (hd_Night : PySem.W.hasDictIn K C_Night = true)
    (po_Night : PySem.W.plainOver K C_Night = true)
    (sa_Night : PySem.W.findIn K (.ref C_Night) "__setattr__" = some (some (.builtin "object.__setattr__")))
    (mk_Night : PySem.W.makesIn K C_Night = true)
    (kc_Night : PySem.W.keepIn K (.ref C_Night) = true)
    (n_Night_known : PySem.W.findIn K (.ref C_Night) "known" = some none)
    (n_Night_room : PySem.W.findIn K (.ref C_Night) "room" = some none)
    (n_Night_spots : PySem.W.findIn K (.ref C_Night) "spots" = some none)
    (n_Night_sure : PySem.W.findIn K (.ref C_Night) "sure" = some none)
    (n_Night_table : PySem.W.findIn K (.ref C_Night) "table" = some none)
    (n_Night_weather : PySem.W.findIn K (.ref C_Night) "weather" = some none)
    (n_Night_worths : PySem.W.findIn K (.ref C_Night) "worths" = some none)
    (a_is_from : PySem.W.nsIn K mainGlobals "is_from" = some (some (.ref f_is_from)))
    (l_is_from : K.lookup f_is_from = some ⟨oc_is_from, od_is_from, .func (PySem.W.fnOf "is_from" "is_from" (defArgs s_is_from) (defBody s_is_from) (defScope s_is_from) .none kV_is_from dc_is_from pm_is_from an_is_from cd_is_from ct_is_from), sl_is_from⟩)
    (c_is_from : PySem.W.codeIn K cd_is_from "is_from" = true)
    (k_is_from : PySem.W.keepIn K (.ref f_is_from) = true)
    (a_middle : PySem.W.nsIn K mainGlobals "middle" = some (some (.ref f_middle)))
    (l_middle : K.lookup f_middle = some ⟨oc_middle, od_middle, .func (PySem.W.fnOf "middle" "middle" (defArgs s_middle) (defBody s_middle) (defScope s_middle) .none kV_middle dc_middle pm_middle an_middle cd_middle ct_middle), sl_middle⟩)
    (c_middle : PySem.W.codeIn K cd_middle "middle" = true)
    (k_middle : PySem.W.keepIn K (.ref f_middle) = true)
    (a_is_up : PySem.W.nsIn K mainGlobals "is_up" = some (some (.ref f_is_up)))
    (l_is_up : K.lookup f_is_up = some ⟨oc_is_up, od_is_up, .func (PySem.W.fnOf "is_up" "is_up" (defArgs s_is_up) (defBody s_is_up) (defScope s_is_up) .none kV_is_up dc_is_up pm_is_up an_is_up cd_is_up ct_is_up), sl_is_up⟩)
    (c_is_up : PySem.W.codeIn K cd_is_up "is_up" = true)
    (k_is_up : PySem.W.keepIn K (.ref f_is_up) = true)
    (a_is_dark : PySem.W.nsIn K mainGlobals "is_dark" = some (some (.ref f_is_dark)))
    (l_is_dark : K.lookup f_is_dark = some ⟨oc_is_dark, od_is_dark, .func (PySem.W.fnOf "is_dark" "is_dark" (defArgs s_is_dark) (defBody s_is_dark) (defScope s_is_dark) .none kV_is_dark dc_is_dark pm_is_dark an_is_dark cd_is_dark ct_is_dark), sl_is_dark⟩)
    (c_is_dark : PySem.W.codeIn K cd_is_dark "is_dark" = true)
    (k_is_dark : PySem.W.keepIn K (.ref f_is_dark) = true)
    (a_stretches : PySem.W.nsIn K mainGlobals "stretches" = some (some (.ref f_stretches)))
    (l_stretches : K.lookup f_stretches = some ⟨oc_stretches, od_stretches, .func (PySem.W.fnOf "stretches" "stretches" (defArgs s_stretches) (defBody s_stretches) (defScope s_stretches) .none kV_stretches dc_stretches pm_stretches an_stretches cd_stretches ct_stretches), sl_stretches⟩)
    (c_stretches : PySem.W.codeIn K cd_stretches "stretches" = true)
    (k_stretches : PySem.W.keepIn K (.ref f_stretches) = true)
    (a_slots_of : PySem.W.nsIn K mainGlobals "slots_of" = some (some (.ref f_slots_of)))
    (l_slots_of : K.lookup f_slots_of = some ⟨oc_slots_of, od_slots_of, .func (PySem.W.fnOf "slots_of" "slots_of" (defArgs s_slots_of) (defBody s_slots_of) (defScope s_slots_of) .none kV_slots_of dc_slots_of pm_slots_of an_slots_of cd_slots_of ct_slots_of), sl_slots_of⟩)
    (c_slots_of : PySem.W.codeIn K cd_slots_of "slots_of" = true)
    (k_slots_of : PySem.W.keepIn K (.ref f_slots_of) = true)
    (a_may_begin : PySem.W.nsIn K mainGlobals "may_begin" = some (some (.ref f_may_begin)))
    (l_may_begin : K.lookup f_may_begin = some ⟨oc_may_begin, od_may_begin, .func (PySem.W.fnOf "may_begin" "may_begin" (defArgs s_may_begin) (defBody s_may_begin) (defScope s_may_begin) .none kV_may_begin dc_may_begin pm_may_begin an_may_begin cd_may_begin ct_may_begin), sl_may_begin⟩)
    (c_may_begin : PySem.W.codeIn K cd_may_begin "may_begin" = true)
    (k_may_begin : PySem.W.keepIn K (.ref f_may_begin) = true)
    (a_begins : PySem.W.nsIn K mainGlobals "begins" = some (some (.ref f_begins)))
    (l_begins : K.lookup f_begins = some ⟨oc_begins, od_begins, .func (PySem.W.fnOf "begins" "begins" (defArgs s_begins) (defBody s_begins) (defScope s_begins) .none kV_begins dc_begins pm_begins an_begins cd_begins ct_begins), sl_begins⟩)
    (c_begins : PySem.W.codeIn K cd_begins "begins" = true)
    (k_begins : PySem.W.keepIn K (.ref f_begins) = true)
    (a_table_of : PySem.W.nsIn K mainGlobals "table_of" = some (some (.ref f_table_of)))
    (l_table_of : K.lookup f_table_of = some ⟨oc_table_of, od_table_of, .func (PySem.W.fnOf "table_of" "table_of" (defArgs s_table_of) (defBody s_table_of) (defScope s_table_of) .none kV_table_of dc_table_of pm_table_of an_table_of cd_table_of ct_table_of), sl_table_of⟩)
    (c_table_of : PySem.W.codeIn K cd_table_of "table_of" = true)
    (k_table_of : PySem.W.keepIn K (.ref f_table_of) = true)
    (a_are_apart : PySem.W.nsIn K mainGlobals "are_apart" = some (some (.ref f_are_apart)))
    (l_are_apart : K.lookup f_are_apart = some ⟨oc_are_apart, od_are_apart, .func (PySem.W.fnOf "are_apart" "are_apart" (defArgs s_are_apart) (defBody s_are_apart) (defScope s_are_apart) .none kV_are_apart dc_are_apart pm_are_apart an_are_apart cd_are_apart ct_are_apart), sl_are_apart⟩)
    (c_are_apart : PySem.W.codeIn K cd_are_apart "are_apart" = true)
    (k_are_apart : PySem.W.keepIn K (.ref f_are_apart) = true)
    (a_is_plan : PySem.W.nsIn K mainGlobals "is_plan" = some (some (.ref f_is_plan)))
    (l_is_plan : K.lookup f_is_plan = some ⟨oc_is_plan, od_is_plan, .func (PySem.W.fnOf "is_plan" "is_plan" (defArgs s_is_plan) (defBody s_is_plan) (defScope s_is_plan) .none kV_is_plan dc_is_plan pm_is_plan an_is_plan cd_is_plan ct_is_plan), sl_is_plan⟩)
    (c_is_plan : PySem.W.codeIn K cd_is_plan "is_plan" = true)
    (k_is_plan : PySem.W.keepIn K (.ref f_is_plan) = true)
    (a_worth : PySem.W.nsIn K mainGlobals "worth" = some (some (.ref f_worth)))
    (l_worth : K.lookup f_worth = some ⟨oc_worth, od_worth, .func (PySem.W.fnOf "worth" "worth" (defArgs s_worth) (defBody s_worth) (defScope s_worth) .none kV_worth dc_worth pm_worth an_worth cd_worth ct_worth), sl_worth⟩)
    (c_worth : PySem.W.codeIn K cd_worth "worth" = true)
    (k_worth : PySem.W.keepIn K (.ref f_worth) = true)
    (a_is_sure : PySem.W.nsIn K mainGlobals "is_sure" = some (some (.ref f_is_sure)))
    (l_is_sure : K.lookup f_is_sure = some ⟨oc_is_sure, od_is_sure, .func (PySem.W.fnOf "is_sure" "is_sure" (defArgs s_is_sure) (defBody s_is_sure) (defScope s_is_sure) .none kV_is_sure dc_is_sure pm_is_sure an_is_sure cd_is_sure ct_is_sure), sl_is_sure⟩)
    (c_is_sure : PySem.W.codeIn K cd_is_sure "is_sure" = true)
    (k_is_sure : PySem.W.keepIn K (.ref f_is_sure) = true)
    (a_Night___init__ : PySem.W.findIn K (.ref C_Night) "__init__" = some (some (.ref f_Night___init__)))
    (i_Night___init__ : PySem.W.isFn K (.ref f_Night___init__) = true)
    (l_Night___init__ : K.lookup f_Night___init__ = some ⟨oc_Night___init__, od_Night___init__, .func (PySem.W.fnOf "__init__" "Night.__init__" (defArgs s_Night___init__) (defBody s_Night___init__) (defScope s_Night___init__) .none kV_Night___init__ dc_Night___init__ pm_Night___init__ an_Night___init__ cd_Night___init__ ct_Night___init__), sl_Night___init__⟩)
    (c_Night___init__ : PySem.W.codeIn K cd_Night___init__ "Night.__init__" = true)
    (k_Night___init__ : PySem.W.keepIn K (.ref f_Night___init__) = true)
    (a_Night_has_room : PySem.W.findIn K (.ref C_Night) "has_room" = some (some (.ref f_Night_has_room)))
    (i_Night_has_room : PySem.W.isFn K (.ref f_Night_has_room) = true)
    (l_Night_has_room : K.lookup f_Night_has_room = some ⟨oc_Night_has_room, od_Night_has_room, .func (PySem.W.fnOf "has_room" "Night.has_room" (defArgs s_Night_has_room) (defBody s_Night_has_room) (defScope s_Night_has_room) .none kV_Night_has_room dc_Night_has_room pm_Night_has_room an_Night_has_room cd_Night_has_room ct_Night_has_room), sl_Night_has_room⟩)
    (c_Night_has_room : PySem.W.codeIn K cd_Night_has_room "Night.has_room" = true)
    (k_Night_has_room : PySem.W.keepIn K (.ref f_Night_has_room) = true)
    (a_Night_places : PySem.W.findIn K (.ref C_Night) "places" = some (some (.ref f_Night_places)))
    (i_Night_places : PySem.W.isFn K (.ref f_Night_places) = true)
    (l_Night_places : K.lookup f_Night_places = some ⟨oc_Night_places, od_Night_places, .func (PySem.W.fnOf "places" "Night.places" (defArgs s_Night_places) (defBody s_Night_places) (defScope s_Night_places) .none kV_Night_places dc_Night_places pm_Night_places an_Night_places cd_Night_places ct_Night_places), sl_Night_places⟩)
    (c_Night_places : PySem.W.codeIn K cd_Night_places "Night.places" = true)
    (k_Night_places : PySem.W.keepIn K (.ref f_Night_places) = true)
    (a_Night_value : PySem.W.findIn K (.ref C_Night) "value" = some (some (.ref f_Night_value)))
    (i_Night_value : PySem.W.isFn K (.ref f_Night_value) = true)
    (l_Night_value : K.lookup f_Night_value = some ⟨oc_Night_value, od_Night_value, .func (PySem.W.fnOf "value" "Night.value" (defArgs s_Night_value) (defBody s_Night_value) (defScope s_Night_value) .none kV_Night_value dc_Night_value pm_Night_value an_Night_value cd_Night_value ct_Night_value), sl_Night_value⟩)
    (c_Night_value : PySem.W.codeIn K cd_Night_value "Night.value" = true)
    (k_Night_value : PySem.W.keepIn K (.ref f_Night_value) = true)
    (a_Night_best : PySem.W.findIn K (.ref C_Night) "best" = some (some (.ref f_Night_best)))
    (i_Night_best : PySem.W.isFn K (.ref f_Night_best) = true)
    (l_Night_best : K.lookup f_Night_best = some ⟨oc_Night_best, od_Night_best, .func (PySem.W.fnOf "best" "Night.best" (defArgs s_Night_best) (defBody s_Night_best) (defScope s_Night_best) .none kV_Night_best dc_Night_best pm_Night_best an_Night_best cd_Night_best ct_Night_best), sl_Night_best⟩)
    (c_Night_best : PySem.W.codeIn K cd_Night_best "Night.best" = true)
    (k_Night_best : PySem.W.keepIn K (.ref f_Night_best) = true)
    (a_Night_plan : PySem.W.findIn K (.ref C_Night) "plan" = some (some (.ref f_Night_plan)))
    (i_Night_plan : PySem.W.isFn K (.ref f_Night_plan) = true)
    (l_Night_plan : K.lookup f_Night_plan = some ⟨oc_Night_plan, od_Night_plan, .func (PySem.W.fnOf "plan" "Night.plan" (defArgs s_Night_plan) (defBody s_Night_plan) (defScope s_Night_plan) .none kV_Night_plan dc_Night_plan pm_Night_plan an_Night_plan cd_Night_plan ct_Night_plan), sl_Night_plan⟩)
    (c_Night_plan : PySem.W.codeIn K cd_Night_plan "Night.plan" = true)
    (k_Night_plan : PySem.W.keepIn K (.ref f_Night_plan) = true)
    (a_best_plan : PySem.W.nsIn K mainGlobals "best_plan" = some (some (.ref f_best_plan)))
    (l_best_plan : K.lookup f_best_plan = some ⟨oc_best_plan, od_best_plan, .func (PySem.W.fnOf "best_plan" "best_plan" (defArgs s_best_plan) (defBody s_best_plan) (defScope s_best_plan) .none kV_best_plan dc_best_plan pm_best_plan an_best_plan cd_best_plan ct_best_plan), sl_best_plan⟩)
    (c_best_plan : PySem.W.codeIn K cd_best_plan "best_plan" = true)
    (k_best_plan : PySem.W.keepIn K (.ref f_best_plan) = true)
    (a_price : PySem.W.nsIn K mainGlobals "price" = some (some (.ref f_price)))
    (l_price : K.lookup f_price = some ⟨oc_price, od_price, .func (PySem.W.fnOf "price" "price" (defArgs s_price) (defBody s_price) (defScope s_price) .none kV_price dc_price pm_price an_price cd_price ct_price), sl_price⟩)
    (c_price : PySem.W.codeIn K cd_price "price" = true)
    (k_price : PySem.W.keepIn K (.ref f_price) = true)
    (a_span : PySem.W.nsIn K mainGlobals "span" = some (some (.ref f_span)))
    (l_span : K.lookup f_span = some ⟨oc_span, od_span, .func (PySem.W.fnOf "span" "span" (defArgs s_span) (defBody s_span) (defScope s_span) .none kV_span dc_span pm_span an_span cd_span ct_span), sl_span⟩)
    (c_span : PySem.W.codeIn K cd_span "span" = true)
    (k_span : PySem.W.keepIn K (.ref f_span) = true)
    (a_surest_plan : PySem.W.nsIn K mainGlobals "surest_plan" = some (some (.ref f_surest_plan)))
    (l_surest_plan : K.lookup f_surest_plan = some ⟨oc_surest_plan, od_surest_plan, .func (PySem.W.fnOf "surest_plan" "surest_plan" (defArgs s_surest_plan) (defBody s_surest_plan) (defScope s_surest_plan) .none kV_surest_plan dc_surest_plan pm_surest_plan an_surest_plan cd_surest_plan ct_surest_plan), sl_surest_plan⟩)
    (c_surest_plan : PySem.W.codeIn K cd_surest_plan "surest_plan" = true)
    (k_surest_plan : PySem.W.keepIn K (.ref f_surest_plan) = true)
    (a__law_deck : PySem.W.nsIn K mainGlobals "_law_deck" = some (some (.ref f__law_deck)))
    (l__law_deck : K.lookup f__law_deck = some ⟨oc__law_deck, od__law_deck, .func (PySem.W.fnOf "_law_deck" "_law_deck" (defArgs s__law_deck) (defBody s__law_deck) (defScope s__law_deck) .none kV__law_deck dc__law_deck pm__law_deck an__law_deck cd__law_deck ct__law_deck), sl__law_deck⟩)
    (c__law_deck : PySem.W.codeIn K cd__law_deck "_law_deck" = true)
    (k__law_deck : PySem.W.keepIn K (.ref f__law_deck) = true)
    (a__law_pick : PySem.W.nsIn K mainGlobals "_law_pick" = some (some (.ref f__law_pick)))
    (l__law_pick : K.lookup f__law_pick = some ⟨oc__law_pick, od__law_pick, .func (PySem.W.fnOf "_law_pick" "_law_pick" (defArgs s__law_pick) (defBody s__law_pick) (defScope s__law_pick) .none kV__law_pick dc__law_pick pm__law_pick an__law_pick cd__law_pick ct__law_pick), sl__law_pick⟩)
    (c__law_pick : PySem.W.codeIn K cd__law_pick "_law_pick" = true)
    (k__law_pick : PySem.W.keepIn K (.ref f__law_pick) = true)
    (a__law_season : PySem.W.nsIn K mainGlobals "_law_season" = some (some (.ref f__law_season)))
    (l__law_season : K.lookup f__law_season = some ⟨oc__law_season, od__law_season, .func (PySem.W.fnOf "_law_season" "_law_season" (defArgs s__law_season) (defBody s__law_season) (defScope s__law_season) .none kV__law_season dc__law_season pm__law_season an__law_season cd__law_season ct__law_season), sl__law_season⟩)
    (c__law_season : PySem.W.codeIn K cd__law_season "_law_season" = true)
    (k__law_season : PySem.W.keepIn K (.ref f__law_season) = true)
    (a__law_asks : PySem.W.nsIn K mainGlobals "_law_asks" = some (some (.ref f__law_asks)))
    (l__law_asks : K.lookup f__law_asks = some ⟨oc__law_asks, od__law_asks, .func (PySem.W.fnOf "_law_asks" "_law_asks" (defArgs s__law_asks) (defBody s__law_asks) (defScope s__law_asks) .none kV__law_asks dc__law_asks pm__law_asks an__law_asks cd__law_asks ct__law_asks), sl__law_asks⟩)
    (c__law_asks : PySem.W.codeIn K cd__law_asks "_law_asks" = true)
    (k__law_asks : PySem.W.keepIn K (.ref f__law_asks) = true)
    (a__law_weather : PySem.W.nsIn K mainGlobals "_law_weather" = some (some (.ref f__law_weather)))
    (l__law_weather : K.lookup f__law_weather = some ⟨oc__law_weather, od__law_weather, .func (PySem.W.fnOf "_law_weather" "_law_weather" (defArgs s__law_weather) (defBody s__law_weather) (defScope s__law_weather) .none kV__law_weather dc__law_weather pm__law_weather an__law_weather cd__law_weather ct__law_weather), sl__law_weather⟩)
    (c__law_weather : PySem.W.codeIn K cd__law_weather "_law_weather" = true)
    (k__law_weather : PySem.W.keepIn K (.ref f__law_weather) = true)
    (a__law_mirrored : PySem.W.nsIn K mainGlobals "_law_mirrored" = some (some (.ref f__law_mirrored)))
    (l__law_mirrored : K.lookup f__law_mirrored = some ⟨oc__law_mirrored, od__law_mirrored, .func (PySem.W.fnOf "_law_mirrored" "_law_mirrored" (defArgs s__law_mirrored) (defBody s__law_mirrored) (defScope s__law_mirrored) .none kV__law_mirrored dc__law_mirrored pm__law_mirrored an__law_mirrored cd__law_mirrored ct__law_mirrored), sl__law_mirrored⟩)
    (c__law_mirrored : PySem.W.codeIn K cd__law_mirrored "_law_mirrored" = true)
    (k__law_mirrored : PySem.W.keepIn K (.ref f__law_mirrored) = true)
    (a__law_plan_back : PySem.W.nsIn K mainGlobals "_law_plan_back" = some (some (.ref f__law_plan_back)))
    (l__law_plan_back : K.lookup f__law_plan_back = some ⟨oc__law_plan_back, od__law_plan_back, .func (PySem.W.fnOf "_law_plan_back" "_law_plan_back" (defArgs s__law_plan_back) (defBody s__law_plan_back) (defScope s__law_plan_back) .none kV__law_plan_back dc__law_plan_back pm__law_plan_back an__law_plan_back cd__law_plan_back ct__law_plan_back), sl__law_plan_back⟩)
    (c__law_plan_back : PySem.W.codeIn K cd__law_plan_back "_law_plan_back" = true)
    (k__law_plan_back : PySem.W.keepIn K (.ref f__law_plan_back) = true)
    (a_law : PySem.W.nsIn K mainGlobals "law" = some (some (.ref f_law)))
    (l_law : K.lookup f_law = some ⟨oc_law, od_law, .func (PySem.W.fnOf "law" "law" (defArgs s_law) (defBody s_law) (defScope s_law) .none kV_law dc_law pm_law an_law cd_law ct_law), sl_law⟩)
    (c_law : PySem.W.codeIn K cd_law "law" = true)
    (k_law : PySem.W.keepIn K (.ref f_law) = true)
    (z_abs : PySem.W.nsIn K mainGlobals "abs" = some none)
    (z_all : PySem.W.nsIn K mainGlobals "all" = some none)
    (z_bool : PySem.W.nsIn K mainGlobals "bool" = some none)
    (z_dict : PySem.W.nsIn K mainGlobals "dict" = some none)
    (z_int : PySem.W.nsIn K mainGlobals "int" = some none)
    (z_isinstance : PySem.W.nsIn K mainGlobals "isinstance" = some none)
    (z_len : PySem.W.nsIn K mainGlobals "len" = some none)
    (z_list : PySem.W.nsIn K mainGlobals "list" = some none)
    (z_min : PySem.W.nsIn K mainGlobals "min" = some none)
    (z_range : PySem.W.nsIn K mainGlobals "range" = some none)
    (z_set : PySem.W.nsIn K mainGlobals "set" = some none)
    (z_sorted : PySem.W.nsIn K mainGlobals "sorted" = some none)
    (z_str : PySem.W.nsIn K mainGlobals "str" = some none)
    (z_sum : PySem.W.nsIn K mainGlobals "sum" = some none)
    (z_tuple : PySem.W.nsIn K mainGlobals "tuple" = some none)
    (z_zip : PySem.W.nsIn K mainGlobals "zip" = some none)
    (g_MUCH : PySem.W.nsIn K mainGlobals "MUCH" = some (some (.int 1000 t_MUCH)))
    (g_RING : PySem.W.nsIn K mainGlobals "RING" = some (some (.int 60 t_RING)))
    (g_SLOTS : PySem.W.nsIn K mainGlobals "SLOTS" = some (some (.int 24 t_SLOTS)))
    : ∃ fd : FuncData, (∀ (s : Shared) (v : Value), BindsTo s fd ⟨[v], []⟩ [("script", v)]) ∧ ∀ base : Heap, K.In base → base.Ns mainGlobals mg → FnOk l.prog w K mg base (L2.CX l.prog w) 15 fa fd ["script"] (spLaw K) := by
  have e := hfa.symm.trans (PySem.W.mg_of X G a_law)
  cases e
  have GG : Glob K mg := ⟨PySem.W.mg_none_of X G z_abs, PySem.W.mg_none_of X G z_all, PySem.W.mg_none_of X G z_bool, PySem.W.mg_none_of X G z_dict, PySem.W.mg_none_of X G z_int, PySem.W.mg_none_of X G z_isinstance, PySem.W.mg_none_of X G z_len, PySem.W.mg_none_of X G z_list, PySem.W.mg_none_of X G z_min, PySem.W.mg_none_of X G z_range, PySem.W.mg_none_of X G z_set, PySem.W.mg_none_of X G z_sorted, PySem.W.mg_none_of X G z_str, PySem.W.mg_none_of X G z_sum, PySem.W.mg_none_of X G z_tuple, PySem.W.mg_none_of X G z_zip, ⟨_, PySem.W.mg_of X G g_MUCH⟩, ⟨_, PySem.W.mg_of X G g_RING⟩, ⟨_, PySem.W.mg_of X G g_SLOTS⟩⟩
  have cl_Night : Cls K C_Night := ⟨pg_Night, hd_Night, po_Night, sa_Night⟩
  have F_is_from := fun_mk (st := s_is_from) l_is_from c_is_from k_is_from
  have F_middle := fun_mk (st := s_middle) l_middle c_middle k_middle
  have F_is_up := fun_mk (st := s_is_up) l_is_up c_is_up k_is_up
  have F_is_dark := fun_mk (st := s_is_dark) l_is_dark c_is_dark k_is_dark
  have F_stretches := fun_mk (st := s_stretches) l_stretches c_stretches k_stretches
  have F_slots_of := fun_mk (st := s_slots_of) l_slots_of c_slots_of k_slots_of
  have F_may_begin := fun_mk (st := s_may_begin) l_may_begin c_may_begin k_may_begin
  have F_begins := fun_mk (st := s_begins) l_begins c_begins k_begins
  have F_table_of := fun_mk (st := s_table_of) l_table_of c_table_of k_table_of
  have F_are_apart := fun_mk (st := s_are_apart) l_are_apart c_are_apart k_are_apart
  have F_is_plan := fun_mk (st := s_is_plan) l_is_plan c_is_plan k_is_plan
  have F_worth := fun_mk (st := s_worth) l_worth c_worth k_worth
  have F_is_sure := fun_mk (st := s_is_sure) l_is_sure c_is_sure k_is_sure
  have F_Night___init__ := fun_mk (st := s_Night___init__) l_Night___init__ c_Night___init__ k_Night___init__
  have F_Night_has_room := fun_mk (st := s_Night_has_room) l_Night_has_room c_Night_has_room k_Night_has_room
  have F_Night_places := fun_mk (st := s_Night_places) l_Night_places c_Night_places k_Night_places
  have F_Night_value := fun_mk (st := s_Night_value) l_Night_value c_Night_value k_Night_value
  have F_Night_best := fun_mk (st := s_Night_best) l_Night_best c_Night_best k_Night_best
  have F_Night_plan := fun_mk (st := s_Night_plan) l_Night_plan c_Night_plan k_Night_plan
  have F_best_plan := fun_mk (st := s_best_plan) l_best_plan c_best_plan k_best_plan
  have F_price := fun_mk (st := s_price) l_price c_price k_price
  have F_span := fun_mk (st := s_span) l_span c_span k_span
  have F_surest_plan := fun_mk (st := s_surest_plan) l_surest_plan c_surest_plan k_surest_plan
  have F__law_deck := fun_mk (st := s__law_deck) l__law_deck c__law_deck k__law_deck
  have F__law_pick := fun_mk (st := s__law_pick) l__law_pick c__law_pick k__law_pick
  have F__law_season := fun_mk (st := s__law_season) l__law_season c__law_season k__law_season
  have F__law_asks := fun_mk (st := s__law_asks) l__law_asks c__law_asks k__law_asks
  have F__law_weather := fun_mk (st := s__law_weather) l__law_weather c__law_weather k__law_weather
  have F__law_mirrored := fun_mk (st := s__law_mirrored) l__law_mirrored c__law_mirrored k__law_mirrored
  have F__law_plan_back := fun_mk (st := s__law_plan_back) l__law_plan_back c__law_plan_back k__law_plan_back
  have F_law := fun_mk (st := s_law) l_law c_law k_law
  have TT : Txt K mg := ⟨⟨_, _, F_is_from, PySem.W.mg_of X G a_is_from, F_is_from.binds fun _ _ _ _ _ _ us hl => match us, hl with | [_, _, _], _ => rfl⟩,
    ⟨_, _, F_middle, PySem.W.mg_of X G a_middle, F_middle.binds fun _ _ _ _ _ _ us hl => match us, hl with | [_, _, _], _ => rfl⟩,
    ⟨_, _, F_is_up, PySem.W.mg_of X G a_is_up, F_is_up.binds fun _ _ _ _ _ _ us hl => match us, hl with | [_, _, _, _], _ => rfl⟩,
    ⟨_, _, F_is_dark, PySem.W.mg_of X G a_is_dark, F_is_dark.binds fun _ _ _ _ _ _ us hl => match us, hl with | [_, _, _], _ => rfl⟩,
    ⟨_, _, F_stretches, PySem.W.mg_of X G a_stretches, F_stretches.binds fun _ _ _ _ _ _ us hl => match us, hl with | [_, _, _], _ => rfl⟩,
    ⟨_, _, F_slots_of, PySem.W.mg_of X G a_slots_of, F_slots_of.binds fun _ _ _ _ _ _ us hl => match us, hl with | [_, _], _ => rfl⟩,
    ⟨_, _, F_may_begin, PySem.W.mg_of X G a_may_begin, F_may_begin.binds fun _ _ _ _ _ _ us hl => match us, hl with | [_, _, _, _, _], _ => rfl⟩,
    ⟨_, _, F_begins, PySem.W.mg_of X G a_begins, F_begins.binds fun _ _ _ _ _ _ us hl => match us, hl with | [_, _, _, _], _ => rfl⟩,
    ⟨_, _, F_table_of, PySem.W.mg_of X G a_table_of, F_table_of.binds fun _ _ _ _ _ _ us hl => match us, hl with | [_], _ => rfl⟩,
    ⟨_, _, F_are_apart, PySem.W.mg_of X G a_are_apart, F_are_apart.binds fun _ _ _ _ _ _ us hl => match us, hl with | [_], _ => rfl⟩,
    ⟨_, _, F_is_plan, PySem.W.mg_of X G a_is_plan, F_is_plan.binds fun _ _ _ _ _ _ us hl => match us, hl with | [_, _, _, _, _], _ => rfl⟩,
    ⟨_, _, F_worth, PySem.W.mg_of X G a_worth, F_worth.binds fun _ _ _ _ _ _ us hl => match us, hl with | [_, _], _ => rfl⟩,
    ⟨_, _, F_is_sure, PySem.W.mg_of X G a_is_sure, F_is_sure.binds fun _ _ _ _ _ _ us hl => match us, hl with | [_, _, _], _ => rfl⟩,
    ⟨_, _, _, PySem.W.mg_of X G aC_Night, ⟨mk_Night, a_Night___init__, i_Night___init__, kc_Night⟩, F_Night___init__, F_Night___init__.binds fun _ _ _ _ _ _ us hl => match us, hl with | [_, _, _, _, _], _ => rfl⟩,
    ⟨_, _, _, PySem.W.mg_of X G aC_Night, cl_Night, ⟨a_Night_has_room, i_Night_has_room, k_Night_has_room⟩, F_Night_has_room, F_Night_has_room.binds fun _ _ _ _ _ _ us hl => match us, hl with | [_, _, _], _ => rfl⟩,
    ⟨_, _, _, PySem.W.mg_of X G aC_Night, cl_Night, ⟨a_Night_places, i_Night_places, k_Night_places⟩, F_Night_places, F_Night_places.binds fun _ _ _ _ _ _ us hl => match us, hl with | [_, _, _], _ => rfl⟩,
    ⟨_, _, _, PySem.W.mg_of X G aC_Night, cl_Night, ⟨a_Night_value, i_Night_value, k_Night_value⟩, F_Night_value, F_Night_value.binds fun _ _ _ _ _ _ us hl => match us, hl with | [_, _, _], _ => rfl⟩,
    ⟨_, _, _, PySem.W.mg_of X G aC_Night, cl_Night, ⟨a_Night_best, i_Night_best, k_Night_best⟩, F_Night_best, F_Night_best.binds fun _ _ _ _ _ _ us hl => match us, hl with | [_, _, _, _], _ => rfl⟩,
    ⟨_, _, _, PySem.W.mg_of X G aC_Night, cl_Night, ⟨a_Night_plan, i_Night_plan, k_Night_plan⟩, F_Night_plan, F_Night_plan.binds fun _ _ _ _ _ _ us hl => match us, hl with | [_], _ => rfl⟩,
    ⟨_, _, F_best_plan, PySem.W.mg_of X G a_best_plan, F_best_plan.binds fun _ _ _ _ _ _ us hl => match us, hl with | [_, _, _, _], _ => rfl⟩,
    ⟨_, _, F_price, PySem.W.mg_of X G a_price, F_price.binds fun _ _ _ _ _ _ us hl => match us, hl with | [_, _, _, _, _], _ => rfl⟩,
    ⟨_, _, F_span, PySem.W.mg_of X G a_span, F_span.binds fun _ _ _ _ _ _ us hl => match us, hl with | [_, _, _], _ => rfl⟩,
    ⟨_, _, F_surest_plan, PySem.W.mg_of X G a_surest_plan, F_surest_plan.binds fun _ _ _ _ _ _ us hl => match us, hl with | [_, _, _, _], _ => rfl⟩,
    ⟨_, _, F__law_deck, PySem.W.mg_of X G a__law_deck, F__law_deck.binds fun _ _ _ _ _ _ us hl => match us, hl with | [_, _], _ => rfl⟩,
    ⟨_, _, F__law_pick, PySem.W.mg_of X G a__law_pick, F__law_pick.binds fun _ _ _ _ _ _ us hl => match us, hl with | [_, _], _ => rfl⟩,
    ⟨_, _, F__law_season, PySem.W.mg_of X G a__law_season, F__law_season.binds fun _ _ _ _ _ _ us hl => match us, hl with | [_, _], _ => rfl⟩,
    ⟨_, _, F__law_asks, PySem.W.mg_of X G a__law_asks, F__law_asks.binds fun _ _ _ _ _ _ us hl => match us, hl with | [_, _, _], _ => rfl⟩,
    ⟨_, _, F__law_weather, PySem.W.mg_of X G a__law_weather, F__law_weather.binds fun _ _ _ _ _ _ us hl => match us, hl with | [_], _ => rfl⟩,
    ⟨_, _, F__law_mirrored, PySem.W.mg_of X G a__law_mirrored, F__law_mirrored.binds fun _ _ _ _ _ _ us hl => match us, hl with | [_, _, _], _ => rfl⟩,
    ⟨_, _, F__law_plan_back, PySem.W.mg_of X G a__law_plan_back, F__law_plan_back.binds fun _ _ _ _ _ _ us hl => match us, hl with | [_, _], _ => rfl⟩,
    ⟨_, _, F_law, PySem.W.mg_of X G a_law, F_law.binds fun _ _ _ _ _ _ us hl => match us, hl with | [_], _ => rfl⟩,
    ⟨_, PySem.W.mg_of X G aC_Night, cl_Night, n_Night_known⟩,
    ⟨_, PySem.W.mg_of X G aC_Night, cl_Night, n_Night_room⟩,
    ⟨_, PySem.W.mg_of X G aC_Night, cl_Night, n_Night_spots⟩,
    ⟨_, PySem.W.mg_of X G aC_Night, cl_Night, n_Night_sure⟩,
    ⟨_, PySem.W.mg_of X G aC_Night, cl_Night, n_Night_table⟩,
    ⟨_, PySem.W.mg_of X G aC_Night, cl_Night, n_Night_weather⟩,
    ⟨_, PySem.W.mg_of X G aC_Night, cl_Night, n_Night_worths⟩⟩
  exact ⟨PySem.W.fnOf "law" "law" (defArgs s_law) (defBody s_law) (defScope s_law) .none kV_law dc_law pm_law an_law cd_law ct_law, fun s v => .of_eq rfl, fun base _ _ => (fn_full F_law sc_law rfl (bo_law GG TT)).imp fun vs H Q E q => sp_of (F := Sky.runF 21 (B_law (mkHash l.prog w))) (law_true (mkHash l.prog w)) q⟩
end KK
open PySem PySem.W PyProof.Rows
set_option maxHeartbeats 0 in
theorem PySem.Challenge.cw_skynights_k19_whole_nights_mirrored_holds : PySem.Challenge.rw_skynights_k19_whole_nights_mirrored.Holds := by
  w_on; o_law; k_head; (case hw => w_witness2)
  k_fill
  refine Sky.walk_end (l := PySem.Challenge.rw_skynights_k19_whole_nights_mirrored) (k := 15) rfl rfl ⟨rfl, by decide, by decide⟩ (fun w h Y => PySem.W.kIn_of Y) ?F
  case F =>
    intro w mg fa h KX G hmg
    refine' KK.all_mk KX G hmg ?aC_Night ?pg_Night ?hd_Night ?po_Night ?sa_Night ?mk_Night ?kc_Night ?n_Night_known ?n_Night_room ?n_Night_spots ?n_Night_sure ?n_Night_table ?n_Night_weather ?n_Night_worths ?a_is_from ?l_is_from ?c_is_from ?k_is_from ?a_middle ?l_middle ?c_middle ?k_middle ?a_is_up ?l_is_up ?c_is_up ?k_is_up ?a_is_dark ?l_is_dark ?c_is_dark ?k_is_dark ?a_stretches ?l_stretches ?c_stretches ?k_stretches ?a_slots_of ?l_slots_of ?c_slots_of ?k_slots_of ?a_may_begin ?l_may_begin ?c_may_begin ?k_may_begin ?a_begins ?l_begins ?c_begins ?k_begins ?a_table_of ?l_table_of ?c_table_of ?k_table_of ?a_are_apart ?l_are_apart ?c_are_apart ?k_are_apart ?a_is_plan ?l_is_plan ?c_is_plan ?k_is_plan ?a_worth ?l_worth ?c_worth ?k_worth ?a_is_sure ?l_is_sure ?c_is_sure ?k_is_sure ?a_Night___init__ ?i_Night___init__ ?l_Night___init__ ?c_Night___init__ ?k_Night___init__ ?a_Night_has_room ?i_Night_has_room ?l_Night_has_room ?c_Night_has_room ?k_Night_has_room ?a_Night_places ?i_Night_places ?l_Night_places ?c_Night_places ?k_Night_places ?a_Night_value ?i_Night_value ?l_Night_value ?c_Night_value ?k_Night_value ?a_Night_best ?i_Night_best ?l_Night_best ?c_Night_best ?k_Night_best ?a_Night_plan ?i_Night_plan ?l_Night_plan ?c_Night_plan ?k_Night_plan ?a_best_plan ?l_best_plan ?c_best_plan ?k_best_plan ?a_price ?l_price ?c_price ?k_price ?a_span ?l_span ?c_span ?k_span ?a_surest_plan ?l_surest_plan ?c_surest_plan ?k_surest_plan ?a__law_deck ?l__law_deck ?c__law_deck ?k__law_deck ?a__law_pick ?l__law_pick ?c__law_pick ?k__law_pick ?a__law_season ?l__law_season ?c__law_season ?k__law_season ?a__law_asks ?l__law_asks ?c__law_asks ?k__law_asks ?a__law_weather ?l__law_weather ?c__law_weather ?k__law_weather ?a__law_mirrored ?l__law_mirrored ?c__law_mirrored ?k__law_mirrored ?a__law_plan_back ?l__law_plan_back ?c__law_plan_back ?k__law_plan_back ?a_law ?l_law ?c_law ?k_law ?z_abs ?z_all ?z_bool ?z_dict ?z_int ?z_isinstance ?z_len ?z_list ?z_min ?z_range ?z_set ?z_sorted ?z_str ?z_sum ?z_tuple ?z_zip ?g_MUCH ?g_RING ?g_SLOTS
    (case aC_Night => k_is)
    (case pg_Night => k_is)
    (case hd_Night => k_is)
    (case po_Night => k_is)
    (case sa_Night => k_is)
    (case mk_Night => k_is)
    (case kc_Night => k_is)
    (case n_Night_known => k_is)
    (case n_Night_room => k_is)
    (case n_Night_spots => k_is)
    (case n_Night_sure => k_is)
    (case n_Night_table => k_is)
    (case n_Night_weather => k_is)
    (case n_Night_worths => k_is)
    (case a_is_from => k_is)
    (case l_is_from => k_is)
    (case c_is_from => k_is)
    (case k_is_from => k_is)
    (case a_middle => k_is)
    (case l_middle => k_is)
    (case c_middle => k_is)
    (case k_middle => k_is)
    (case a_is_up => k_is)
    (case l_is_up => k_is)
    (case c_is_up => k_is)
    (case k_is_up => k_is)
    (case a_is_dark => k_is)
    (case l_is_dark => k_is)
    (case c_is_dark => k_is)
    (case k_is_dark => k_is)
    (case a_stretches => k_is)
    (case l_stretches => k_is)
    (case c_stretches => k_is)
    (case k_stretches => k_is)
    (case a_slots_of => k_is)
    (case l_slots_of => k_is)
    (case c_slots_of => k_is)
    (case k_slots_of => k_is)
    (case a_may_begin => k_is)
    (case l_may_begin => k_is)
    (case c_may_begin => k_is)
    (case k_may_begin => k_is)
    (case a_begins => k_is)
    (case l_begins => k_is)
    (case c_begins => k_is)
    (case k_begins => k_is)
    (case a_table_of => k_is)
    (case l_table_of => k_is)
    (case c_table_of => k_is)
    (case k_table_of => k_is)
    (case a_are_apart => k_is)
    (case l_are_apart => k_is)
    (case c_are_apart => k_is)
    (case k_are_apart => k_is)
    (case a_is_plan => k_is)
    (case l_is_plan => k_is)
    (case c_is_plan => k_is)
    (case k_is_plan => k_is)
    (case a_worth => k_is)
    (case l_worth => k_is)
    (case c_worth => k_is)
    (case k_worth => k_is)
    (case a_is_sure => k_is)
    (case l_is_sure => k_is)
    (case c_is_sure => k_is)
    (case k_is_sure => k_is)
    (case a_Night___init__ => k_is)
    (case i_Night___init__ => k_is)
    (case l_Night___init__ => k_is)
    (case c_Night___init__ => k_is)
    (case k_Night___init__ => k_is)
    (case a_Night_has_room => k_is)
    (case i_Night_has_room => k_is)
    (case l_Night_has_room => k_is)
    (case c_Night_has_room => k_is)
    (case k_Night_has_room => k_is)
    (case a_Night_places => k_is)
    (case i_Night_places => k_is)
    (case l_Night_places => k_is)
    (case c_Night_places => k_is)
    (case k_Night_places => k_is)
    (case a_Night_value => k_is)
    (case i_Night_value => k_is)
    (case l_Night_value => k_is)
    (case c_Night_value => k_is)
    (case k_Night_value => k_is)
    (case a_Night_best => k_is)
    (case i_Night_best => k_is)
    (case l_Night_best => k_is)
    (case c_Night_best => k_is)
    (case k_Night_best => k_is)
    (case a_Night_plan => k_is)
    (case i_Night_plan => k_is)
    (case l_Night_plan => k_is)
    (case c_Night_plan => k_is)
    (case k_Night_plan => k_is)
    (case a_best_plan => k_is)
    (case l_best_plan => k_is)
    (case c_best_plan => k_is)
    (case k_best_plan => k_is)
    (case a_price => k_is)
    (case l_price => k_is)
    (case c_price => k_is)
    (case k_price => k_is)
    (case a_span => k_is)
    (case l_span => k_is)
    (case c_span => k_is)
    (case k_span => k_is)
    (case a_surest_plan => k_is)
    (case l_surest_plan => k_is)
    (case c_surest_plan => k_is)
    (case k_surest_plan => k_is)
    (case a__law_deck => k_is)
    (case l__law_deck => k_is)
    (case c__law_deck => k_is)
    (case k__law_deck => k_is)
    (case a__law_pick => k_is)
    (case l__law_pick => k_is)
    (case c__law_pick => k_is)
    (case k__law_pick => k_is)
    (case a__law_season => k_is)
    (case l__law_season => k_is)
    (case c__law_season => k_is)
    (case k__law_season => k_is)
    (case a__law_asks => k_is)
    (case l__law_asks => k_is)
    (case c__law_asks => k_is)
    (case k__law_asks => k_is)
    (case a__law_weather => k_is)
    (case l__law_weather => k_is)
    (case c__law_weather => k_is)
    (case k__law_weather => k_is)
    (case a__law_mirrored => k_is)
    (case l__law_mirrored => k_is)
    (case c__law_mirrored => k_is)
    (case k__law_mirrored => k_is)
    (case a__law_plan_back => k_is)
    (case l__law_plan_back => k_is)
    (case c__law_plan_back => k_is)
    (case k__law_plan_back => k_is)
    (case a_law => k_is)
    (case l_law => k_is)
    (case c_law => k_is)
    (case k_law => k_is)
    (case z_abs => k_is)
    (case z_all => k_is)
    (case z_bool => k_is)
    (case z_dict => k_is)
    (case z_int => k_is)
    (case z_isinstance => k_is)
    (case z_len => k_is)
    (case z_list => k_is)
    (case z_min => k_is)
    (case z_range => k_is)
    (case z_set => k_is)
    (case z_sorted => k_is)
    (case z_str => k_is)
    (case z_sum => k_is)
    (case z_tuple => k_is)
    (case z_zip => k_is)
    (case g_MUCH => k_is)
    (case g_RING => k_is)
    (case g_SLOTS => k_is)
end
