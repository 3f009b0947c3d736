import PyProof.Rows.All
import Wide.All
import OpenK.AllK
import Wide.FinOn
import KE.KStateDown
import HandS.Head0
import HandS.Head1
import HandS.Head2
import PyProof.ListMulRoad
import PyProof.FactsAll.tuple_2
import HandS.TupMul
import HandS.Conv
import HandS.Dict
import HandS.Sort
import KE.KDictList
import HandS.List
import HandS.Deep
import KE.SortData
import HandS.Base
import HandS.Call
import HandS.TupAny
import HandS.Text
import HandS.StrMore
import HandS.Comp
import HandS.Words
import HandS.Defaults
import KE.KDictKeyed
import KE.KDictLaw
import HandS.IsInst
import HandS.Style
import PyProof.NeData
import HandS.More
import HandS.Iter
import HandS.CallLocal
import HandS.Strs
import HandS.SortKw
import KE.DatumOrd
import HandS.Rev
import HandS.Ends
import HandS.HeadEnd
import HandS.HeadHook2
import HandS.Codes
import PySem.Challenge.RW_wokenlives_k35_touches_that_meet
set_option Elab.async false
set_option linter.all false
set_option maxRecDepth 100000
/-! PLT: tuple * int, any int (own work). -/
namespace PL
open PySem PySem.Spec PyProof.Rows L2
theorem tuple_mulS (l : Addr) (items : Array Value) (n : Nat) (dd : Option Addr) (sl : Array (Option Value)) (x : Int) (u : Tok) (c0 : (decide (x < -(2 ^ 63)) || decide (x ≥ 2 ^ 63)) = false) (c1 : (items.isEmpty || x == 1) = true) :
    Meets (Builtin.«tuple.__mul__» ⟨[.ref l, .int x u], []⟩) (fun _ R s => s.heap.get? l = some { cls := .type "tuple", dict := dd, data := .seq items n, slots := sl } ∧ R (.ok (.ret (Value.ref l))) s) :=
  .of_wp fun prog w A R s h => by
    obtain ⟨hp, g, d, tk, os⟩ := s
    obtain ⟨hl, h⟩ := h
    have f1 := AutoSeq1.idx_int
    wp_walk using AutoSeq1.wpAny_loadPart' hl
    repeat (first
      | (refine wpAny_ite_false (decide_eq_false (by rw [c0]; exact Bool.false_ne_true)) ?_; wp_walk using AutoSeq1.wpAny_loadPart' hl)
      | (refine wpAny_ite_true (decide_eq_true c1) ?_; wp_walk using AutoSeq1.wpAny_loadPart' hl))
    exact ⟨_, rfl, h⟩
theorem tuple_mulZ (l : Addr) (items : Array Value) (n : Nat) (dd : Option Addr) (sl : Array (Option Value)) (x : Int) (u : Tok) (c0 : (decide (x < -(2 ^ 63)) || decide (x ≥ 2 ^ 63)) = false) (c1 : (items.isEmpty || x == 1) = false) (c2 : (decide (x ≤ 0) || items.isEmpty) = true) :
    Meets (Builtin.«tuple.__mul__» ⟨[.ref l, .int x u], []⟩) (fun _ R s => s.heap.get? l = some { cls := .type "tuple", dict := dd, data := .seq items n, slots := sl } ∧
      R (.ok (.ret (Value.ref s.heap.objs.size))) { s with heap := s.heap.push { cls := Value.type "tuple", data := Data.seq #[] }, toks := s.toks }) :=
  .of_wp fun prog w A R s h => by
    obtain ⟨hp, g, d, tk, os⟩ := s
    obtain ⟨hl, h⟩ := h
    have f1 := AutoSeq1.idx_int
    wp_walk using AutoSeq1.wpAny_loadPart' hl
    repeat (first
      | (refine wpAny_ite_false (decide_eq_false (by rw [c0]; exact Bool.false_ne_true)) ?_; wp_walk using AutoSeq1.wpAny_loadPart' hl)
      | (refine wpAny_ite_false (decide_eq_false (by rw [c1]; exact Bool.false_ne_true)) ?_; wp_walk using AutoSeq1.wpAny_loadPart' hl)
      | (refine wpAny_ite_true (decide_eq_true c2) ?_; wp_walk using AutoSeq1.wpAny_loadPart' hl))
    exact ⟨_, rfl, h⟩
def rMulT (K : PySem.W.Frag) : R2 := fun x y H Q => ∃ l k xs, x = .ref l ∧ y = .int k ∧ SqT K H l xs ∧ -1000 ≤ k ∧ k ≤ 1000 ∧ xs.length ≤ 1000 ∧ ((xs = [] ∨ k = 1) → Q (.ref l) H) ∧ (xs ≠ [] → k ≠ 1 → ∀ p, H p = none → Q (.ref p) (upd H p (.tup (List.replicate k.toNat xs).flatten)))
theorem op_mulT {X : Cx} : OpR X (binaryOp .Mult) (rMulT X.K) := by
  intro pins s σ H x y v u Q I rx ry h
  obtain ⟨l, k, xs, rfl, rfl, hT, h1, h2, hz, q1, q2⟩ := h
  by_cases hk : xs ≠ [] ∧ 2 ≤ k
  · exact op_repT pins s σ H _ _ v u Q I rx ry ⟨l, k, xs, rfl, rfl, hT, hk.1, hk.2, h2, hz, q2 hk.1 (by omega)⟩
  cases rx
  obtain ⟨t, rfl⟩ := ry
  obtain ⟨its, r, ⟨⟨cls, dd, data, sl⟩, ho, hc, n, hd⟩, hs⟩ := I.tuple hT
  simp only at hc hd
  subst hc hd
  have hle : its.length = xs.length := r.length.symm
  have hi : its.toArray.isEmpty = xs.isEmpty := by
    cases its with
    | nil =>
      have : xs = [] := List.eq_nil_of_length_eq_zero hle.symm
      subst this
      rfl
    | cons a b =>
      cases xs with
      | nil => cases hle
      | cons c d => rfl
  have c0 : (decide (k < -(2 ^ 63)) || decide (k ≥ 2 ^ 63)) = false := by
    rw [decide_eq_false (by omega), decide_eq_false (by omega)] <;> rfl
  by_cases he : xs = [] ∨ k = 1
  · have c1 : (its.toArray.isEmpty || k == 1) = true := by
      rw [hi]
      rcases he with rfl | rfl
      · rfl
      · exact Bool.or_true _
    refine wpAny_binaryOp_repeat_ref (T := "tuple") (U := "int") (by decide) ⟨_, ho, rfl⟩ (fun s' => typeIs_int s' k t) noFill_tuple_mul F.fills_int_mul F.slot_int_rmul repeat_tuple F.slot_int_index.lookup
      (call_meets F.slot_int_rmul (typeIs_int s k t) F.entry_int_rmul (F.args_int_rmul_2 _ _) (int_rmul_tuple k t l its.toArray n dd sl)
        ⟨ho, rfl, ⟨_, ho, rfl⟩, call_meets F.slot_tuple_mul ⟨_, ho, rfl⟩ F.entry_tuple_mul (F.args_tuple_mul_2 _ _) (tuple_mulS l its.toArray n dd sl k t c0 c1) ⟨ho, ?_⟩⟩)
    exact ⟨.ref l, H, I, rfl, q1 he⟩
  · have hne : xs ≠ [] := fun e => he (.inl e)
    have hn1 : k ≠ 1 := fun e => he (.inr e)
    have hi2 : its.toArray.isEmpty = false := by
      rw [hi]
      cases xs with
      | nil => exact absurd rfl hne
      | cons _ _ => rfl
    have hk0 : k ≤ 0 := by
      by_cases h3 : 2 ≤ k
      · exact absurd ⟨hne, h3⟩ hk
      · omega
    have c1 : (its.toArray.isEmpty || k == 1) = false := by
      rw [hi2, Bool.false_or]
      exact beq_eq_false_iff_ne.mpr hn1
    have c2 : (decide (k ≤ 0) || its.toArray.isEmpty) = true := by
      rw [decide_eq_true hk0]
      rfl
    refine wpAny_binaryOp_repeat_ref (T := "tuple") (U := "int") (by decide) ⟨_, ho, rfl⟩ (fun s' => typeIs_int s' k t) noFill_tuple_mul F.fills_int_mul F.slot_int_rmul repeat_tuple F.slot_int_index.lookup
      (call_meets F.slot_int_rmul (typeIs_int s k t) F.entry_int_rmul (F.args_int_rmul_2 _ _) (int_rmul_tuple k t l its.toArray n dd sl)
        ⟨ho, rfl, ⟨_, ho, rfl⟩, call_meets F.slot_tuple_mul ⟨_, ho, rfl⟩ F.entry_tuple_mul (F.args_tuple_mul_2 _ _) (tuple_mulZ l its.toArray n dd sl k t c0 c1 c2) ⟨ho, ?_⟩⟩)
    have hk1 : k.toNat = 0 := by omega
    have q3 := q2 hne hn1 _ (I.hok.fresh (Nat.le_refl _))
    rw [hk1] at q3
    refine ⟨.ref s.heap.objs.size, _, I.laid (t' := s.toks) (o := .tup (List.replicate 0 xs).flatten) (fun b ob q => Heap.get?_push_of_some _ q) (Nat.le_refl _) ?_, rfl, q3⟩
    exact ⟨Nat.zero_le _, [], .nil, IsTup.new _ _⟩
end PL

/-! PLV: tuple(d.values()). -/
namespace PL
open PySem PySem.Spec L2 PyProof.Rows
open PySem.W (KdlSrc kdl_extend kdl_values)
section
variable {prog : Program} {w : World} {A : Around} {E : Value → Shared → Prop} {s : Shared} {T : String} {r d : Addr} {n : Nat} {P : Nat → Value → Prop} {OK : Heap → Prop}
theorem collect_src {Q : List Value → Shared → Prop} (K : KdlSrc prog w T r d n P OK) (hh : A.handled = none) (hok : OK s.heap) (hn : n ≤ sizeLine)
    (hQ : ∀ (h' : Heap) (tk : Nat) (acc : Array Value), (∀ b o, s.heap.get? b = some o → h'.get? b = some o) → ItemsOf P acc n → Q acc.toList { s with heap := h', toks := tk }) :
    wpAny (model prog w) A (collect (.ref r)) Q E s := by
  unfold collect
  refine wpAny_bind (wpAny_runValue (codeAny_builtin F.entry_proto_collect ?_))
  rw [Around.under_plainId F.plain_proto_collect _]
  show wpAny _ A.in1 (newList [] >>= fun l => again (.builtin "list.__iadd__" ⟨[l, .ref r], []⟩)) _ _ s
  refine wpAny_bind (wpAny_newObj_type ?_)
  refine wpAny_pure ⟨plainId_quiet F.plain_list_iadd _, codeAny_builtin F.entry_list_iadd ?_⟩
  rw [Around.under_plainId F.plain_list_iadd _]
  show wpAny _ A.in1 (Builtin.List.listExtendWith (.ref s.heap.objs.size) (.ref r) (.ref s.heap.objs.size)) _ _ _
  have hS : (s.heap.push { cls := .type "list", data := .seq ([] : List Value).toArray }).get? s.heap.objs.size = some { cls := .type "list", data := .seq #[] 0 } := Heap.get?_push_size _ rfl
  have hlt := K.there _ hok
  refine wpAny_mono (kdl_extend (A := A) (R := fun rr s' => rr = .ok (.ret (.ref s.heap.objs.size)) ∧ ∃ (h' : Heap) (tk : Nat) (acc : Array Value) (c' : Nat), s' = { s with heap := h', toks := tk } ∧
      (∀ b o, s.heap.get? b = some o → h'.get? b = some o) ∧ h'.get? s.heap.objs.size = some { cls := .type "list", dict := none, data := .seq acc c', slots := #[] } ∧ ItemsOf P acc n)
    (s := { s with heap := s.heap.push { cls := .type "list", data := .seq ([] : List Value).toArray } }) K hh (K.keep _ _ hok fun b _ o e => Heap.get?_push_of_some _ e) s.heap.objs.size (Nat.ne_of_gt hlt.1) (Nat.ne_of_gt hlt.2) _ 0 hS
    (fun h' tk acc c' hk e hi => ⟨rfl, h', tk, acc, c', rfl, fun b o q => hk b o (Nat.ne_of_lt (Heap.lt_size q)) (Heap.get?_push_of_some _ q), e, hi⟩) hn) (fun fin s' h => ?_) (fun e s' h => ?_)
  · cases fin with
    | done f =>
      obtain ⟨e, h', tk, acc, c', rfl, hk, hS', hi⟩ := h
      cases e
      show wpAny _ A (load s.heap.objs.size >>= _) _ _ _
      exact wpAny_bind (wpAny_load hS' (wpAny_pure (hQ h' tk acc hk hi)))
    | again c' =>
      refine ⟨h.1, codeAny_mono h.2 fun rr s'' hr' => ?_⟩
      obtain ⟨rfl, h', tk, acc, c', rfl, hk, hS', hi⟩ := hr'
      show wpAny _ A (load s.heap.objs.size >>= _) _ _ _
      exact wpAny_bind (wpAny_load hS' (wpAny_pure (hQ h' tk acc hk hi)))
  · exact absurd h.1 (by simp)
theorem call_tuple_src {Q : Value → Shared → Prop} (K : KdlSrc prog w T r d n P OK) (hh : A.handled = none) (hok : OK s.heap) (hn : n ≤ sizeLine)
    (hQ : ∀ (h' : Heap) (tk : Nat) (acc : Array Value), (∀ b o, s.heap.get? b = some o → h'.get? b = some o) → ItemsOf P acc n → Q (.ref h'.objs.size) { s with heap := h'.push { cls := .type "tuple", data := .seq acc }, toks := tk }) :
    wpAny (model prog w) A (call (.type "tuple") [.ref r]) Q E s := by
  refine callType_codes (Q₁ := fun obj s₁ => s₁.TypeIs obj "tuple" ∧ Q obj s₁) F.called_tuple (F.typeCall_tuple_1 _) F.entry_object_init ?_ fun obj s₁ h₁ => ⟨h₁.1, F.args_object_init_2 obj _, object_init_meets F.called_tuple.init.lookup F.called_tuple.made (by decide) prog w A.in1 _ s₁ ⟨h₁.1, rfl, h₁.2⟩⟩
  refine codeAny_of_tree ?_
  show wpAny _ A.in1.in1 (do checkBuiltinCall "tuple.__new__" ⟨[.type "tuple", .ref r], []⟩; again (.builtin "tuple.__new__" ⟨[.type "tuple", .ref r], []⟩)) _ _ s
  refine wpAny_bind (wpAny_of_eq (F.newCall_tuple_1 _) (wpAny_pure ⟨plainId_quiet F.plain_tuple_new _, codeAny_builtin F.entry_tuple_new ?_⟩))
  rw [Around.under_plainId F.plain_tuple_new _]
  have hsub := sub_tuple_self
  have hinit := init_tuple_lookup
  have hmh := madeHere_tuple
  have hTI : s.TypeIs (.ref r) T := K.type s hok
  have hh1 : A.in1.in1.handled = none := hh
  have hx : ∀ (A : Around) (E : Value → Shared → Prop) (Q : Bool → Shared → Prop), Q false s → wpAny (model prog w) A (Builtin.Tuple.tupleIsExact (.ref r)) Q E s := fun A E Q h => by
    unfold Builtin.Tuple.tupleIsExact
    refine wpAny_bind (wpAny_typeOf hTI (wpAny_pure ?_))
    rw [K.notTuple]
    exact h
  wp_walk using hx _ _, collect_src (A := A.in1.in1) K hh1 hok hn
  intro h' tk acc hk hacc
  show wpAny _ _ (Builtin.Tuple.tupleExact acc.toList.toArray >>= fun v => ret v) _ _ _
  unfold Builtin.Tuple.tupleExact
  refine wpAny_bind (wpAny_newObj_type ?_ (by show acc.toList.toArray.size ≤ sizeLine; simp only [Array.toArray_toList]; rw [hacc.1]; exact hn))
  refine wpAny_pure ?_
  have e : acc.toList.toArray = acc := by simp
  rw [e]
  exact ⟨⟨_, Heap.get?_push_size _ rfl, rfl⟩, hQ h' tk acc hk hacc⟩
end
section
variable {X : Cx} {o : Expr} {p pos apos mpos : Pos} {td : TE}
/-- tuple(o.values()) -/
def tTupVals (td : TE) : TE := fun σ H Q => td σ H fun x H1 => ∃ a kvs, x = V.ref a ∧ H1 a = some (.dK kvs) ∧ ∀ q, H1 q = none → Q (.ref q) (L2.upd H1 q (.tup (kvs.map (·.2))))
theorem pe_tupVals (hc : X.calm = true) (hg : Gl X "tuple") (hm : X.mg "tuple" = none) (hd : PE X o td) (hbase : attributeBase o "values" X.env (eval o X.env) = eval o X.env := by rfl) (hline : (apos.endLine == mpos.line) = true := by rfl)
    (hse : starEach [Expr.Call (.Attribute o "values" apos) [] [] mpos] X.env = (false, eval (Expr.Call (.Attribute o "values" apos) [] [] mpos) X.env) :: starEach [] X.env := by rfl) :
    PE X (.Call (.Name "tuple" p) [.Call (.Attribute o "values" apos) [] [] mpos] [] pos) (tTupVals td) := by
  refine ⟨fun pins s σ H Q I h => ?_⟩
  refine Call_ (ld_blt I hg hm boot_tuple (PyProof.Rows.callWith_type1 (args_cons (wpAny_Call_method0_late hbase hline (thn (hd.run pins s σ H _ I h) fun v s1 ⟨x, H1, I1, r1, a, kvs, ex, ha, q⟩ => ?_)) hse) hse))
  subst ex
  obtain rfl : v = Value.ref a := r1
  obtain ⟨hz, hsys, vs, rel, dof⟩ := dk_of I1.hok ha
  obtain ⟨ep, dat⟩ := dof.dictAt
  have dat' := dat
  obtain ⟨ob, es, ho, ex, hdat, hko, hpr, hnd⟩ := dat'
  refine ⟨"dict", "dict.values", F.plainAttrs_dict, F.slot_dict_values, F.type_dict_values, ⟨ob, ho, ex.1⟩, fun b e => ?_, Calls.callWith_builtin rfl (PySem.evalArgs_none ?_)⟩
  · cases e
    exact ⟨ob, ho, ex.2.1⟩
  refine call_meetsIn F.slot_dict_values ⟨ob, ho, ex.1⟩ F.entry_dict_values (F.args_dict_values_1 _) (meets_dict_values (mixKind X.prog X.w) a hsys) ⟨⟨vs, dof⟩, ?_⟩
  have k1 : ∀ b u, s1.heap.get? b = some u → (s1.heap.push { cls := .type "dict_values", data := .fields #[.ref a] }).get? b = some u := fun b u e => Heap.get?_push_of_some _ e
  have dat1 : (s1.heap.push { cls := .type "dict_values", data := .fields #[.ref a] }).DictAt (mixKind X.prog X.w) a vs ep := dat.keep k1
  have hl : kvs.length = vs.length := KV.length rel
  refine args_nil ?_
  refine call_tuple_src (s := { s1 with heap := s1.heap.push { cls := .type "dict_values", data := .fields #[.ref a] } }) (kdl_values (prog := X.prog) (w := X.w) (knd := mixKind X.prog X.w) (r := s1.heap.objs.size) (d := a) (kvs := vs) (ep := ep)) (I.ok.hd hc) ⟨⟨_, Heap.get?_push_size _ rfl, rfl, rfl⟩, dat1⟩ (by rw [← hl]; exact hz) fun h' tk acc hk hacc => ?_
  have I2 : Inv X pins σ H1 { s1 with heap := h', toks := tk } := I1.kept fun b u e => hk b u (k1 b u e)
  refine ⟨.ref h'.objs.size, L2.upd H1 h'.objs.size (.tup (kvs.map (·.2))), I2.laid (t' := tk) (fun b o e => Heap.get?_push_of_some _ e) (Nat.le_refl _) (show ObjOk X.prog X.w _ _ _ (.tup (kvs.map (·.2))) from ⟨?_, acc.toList, ?_, ?_⟩), rfl, q _ (I2.hok.fresh (Nat.le_refl _))⟩
  · rw [List.length_map]
    exact hz
  · refine vals_of_at (by have e1 := hacc.1; rw [List.length_map, hl, ← e1]; exact Array.length_toList.symm) fun j x u hx hu => ?_
    obtain ⟨k, hk2⟩ := hacc.2 j u (by rw [← Array.getElem?_toList]; exact hu)
    obtain ⟨y, h1, h2⟩ := KV.at' rel hk2
    rw [List.getElem?_map, h1] at hx
    cases hx
    exact h2
  · rw [Array.toArray_toList]
    exact IsTup.new _ _
end
end PL

/-! PLS: sorted(l) of alike data, any length (own work over KE.SortData). -/
namespace PL
open PySem PySem.Spec PyProof.Rows L2 PySem.W
def srtV (vs : List V) (ds : List PyData) : List V := ((vs.zip ds).mergeSort (dataLe false Prod.snd)).map Prod.fst
def rSortD (K : PySem.W.Frag) : List V → Hp → VK → Prop := fun us H Q => ∃ (a : Addr) (vs : List V) (ds : List PyData), us = [.ref a] ∧ SqL K H a vs ∧ DpAll K H vs ds ∧ AllAlike ds ∧ PySem.W.Sortable ds ∧ (∀ d ∈ ds, d.depth ≤ 64) ∧ ds.length ≤ sizeLine ∧
  ∀ p, H p = none → Q (.ref p) (upd H p (.lst (srtV vs ds)))
theorem dpAll_len {K : PySem.W.Frag} {H : Hp} : ∀ {vs : List V} {ds : List PyData}, DpAll K H vs ds → vs.length = ds.length
  | _, _, .nil => rfl
  | _, _, .cons _ t => congrArg Nat.succ (dpAll_len t)
theorem each_zipR : ∀ {us : List Value} {vs : List V} {ds : List PyData}, Vals vs us → vs.length = ds.length → EachIs (fun u (b : V × PyData) => RelV b.1 u) us (vs.zip ds)
  | _, _, [], r, h => by
    cases r with
    | nil => exact .nil
    | cons _ _ => cases h
  | _, _, d :: ds, r, h => by
    cases r with
    | nil => cases h
    | cons r1 r2 => exact .cons r1 (each_zipR r2 (Nat.succ.inj h))
theorem vals_each : ∀ {us : List Value} {bs : List (V × PyData)}, EachIs (fun u (b : V × PyData) => RelV b.1 u) us bs → Vals (bs.map Prod.fst) us
  | _, _, .nil => .nil
  | _, _, .cons h t => .cons h (vals_each t)
theorem zip_snd {α β : Type} : ∀ {vs : List α} {ds : List β}, vs.length = ds.length → (vs.zip ds).map Prod.snd = ds
  | [], [], _ => rfl
  | v :: vs, d :: ds, h => by
    show d :: (vs.zip ds).map Prod.snd = _
    rw [zip_snd (Nat.succ.inj h)]
  | [], _ :: _, h => by cases h
  | _ :: _, [], h => by cases h
theorem zip_fst {α β : Type} : ∀ {vs : List α} {ds : List β}, vs.length = ds.length → (vs.zip ds).map Prod.fst = vs
  | [], [], _ => rfl
  | v :: vs, d :: ds, h => by
    show v :: (vs.zip ds).map Prod.fst = _
    rw [zip_fst (Nat.succ.inj h)]
  | [], _ :: _, h => by cases h
  | _ :: _, [], h => by cases h
theorem readsZip {h : Heap} : ∀ {us : List Value} {vs : List V} {ds : List PyData} {as : List Addr}, ReadsAll h us ds as → vs.length = ds.length → EachIs (fun u (b : V × PyData) => ∃ as, Reads h u b.2 as) us (vs.zip ds)
  | _, [], _, _, r, e => by
    cases r with
    | nil => exact .nil
    | cons _ _ => cases e
  | _, v :: vs, _, _, r, e => by
    cases r with
    | nil => cases e
    | cons h1 h2 => exact .cons ⟨_, h1⟩ (readsZip h2 (Nat.succ.inj e))
theorem cr_sortD {X : Cx} (hu : X.A.units + 70 < cLine) : CallR X (.builtin "sorted") (rSortD X.K) := by
  intro pins s σ H vs us Q I r h
  obtain ⟨a, xs, ds, rfl, hs, hd, hal, hk, hdep, hz, q⟩ := h
  obtain ⟨its, rv, hl, _⟩ := I.list hs
  rw [Vals.ref1 r]
  have hlen := dpAll_len hd
  obtain ⟨as, ra⟩ := Dp.readsAll I ds xs its hd rv
  have hz2 : (xs.zip ds).map Prod.snd = ds := zip_snd hlen
  refine sorted_data (s := s) (enc := Prod.snd) (bs := xs.zip ds) (R := fun u b => RelV b.1 u) hl.isList (each_zipR rv hlen) (readsZip ra hlen) (by rw [hz2]; exact hal) (by rw [hz2]; exact hk) (by rw [List.length_zip, hlen, Nat.min_self]; exact hz) (fun b hb => ?_) fun out ho eo => ?_
  · have := hdep b.2 (by rw [← hz2]; exact List.mem_map_of_mem hb)
    omega
  · obtain ⟨ep, he'⟩ := PyProof.Rows.sortedAll_at s.heap its (List.toArray out)
    have hv := vals_each eo
    have hlen2 : (srtV xs ds).length ≤ sizeLine := by
      unfold srtV
      rw [List.length_map, List.length_mergeSort, List.length_zip, hlen, Nat.min_self]
      exact hz
    exact ⟨.ref _, upd H (s.heap.objs.size + 1) (.lst (srtV xs ds)), I.laid (t' := s.toks) (fun _ _ => PyProof.Rows.sortedAll_old) (Nat.le_succ _) ⟨hlen2, out, ep, hv, he'⟩, rfl, q _ (I.hok.fresh (Nat.le_succ _))⟩
/-- data that sorted takes -/
def srtOk (ds : List PyData) : Bool := ds.all (fun d => decide (d.depth ≤ 64)) && (ds.all (fun a => ds.all fun b => alike a b) && (ds.all (fun d => match d with | .tuple (_ :: _) => true | _ => false) || ds.all (fun d => match d with | .none => false | .tuple _ => false | _ => true)))
theorem srtOk_spec {ds : List PyData} (h : srtOk ds = true) : (∀ d ∈ ds, d.depth ≤ 64) ∧ AllAlike ds ∧ PySem.W.Sortable ds := by
  unfold srtOk at h
  obtain ⟨h1, h2⟩ := Bool.and_eq_true_iff.mp h
  obtain ⟨h3, h4⟩ := Bool.and_eq_true_iff.mp h2
  rw [List.all_eq_true] at h1 h3
  refine ⟨fun d hd => of_decide_eq_true (h1 d hd), fun d hd d' hd' => (List.all_eq_true.mp (h3 d hd)) d' hd', ?_⟩
  rcases (Bool.or_eq_true _ _).mp h4 with h | h
  · rw [List.all_eq_true] at h
    refine .inl fun d hd => ?_
    have := h d hd
    split at this
    · exact ⟨_, _, rfl⟩
    · cases this
  · rw [List.all_eq_true] at h
    refine .inr fun d hd => ?_
    have := h d hd
    split at this
    · cases this
    · cases this
    · rename_i n1 n2
      exact ⟨n1, fun xs e => n2 xs e⟩
end PL

/-! PL0: a small pure language over plain data, and what its expressions and statements compute. -/
namespace PL
open PySem
/-- plain data -/
inductive D where
  | non | bl (b : Bool) | int (i : Int) | str (s : Str) | tup (xs : List D) | lst (xs : List D) | fls (xs : List D) | dct (kvs : List (D × D)) | fn (f : Nat) | dcs (ks : List Str) (vs : List D)
mutual
def D.pd : D → PyData
  | .non => .none
  | .bl b => .bool b
  | .int i => .int i
  | .str s => .str s
  | .tup xs => .tuple (D.pds xs)
  | .lst xs => .list (D.pds xs)
  | .fls xs => .list (D.pds xs)
  | .dct _ => .dict []
  | .fn _ => .dict []
  | .dcs _ _ => .dict []
def D.pds : List D → List PyData
  | [] => []
  | x :: xs => x.pd :: D.pds xs
end
mutual
/-- plain data alone -/
def dpOk : D → Bool
  | .tup xs => dpOks xs
  | .lst xs => dpOks xs
  | .fls xs => dpOks xs
  | .dct _ => false
  | .fn _ => false
  | .dcs _ _ => false
  | _ => true
def dpOks : List D → Bool
  | [] => true
  | x :: xs => dpOk x && dpOks xs
end
inductive B1 where
  | add | sub | mul | fdiv | mod | pow
  deriving DecidableEq
inductive CO where
  | eq | ne | lt | le | gt | ge | isin | notin | is_ | isnot
  deriving DecidableEq
/-- built-in functions and types called by name -/
inductive BI where
  | len | abs | int_ | str_ | tuple_ | list_ | all_ | any_ | sum_ | max_ | min_ | sorted_ | isint | isstr | istuple | islist | isbool | isdct
  deriving DecidableEq
/-- methods of built-in types -/
inductive MI where
  | index | find | split | join | get | values
  deriving DecidableEq
/-- methods of an own list: what is left, what is answered -/
inductive OM where
  | clear | pop | popat | insert | extend | reverse
  deriving DecidableEq
def omD : OM → List D → List D → Option (List D × D)
  | .clear, _, [] => some ([], .non)
  | .pop, ds, [] => (ds[ds.length - 1]?).map fun d => (ds.dropLast, d)
  | .popat, ds, [.int i] => if -(2 ^ 62) ≤ i ∧ i < 2 ^ 62 then (seqIndex? i ds.length).bind fun k => (ds[k]?).map fun d => (ds.eraseIdx k, d) else none
  | .insert, ds, [.int i, d] => if ds.length < sizeLine ∧ 0 ≤ i ∧ i < 2 ^ 62 then some (ds.take i.toNat ++ [d] ++ ds.drop i.toNat, .non) else none
  | .extend, ds, [.lst es] => if ds.length + es.length ≤ sizeLine then some (ds ++ es, .non) else none
  | .extend, ds, [.tup es] => if ds.length + es.length ≤ sizeLine then some (ds ++ es, .non) else none
  | .reverse, ds, [] => some (ds.reverse, .non)
  | _, _, _ => none
inductive E where
  | c (d : D) | var (i : Nat) | rd (i : Nat) | gl (x : Nat) | rdn (i : Nat) (k : E) | lenn (i : Nat) | revl (a : E) | lrg (a : E) | tvals (i : Nat) | dgT (x : Nat) (e : E) | dix (x : Nat) (e : E) | tix (x : Nat) (e : E) | dsp (ks : List Str) (es : List E) | dget (i : Nat) (k d : E) | mind (a : E) | lcd (is : List Nat) (i : Nat) (c e : E)
  | tup (es : List E) | lst (es : List E)
  | bin (o : B1) (a b : E) | neg (a : E) | nt (a : E)
  | cmp (o : CO) (a b : E) | chain (o1 o2 : CO) (a b c : E)
  | an (a b : E) | orr (a b : E) | ife (c a b : E)
  | ix (a b : E) | sl (a lo hi : E) | nohi
  | call (f : Nat) (es : List E) | callb (f : Nat) (es : List E) | cloc (i : Nat) (es : List E)
  | bi (f : BI) (es : List E) | me (m : MI) (o : E) (es : List E)
  | lc (is : List Nat) (it c e : E) | lcr (i : Nat) (es : List E) (c e : E)
  | no
inductive Sl where
  | un | sh (d : D) | ow (d : D) | on (xss : List (List D)) | od (ks : List Str) (vs : List D)
abbrev Env := List Sl
def Sl.get : Sl → Option D
  | .un => none
  | .sh d => some d
  | .ow d => some d
  | .on _ => none
  | .od _ _ => none
def Sl.shd : Sl → Option D
  | .sh d => some d
  | _ => none
def Sl.own : Sl → Option D
  | .ow d => some d
  | _ => none
/-- what a name's own thing is, read -/
def Sl.rdv : Sl → Option D
  | .ow d => some d
  | .od ks vs => some (.dcs ks vs)
  | _ => none
/-- d[k] -/
def findD : List Str → List D → Str → Option D
  | k :: ks, v :: vs, j => if k = j then some v else findD ks vs j
  | _, _, _ => none
def Sl.nst : Sl → Option (List (List D))
  | .on xss => some xss
  | _ => none
def Sl.dic : Sl → Option (List Str × List D)
  | .od ks vs => some (ks, vs)
  | _ => none
/-- d[k] = v -/
def putL (ks : List Str) (vs : List D) (k : Str) (v : D) : List Str × List D :=
  if k ∈ ks then (ks, List.zipWith (fun x y => if x = k then v else y) ks vs) else (ks ++ [k], vs ++ [v])
/-- one is in a row: the items are flat, or all of it is shaped -/
def flatD : D → Bool
  | .non => true
  | .bl _ => true
  | .int _ => true
  | .str _ => true
  | _ => false
def eqF : D → D → Bool
  | .non, .non => true
  | .bl a, .bl b => a == b
  | .bl a, .int b => (if a = true then 1 else 0) == b
  | .int a, .bl b => a == if b = true then 1 else 0
  | .int a, .int b => a == b
  | .str a, .str b => a == b
  | _, _ => false
/-- two that are compared at once -/
def scalD : D → D → Bool
  | .non, .non => true | .non, .int _ => true | .int _, .non => true | .non, .bl _ => true | .bl _, .non => true | .non, .str _ => true | .str _, .non => true
  | .int _, .int _ => true | .bl _, .bl _ => true | .str _, .str _ => true
  | .int _, .str _ => true | .str _, .int _ => true | .bl _, .str _ => true | .str _, .bl _ => true
  | _, _ => false
/-- the abstract equality: kinds and values, bools as numbers -/
def eqD (a b : D) : Option Bool :=
  if scalD a b then some (eqF a b) else if a.pd.canLay0 && b.pd.canLay0 && decide (min a.pd.depth b.pd.depth ≤ 64) then some (PyData.eqv a.pd b.pd) else none
def binD : B1 → D → D → Option D
  | .add, .int a, .int b => some (.int (a + b))
  | .add, .str a, .str b => if a.length + b.length ≤ sizeLine then some (.str (a ++ b)) else none
  | .add, .tup a, .tup b => if a.length + b.length ≤ sizeLine then some (.tup (a ++ b)) else none
  | .add, .lst a, .lst b => if a.length + b.length ≤ sizeLine then some (.lst (a ++ b)) else none
  | .sub, .int a, .int b => some (.int (a - b))
  | .mul, .int a, .int b => if (-(2 ^ 64) < a ∧ a < 2 ^ 64) ∨ (-(2 ^ 64) < b ∧ b < 2 ^ 64) then some (.int (a * b)) else none
  | .mul, .tup a, .int k => if a.length ≤ 1000 ∧ -1000 ≤ k ∧ k ≤ 1000 then some (.tup (List.replicate k.toNat a).flatten) else none
  | .mul, .lst a, .int k => if 0 ≤ k ∧ k < 2 ^ 63 ∧ a.length * k.toNat ≤ sizeLine then some (.lst (List.replicate k.toNat a).flatten) else none
  | .fdiv, .int a, .int b => if b ≠ 0 ∧ b.natAbs < 1073741824 then some (.int (a.fdiv b)) else none
  | .mod, .int a, .int b => if b ≠ 0 then some (.int (a.fmod b)) else none
  | .pow, .int a, .int b => if 0 ≤ b ∧ b ≤ 1000000 ∧ a.natAbs < 2 ^ 64 then some (.int (a ^ b.toNat)) else none
  | _, _, _ => none
def inD : D → D → Option Bool
  | .str a, .str b => some (!(Builtin.Str.occurrences b a 0 b.length 1).isEmpty)
  | .str a, .dcs ks vs => some (findD ks vs a).isSome
  | x, .tup ys => if flatD x && ys.all flatD then some (ys.any fun y => eqF y x) else none
  | x, .lst ys => if flatD x && ys.all flatD then some (ys.any fun y => eqF y x)
      else if SeqAt.shaped x.pd && SeqAt.shaped (D.lst ys).pd then some (ys.any fun y => PyData.eqv y.pd x.pd) else none
  | _, _ => none
def cmpD : CO → D → D → Option Bool
  | .eq, a, b => eqD a b
  | .ne, a, b => (eqD a b).map (!·)
  | .lt, .int a, .int b => some (decide (a < b))
  | .lt, .str a, .str b => some (decide (a.cps.toList < b.cps.toList))
  | .le, .int a, .int b => some (decide (a ≤ b))
  | .gt, .int a, .int b => some (decide (b < a))
  | .ge, .int a, .int b => some (decide (b ≤ a))
  | .le, .str a, .str b => some (!decide (b.cps.toList < a.cps.toList))
  | .gt, .str a, .str b => some (decide (b.cps.toList < a.cps.toList))
  | .ge, .str a, .str b => some (!decide (a.cps.toList < b.cps.toList))
  | .isin, a, b => inD a b
  | .notin, a, b => (inD a b).map (!·)
  | .is_, .bl a, .bl b => some (a == b)
  | .is_, .non, .non => some true
  | .is_, _, .non => some false
  | .isnot, .bl a, .bl b => some (!(a == b))
  | .isnot, .non, .non => some false
  | .isnot, _, .non => some true
  | _, _, _ => none
def ixD : D → D → Option D
  | .dcs ks vs, .str k => findD ks vs k
  | .tup xs, .int i => L2.atI xs i
  | .lst xs, .int i => L2.atI xs i
  | .fls xs, .int i => L2.atI xs i
  | .str z, .int i => if z.length ≤ sizeLine then (L2.atI z.cps.toList i).map fun c => .str ⟨#[c]⟩ else none
  | _, _ => none
def cutL (xs : List D) (lo hi : Option Int) : List D := (xs.drop (HT.sIx xs.length 0 lo)).take (HT.sIx xs.length xs.length hi - HT.sIx xs.length 0 lo)
def endD : D → Option (Option Int)
  | .int i => some (some i)
  | _ => none
def E.isNo : E → Bool
  | .nohi => true
  | _ => false
def slD : D → Option Int → Option Int → Option D
  | .tup xs, lo, hi => some (.tup (cutL xs lo hi))
  | .lst xs, lo, hi => some (.lst (cutL xs lo hi))
  | .str z, lo, hi => if z.length ≤ sizeLine then some (.str (L2.cutS z lo hi)) else none
  | _, _, _ => none
def sumD : List D → Option Int
  | [] => some 0
  | .int i :: r => (sumD r).map (i + ·)
  | _ => none
def boolsD : List D → Option (List Bool)
  | [] => some []
  | .bl b :: r => (boolsD r).map (b :: ·)
  | _ => none
def intsD : List D → Option (List Int)
  | [] => some []
  | .int b :: r => (intsD r).map (b :: ·)
  | _ => none
def strsD : List D → Option (List Str)
  | [] => some []
  | .str b :: r => (strsD r).map (b :: ·)
  | _ => none
def joinD (a : Str) (ds : List D) : Option D := (strsD ds).bind fun ys => if (ys.map (·.length)).sum + ys.length * a.length ≤ 16777216 then some (.str (Txt.join a ys)) else none
/-- the first place of an equal one, flat items -/
def idxD (ds : List D) (x : D) : Option D := if flatD x && ds.all flatD then (ds.findIdx? fun y => eqF y x).map fun (j : Nat) => D.int (j : Int) else none
def meD : MI → D → List D → Option D
  | .split, .str a, [.str b] => if (b.length == 0) = false ∧ a.length + 2 ≤ sizeLine then some (.lst ((Txt.split a b).map D.str)) else none
  | .find, .str a, [.str b, .int i] => some (.int (Txt.find3 a b i))
  | .join, .str a, [.lst ds] => joinD a ds
  | .join, .str a, [.tup ds] => joinD a ds
  | .index, .lst ds, [x] => idxD ds x
  | _, _, _ => none
def biD : BI → List D → Option D
  | .len, [.tup xs] => some (.int xs.length)
  | .len, [.lst xs] => some (.int xs.length)
  | .len, [.fls xs] => some (.int xs.length)
  | .len, [.str z] => if z.length ≤ sizeLine then some (.int z.length) else none
  | .abs, [.int i] => some (.int (if i < 0 then -i else i))
  | .int_, [.int i] => some (.int i)
  | .int_, [.bl k] => some (.int (if k then 1 else 0))
  | .int_, [.str z] => if z.length ≤ 640 then (PySem.intText? z).map .int else none
  | .str_, [.int i] => if i.natAbs.log2 < 1920 then some (.str (toString i)) else none
  | .tuple_, [.lst xs] => some (.tup xs)
  | .tuple_, [.tup xs] => some (.tup xs)
  | .list_, [.lst xs] => some (.lst xs)
  | .list_, [.tup xs] => some (.lst xs)
  | .list_, [.dcs ks _] => some (.lst (ks.map .str))
  | .all_, [.lst xs] => (boolsD xs).map fun bs => .bl (bs.all id)
  | .any_, [.lst xs] => (boolsD xs).map fun bs => .bl (bs.any id)
  | .sum_, [.lst xs] => (intsD xs).map fun ns => .int ns.sum
  | .sorted_, [.lst xs] => if dpOks xs = true ∧ srtOk (D.pds xs) = true ∧ xs.length ≤ sizeLine then some (.lst (xs.mergeSort (PySem.W.dataLe false D.pd))) else none
  | .max_, [.int i, .int j] => some (.int (if j > i then j else i))
  | .min_, [.int i, .int j] => some (.int (if j < i then j else i))
  | .isint, [d] => match d with | .fls _ => none | .int _ => some (.bl true) | .bl _ => some (.bl true) | .fn _ => none | _ => some (.bl false)
  | .isstr, [d] => match d with | .fls _ => none | .str _ => some (.bl true) | .fn _ => none | _ => some (.bl false)
  | .istuple, [d] => match d with | .fls _ => none | .tup _ => some (.bl true) | .fn _ => none | _ => some (.bl false)
  | .islist, [d] => match d with | .fls _ => none | .lst _ => some (.bl true) | .fn _ => none | _ => some (.bl false)
  | .isbool, [d] => match d with | .fls _ => none | .bl _ => some (.bl true) | .fn _ => none | _ => some (.bl false)
  | .isdct, [d] => match d with | .fls _ => none | .dcs _ _ => some (.bl true) | .fn _ => none | _ => some (.bl false)
  | _, _ => none
def rngD : List D → Option (List D)
  | [.int j] => if -(2 ^ 62) ≤ j ∧ j < 2 ^ 62 then some ((List.range j.toNat).map fun (k : Nat) => D.int (k : Int)) else none
  | [.int i, .int j] => if -(2 ^ 62) ≤ i ∧ i < 2 ^ 62 ∧ -(2 ^ 62) ≤ j ∧ j < 2 ^ 62 then some ((List.range (j - i).toNat).map fun (k : Nat) => D.int (i + (k : Int))) else none
  | _ => none
def itD : D → Option (List D)
  | .tup xs => some xs
  | .lst xs => some xs
  | .fls xs => some xs
  | .str z => some (z.cps.toList.map fun c => .str ⟨#[c]⟩)
  | _ => none
/-- store a turn's item: one name, or several that unpack it -/
def tgs : List Nat → List D → Env → Option Env
  | [], [], s => some s
  | i :: is, x :: xs, s => tgs is xs (s.set i (.sh x))
  | _, _, _ => none
def tgD : List Nat → D → Env → Option Env
  | [i], d, s => some (s.set i (.sh d))
  | is, .tup xs, s => tgs is xs s
  | _, _, _ => none
/-- a block's own names forgotten -/
def wipeE (s : Env) : List Nat → Env
  | [] => s
  | v :: vs => (wipeE s vs).set v .un
/-- a comprehension: each item in turn -/
def lcD (f : D → Option (Option D)) : List D → Option (List D)
  | [] => some []
  | x :: xs => (f x).bind fun y => (lcD f xs).map fun r => match y with
    | some y => y :: r
    | none => r
/-- the least of texts, none if there is none -/
def mnS : List Str → D
  | [] => .non
  | y :: ys => .str (ys.foldl (fun a z => if decide (z.cps.toList < a.cps.toList) = true then z else a) y)
/-- what a dict's walk tells -/
def keyD : D → Option (List D)
  | .dcs ks _ => some (ks.map .str)
  | _ => none
/-- a constant that is a value -/
def glD : D → Option D
  | .dct _ => none
  | d => some d
def keyT : D → Option (List Str)
  | .tup ds => strsD ds
  | _ => none
def keyS : D → Option Str
  | .str k => some k
  | _ => none
def isKey {α : Type} [DecidableEq α] (k : α) : Option α → Bool
  | some j => decide (j = k)
  | none => false
/-- d.get(k) of a constant dict, its keys tuples of texts -/
def lookT : List (D × D) → List Str → D
  | [], _ => .non
  | p :: r, k => if isKey k (keyT p.1) = true then p.2 else lookT r k
/-- d[k] of a constant dict, its keys texts -/
def lookS : List (D × D) → Str → Option D
  | [], _ => none
  | p :: r, k => if isKey k (keyS p.1) = true then some p.2 else lookS r k
def getT (g k : D) : Option D := match g with
  | .dct kvs => (keyT k).map (lookT kvs)
  | _ => none
/-- t.index(k) of a constant tuple of texts -/
def getI (g k : D) : Option D := match g with
  | .tup ds => (strsD ds).bind fun ys => (keyS k).bind fun z => (ys.findIdx? fun y => decide (y = z)).map fun (j : Nat) => D.int (j : Int)
  | _ => none
def getS (g k : D) : Option D := match g with
  | .dct kvs => (keyS k).bind (lookS kvs)
  | _ => none
abbrev Fc := Nat → List D → Option (D × List D)
mutual
/-- no list is within -/
def noL : D → Bool
  | .lst _ => false
  | .fls _ => false
  | .dct _ => false
  | .dcs _ _ => false
  | .tup xs => noLs xs
  | _ => true
def noLs : List D → Bool
  | [] => true
  | x :: xs => noL x && noLs xs
end
mutual
def ev (F : Fc) (G : Nat → Option D) : E → Env → Option D
  | .c d, _ => some d
  | .var i, s => (s[i]?).bind Sl.shd
  | .rd i, s => (s[i]?).bind Sl.rdv
  | .gl x, _ => (G x).bind glD
  | .dgT x e, s => (ev F G e s).bind fun k => (G x).bind fun g => getT g k
  | .tix x e, s => (ev F G e s).bind fun k => (G x).bind fun g => getI g k
  | .dsp ks es, s => (evs F G es s).bind fun vs => if ks.Nodup ∧ ks.length = vs.length ∧ ks.length ≤ 15 then some (.dcs ks vs) else none
  | .dix x e, s => (ev F G e s).bind fun k => (G x).bind fun g => getS g k
  | .rdn i k, s => ((s[i]?).bind Sl.nst).bind fun xss => (ev F G k s).bind fun y => match y with
    | .int j => (L2.atI xss j).map .lst
    | _ => none
  | .lenn i, s => ((s[i]?).bind Sl.nst).map fun xss => .int xss.length
  | .tvals i, s => ((s[i]?).bind Sl.dic).map fun d => .tup d.2
  | .revl a, s => (ev F G a s).bind fun x => match x with
    | .lst xs => some (.lst xs.reverse)
    | _ => none
  | .lrg a, s => (ev F G a s).bind fun x => match x with
    | .int n => if 0 ≤ n ∧ n ≤ 16777216 then some (.lst ((List.range n.toNat).map fun (k : Nat) => D.int (k : Int))) else none
    | _ => none
  | .tup es, s => (evs F G es s).bind fun xs => if xs.length ≤ sizeLine then some (.tup xs) else none
  | .lst es, s => (evs F G es s).bind fun xs => if xs.length ≤ sizeLine then some (.lst xs) else none
  | .bin o a b, s => (ev F G a s).bind fun x => (ev F G b s).bind fun y => binD o x y
  | .neg a, s => (ev F G a s).bind fun x => match x with
    | .int i => some (.int (-i))
    | _ => none
  | .nt a, s => (ev F G a s).bind fun x => match x with
    | .bl b => some (.bl (!b))
    | _ => none
  | .cmp o a b, s => (ev F G a s).bind fun x => (ev F G b s).bind fun y => (cmpD o x y).map .bl
  | .chain o1 o2 a b c, s => (ev F G a s).bind fun x => (ev F G b s).bind fun y => (cmpD o1 x y).bind fun k =>
      if k = true then (ev F G c s).bind fun z => (cmpD o2 y z).map .bl else some (.bl false)
  | .an a b, s => (ev F G a s).bind fun x => match x with
    | .bl true => ev F G b s
    | .bl false => some (.bl false)
    | _ => none
  | .orr a b, s => (ev F G a s).bind fun x => match x with
    | .bl true => some (.bl true)
    | .bl false => ev F G b s
    | _ => none
  | .ife c a b, s => (ev F G c s).bind fun x => match x with
    | .bl true => ev F G a s
    | .bl false => ev F G b s
    | _ => none
  | .ix a b, s => (ev F G a s).bind fun x => (ev F G b s).bind fun y => ixD x y
  | .sl a lo hi, s => (ev F G a s).bind fun x => (if lo.isNo then some none else (ev F G lo s).bind endD).bind fun l => (if hi.isNo then some none else (ev F G hi s).bind endD).bind fun h => slD x l h
  | .nohi, _ => none
  | .call f es, s => (evs F G es s).bind fun xs => (F f xs).bind fun r => match r.2 with
    | [] => some r.1
    | _ => none
  | .callb f es, s => (evs F G es s).bind fun xs => (F f xs).bind fun r => match r.2 with
    | [] => if noL r.1 then some r.1 else none
    | _ => none
  | .cloc i es, s => (s[i]?).bind fun o => (evs F G es s).bind fun xs => match o with
    | .sh (.fn f) => (F f xs).bind fun r => match r.2 with
      | [] => some r.1
      | _ => none
    | _ => none
  | .bi f es, s => (evs F G es s).bind fun xs => biD f xs
  | .me m o es, s => (ev F G o s).bind fun x => (evs F G es s).bind fun xs => meD m x xs
  | .lc is it c e, s => (ev F G it s).bind fun l => (itD l).bind fun xs =>
      (lcD (fun x => (tgD is x (wipeE s is)).bind fun s2 => (ev F G c s2).bind fun k => match k with
        | .bl true => (ev F G e s2).map some
        | .bl false => some none
        | _ => none) xs).bind fun r => if r.length ≤ sizeLine then some (.lst r) else none
  | .lcr i es c e, s => (evs F G es s).bind fun l => (rngD l).bind fun xs =>
      (lcD (fun x => (tgD [i] x (wipeE s [i])).bind fun s2 => (ev F G c s2).bind fun k => match k with
        | .bl true => (ev F G e s2).map some
        | .bl false => some none
        | _ => none) xs).bind fun r => if r.length ≤ sizeLine then some (.lst r) else none
  | .dget i k e, s => ((s[i]?).bind Sl.dic).bind fun p => (ev F G k s).bind fun kk => (ev F G e s).bind fun dd => match kk with
    | .str x => if flatD dd && p.2.all flatD then some ((findD p.1 p.2 x).getD dd) else none
    | _ => none
  | .mind a, s => (ev F G a s).bind fun l => match l with
    | .lst xs => (strsD xs).map mnS
    | _ => none
  | .lcd is i c e, s => (((s[i]?).bind Sl.shd).bind keyD).bind fun xs =>
      (lcD (fun x => (tgD is x (wipeE s is)).bind fun s2 => (ev F G c s2).bind fun k => match k with
        | .bl true => (ev F G e s2).map some
        | .bl false => some none
        | _ => none) xs).bind fun r => if r.length ≤ sizeLine then some (.lst r) else none
  | .no, _ => none
def evs (F : Fc) (G : Nat → Option D) : List E → Env → Option (List D)
  | [], _ => some []
  | e :: es, s => (ev F G e s).bind fun x => (evs F G es s).map (x :: ·)
end

/-- the items of a list from its end -/
def revD : D → Option (List D)
  | .lst xs => some xs.reverse
  | _ => none
inductive S where
  | set (i : Nat) (e : E) | seto (i : Nat) (e : E)
  | unp (is : List Nat) (e : E) | par (i j : Nat) (a b : E)
  | aug (i : Nat) (o : B1) (e : E)
  | expr (e : E)
  | mth (i : Nat) (m : OM) (es : List E) | mthx (j i : Nat) (m : OM) (es : List E)
  | app (i : Nat) (e : E) | sets (i : Nat) (k e : E)
  | newd (i : Nat) | putd (i : Nat) (k e : E)
  | setn (i : Nat) (es : List E) | appn (i : Nat) (e : E) | appat (i : Nat) (k e : E) | popn (j i : Nat) | popt (j i : Nat) | apptp (i : Nat) (k : E) (j : Nat)
  | ret (e : E) | reto (i : Nat) | retn
  | iff (c : E) (a b : List S) | whl (c : E) (b : List S) | for_ (is : List Nat) (it : E) (b : List S) | forv (is : List Nat) (it : E) (b : List S) | forr (i : Nat) (es : List E) (b : List S)
  | brk | cnt | pass | share (i : Nat) | never
inductive Out where
  | nx (s : Env) | rt (d : D) (s : Env) | bk (s : Env) | ct (s : Env)
/-- a for loop over items -/
def forD (t : D → Env → Option Env) (b : Env → Option Out) : List D → Env → Option Out
  | [], s => some (.nx s)
  | x :: xs, s => (t x s).bind fun s1 => (b s1).bind fun o => match o with
    | .nx s2 => forD t b xs s2
    | .ct s2 => forD t b xs s2
    | .bk s2 => some (.nx s2)
    | .rt d s2 => some (.rt d s2)
/-- a while loop, at most n turns -/
def whlD (c : Env → Option D) (b : Env → Option Out) : Nat → Env → Option Out
  | 0, _ => none
  | n + 1, s => (c s).bind fun k => match k with
    | .bl true => (b s).bind fun o => match o with
      | .nx s2 => whlD c b n s2
      | .ct s2 => whlD c b n s2
      | .bk s2 => some (.nx s2)
      | .rt d s2 => some (.rt d s2)
    | .bl false => some (.nx s)
    | _ => none
def fuel : Nat := 2 ^ 40
mutual
def ex (F : Fc) (G : Nat → Option D) : S → Env → Option Out
  | .set i e, s => (ev F G e s).map fun d => .nx (s.set i (.sh d))
  | .seto i e, s => (ev F G e s).bind fun d => match d with
    | .lst xs => some (.nx (s.set i (.ow (.lst xs))))
    | .dcs ks vs => some (.nx (s.set i (.od ks vs)))
    | _ => none
  | .unp is e, s => (ev F G e s).bind fun d => (tgD is d s).map .nx
  | .par i j a b, s => (ev F G a s).bind fun x => (ev F G b s).map fun y => .nx ((s.set i (.sh x)).set j (.sh y))
  | .aug i o e, s => ((s[i]?).bind Sl.shd).bind fun x => (ev F G e s).bind fun y => match x, y with
    | .int a, .int b => (binD o (.int a) (.int b)).map fun z => .nx (s.set i (.sh z))
    | _, _ => none
  | .expr e, s => (ev F G e s).map fun _ => .nx s
  | .app i e, s => ((s[i]?).bind Sl.own).bind fun x => (ev F G e s).bind fun d => match x with
    | .lst xs => if xs.length < sizeLine then some (.nx (s.set i (.ow (.lst (xs ++ [d]))))) else none
    | _ => none
  | .mth i m es, s => ((s[i]?).bind Sl.own).bind fun x => (evs F G es s).bind fun xs => match x with
    | .lst ds => (omD m ds xs).map fun r => .nx (s.set i (.ow (.lst r.1)))
    | _ => none
  | .mthx j i m es, s => ((s[i]?).bind Sl.own).bind fun x => (evs F G es s).bind fun xs => match x with
    | .lst ds => (omD m ds xs).map fun r => .nx ((s.set i (.ow (.lst r.1))).set j (.sh r.2))
    | _ => none
  | .sets i k e, s => ((s[i]?).bind Sl.own).bind fun x => (ev F G e s).bind fun d => (ev F G k s).bind fun k => match x, k with
    | .lst xs, .int k => (L2.ixN xs.length k).map fun j => .nx (s.set i (.ow (.lst (xs.set j d))))
    | _, _ => none
  | .newd i, s => some (.nx (s.set i (.od [] [])))
  | .putd i k e, s => ((s[i]?).bind Sl.dic).bind fun d => (ev F G e s).bind fun v => (ev F G k s).bind fun k => match k with
    | .str k => if d.1.length < sizeLine then some (.nx (s.set i (.od (putL d.1 d.2 k v).1 (putL d.1 d.2 k v).2))) else none
    | _ => none
  | .setn i es, s => (evs F G es s).bind fun ds => match ds with
    | [] => some (.nx (s.set i (.on [])))
    | [.lst xs] => some (.nx (s.set i (.on [xs])))
    | _ => none
  | .appn i e, s => ((s[i]?).bind Sl.nst).bind fun xss => (ev F G e s).bind fun d => match d with
    | .lst xs => if xss.length < sizeLine then some (.nx (s.set i (.on (xss ++ [xs])))) else none
    | _ => none
  | .appat i k e, s => ((s[i]?).bind Sl.nst).bind fun xss => (ev F G k s).bind fun k => (ev F G e s).bind fun d => match k with
    | .int k => (L2.ixN xss.length k).bind fun j => (xss[j]?).bind fun xs => if xs.length < sizeLine then some (.nx (s.set i (.on (xss.set j (xs ++ [d]))))) else none
    | _ => none
  | .popn j i, s => ((s[i]?).bind Sl.nst).bind fun xss => (xss[xss.length - 1]?).map fun xs => .nx ((s.set i (.on xss.dropLast)).set j (.sh (.lst xs)))
  | .popt j i, s => ((s[i]?).bind Sl.nst).bind fun xss => (xss[xss.length - 1]?).map fun xs => .nx ((s.set i (.on xss.dropLast)).set j (.sh (.tup xs)))
  | .apptp i k j, s => ((s[i]?).bind Sl.nst).bind fun xss => (ev F G k s).bind fun k => ((s[j]?).bind Sl.nst).bind fun yss => (yss[yss.length - 1]?).bind fun ys => match k with
    | .int k => (L2.ixN xss.length k).bind fun l => (xss[l]?).bind fun xs => if xs.length < sizeLine then some (.nx ((s.set j (.on yss.dropLast)).set i (.on (xss.set l (xs ++ [.tup ys]))))) else none
    | _ => none
  | .ret e, s => (ev F G e s).map fun d => .rt d s
  | .reto i, s => ((s[i]?).bind Sl.rdv).map fun d => .rt d s
  | .retn, s => some (.rt .non s)
  | .iff c a b, s => (ev F G c s).bind fun k => match k with
    | .bl true => exs F G a s
    | .bl false => exs F G b s
    | _ => none
  | .whl c b, s => whlD (ev F G c) (exs F G b) fuel s
  | .for_ is it b, s => (ev F G it s).bind fun l => (itD l).bind fun xs => forD (tgD is) (exs F G b) xs s
  | .forv is it b, s => (ev F G it s).bind fun l => (revD l).bind fun xs => forD (tgD is) (exs F G b) xs s
  | .forr i es b, s => (evs F G es s).bind fun l => (rngD l).bind fun xs => forD (tgD [i]) (exs F G b) xs s
  | .brk, s => some (.bk s)
  | .cnt, s => some (.ct s)
  | .pass, s => some (.nx s)
  | .share i, s => ((s[i]?).bind Sl.rdv).map fun d => .nx (s.set i (.sh d))
  | .never, _ => none
def exs (F : Fc) (G : Nat → Option D) : List S → Env → Option Out
  | [], s => some (.nx s)
  | a :: r, s => (ex F G a s).bind fun o => match o with
    | .nx s2 => exs F G r s2
    | o => some o
end
/-- a def: its names by slots (parameters first), how many parameters, the constants that stand behind the written arguments, whether what it hands back is a list of its own, its body -/
structure Fn where
  name : Str
  names : List Str
  ps : Nat
  dfl : List D
  fresh : Bool
  body : List S
def Fn.start (f : Fn) (xs : List D) : Env := xs.map .sh ++ List.replicate (f.names.length - xs.length) .un
abbrev Tab := Nat → Option Fn
def call (T : Tab) (G : Nat → Option D) : Nat → Fc
  | 0, _, _ => none
  | n + 1, f, xs => (T f).bind fun fi => if (xs ++ fi.dfl).length = fi.ps then match exs (call T G n) G fi.body (fi.start (xs ++ fi.dfl)) with
    | some (.nx _) => some (.non, [])
    | some (.rt d _) => some (d, [])
    | _ => none
    else none
end PL

/-! PL1: what the small language computes is what the text does. -/
namespace PL
open PySem PySem.Spec PyProof.Rows L2
/-! ### data at values -/
open Classical in
noncomputable def gd (S : Addr → Prop) (H : Hp) : Hp := fun a => if S a then none else H a
section
variable (K : PySem.W.Frag) (FA : Nat → Addr)
mutual
inductive R (G : Hp) : V → D → Prop
  | non : R G .non .non
  | bl (b : Bool) : R G (.bl b) (.bl b)
  | int (i : Int) : R G (.int i) (.int i)
  | str (x : Str) : R G (.str x) (.str x)
  | tup {a : Addr} {vs : List V} {ds : List D} : SqT K G a vs → Rs G vs ds → R G (.ref a) (.tup ds)
  | lst {a : Addr} {vs : List V} {ds : List D} : G a = some (.lst vs) → Rs G vs ds → R G (.ref a) (.lst ds)
  | fls {a : Addr} {vs : List V} {ds : List D} : SqL K G a vs → Rs G vs ds → R G (.ref a) (.fls ds)
  | fn (f : Nat) : FA f ≠ 0 → R G (.ref (FA f)) (.fn f)
  | dcs {a : Addr} {kvs : List (Key × V)} {ks : List Str} {ds : List D} : Rd G a (.dK kvs) → kvs.map (·.1) = ks.map Sum.inr → Rs G (kvs.map (·.2)) ds → R G (.ref a) (.dcs ks ds)
inductive Rs (G : Hp) : List V → List D → Prop
  | nil : Rs G [] []
  | cons {v : V} {vs : List V} {d : D} {ds : List D} : R G v d → Rs G vs ds → Rs G (v :: vs) (d :: ds)
end
end
section
variable {K : PySem.W.Frag} {FA : Nat → Addr} {G G' H H' H1 : Hp} {S S' : Addr → Prop} {v : V} {d : D} {vs : List V} {ds : List D} {a : Addr} {o : HO}
theorem rd_mono (m : Same G G') {u : HO} (h : Rd G a u) : Rd G' a u := h.elim (fun q => .inl (m _ _ q)) fun ⟨o, q⟩ => .inr ⟨o, m _ _ q⟩
theorem sqT_mono (m : Same G G') (h : SqT K G a vs) : SqT K G' a vs := h.elim (fun q => .inl (rd_mono m q)) .inr
theorem sqL_mono (m : Same G G') (h : SqL K G a vs) : SqL K G' a vs := h.elim (fun q => .inl (rd_mono m q)) .inr
mutual
theorem R.mono (m : Same G G') : ∀ {v : V} {d : D}, R K FA G v d → R K FA G' v d
  | _, _, .non => .non
  | _, _, .bl b => .bl b
  | _, _, .int i => .int i
  | _, _, .str x => .str x
  | _, _, .tup h r => .tup (sqT_mono m h) (Rs.mono m r)
  | _, _, .lst h r => .lst (m _ _ h) (Rs.mono m r)
  | _, _, .fls h r => .fls (sqL_mono m h) (Rs.mono m r)
  | _, _, .fn f h => .fn f h
  | _, _, .dcs h k r => .dcs (rd_mono m h) k (Rs.mono m r)
theorem Rs.mono (m : Same G G') : ∀ {vs : List V} {ds : List D}, Rs K FA G vs ds → Rs K FA G' vs ds
  | _, _, .nil => .nil
  | _, _, .cons h r => .cons (R.mono m h) (Rs.mono m r)
end
theorem Rs.length : ∀ {vs : List V} {ds : List D}, Rs K FA G vs ds → vs.length = ds.length
  | _, _, .nil => rfl
  | _, _, .cons _ r => congrArg Nat.succ (Rs.length r)
theorem Rs.append : ∀ {vs : List V} {ds : List D} {ws : List V} {es : List D}, Rs K FA G vs ds → Rs K FA G ws es → Rs K FA G (vs ++ ws) (ds ++ es)
  | _, _, _, _, .nil, s => s
  | _, _, _, _, .cons h r, s => .cons h (Rs.append r s)
theorem Rs.get : ∀ {vs : List V} {ds : List D} {i : Nat} {d : D}, Rs K FA G vs ds → ds[i]? = some d → ∃ v, vs[i]? = some v ∧ R K FA G v d
  | _, _, _, _, .nil, e => by simp at e
  | _, _, 0, _, .cons h _, e => by simp at e; subst e; exact ⟨_, rfl, h⟩
  | _, _, i + 1, _, .cons _ r, e => by
    obtain ⟨v, h1, h2⟩ := Rs.get (i := i) r (by simpa using e)
    exact ⟨v, by simpa using h1, h2⟩
theorem Rs.get' : ∀ {vs : List V} {ds : List D} {i : Nat} {v : V}, Rs K FA G vs ds → vs[i]? = some v → ∃ d, ds[i]? = some d ∧ R K FA G v d
  | _, _, _, _, .nil, e => by simp at e
  | _, _, 0, _, .cons h _, e => by simp at e; subst e; exact ⟨_, rfl, h⟩
  | _, _, i + 1, _, .cons _ r, e => by
    obtain ⟨v, h1, h2⟩ := Rs.get' (i := i) r (by simpa using e)
    exact ⟨v, by simpa using h1, h2⟩
theorem Rs.take : ∀ (n : Nat) {vs : List V} {ds : List D}, Rs K FA G vs ds → Rs K FA G (vs.take n) (ds.take n)
  | 0, _, _, _ => by simp; exact .nil
  | _ + 1, _, _, .nil => by simp; exact .nil
  | n + 1, _, _, .cons h r => by simp; exact .cons h (Rs.take n r)
theorem Rs.drop : ∀ (n : Nat) {vs : List V} {ds : List D}, Rs K FA G vs ds → Rs K FA G (vs.drop n) (ds.drop n)
  | 0, _, _, r => by simpa using r
  | _ + 1, _, _, .nil => by simp; exact .nil
  | n + 1, _, _, .cons _ r => by simp; exact Rs.drop n r
theorem Rs.set : ∀ (n : Nat) {vs : List V} {ds : List D} {v : V} {d : D}, Rs K FA G vs ds → R K FA G v d → Rs K FA G (vs.set n v) (ds.set n d)
  | _, _, _, _, _, .nil, _ => by simp; exact .nil
  | 0, _, _, _, _, .cons _ r, q => by simp; exact .cons q r
  | n + 1, _, _, _, _, .cons h r, q => by simp; exact .cons h (Rs.set n r q)
theorem gd_sub : Same (gd S H) H := fun b o e => by
  unfold gd at e
  split at e
  · cases e
  · exact e
theorem gd_mono (m : Same H H') : Same (gd S H) (gd S H') := fun b o e => by
  unfold gd at *
  split at e
  · cases e
  · rename_i n
    rw [if_neg n]
    exact m b o e
theorem gd_anti (m : ∀ a, S a → S' a) : Same (gd S' H) (gd S H) := fun b o e => by
  unfold gd at *
  split at e
  · cases e
  · rename_i n
    rw [if_neg fun z => n (m b z)]
    exact e
theorem gd_of (n : ¬ S a) (e : H a = some o) : gd S H a = some o := by
  unfold gd
  rw [if_neg n]
  exact e
/-- what is left out stands in the heap -/
def MutO : HO → Bool
  | .lst _ => true
  | .dK _ => true
  | _ => false
def Dom (S : Addr → Prop) (H : Hp) : Prop := ∀ a, S a → ∃ o, H a = some o ∧ MutO o = true
theorem Dom.mono (x : Dom S H) (m : Same H H') : Dom S H' := fun a h => let ⟨vs, e, k⟩ := x a h; ⟨vs, m _ _ e, k⟩
theorem Dom.nn (x : Dom S H) {a : Addr} (h : S a) (e : H a = none) : False := by
  obtain ⟨vs, q, _⟩ := x a h
  rw [e] at q
  cases q
theorem same_upd (m : Same H H1) (n : H1 a = none) : Same H (upd H1 a o) := fun b u e => by
  rw [upd_ne (ne_of_none (m b u e) n)]
  exact m b u e
theorem same_new (n : H1 a = none) : Same H1 (upd H1 a o) := same_upd (Same.refl _) n
theorem gd_new (x : Dom S H) (n : H a = none) : gd S (upd H a o) a = some o := gd_of (fun z => x.nn z n) upd_same
theorem R.new_tup (x : Dom S H) (n : H a = none) (r : Rs K FA (gd S H) vs ds) : R K FA (gd S (upd H a (.tup vs))) (.ref a) (.tup ds) :=
  .tup (SqT.of (gd_new x n)) (r.mono (gd_mono (same_new n)))
theorem R.new_lst (x : Dom S H) (n : H a = none) (r : Rs K FA (gd S H) vs ds) : R K FA (gd S (upd H a (.lst vs))) (.ref a) (.lst ds) :=
  .lst (gd_new x n) (r.mono (gd_mono (same_new n)))
/-- a value that is read: known at what may be shared, or a list that one alone holds -/
def RA (K : PySem.W.Frag) (FA : Nat → Addr) (S : Addr → Prop) (H : Hp) (v : V) (d : D) : Prop :=
  R K FA (gd S H) v d ∨ (∃ a vs ds, v = .ref a ∧ d = .lst ds ∧ H a = some (.lst vs) ∧ Rs K FA (gd S H) vs ds) ∨
    ∃ (a : Addr) (kvs : List (Key × V)) (ks : List Str) (ds : List D), v = .ref a ∧ d = .dcs ks ds ∧ H a = some (.dK kvs) ∧ kvs.map (·.1) = ks.map Sum.inr ∧ Rs K FA (gd S H) (kvs.map (·.2)) ds
theorem RA.mono (m : Same H H') (r : RA K FA S H v d) : RA K FA S H' v d := r.elim (fun r => .inl (r.mono (gd_mono m))) fun r => r.elim (fun ⟨a, vs, ds, e1, e2, e3, e4⟩ => .inr (.inl ⟨a, vs, ds, e1, e2, m _ _ e3, e4.mono (gd_mono m)⟩)) fun ⟨a, kvs, ks, ds, e1, e2, e3, e4, e5⟩ => .inr (.inr ⟨a, kvs, ks, ds, e1, e2, m _ _ e3, e4, e5.mono (gd_mono m)⟩)
theorem RA.non (r : RA K FA S H v .non) : v = .non := by
  rcases r with r | ⟨_, _, _, _, e, _⟩ | ⟨_, _, _, _, _, e, _⟩
  · cases r; rfl
  · cases e
  · cases e
theorem RA.bl {b : Bool} (r : RA K FA S H v (.bl b)) : v = .bl b := by
  rcases r with r | ⟨_, _, _, _, e, _⟩ | ⟨_, _, _, _, _, e, _⟩
  · cases r; rfl
  · cases e
  · cases e
theorem RA.int {i : Int} (r : RA K FA S H v (.int i)) : v = .int i := by
  rcases r with r | ⟨_, _, _, _, e, _⟩ | ⟨_, _, _, _, _, e, _⟩
  · cases r; rfl
  · cases e
  · cases e
theorem RA.str {x : Str} (r : RA K FA S H v (.str x)) : v = .str x := by
  rcases r with r | ⟨_, _, _, _, e, _⟩ | ⟨_, _, _, _, _, e, _⟩
  · cases r; rfl
  · cases e
  · cases e
theorem RA.fn {x : Nat} (r : RA K FA S H v (.fn x)) : v = .ref (FA x) := by
  rcases r with r | ⟨_, _, _, _, e, _⟩ | ⟨_, _, _, _, _, e, _⟩
  · cases r; rfl
  · cases e
  · cases e
theorem RA.tup (r : RA K FA S H v (.tup ds)) : ∃ a vs, v = .ref a ∧ SqT K H a vs ∧ Rs K FA (gd S H) vs ds := by
  rcases r with r | ⟨_, _, _, _, e, _⟩ | ⟨_, _, _, _, _, e, _⟩
  · cases r with
    | tup h r => exact ⟨_, _, rfl, sqT_mono gd_sub h, r⟩
  · cases e
  · cases e
theorem RA.lst (r : RA K FA S H v (.lst ds)) : ∃ a vs, v = .ref a ∧ H a = some (.lst vs) ∧ Rs K FA (gd S H) vs ds := by
  rcases r with r | ⟨a, vs, ds', e1, e2, e3, e4⟩ | ⟨_, _, _, _, _, e, _⟩
  · cases r with
    | lst h r => exact ⟨_, _, rfl, gd_sub _ _ h, r⟩
  · cases e2
    exact ⟨_, _, e1, e3, e4⟩
  · cases e
theorem RA.fls (r : RA K FA S H v (.fls ds)) : ∃ a vs, v = .ref a ∧ SqL K H a vs ∧ Rs K FA (gd S H) vs ds := by
  rcases r with r | ⟨_, _, _, _, e, _⟩ | ⟨_, _, _, _, _, e, _⟩
  · cases r with
    | fls h r => exact ⟨_, _, rfl, sqL_mono gd_sub h, r⟩
  · cases e
  · cases e
theorem RA.fls' (r : RA K FA S H v (.fls ds)) : ∃ a vs, v = .ref a ∧ SqL K (gd S H) a vs ∧ Rs K FA (gd S H) vs ds := by
  rcases r with r | ⟨_, _, _, _, e, _⟩ | ⟨_, _, _, _, _, e, _⟩
  · cases r with
    | fls h r => exact ⟨_, _, rfl, h, r⟩
  · cases e
  · cases e
theorem RA.dcs {ks : List Str} (r : RA K FA S H v (.dcs ks ds)) : ∃ a kvs, v = .ref a ∧ Rd H a (.dK kvs) ∧ kvs.map (·.1) = ks.map Sum.inr ∧ Rs K FA (gd S H) (kvs.map (·.2)) ds := by
  rcases r with r | ⟨_, _, _, _, e, _⟩ | ⟨a, kvs, ks', ds', e1, e2, e3, e4, e5⟩
  · cases r with
    | dcs h k r => exact ⟨_, _, rfl, rd_mono gd_sub h, k, r⟩
  · cases e
  · cases e2
    exact ⟨_, _, e1, .inl e3, e4, e5⟩
/-- all of it, in the whole heap -/
theorem RA.all (r : RA K FA S H v d) : R K FA H v d := by
  rcases r with r | ⟨_, _, _, e1, e2, e3, e4⟩ | ⟨_, _, _, _, e1, e2, e3, e4, e5⟩
  · exact r.mono gd_sub
  · subst e1 e2
    exact .lst e3 (e4.mono gd_sub)
  · subst e1 e2
    exact .dcs (.inl e3) e4 (e5.mono gd_sub)
mutual
theorem R.dp : ∀ {v : V} {d : D}, R K FA G v d → d.pd.canLay0 = true → Dp K G v d.pd
  | _, _, .non, _ => .non
  | _, _, .bl b, _ => .bl b
  | _, _, .int i, _ => .int i
  | _, _, .str x, _ => .str x
  | _, _, .tup h r, c => .tup h (Rs.dp r (by simpa [D.pd, PyData.canLay0] using c))
  | _, _, .lst h r, c => .lst (SqL.of h) (Rs.dp r (by simpa [D.pd, PyData.canLay0] using c))
  | _, _, .fls h r, c => .lst h (Rs.dp r (by simpa [D.pd, PyData.canLay0] using c))
  | _, _, .fn f _, c => by simp [D.pd, PyData.canLay0] at c
  | _, _, .dcs _ _ _, c => by simp [D.pd, PyData.canLay0] at c
theorem Rs.dp : ∀ {vs : List V} {ds : List D}, Rs K FA G vs ds → PyData.canLayAll0 (D.pds ds) = true → DpAll K G vs (D.pds ds)
  | _, _, .nil, _ => .nil
  | _, _, .cons h r, c => by
    simp only [D.pds, PyData.canLayAll0] at c
    obtain ⟨c1, c2⟩ := Bool.and_eq_true_iff.mp c
    exact .cons (R.dp h c1) (Rs.dp r c2)
end
/-- a list or a dict that is new since H and nobody else's; anything else is neither -/
def Fr (K : PySem.W.Frag) (FA : Nat → Addr) (S : Addr → Prop) (H H' : Hp) (v : V) (d : D) : Prop :=
  (∀ ds, d = .lst ds → ∃ a vs, v = .ref a ∧ H a = none ∧ H' a = some (.lst vs) ∧ Rs K FA (gd (fun b => S b ∨ b = a) H') vs ds) ∧
  ∀ ks ds, d = .dcs ks ds → ∃ (a : Addr) (kvs : List (Key × V)), v = .ref a ∧ H a = none ∧ H' a = some (.dK kvs) ∧ kvs.map (·.1) = ks.map Sum.inr ∧ Rs K FA (gd (fun b => S b ∨ b = a) H') (kvs.map (·.2)) ds
theorem Fr.back (m : Same H1 H) (f : Fr K FA S H H' v d) : Fr K FA S H1 H' v d := ⟨fun ds e => by
  obtain ⟨a, vs, e1, e2, e3, e4⟩ := f.1 ds e
  exact ⟨a, vs, e1, m.free e2, e3, e4⟩, fun ks ds e => by
  obtain ⟨a, kvs, e1, e2, e3, e4⟩ := f.2 ks ds e
  exact ⟨a, kvs, e1, m.free e2, e3, e4⟩⟩
theorem Fr.no (h : ∀ ds, d ≠ .lst ds) (h2 : ∀ ks ds, d ≠ .dcs ks ds := by (intro ks ds e; cases e)) : Fr K FA S H H' v d := ⟨fun ds e => absurd e (h ds), fun ks ds e => absurd e (h2 ks ds)⟩
theorem Rs.gd_ne {a : Addr} (x : Dom S H) (n : H a = none) (r : Rs K FA (gd S H) vs ds) : Rs K FA (gd (fun b => S b ∨ b = a) (upd H a o)) vs ds := r.mono fun b u e => by
  have hb : H b = some u := gd_sub b u e
  have nb : b ≠ a := ne_of_none hb n
  have ns : ¬ S b := fun z => by
    unfold gd at e
    rw [if_pos z] at e
    cases e
  rw [gd_of (fun z => z.elim ns nb)]
  rw [upd_ne nb]
  exact hb
theorem Fr.new (x : Dom S H1) (m : Same H H1) (n : H1 a = none) (r : Rs K FA (gd S H1) vs ds) : Fr K FA S H (upd H1 a (.lst vs)) (.ref a) (.lst ds) := ⟨fun ds' e => by
  cases e
  exact ⟨a, vs, rfl, m.free n, upd_same, r.gd_ne x n⟩, fun ks ds e => by cases e⟩
end
end PL

/-! PLK: constant dicts of the module. -/
namespace PL
open PySem PySem.Spec PyProof.Rows L2
abbrev kS (P : Program) (w : World) : HeapKind P w (List Str) := tupleKind (PySem.strKind P w)
def kh (w : World) (k : List Str) : Int := reduceHash (Builtin.Tuple.tupleHashOf (k.map (hashStr w)))
/-- an entry whose key is a text -/
def EnS (w : World) (K : PySem.W.Frag) (FA : Nat → Addr) (e : DictEntry) (p : D × D) : Prop := ∃ k t, e.key = .str k t ∧ e.hash = hashStr w k ∧ keyS p.1 = some k ∧ ∃ v, RelV v e.val ∧ ∀ H, R K FA H v p.2
/-- an entry whose key is a tuple of texts -/
def EnT (P : Program) (w : World) (K : PySem.W.Frag) (FA : Nat → Addr) (e : DictEntry) (p : D × D) : Prop := ∃ k a o its n, e.key = .ref a ∧ e.hash = kh w k ∧ keyT p.1 = some k ∧ K.lookup a = some o ∧ o.cls = .type "tuple" ∧ o.data = .seq its n ∧ ItemsAre (PySem.strKind P w) k its.toList ∧ ∃ v, RelV v e.val ∧ ∀ H, R K FA H v p.2
/-- a constant dict, its keys texts -/
structure DKS (w : World) (K : PySem.W.Frag) (FA : Nat → Addr) (d : Addr) (kvs : List (D × D)) : Prop where
  ob : ∃ o es ep, K.lookup d = some o ∧ o.ExactDict ∧ o.data = .dict es ep ∧ Paired (EnS w K FA) es.toList kvs
  nd : (kvs.map fun p => keyS p.1).Nodup
  ns : (d == sysModules) = false
/-- its keys tuples of texts -/
structure DKT (P : Program) (w : World) (K : PySem.W.Frag) (FA : Nat → Addr) (d : Addr) (kvs : List (D × D)) : Prop where
  ob : ∃ o es ep, K.lookup d = some o ∧ o.ExactDict ∧ o.data = .dict es ep ∧ Paired (EnT P w K FA) es.toList kvs
  nd : (kvs.map fun p => keyT p.1).Nodup
  ns : (d == sysModules) = false
theorem k_type {K : PySem.W.Frag} {d : Addr} {o : Obj} (e1 : K.lookup d = some o) (e2 : o.ExactDict) {s : Shared} (hk : K.In s.heap) : s.TypeIs (.ref d) "dict" := ⟨o, hk d o e1, e2.1⟩
theorem k_noDict {K : PySem.W.Frag} {d : Addr} {o : Obj} (e1 : K.lookup d = some o) (e2 : o.ExactDict) {s : Shared} (hk : K.In s.heap) : ∀ b, Value.ref d = .ref b → ∃ ob, s.heap.get? b = some ob ∧ ob.dict = none := by
  intro b e
  cases e
  exact ⟨o, hk d o e1, e2.2.1⟩
theorem some_nodup {α β : Type} {xs : List α} {f : α → β} {ys : List (Option β)} (h : xs.map (fun x => some (f x)) = ys) (n : ys.Nodup) : (xs.map f).Nodup := by
  subst h
  rw [show xs.map (fun x => some (f x)) = (xs.map f).map some by rw [List.map_map]; rfl] at n
  exact List.Pairwise.of_map some (fun a b h e => h (congrArg some e)) n
section
variable {P : Program} {w : World} {K : PySem.W.Frag} {FA : Nat → Addr} {d : Addr}
/-- the entries by their keys -/
theorem ent_T : ∀ {es : List DictEntry} {kvs : List (D × D)}, Paired (EnT P w K FA) es kvs → ∃ xs : List (List Str × Addr × Value), es = xs.map (entryOfKey (kS P w)) ∧ (xs.map fun x => some x.1) = kvs.map (fun p => keyT p.1) ∧
    (∀ x ∈ xs, ∀ h : Heap, K.In h → (kS P w).is h x.1 x.2.1) ∧ ∀ k, ∃ v, RelV v ((valueAt (pairsH xs) k).getD .none) ∧ ∀ H, R K FA H v (lookT kvs k)
  | _, _, .nil => ⟨[], rfl, rfl, fun x hx => (nomatch hx), fun k => ⟨.non, rfl, fun _ => .non⟩⟩
  | _, _, .cons (a := e) (b := p) r t => by
    obtain ⟨xs, h1, h2, h3, h4⟩ := ent_T t
    obtain ⟨k, a, o, its, n, c1, c2, c3, c4, c5, c6, c7, v, rv, hr⟩ := r
    refine ⟨(k, a, e.val) :: xs, ?_, ?_, fun x hx h hK => ?_, fun j => ?_⟩
    · rw [List.map_cons, h1]
      congr 1
      obtain ⟨eh, ek, ev⟩ := e
      dsimp only at c1 c2
      rw [c1, c2]
      rfl
    · rw [List.map_cons, List.map_cons, h2, c3]
    · rcases List.mem_cons.mp hx with rfl | hx
      · exact ⟨o, its, n, hK _ _ c4, c5, c6, c7⟩
      · exact h3 x hx h hK
    · show ∃ v, RelV v ((valueAt ((k, e.val) :: pairsH xs) j).getD .none) ∧ _
      rw [valueAt_cons]
      unfold lookT isKey
      rw [c3]
      dsimp only
      by_cases hj : k = j
      · rw [if_pos hj, if_pos (decide_eq_true hj)]
        exact ⟨v, rv, hr⟩
      · rw [if_neg hj, if_neg (by rw [decide_eq_false hj]; decide)]
        exact h4 j
theorem ent_S : ∀ {es : List DictEntry} {kvs : List (D × D)}, Paired (EnS w K FA) es kvs → ∃ xs : List (Str × Value), Pairs (PySem.strKind P w) es xs ∧ (xs.map fun x => some x.1) = kvs.map (fun p => keyS p.1) ∧ (∀ e ∈ es, ∃ k, (PySem.strKind P w).is k e.key = true ∧ e.hash = (PySem.strKind P w).hash k) ∧
    ∀ k y, lookS kvs k = some y → ∃ u v, valueAt xs k = some u ∧ RelV v u ∧ ∀ H, R K FA H v y
  | _, _, .nil => ⟨[], by first | trivial | exact .nil | rfl, rfl, fun e he => (nomatch he), fun k y h => by cases h⟩
  | _, _, .cons (a := e) (b := p) r t => by
    obtain ⟨xs, h1, h2, h3, h4⟩ := ent_S t
    obtain ⟨k, t, c1, c2, c3, v, rv, hr⟩ := r
    refine ⟨(k, e.val) :: xs, ?_, ?_, fun x hx => ?_, fun j y hy => ?_⟩
    · exact .cons (by rw [c1]; show Value.isStrOf k (.str k t) = true; simp [Value.isStrOf]) rfl h1
    · rw [List.map_cons, List.map_cons, h2, c3]
    · rcases List.mem_cons.mp hx with rfl | hx
      · exact ⟨k, by rw [c1]; show Value.isStrOf k (.str k t) = true; simp [Value.isStrOf], c2⟩
      · exact h3 x hx
    · rw [valueAt_cons]
      unfold lookS isKey at hy
      rw [c3] at hy
      dsimp only at hy
      by_cases hj : k = j
      · rw [if_pos (decide_eq_true hj)] at hy
        rw [if_pos hj]
        cases hy
        exact ⟨_, v, rfl, rv, hr⟩
      · rw [if_neg (by rw [decide_eq_false hj]; decide)] at hy
        rw [if_neg hj]
        exact h4 j y hy
end
/-! ### the rules -/
section
variable {X : Cx} {FA : Nat → Addr} {d : Addr} {kvs : List (D × D)} {g : Str} {e : Expr} {t ty : TE} {q1 apos cpos pos : Pos}
/-- tuples of texts, off the heap -/
theorem strs_items {K : PySem.W.Frag} {G : Hp} {P : Program} {w : World} : ∀ {vs : List V} {ds : List D} {ks : List Str} {us : List Value}, Rs K FA G vs ds → strsD ds = some ks → Vals vs us → ItemsAre (PySem.strKind P w) ks us
  | _, _, ks, us, .nil, e, r => by
    cases e
    cases r
    exact .nil
  | _, _, ks, us, .cons h rs, e, r => by
    cases h with
    | str x =>
      unfold strsD at e
      obtain ⟨k2, e2, rfl⟩ := Option.map_eq_some_iff.mp e
      cases r with
      | cons r1 r2 =>
        obtain ⟨tk, rfl⟩ := r1
        exact .cons (by show Value.isStrOf x (.str x tk) = true; simp [Value.isStrOf]) (strs_items rs e2 r2)
    | _ => cases e
def tGetT (K : PySem.W.Frag) (FA : Nat → Addr) (kvs : List (D × D)) (t : TA) : TE := fun σ H Q => t σ H fun xs H1 => ∃ (ks : List Str) (a : Addr) (vs : List V) (ds : List D) (G : Hp), xs = [.ref a] ∧ SqT K H1 a vs ∧ Rs K FA G vs ds ∧ strsD ds = some ks ∧ ∀ v, (∀ H, R K FA H v (lookT kvs ks)) → Q v H1
theorem pe_getT {ta : TA} (hu : X.A.units + 1 < cLine) (hg : Gl X g) (hm : X.mg g = some (.ref d)) (hd : DKT X.prog X.w X.K FA d kvs) (ha : PA X [e] ta) (hdb : (g == ("__debug__" : Str)) = false := by decide)
    (hbase : attributeBase (.Name g q1) "get" X.env (eval (.Name g q1) X.env) = eval (.Name g q1) X.env := by rfl)
    (hfew : ((backTo cpos (starEach [e] X.env)).all (fun x => !x.1) && (backToKw cpos (keywordEach [] X.env)).all (fun x => x.1.isSome)
      && decide ([e].length + ([] : List Keyword).length + (if ([] : List Keyword).isEmpty then 0 else 1) < 30)) = true := by rfl)
    (hline : (apos.endLine == cpos.line) = true := by rfl) (hs : starEach [e] X.env = [(false, eval e X.env)] := by rfl) :
    PE X (.Call (.Attribute (.Name g q1) "get" apos) [e] [] cpos) (tGetT X.K FA kvs ta) := by
  obtain ⟨o, es, ep, k1, k2, k3, k4⟩ := hd.ob
  obtain ⟨xs, x1, x2, x3, x4⟩ := ent_T k4
  refine ⟨fun pins s σ H Q I h => ?_⟩
  refine wpAny_Call_method_late hbase hfew hline rfl (ld_glob I hg hm ?_ hdb)
  refine ⟨"dict", "dict.get", PySem.F.plainAttrs_dict, PySem.F.slot_dict_get, PySem.F.type_dict_get, k_type k1 k2 I.kIn, k_noDict k1 k2 I.kIn, ?_⟩
  have hA := ha.run cpos pins s σ H _ I h
  rw [hs] at hA ⊢
  refine Calls.callWith_builtin rfl (Calls.evalArgs_plain ?_)
  refine thn hA fun us s2 ⟨vs, H2, I2, r2, ks, a, ws, ds, G, e1, e2, e3, e4, q⟩ => ?_
  subst e1
  cases r2 with
  | cons r3 r4 =>
    cases r4
    obtain rfl : _ = Value.ref a := r3
    obtain ⟨its, t1, ⟨ob, t2, t3, n, t4⟩, _⟩ := I2.tuple e2
    have hkey : (kS X.prog X.w).is s2.heap ks a := ⟨ob, its.toArray, n, t2, t3, t4, strs_items e3 e4 t1⟩
    have hdk : s2.heap.DictKeyed (kS X.prog X.w) d (pairsH xs) := ⟨xs, ⟨o, es, ep, I2.kIn _ _ k1, k2, k3, x1, fun x hx => x3 x hx _ I2.kIn, some_nodup x2 hd.nd⟩, rfl⟩
    obtain ⟨v, rv, hv⟩ := x4 ks
    exact get_keyed (knd := kS X.prog X.w) hu hkey hd.ns hdk ⟨v, H2, I2.tok _, rv, q v hv⟩
def tIxS (K : PySem.W.Frag) (FA : Nat → Addr) (kvs : List (D × D)) (t : TE) : TE := fun σ H Q => t σ H fun x H1 => ∃ k y, x = .str k ∧ lookS kvs k = some y ∧ ∀ v, (∀ H, R K FA H v y) → Q v H1
theorem pe_ixS (hg : Gl X g) (hm : X.mg g = some (.ref d)) (hd : DKS X.w X.K FA d kvs) (he : PE X e t) (hsl : NoSl e) (hdb : (g == ("__debug__" : Str)) = false := by decide) :
    PE X (.Subscript (.Name g q1) e pos) (tIxS X.K FA kvs t) := by
  obtain ⟨o, es, ep, k1, k2, k3, k4⟩ := hd.ob
  obtain ⟨xs, x1, x2, x3, x4⟩ := ent_S (P := X.prog) k4
  refine ⟨fun pins s σ H Q I h => ?_⟩
  refine subD_of PySem.F.slot_dict_getitem.lookup hsl (ld_glob I hg hm (thn (he.run pins s σ H _ I h) fun u s2 ⟨x, H2, I2, rx, k, y, e1, e2, q⟩ => ?_) hdb)
  subst e1
  obtain ⟨tk, rfl⟩ := rx
  refine ⟨k_type k1 k2 I2.kIn, ?_⟩
  obtain ⟨u, v, v1, v2, v3⟩ := x4 k y e2
  have hdo : s2.heap.DictOf (PySem.strKind X.prog X.w) d xs := ⟨o, es, ep, I2.kIn _ _ k1, k2, k3, fun e he => x3 e (Array.mem_toList_iff.mpr he), x1, some_nodup x2 hd.nd⟩
  exact wpAny_getItem_of (knd := PySem.strKind X.prog X.w) (k := k) (by show Value.isStrOf k (.str k tk) = true; simp [Value.isStrOf]) hdo.mapOf v1 ⟨v, H2, I2.tok _, v2, q v v3⟩
end
end PL

/-! PL2: operators and built-ins by values. -/
namespace PL
open PySem PySem.Spec PyProof.Rows L2
section
variable {X : Cx} {K : PySem.W.Frag} {FA : Nat → Addr} {S : Addr → Prop} {H : Hp} {v u : V} {x y d : D} {Q : VK}
/-! ### equality -/
def rEqM (K : PySem.W.Frag) : R2 := fun x y H Q => ∃ d e, Dp K H x d ∧ Dp K H y e ∧ d.canLay0 = true ∧ e.canLay0 = true ∧ min d.depth e.depth ≤ 64 ∧ Q (.bl (PyData.eqv d e)) H
def rNeM (K : PySem.W.Frag) : R2 := fun x y H Q => ∃ d e, Dp K H x d ∧ Dp K H y e ∧ d.canLay0 = true ∧ e.canLay0 = true ∧ min d.depth e.depth ≤ 64 ∧ Q (.bl (!PyData.eqv d e)) H
theorem op_eqM (hu : X.A.units + 64 < cLine) : OpR X (compareOp .Eq) (rEqM X.K) := by
  intro pins s σ H x y v u Q I rx ry h
  obtain ⟨d, e, hd, he, sd, se, hm, q⟩ := h
  obtain ⟨as, r1⟩ := Dp.reads I d x v hd rx
  obtain ⟨bs, r2⟩ := Dp.reads I e y u he ry
  exact SeqAt.compareEq_reads r1 r2 sd se (by omega) ⟨.bl _, H, I, rfl, q⟩
theorem op_neM (hu : X.A.units + 64 < cLine) : OpR X (compareOp .NotEq) (rNeM X.K) := by
  intro pins s σ H x y v u Q I rx ry h
  obtain ⟨d, e, hd, he, sd, se, hm, q⟩ := h
  obtain ⟨as, r1⟩ := Dp.reads I d x v hd rx
  obtain ⟨bs, r2⟩ := Dp.reads I e y u he ry
  exact SeqAt.compareNe_reads r1 r2 sd se (by omega) ⟨.bl _, H, I, rfl, q⟩
/-! ### operators -/
def pyOp : B1 → Operator
  | .add => .Add
  | .sub => .Sub
  | .mul => .Mult
  | .fdiv => .FloorDiv
  | .mod => .Mod
  | .pow => .Pow
def rAddStr : R2 := fun x y H Q => ∃ i j, x = .str i ∧ y = .str j ∧ i.length + j.length ≤ sizeLine ∧ Q (.str (i ++ j)) H
def rB (K : PySem.W.Frag) : B1 → R2
  | .add => fun x y H Q => (rI0 (fun i j => .int (i + j)) x y H Q ∨ rAddStr x y H Q) ∨ (rCatA K x y H Q ∨ rCat x y H Q)
  | .sub => rI0 fun i j => .int (i - j)
  | .mul => fun x y H Q => (rI CMul (fun i j => .int (i * j)) x y H Q ∨ rRep x y H Q) ∨ rMulT K x y H Q
  | .fdiv => rI CDivN fun i j => .int (i.fdiv j)
  | .mod => rI (fun _ j => j ≠ 0) fun i j => .int (i.fmod j)
  | .pow => rI CPow fun i j => .int (i ^ j.toNat)
theorem opB : ∀ o : B1, OpR X (binaryOp (pyOp o)) (rB X.K o)
  | .add => (op_add.or op_add_str).or (op_catA.or op_cat)
  | .sub => op_sub
  | .mul => (op_mul.or op_rep).or op_mulT
  | .fdiv => op_fdivN
  | .mod => op_modN
  | .pow => op_pow
/-- what is handed on: known at what may be shared, its list new -/
def Ok (K : PySem.W.Frag) (FA : Nat → Addr) (S : Addr → Prop) (H : Hp) (d : D) (Q : VK) : Prop :=
  ∀ v H', Same H H' → R K FA (gd S H') v d → Fr K FA S H H' v d → Q v H'
theorem Ok.int {i : Int} (q : Ok K FA S H (.int i) Q) : Q (.int i) H := q _ _ (Same.refl _) (.int i) (Fr.no fun _ e => by cases e)
theorem Ok.bl {b : Bool} (q : Ok K FA S H (.bl b) Q) : Q (.bl b) H := q _ _ (Same.refl _) (.bl b) (Fr.no fun _ e => by cases e)
theorem Ok.str {b : Str} (q : Ok K FA S H (.str b) Q) : Q (.str b) H := q _ _ (Same.refl _) (.str b) (Fr.no fun _ e => by cases e)
theorem Ok.non (q : Ok K FA S H .non Q) : Q .non H := q _ _ (Same.refl _) .non (Fr.no fun _ e => by cases e)
theorem Ok.tup {ds : List D} (q : Ok K FA S H (.tup ds) Q) {a : Addr} {vs : List V} (h : SqT K (gd S H) a vs) (r : Rs K FA (gd S H) vs ds) : Q (.ref a) H :=
  q _ _ (Same.refl _) (.tup h r) (Fr.no fun _ e => by cases e)
theorem Ok.newT {ds : List D} (q : Ok K FA S H (.tup ds) Q) {a : Addr} {vs : List V} (x : Dom S H) (n : H a = none) (r : Rs K FA (gd S H) vs ds) : Q (.ref a) (upd H a (.tup vs)) :=
  q _ _ (same_new n) (.new_tup x n r) (Fr.no fun _ e => by cases e)
theorem Ok.newL {ds : List D} (q : Ok K FA S H (.lst ds) Q) {a : Addr} {vs : List V} (x : Dom S H) (n : H a = none) (r : Rs K FA (gd S H) vs ds) : Q (.ref a) (upd H a (.lst vs)) :=
  q _ _ (same_new n) (.new_lst x n r) (Fr.new x (Same.refl _) n r)
theorem RA.tup' {ds : List D} (r : RA K FA S H v (.tup ds)) : ∃ a vs, v = .ref a ∧ SqT K (gd S H) a vs ∧ Rs K FA (gd S H) vs ds := by
  rcases r with r | ⟨_, _, _, _, e, _⟩ | ⟨_, _, _, _, _, e, _⟩
  · cases r with
    | tup h r => exact ⟨_, _, rfl, h, r⟩
  · cases e
  · cases e
theorem rep_rs {vs : List V} {ds : List D} (r : Rs K FA (gd S H) vs ds) : ∀ n : Nat, Rs K FA (gd S H) (List.replicate n vs).flatten (List.replicate n ds).flatten
  | 0 => .nil
  | n + 1 => by
    rw [List.replicate_succ, List.replicate_succ, List.flatten_cons, List.flatten_cons]
    exact r.append (rep_rs r n)
theorem bin_ok {o : B1} (e : binD o x y = some d) (rx : RA K FA S H v x) (ry : RA K FA S H u y) (dm : Dom S H) (q : Ok K FA S H d Q) : rB K o v u H Q := by
  unfold binD at e
  split at e
  · cases e; cases rx.int; cases ry.int
    exact .inl (.inl ⟨_, _, rfl, rfl, q.int⟩)
  · split at e
    · cases e; cases rx.str; cases ry.str
      exact .inl (.inr ⟨_, _, rfl, rfl, by assumption, q.str⟩)
    · cases e
  · split at e
    · cases e
      rename_i hz
      obtain ⟨a, vs, rfl, ha, hr⟩ := rx.tup'
      obtain ⟨b, ws, rfl, hb, hr2⟩ := ry.tup'
      refine .inr (.inl ⟨a, b, vs, ws, rfl, rfl, sqT_mono gd_sub ha, sqT_mono gd_sub hb, by rw [hr.length, hr2.length]; exact hz, fun e => ?_, fun _ e => ?_, fun _ _ p hp => q.newT dm hp (hr.append hr2)⟩)
      · subst e
        cases hr
        exact q.tup hb (by simpa using hr2)
      · subst e
        cases hr2
        exact q.tup ha (by simpa using hr)
    · cases e
  · split at e
    · cases e
      rename_i hz
      obtain ⟨a, vs, rfl, ha, hr⟩ := rx.lst
      obtain ⟨b, ws, rfl, hb, hr2⟩ := ry.lst
      exact .inr (.inr ⟨a, b, vs, ws, rfl, rfl, ha, hb, by rw [hr.length, hr2.length]; exact hz, fun p hp => q.newL dm hp (hr.append hr2)⟩)
    · cases e
  · cases e; cases rx.int; cases ry.int
    exact ⟨_, _, rfl, rfl, q.int⟩
  · split at e
    · cases e; cases rx.int; cases ry.int
      exact .inl (.inl ⟨_, _, rfl, rfl, by assumption, q.int⟩)
    · cases e
  · split at e
    · cases e; cases ry.int
      rename_i hz
      obtain ⟨a, vs, rfl, ha, hr⟩ := rx.tup'
      refine .inr ⟨a, _, vs, rfl, rfl, sqT_mono gd_sub ha, hz.2.1, hz.2.2, by rw [hr.length]; exact hz.1, fun e => ?_, fun _ _ p hp => q.newT dm hp (rep_rs hr _)⟩
      rcases e with rfl | rfl
      · cases hr
        refine q.tup ha ?_
        have hn : ∀ n : Nat, (List.replicate n ([] : List D)).flatten = [] := fun n => by simp
        rw [hn]
        exact .nil
      · refine q.tup ha ?_
        have hn : ∀ ds : List D, (List.replicate (Int.toNat 1) ds).flatten = ds := fun ds => by simp
        rw [hn]
        exact hr
    · cases e
  · split at e
    · cases e; cases ry.int
      rename_i hz
      obtain ⟨a, vs, rfl, ha, hr⟩ := rx.lst
      exact .inl (.inr ⟨a, _, vs, rfl, rfl, ha, by omega, hz.2.1, by rw [hr.length]; exact hz.2.2, fun p hp => q.newL dm hp (rep_rs hr _)⟩)
    · cases e
  · split at e
    · cases e; cases rx.int; cases ry.int
      exact ⟨_, _, rfl, rfl, by assumption, q.int⟩
    · cases e
  · split at e
    · cases e; cases rx.int; cases ry.int
      exact ⟨_, _, rfl, rfl, by assumption, q.int⟩
    · cases e
  · split at e
    · cases e; cases rx.int; cases ry.int
      exact ⟨_, _, rfl, rfl, by assumption, q.int⟩
    · cases e
  · cases e
/-! ### dicts -/
theorem keys_inr {kvs : List (Key × V)} {ks : List Str} (h : kvs.map (·.1) = ks.map Sum.inr) : kvs.length = ks.length := by
  have := congrArg List.length h
  rw [List.length_map, List.length_map] at this
  exact this
theorem findD_val {G : Hp} : ∀ {kvs : List (Key × V)} {ks : List Str} {ds : List D}, kvs.map (·.1) = ks.map Sum.inr → Rs K FA G (kvs.map (·.2)) ds → ∀ k : Str, match findD ks ds k with
    | some d => ∃ v, valV kvs (Sum.inr k) = some v ∧ R K FA G v d
    | none => valV kvs (Sum.inr k) = none
  | [], [], _, _, r, k => by
    cases r
    exact valV_nil
  | [], _ :: _, _, h, _, _ => by cases h
  | _ :: _, [], _, h, _, _ => by cases h
  | p :: kvs, j :: ks, _, h, r, k => by
    rw [List.map_cons, List.map_cons] at h
    injection h with h1 h2
    rw [List.map_cons] at r
    cases r with
    | cons r1 r2 =>
      rename_i d ds
      unfold findD
      by_cases e : j = k
      · rw [if_pos e]
        exact ⟨p.2, valV_pos (by rw [h1, e]), r1⟩
      · rw [if_neg e]
        have ih := findD_val h2 r2 k
        have n : ¬ p.1 = Sum.inr k := fun z => e (by rw [h1] at z; injection z)
        rw [valV_neg n]
        exact ih
theorem DGet.kR {H : Hp} {a : Addr} {kvs : List (Key × V)} {k : Key} (e : Rd H a (.dK kvs)) : DGet H a (kV k) (valV kvs k) := .inl ⟨kvs, k, e, rfl, rfl⟩
def rDIn (n : Bool) : R2 := fun x y H Q => ∃ a o, y = .ref a ∧ DGet H a x o ∧ Q (.bl (if n then !o.isSome else o.isSome)) H
theorem op_dIn (hu : X.A.units + 1 < cLine) : OpR X (compareOp .In) (rDIn false) := by
  intro pins s σ H x y v u Q I rx ry h
  obtain ⟨a, o, rfl, g, q⟩ := h
  cases ry
  exact d_in hu I g rx fun s' I' => ⟨.bl _, H, I', rfl, q⟩
theorem op_dNotIn (hu : X.A.units + 1 < cLine) : OpR X (compareOp .NotIn) (rDIn true) := by
  intro pins s σ H x y v u Q I rx ry h
  obtain ⟨a, o, rfl, g, q⟩ := h
  cases ry
  exact d_notIn hu I g rx fun s' I' => ⟨.bl _, H, I', rfl, q⟩
def rDIx : R2 := fun x y H Q => ∃ a v, x = .ref a ∧ DGet H a y (some v) ∧ Q v H
theorem ix_dict (hu : X.A.units + 1 < cLine) : IxR X rDIx := by
  intro value slice pins s σ H x y v u Q I rx ry h hs
  obtain ⟨a, z, rfl, g, q⟩ := h
  cases rx
  have hT := dict_typeIs I g
  unfold subscriptTail
  refine wpAny_bind ?_
  rw [getitemInPython_of_ne hT.not_modules]
  refine wpAny_bind (wpAny_specialOf hT PySem.F.slot_dict_getitem.lookup ?_)
  have fin : wpAny (model X.prog X.w) X.A (subscripted slice false (.ref a) u) (fun r s₃ => wpAny (model X.prog X.w) X.A (letTemporaryGo value (.ref a) r >>= fun _ => pure r) (EP X pins σ Q) X.xe s₃) X.xe s := by
    rw [hs]
    exact wpAny_operating (d_getItem hu I g ry fun w' s' I' rw' => wpAny_bind (wpAny_letTemporaryGo (wpAny_pure ⟨z, H, I', rw', q⟩)))
  first
    | exact wpAny_pure (wpAny_bind fin)
    | exact wpAny_bind (wpAny_pure (wpAny_bind fin))
    | exact wpAny_bind fin
theorem Ok.newD {ks : List Str} {ds : List D} {kvs : List (Key × V)} (q : Ok K FA S H (.dcs ks ds) Q) {a : Addr} (x : Dom S H) (n : H a = none) (hk : kvs.map (·.1) = ks.map Sum.inr) (r : Rs K FA (gd S H) (kvs.map (·.2)) ds) : Q (.ref a) (upd H a (.dK kvs)) :=
  q _ _ (same_new n) (.dcs (.inl (gd_new x n)) hk (r.mono (gd_mono (same_new n)))) ⟨(fun ds' e => by cases e), (fun ks' ds' e => by
    cases e
    exact ⟨a, kvs, rfl, n, upd_same, hk, r.gd_ne x n⟩)⟩
/-! ### comparisons -/
def pyCmp : CO → CmpOp
  | .eq => .Eq
  | .ne => .NotEq
  | .lt => .Lt
  | .le => .LtE
  | .gt => .Gt
  | .ge => .GtE
  | .isin => .In
  | .notin => .NotIn
  | .is_ => .Is
  | .isnot => .IsNot
def rLtStr : R2 := fun x y H Q => ∃ i j, x = .str i ∧ y = .str j ∧ Q (.bl (decide (i.cps.toList < j.cps.toList))) H
def rInStr (n : Bool) : R2 := fun x y H Q => ∃ i j, x = .str i ∧ y = .str j ∧ Q (.bl (if n then !(!(Builtin.Str.occurrences j i 0 j.length 1).isEmpty) else !(Builtin.Str.occurrences j i 0 j.length 1).isEmpty)) H
def rInA (K : PySem.W.Frag) (n : Bool) : R2 := fun x y H Q => ((rInStr n x y H Q ∨ rIn K n x y H Q) ∨ (if n then rNotInD K x y H Q else rInD K x y H Q)) ∨ rDIn n x y H Q
def rStr (f : Str → Str → Bool) : R2 := fun x y H Q => ∃ i j, x = .str i ∧ y = .str j ∧ Q (.bl (f i j)) H
def rC (K : PySem.W.Frag) : CO → R2
  | .eq => fun x y H Q => rEq x y H Q ∨ rEqM K x y H Q
  | .ne => fun x y H Q => rNe x y H Q ∨ rNeM K x y H Q
  | .lt => fun x y H Q => rI0 (fun i j => .bl (decide (i < j))) x y H Q ∨ rLtStr x y H Q
  | .le => fun x y H Q => rI0 (fun i j => .bl (decide (i ≤ j))) x y H Q ∨ rStr (fun i j => !decide (j.cps.toList < i.cps.toList)) x y H Q
  | .gt => fun x y H Q => rI0 (fun i j => .bl (decide (j < i))) x y H Q ∨ rStr (fun i j => decide (j.cps.toList < i.cps.toList)) x y H Q
  | .ge => fun x y H Q => rI0 (fun i j => .bl (decide (j ≤ i))) x y H Q ∨ rStr (fun i j => !decide (i.cps.toList < j.cps.toList)) x y H Q
  | .isin => rInA K false
  | .notin => rInA K true
  | .is_ => fun x y H Q => rIsB x y H Q ∨ (y = .non ∧ Q (.bl (decide (x = .non))) H)
  | .isnot => fun x y H Q => rNotB x y H Q ∨ (y = .non ∧ Q (.bl (!decide (x = .non))) H)
theorem opC (hu : X.A.units + 65 < cLine) : ∀ o : CO, OpR X (compareOp (pyCmp o)) (rC X.K o)
  | .eq => op_eq.or (op_eqM (by omega))
  | .ne => op_ne.or (op_neM (by omega))
  | .lt => op_lt.or op_lt_str
  | .le => op_le.or op_le_str
  | .gt => op_gt.or op_gt_str
  | .ge => op_ge.or op_ge_str
  | .isin => ((op_in_str.or op_in_seq).or (op_inD hu)).or (op_dIn (by omega))
  | .notin => ((op_notIn_str.or op_notIn_seq).or (op_notInD hu)).or (op_dNotIn (by omega))
  | .is_ => op_isBl.or op_isN
  | .isnot => op_notBl.or op_notN
theorem scal_ok (h : scalD x y = true) (rx : RA K FA S H v x) (ry : RA K FA S H u y) : scal v u = true ∧ decide (v = u) = eqF x y := by
  cases x <;> cases y <;> first
    | (cases h; done)
    | (first
        | (have e1 := rx.non; subst e1)
        | (have e1 := rx.bl; subst e1)
        | (have e1 := rx.int; subst e1)
        | (have e1 := rx.str; subst e1)
       first
        | (have e2 := ry.non; subst e2)
        | (have e2 := ry.bl; subst e2)
        | (have e2 := ry.int; subst e2)
        | (have e2 := ry.str; subst e2)
       refine ⟨rfl, ?_⟩
       first
        | rfl
        | exact dec_int
        | exact dec_bl
        | exact dec_str
        | exact decide_eq_false (fun z => by cases z))
theorem eq_ok {b : Bool} (e : eqD x y = some b) (rx : RA K FA S H v x) (ry : RA K FA S H u y) : (scal v u = true ∧ decide (v = u) = b) ∨ ∃ d e, Dp K H v d ∧ Dp K H u e ∧ d.canLay0 = true ∧ e.canLay0 = true ∧ min d.depth e.depth ≤ 64 ∧ PyData.eqv d e = b := by
  unfold eqD at e
  by_cases hs : scalD x y = true
  · rw [if_pos hs] at e
    cases e
    exact .inl (scal_ok hs rx ry)
  rw [if_neg hs] at e
  refine .inr ?_
  split at e
  · rename_i c
    obtain ⟨c1, c2⟩ := Bool.and_eq_true_iff.mp c
    obtain ⟨c3, c4⟩ := Bool.and_eq_true_iff.mp c1
    exact ⟨_, _, rx.all.dp c3, ry.all.dp c4, c3, c4, of_decide_eq_true c2, Option.some.inj e⟩
  · cases e
theorem flat_of {G : Hp} : ∀ {v : V} {d : D}, R K FA G v d → flatD d = true → flatV v = true
  | _, _, .non, _ => rfl
  | _, _, .bl _, _ => rfl
  | _, _, .int _, _ => rfl
  | _, _, .str _, _ => rfl
  | _, _, .tup _ _, h => by cases h
  | _, _, .lst _ _, h => by cases h
  | _, _, .fls _ _, h => by cases h
  | _, _, .fn _ _, h => by cases h
  | _, _, .dcs _ _ _, h => by cases h
theorem flats_of {G : Hp} : ∀ {vs : List V} {ds : List D}, Rs K FA G vs ds → ds.all flatD = true → vs.all flatV = true
  | _, _, .nil, _ => rfl
  | _, _, .cons h r, c => by
    rw [List.all_cons] at c ⊢
    obtain ⟨c1, c2⟩ := Bool.and_eq_true_iff.mp c
    rw [flat_of h c1, flats_of r c2]
    rfl
theorem eqF_of {G : Hp} {v u : V} {x y : D} (r : R K FA G v x) (q : R K FA G u y) (hx : flatD x = true) (hy : flatD y = true) : eqV v u = eqF x y := by
  cases r <;> first | (cases hx; done) | (cases q <;> first | (cases hy; done) | rfl)
theorem any_eqF {G : Hp} {v : V} {x : D} (r : R K FA G v x) (hx : flatD x = true) : ∀ {vs : List V} {ds : List D}, Rs K FA G vs ds → ds.all flatD = true → inV v vs = ds.any fun y => eqF y x
  | _, _, .nil, _ => rfl
  | _, _, .cons h q, c => by
    rw [List.all_cons] at c
    obtain ⟨c1, c2⟩ := Bool.and_eq_true_iff.mp c
    unfold inV
    rw [List.any_cons, List.any_cons, eqF_of h r c1 hx]
    have := any_eqF r hx q c2
    unfold inV at this
    rw [this]
theorem pds_any (x : PyData) : ∀ ds : List D, ((D.pds ds).any fun z => PyData.eqv z x) = ds.any fun y => PyData.eqv y.pd x
  | [] => rfl
  | d :: ds => by
    rw [D.pds, List.any_cons, List.any_cons, pds_any x ds]
theorem shaped_lay {d : PyData} (h : SeqAt.shaped d = true) : d.canLay0 = true := SeqAt.canLay_of_shaped h
theorem in_ok {b n : Bool} (e : inD x y = some b) (rx : RA K FA S H v x) (ry : RA K FA S H u y) (q : Q (.bl (if n then !b else b)) H) : rInA K n v u H Q := by
  unfold inD at e
  split at e
  · cases e; cases rx.str; cases ry.str
    refine .inl (.inl (.inl ⟨_, _, rfl, rfl, ?_⟩))
    cases n <;> exact q
  · rename_i k0 ks vs0
    cases e; cases rx.str
    obtain ⟨a, kvs, rfl, h, hk, r⟩ := ry.dcs
    have z2 := findD_val hk r k0
    refine .inr ⟨a, valV kvs (Sum.inr k0), rfl, DGet.kR (k := Sum.inr k0) h, ?_⟩
    cases hf : findD ks vs0 k0 with
    | some d =>
      rw [hf] at z2
      obtain ⟨v2, e2, _⟩ := z2
      rw [e2]
      rw [hf] at q
      cases n <;> exact q
    | none =>
      rw [hf] at z2
      rw [z2]
      rw [hf] at q
      cases n <;> exact q
  · split at e
    · rename_i c
      cases e
      obtain ⟨c1, c2⟩ := Bool.and_eq_true_iff.mp c
      obtain ⟨a, vs, rfl, h, r⟩ := ry.tup
      have rx' := rx.all
      have r' := r.mono (K := K) (FA := FA) gd_sub
      refine .inl (.inl (.inr ⟨a, vs, rfl, .inr h, flat_of rx' c1, flats_of r' c2, ?_⟩))
      rw [any_eqF rx' c1 r' c2]
      cases n <;> exact q
    · cases e
  · rename_i ys
    obtain ⟨a, vs, rfl, h, r⟩ := ry.lst
    have rx' := rx.all
    have r' := r.mono (K := K) (FA := FA) gd_sub
    split at e
    · rename_i c
      cases e
      obtain ⟨c1, c2⟩ := Bool.and_eq_true_iff.mp c
      refine .inl (.inl (.inr ⟨a, vs, rfl, .inl (SqL.of h), flat_of rx' c1, flats_of r' c2, ?_⟩))
      rw [any_eqF rx' c1 r' c2]
      cases n <;> exact q
    · split at e
      · rename_i c
        cases e
        obtain ⟨c1, c2⟩ := Bool.and_eq_true_iff.mp c
        have z : ∃ d ds, Dp K H v d ∧ Dp K H (.ref a) (.list ds) ∧ SeqAt.shaped d = true ∧ SeqAt.shaped (.list ds) = true ∧ (ds.any fun z => PyData.eqv z d) = ys.any fun y => PyData.eqv y.pd x.pd :=
          ⟨_, _, rx'.dp (shaped_lay c1), (R.lst h r').dp (shaped_lay c2), c1, c2, pds_any _ _⟩
        obtain ⟨d, ds, z1, z2, z3, z4, z5⟩ := z
        refine .inl (.inr ?_)
        cases n with
        | false => exact ⟨d, ds, z1, z2, z3, z4, by rw [z5]; exact q⟩
        | true => exact ⟨d, ds, z1, z2, z3, z4, by rw [z5]; exact q⟩
      · cases e
  · cases e
theorem non_iff (r : RA K FA S H v x) : (v = .non) ↔ x = .non := by
  constructor
  · intro e
    subst e
    rcases r with r | ⟨_, _, _, e, _⟩ | ⟨_, _, _, _, e, _⟩
    · cases r; rfl
    · cases e
    · cases e
  · intro e
    subst e
    exact r.non
theorem cmp_ok {o : CO} {b : Bool} (e : cmpD o x y = some b) (rx : RA K FA S H v x) (ry : RA K FA S H u y) (q : Q (.bl b) H) : rC K o v u H Q := by
  unfold cmpD at e
  split at e
  · rcases eq_ok e rx ry with ⟨h1, rfl⟩ | ⟨d, f, h1, h2, h3, h4, h5, rfl⟩
    · exact .inl ⟨h1, q⟩
    · exact .inr ⟨d, f, h1, h2, h3, h4, h5, q⟩
  · obtain ⟨c, e', rfl⟩ := Option.map_eq_some_iff.mp e
    rcases eq_ok e' rx ry with ⟨h1, rfl⟩ | ⟨d, f, h1, h2, h3, h4, h5, rfl⟩
    · exact .inl ⟨h1, q⟩
    · exact .inr ⟨d, f, h1, h2, h3, h4, h5, q⟩
  · cases e; cases rx.int; cases ry.int
    exact .inl ⟨_, _, rfl, rfl, q⟩
  · cases e; cases rx.str; cases ry.str
    exact .inr ⟨_, _, rfl, rfl, q⟩
  · cases e; cases rx.int; cases ry.int
    exact .inl ⟨_, _, rfl, rfl, q⟩
  · cases e; cases rx.int; cases ry.int
    exact .inl ⟨_, _, rfl, rfl, q⟩
  · cases e; cases rx.int; cases ry.int
    exact .inl ⟨_, _, rfl, rfl, q⟩
  · cases e; cases rx.str; cases ry.str
    exact .inr ⟨_, _, rfl, rfl, q⟩
  · cases e; cases rx.str; cases ry.str
    exact .inr ⟨_, _, rfl, rfl, q⟩
  · cases e; cases rx.str; cases ry.str
    exact .inr ⟨_, _, rfl, rfl, q⟩
  · exact in_ok (n := false) e rx ry q
  · obtain ⟨c, e', rfl⟩ := Option.map_eq_some_iff.mp e
    exact in_ok (n := true) e' rx ry q
  · cases e; cases rx.bl; cases ry.bl
    exact .inl ⟨_, _, rfl, rfl, by first | exact q | (rw [Bool.beq_eq_decide_eq] at q; exact q)⟩
  · cases e; cases rx.non; cases ry.non
    exact .inr ⟨rfl, q⟩
  · rename_i h
    cases e; cases ry.non
    refine .inr ⟨rfl, ?_⟩
    rw [decide_eq_false fun z => h ((non_iff rx).mp z)]
    exact q
  · cases e; cases rx.bl; cases ry.bl
    exact .inl ⟨_, _, rfl, rfl, by first | exact q | (rw [Bool.beq_eq_decide_eq] at q; exact q)⟩
  · cases e; cases rx.non; cases ry.non
    exact .inr ⟨rfl, q⟩
  · rename_i h
    cases e; cases ry.non
    refine .inr ⟨rfl, ?_⟩
    rw [decide_eq_false fun z => h ((non_iff rx).mp z)]
    exact q
  · cases e
/-! ### subscripts, slices -/
theorem atI_rs {G : Hp} {vs : List V} {ds : List D} {i : Int} (r : Rs K FA G vs ds) (e : atI ds i = some d) : ∃ v, atI vs i = some v ∧ R K FA G v d := by
  unfold atI at e ⊢
  rw [r.length]
  obtain ⟨j, e1, e2⟩ := Option.bind_eq_some_iff.mp e
  obtain ⟨v, h1, h2⟩ := r.get e2
  exact ⟨v, by rw [e1]; exact h1, h2⟩
/-- what an item is: it may be shared, it is no list of its own -/
def rIxA (K : PySem.W.Frag) : R2 := fun x y H Q => rIx K x y H Q ∨ rDIx x y H Q
theorem ix_any (hu : X.A.units + 1 < cLine) : IxR X (rIxA X.K) := ix_seq.or (ix_dict hu)
theorem ix_ok (e : ixD x y = some d) (rx : RA K FA S H v x) (ry : RA K FA S H u y) (q : ∀ w, R K FA (gd S H) w d → Q w H) : rIxA K v u H Q := by
  unfold ixD at e
  split at e
  · rename_i ks vs0 k
    obtain ⟨a, kvs, rfl, h, hk, r⟩ := rx.dcs
    cases ry.str
    have z := findD_val hk r k
    rw [e] at z
    obtain ⟨w, e2, r2⟩ := z
    exact .inr ⟨a, w, rfl, e2 ▸ DGet.kR (k := Sum.inr k) h, q w r2⟩
  · obtain ⟨a, vs, rfl, h, r⟩ := rx.tup
    cases ry.int
    obtain ⟨w, h1, h2⟩ := atI_rs r e
    exact .inl (.inr (.inl ⟨a, vs, _, w, rfl, rfl, h, h1, q w h2⟩))
  · obtain ⟨a, vs, rfl, h, r⟩ := rx.lst
    cases ry.int
    obtain ⟨w, h1, h2⟩ := atI_rs r e
    exact .inl (.inl ⟨a, vs, _, w, rfl, rfl, SqL.of h, h1, q w h2⟩)
  · obtain ⟨a, vs, rfl, h, r⟩ := rx.fls
    cases ry.int
    obtain ⟨w, h1, h2⟩ := atI_rs r e
    exact .inl (.inl ⟨a, vs, _, w, rfl, rfl, h, h1, q w h2⟩)
  · split at e
    · cases rx.str
      cases ry.int
      obtain ⟨c, e1, rfl⟩ := Option.map_eq_some_iff.mp e
      exact .inl (.inr (.inr ⟨_, _, c, rfl, rfl, by assumption, e1, q _ (.str _)⟩))
    · cases e
  · cases e
def rSl (K : PySem.W.Frag) : V → Option Int → Option Int → Hp → VK → Prop := fun x lo hi H Q => (rSlA K x lo hi H Q ∨ rSlL K x lo hi H Q) ∨ rSlS x lo hi H Q
theorem slR : SlR X (rSl X.K) := (sl_tupA.or sl_list).or sl_str
theorem cut_rs {G : Hp} {vs : List V} {ds : List D} (lo hi : Option Int) (r : Rs K FA G vs ds) : Rs K FA G (cutV vs lo hi) (cutL ds lo hi) := by
  unfold cutV cutL
  rw [r.length]
  exact (r.drop _).take _
theorem sl_ok {lo hi : Option Int} (e : slD x lo hi = some d) (rx : RA K FA S H v x) (dm : Dom S H) (q : Ok K FA S H d Q) : rSl K v lo hi H Q := by
  unfold slD at e
  split at e
  · rename_i xs
    cases e
    obtain ⟨a, vs, rfl, h, r⟩ := rx.tup'
    refine .inl (.inl ⟨a, vs, rfl, sqT_mono gd_sub h, fun e => ?_, fun _ p hp => q.newT dm hp (cut_rs lo hi r)⟩)
    refine q.tup h ?_
    have hc : cutL xs lo hi = xs := by
      unfold cutL
      rw [← r.length, e.1, e.2, Nat.sub_zero, List.drop_zero, r.length, List.take_length]
    rw [hc]
    exact r
  · cases e
    obtain ⟨a, vs, rfl, h, r⟩ := rx.lst
    exact .inl (.inr ⟨a, vs, rfl, SqL.of h, fun p hp => q.newL dm hp (cut_rs lo hi r)⟩)
  · split at e
    · cases e; cases rx.str
      exact .inr ⟨_, rfl, by assumption, q.str⟩
    · cases e
  · cases e
end
end PL

/-! PL3: built-in functions by values. -/
namespace PL
open PySem PySem.Spec PyProof.Rows L2
section
variable {X : Cx} {K : PySem.W.Frag} {FA : Nat → Addr} {S : Addr → Prop} {H : Hp} {v u : V} {x y d : D} {Q : VK} {vs : List V} {ds : List D}
/-- each value is one that is read -/
def RAs (K : PySem.W.Frag) (FA : Nat → Addr) (S : Addr → Prop) (H : Hp) : List V → List D → Prop
  | [], [] => True
  | v :: vs, d :: ds => RA K FA S H v d ∧ RAs K FA S H vs ds
  | _, _ => False
theorem RAs.mono {H' : Hp} (m : Same H H') : ∀ {vs : List V} {ds : List D}, RAs K FA S H vs ds → RAs K FA S H' vs ds
  | [], [], _ => trivial
  | _ :: _, _ :: _, h => ⟨h.1.mono m, RAs.mono m h.2⟩
  | [], _ :: _, h => h.elim
  | _ :: _, [], h => h.elim
theorem RAs.nil (h : RAs K FA S H vs []) : vs = [] := by
  cases vs with
  | nil => rfl
  | cons _ _ => exact h.elim
theorem RAs.cons {d : D} {ds : List D} (h : RAs K FA S H vs (d :: ds)) : ∃ v us, vs = v :: us ∧ RA K FA S H v d ∧ RAs K FA S H us ds := by
  cases vs with
  | nil => exact h.elim
  | cons v us => exact ⟨v, us, rfl, h.1, h.2⟩
theorem RAs.one {d : D} (h : RAs K FA S H vs [d]) : ∃ v, vs = [v] ∧ RA K FA S H v d := by
  obtain ⟨v, us, rfl, h1, h2⟩ := h.cons
  cases h2.nil
  exact ⟨v, rfl, h1⟩
theorem RAs.two {d e : D} (h : RAs K FA S H vs [d, e]) : ∃ v u, vs = [v, u] ∧ RA K FA S H v d ∧ RA K FA S H u e := by
  obtain ⟨v, us, rfl, h1, h2⟩ := h.cons
  obtain ⟨u, rfl, h3⟩ := h2.one
  exact ⟨v, u, rfl, h1, h3⟩
/-! ### which call -/
def biN : BI → Str
  | .len => "len"
  | .abs => "abs"
  | .int_ => "int"
  | .str_ => "str"
  | .tuple_ => "tuple"
  | .list_ => "list"
  | .all_ => "all"
  | .any_ => "any"
  | .sum_ => "sum"
  | .max_ => "max"
  | .min_ => "min"
  | .sorted_ => "sorted"
  | .isint => "isinstance"
  | .isstr => "isinstance"
  | .istuple => "isinstance"
  | .islist => "isinstance"
  | .isbool => "isinstance"
  | .isdct => "isinstance"
/-- a type's name stands behind isinstance's first argument -/
def biT : BI → Option String
  | .isint => some "int"
  | .isstr => some "str"
  | .istuple => some "tuple"
  | .islist => some "list"
  | .isbool => some "bool"
  | .isdct => some "dict"
  | _ => none
/-- the built-in function of that name, or the type -/
def biV : BI → Value
  | .int_ => .type "int"
  | .str_ => .type "str"
  | .tuple_ => .type "tuple"
  | .list_ => .type "list"
  | .isint => .builtin "isinstance"
  | .isstr => .builtin "isinstance"
  | .istuple => .builtin "isinstance"
  | .islist => .builtin "isinstance"
  | .isbool => .builtin "isinstance"
  | .isdct => .builtin "isinstance"
  | .len => .builtin "len"
  | .abs => .builtin "abs"
  | .all_ => .builtin "all"
  | .any_ => .builtin "any"
  | .sum_ => .builtin "sum"
  | .max_ => .builtin "max"
  | .min_ => .builtin "min"
  | .sorted_ => .builtin "sorted"
theorem biV_boot : ∀ f : BI, bootBuiltins (biN f) = some (biV f) := by
  intro f
  cases f <;> decide +kernel
abbrev Rd1 := List V → Hp → VK → Prop
def biR (K : PySem.W.Frag) : BI → Rd1
  | .len => fun xs H Q => ∃ x n, xs = [x] ∧ LenV K x H n ∧ Q (.int n) H
  | .abs => fun xs H Q => ∃ i, xs = [.int i] ∧ Q (.int (if i < 0 then -i else i)) H
  | .int_ => fun xs H Q => ((∃ i, xs = [.int i] ∧ Q (.int i) H) ∨ ∃ k, xs = [.bl k] ∧ Q (.int (if k then 1 else 0)) H) ∨ ∃ a n, xs = [.str a] ∧ PySem.intText? a = some n ∧ a.length ≤ 640 ∧ Q (.int n) H
  | .str_ => fun xs H Q => ∃ i, xs = [.int i] ∧ i.natAbs.log2 < 1920 ∧ Q (.str (toString i)) H
  | .tuple_ => fun xs H Q => ∃ p ys, xs = [.ref p] ∧ ((SqL K H p ys ∧ ∀ l, H l = none → Q (.ref l) (upd H l (.tup ys))) ∨ (SqT K H p ys ∧ Q (.ref p) H))
  | .list_ => fun xs H Q => (∃ p ys, xs = [.ref p] ∧ (SqL K H p ys ∨ SqT K H p ys) ∧ ∀ l, H l = none → Q (.ref l) (upd H l (.lst ys))) ∨ ∃ (a : Addr) (kvs : List (Key × V)), xs = [.ref a] ∧ Rd H a (.dK kvs) ∧ ∀ p, H p = none → Q (.ref p) (upd H p (.lst (kvs.map fun kv => kV kv.1)))
  | .all_ => rAll K
  | .any_ => rAny K
  | .sum_ => rSum K
  | .max_ => fun xs H Q => ∃ i j, xs = [.int i, .int j] ∧ Q (.int (if j > i then j else i)) H
  | .min_ => fun xs H Q => ∃ i j, xs = [.int i, .int j] ∧ Q (.int (if j < i then j else i)) H
  | .sorted_ => rSortD K
  | .isint => rIsi K
  | .isstr => rIsi K
  | .istuple => rIsi K
  | .islist => rIsi K
  | .isbool => rIsi K
  | .isdct => rIsi K
theorem biC (hc : X.calm = true) (hu : X.A.units + 70 < cLine) : ∀ f : BI, CallR X (biV f) (biR X.K f)
  | .len => call_len
  | .abs => call_abs
  | .int_ => call_int1.or call_int_str
  | .str_ => call_str_int
  | .tuple_ => call_tuple_of
  | .list_ => call_list_of.or (call_listD hc)
  | .all_ => cr_all hc
  | .any_ => cr_any hc
  | .sum_ => cr_sum hc
  | .max_ => call_max2 hc
  | .min_ => call_min2 hc
  | .sorted_ => cr_sortD hu
  | .isint => call_isi
  | .isstr => call_isi
  | .istuple => call_isi
  | .islist => call_isi
  | .isbool => call_isi
  | .isdct => call_isi
/-- isinstance's second argument -/
def biX (f : BI) : List V := match biT f with
  | some t => [.ty t]
  | none => []
theorem kb_int (a b : String) : kitB a b = kitB a b := rfl
def tyD : D → Option String
  | .non => some "NoneType"
  | .bl _ => some "bool"
  | .int _ => some "int"
  | .str _ => some "str"
  | .tup _ => some "tuple"
  | .lst _ => some "list"
  | .dcs _ _ => some "dict"
  | _ => none
theorem ty_ok {n : String} (r : RA K FA S H v d) (e : tyD d = some n) : TyX K H v (.type n) := by
  cases d with
  | non => cases e; cases r.non; exact .base .non
  | bl b => cases e; cases r.bl; exact .base (.bl b)
  | int i => cases e; cases r.int; exact .base (.int i)
  | str x => cases e; cases r.str; exact .base (.str x)
  | tup xs =>
    cases e
    obtain ⟨a, vs, rfl, h, _⟩ := r.tup
    rcases h with (h | ⟨o, h⟩) | ⟨o, its, n, h1, h2, _⟩
    · exact .base (.tup h)
    · exact .fTuple h
    · exact .kTuple h1 h2
  | lst xs =>
    cases e
    obtain ⟨a, vs, rfl, h, _⟩ := r.lst
    exact .base (.lst h)
  | fls xs => cases e
  | dct kvs => cases e
  | fn f => cases e
  | dcs ks vs =>
    cases e
    obtain ⟨a, kvs, rfl, h, _⟩ := r.dcs
    exact h.elim (fun h => .base (.dK h)) fun ⟨_, h⟩ => .fDict h
theorem isi_ok {n t : String} {b : Bool} (r : RA K FA S H v d) (e : tyD d = some n) (k : kitB n t = some b) (q : Q (.bl b) H) : rIsi K [v, .ty t] H Q :=
  ⟨v, .ty t, .type n, .type t, b, rfl, .ty t, ty_ok r e, kit_ty k, q⟩
theorem bools_rs {G : Hp} : ∀ {vs : List V} {ds : List D} {bs : List Bool}, Rs K FA G vs ds → boolsD ds = some bs → vs = bs.map V.bl
  | _, _, _, .nil, e => by cases e; rfl
  | _, _, _, .cons h r, e => by
    unfold boolsD at e
    split at e
    · rename_i q; cases q
    · rename_i q
      cases q
      obtain ⟨bs, e1, rfl⟩ := Option.map_eq_some_iff.mp e
      cases h
      rw [bools_rs r e1]
      rfl
    · cases e
theorem ints_rs {G : Hp} : ∀ {vs : List V} {ds : List D} {bs : List Int}, Rs K FA G vs ds → intsD ds = some bs → vs = bs.map V.int
  | _, _, _, .nil, e => by cases e; rfl
  | _, _, _, .cons h r, e => by
    unfold intsD at e
    split at e
    · rename_i q; cases q
    · rename_i q
      cases q
      obtain ⟨bs, e1, rfl⟩ := Option.map_eq_some_iff.mp e
      cases h
      rw [ints_rs r e1]
      rfl
    · cases e
theorem keys_str {kvs : List (Key × V)} {ks : List Str} (h : kvs.map (·.1) = ks.map Sum.inr) : (kvs.map fun kv => kV kv.1) = ks.map V.str := by
  have := congrArg (List.map kV) h
  rw [List.map_map, List.map_map] at this
  exact this
theorem rs_strs {K : PySem.W.Frag} {FA : Nat → Addr} {G : Hp} : ∀ {ys : List Str}, Rs K FA G (ys.map V.str) (ys.map D.str)
  | [] => .nil
  | y :: _ => .cons (.str y) rs_strs
mutual
theorem R.dp2 {G : Hp} : ∀ {v : V} {d : D}, R K FA G v d → dpOk d = true → Dp K G v d.pd
  | _, _, .non, _ => .non
  | _, _, .bl b, _ => .bl b
  | _, _, .int i, _ => .int i
  | _, _, .str x, _ => .str x
  | _, _, .tup h r, c => .tup h (Rs.dp2 r (by simpa [dpOk] using c))
  | _, _, .lst h r, c => .lst (SqL.of h) (Rs.dp2 r (by simpa [dpOk] using c))
  | _, _, .fls h r, c => .lst h (Rs.dp2 r (by simpa [dpOk] using c))
  | _, _, .fn f _, c => by simp [dpOk] at c
  | _, _, .dcs _ _ _, c => by simp [dpOk] at c
theorem Rs.dp2 {G : Hp} : ∀ {vs : List V} {ds : List D}, Rs K FA G vs ds → dpOks ds = true → DpAll K G vs (D.pds ds)
  | _, _, .nil, _ => .nil
  | _, _, .cons h r, c => by
    simp only [dpOks] at c
    obtain ⟨c1, c2⟩ := Bool.and_eq_true_iff.mp c
    exact .cons (R.dp2 h c1) (Rs.dp2 r c2)
end
theorem pds_map : ∀ xs : List D, D.pds xs = xs.map D.pd
  | [] => rfl
  | x :: xs => by rw [D.pds, pds_map xs, List.map_cons]
theorem zip_each {G : Hp} : ∀ {vs : List V} {xs : List D}, Rs K FA G vs xs → ∀ z ∈ vs.zip xs, R K FA G z.1 z.2
  | _, _, .nil, z, h => by cases h
  | _, _, .cons h r, z, hz => by
    rcases List.mem_cons.mp hz with e | hz
    · subst e
      exact h
    · exact zip_each r z hz
theorem each_zip {G : Hp} : ∀ {zs : List (V × D)}, (∀ z ∈ zs, R K FA G z.1 z.2) → Rs K FA G (zs.map Prod.fst) (zs.map Prod.snd)
  | [], _ => .nil
  | z :: zs, h => .cons (h z List.mem_cons_self) (each_zip fun y hy => h y (List.mem_cons_of_mem _ hy))
theorem srt_rs {G : Hp} {xs : List D} (r : Rs K FA G vs xs) : Rs K FA G (srtV vs (D.pds xs)) (xs.mergeSort (PySem.W.dataLe false D.pd)) := by
  have hl := r.length
  have e1 : vs.zip (D.pds xs) = (vs.zip xs).map fun z => (z.1, z.2.pd) := by
    rw [pds_map, List.zip_map_right]
    rfl
  have e2 : srtV vs (D.pds xs) = ((vs.zip xs).mergeSort (fun a b => PySem.W.dataLe false D.pd a.2 b.2)).map Prod.fst := by
    unfold srtV
    rw [e1, ← List.map_mergeSort (r := fun a b => PySem.W.dataLe false D.pd a.2 b.2) (f := fun z : V × D => (z.1, z.2.pd)) (fun a _ b _ => rfl), List.map_map]
    rfl
  have e3 : xs.mergeSort (PySem.W.dataLe false D.pd) = ((vs.zip xs).mergeSort (fun a b => PySem.W.dataLe false D.pd a.2 b.2)).map Prod.snd := by
    rw [List.map_mergeSort (s := PySem.W.dataLe false D.pd) (fun a _ b _ => rfl), zip_snd hl]
  rw [e2, e3]
  exact each_zip fun z hz => zip_each r z (List.mem_mergeSort.mp hz)
theorem bi_ok {f : BI} (e : biD f ds = some d) (r : RAs K FA S H vs ds) (dm : Dom S H) (q : Ok K FA S H d Q) : biR K f (vs ++ biX f) H Q := by
  unfold biD at e
  split at e
  · cases e
    obtain ⟨v, rfl, r1⟩ := r.one
    obtain ⟨a, vs, rfl, h, r⟩ := r1.tup
    exact ⟨_, _, rfl, .inr ⟨vs, h, rfl⟩, by rw [r.length]; exact q.int⟩
  · cases e
    obtain ⟨v, rfl, r1⟩ := r.one
    obtain ⟨a, vs, rfl, h, r⟩ := r1.lst
    exact ⟨_, _, rfl, .inl ⟨vs, SqL.of h, rfl⟩, by rw [r.length]; exact q.int⟩
  · cases e
    obtain ⟨v, rfl, r1⟩ := r.one
    obtain ⟨a, vs, rfl, h, r⟩ := r1.fls
    exact ⟨_, _, rfl, .inl ⟨vs, h, rfl⟩, by rw [r.length]; exact q.int⟩
  · split at e
    · cases e
      obtain ⟨v, rfl, r1⟩ := r.one
      cases r1.str
      exact ⟨_, _, rfl, ⟨by assumption, rfl⟩, q.int⟩
    · cases e
  · cases e
    obtain ⟨v, rfl, r1⟩ := r.one
    cases r1.int
    exact ⟨_, rfl, q.int⟩
  · cases e
    obtain ⟨v, rfl, r1⟩ := r.one
    cases r1.int
    exact .inl (.inl ⟨_, rfl, q.int⟩)
  · cases e
    obtain ⟨v, rfl, r1⟩ := r.one
    cases r1.bl
    exact .inl (.inr ⟨_, rfl, q.int⟩)
  · split at e
    · obtain ⟨n, e1, rfl⟩ := Option.map_eq_some_iff.mp e
      obtain ⟨v, rfl, r1⟩ := r.one
      cases r1.str
      exact .inr ⟨_, n, rfl, e1, by assumption, q.int⟩
    · cases e
  · split at e
    · cases e
      obtain ⟨v, rfl, r1⟩ := r.one
      cases r1.int
      exact ⟨_, rfl, by assumption, q.str⟩
    · cases e
  · cases e
    obtain ⟨v, rfl, r1⟩ := r.one
    obtain ⟨a, vs, rfl, h, r⟩ := r1.lst
    exact ⟨a, vs, rfl, .inl ⟨SqL.of h, fun l hl => q.newT dm hl r⟩⟩
  · cases e
    obtain ⟨v, rfl, r1⟩ := r.one
    obtain ⟨a, vs, rfl, h, r⟩ := r1.tup'
    exact ⟨a, vs, rfl, .inr ⟨sqT_mono gd_sub h, q.tup h r⟩⟩
  · cases e
    obtain ⟨v, rfl, r1⟩ := r.one
    obtain ⟨a, vs, rfl, h, r⟩ := r1.lst
    exact .inl ⟨a, vs, rfl, .inl (SqL.of h), fun l hl => q.newL dm hl r⟩
  · cases e
    obtain ⟨v, rfl, r1⟩ := r.one
    obtain ⟨a, vs, rfl, h, r⟩ := r1.tup
    exact .inl ⟨a, vs, rfl, .inr h, fun l hl => q.newL dm hl r⟩
  · cases e
    obtain ⟨v, rfl, r1⟩ := r.one
    obtain ⟨a, kvs, rfl, h, hk, r⟩ := r1.dcs
    exact .inr ⟨a, kvs, rfl, h, fun l hl => by
      rw [keys_str hk] at *
      exact q.newL dm hl rs_strs⟩
  · obtain ⟨bs, e1, rfl⟩ := Option.map_eq_some_iff.mp e
    obtain ⟨v, rfl, r1⟩ := r.one
    obtain ⟨a, vs, rfl, h, r⟩ := r1.lst
    exact ⟨a, bs, rfl, by rw [← bools_rs r e1]; exact SqL.of h, q.bl⟩
  · obtain ⟨bs, e1, rfl⟩ := Option.map_eq_some_iff.mp e
    obtain ⟨v, rfl, r1⟩ := r.one
    obtain ⟨a, vs, rfl, h, r⟩ := r1.lst
    exact ⟨a, bs, rfl, by rw [← bools_rs r e1]; exact SqL.of h, q.bl⟩
  · obtain ⟨bs, e1, rfl⟩ := Option.map_eq_some_iff.mp e
    obtain ⟨v, rfl, r1⟩ := r.one
    obtain ⟨a, vs, rfl, h, r⟩ := r1.lst
    exact ⟨a, bs, rfl, by rw [← ints_rs r e1]; exact SqL.of h, q.int⟩
  · split at e
    · rename_i c
      cases e
      obtain ⟨v, rfl, r1⟩ := r.one
      obtain ⟨a, vs, rfl, h, r⟩ := r1.lst
      obtain ⟨c2, c3, c4⟩ := srtOk_spec c.2.1
      refine ⟨a, vs, D.pds _, rfl, SqL.of h, (r.mono gd_sub).dp2 c.1, c3, c4, c2, by rw [pds_map, List.length_map]; exact c.2.2, fun l hl => ?_⟩
      exact q.newL dm hl (srt_rs r)
    · cases e
  · cases e
    obtain ⟨v, u, rfl, r1, r2⟩ := r.two
    cases r1.int; cases r2.int
    exact ⟨_, _, rfl, q.int⟩
  · cases e
    obtain ⟨v, u, rfl, r1, r2⟩ := r.two
    cases r1.int; cases r2.int
    exact ⟨_, _, rfl, q.int⟩
  case h_27 => exact absurd e (by simp)
  all_goals (
    obtain ⟨v, rfl, r1⟩ := r.one
    rename_i d0
    cases d0 <;> first
      | (cases e; exact isi_ok r1 rfl (by decide +kernel) q.bl)
      | (cases e; done)
      | (rcases r1 with r1 | ⟨_, _, _, _, e2, _⟩ | ⟨_, _, _, _, _, e2, _⟩
         · cases r1
         · cases e2
         · cases e2))
end
end PL

/-! PL4: expressions: what is checked of the text, and that it does what the small language says. -/
namespace PL
open PySem PySem.Spec L2
/-- the inner lists of a list of lists -/
inductive Nst (K : PySem.W.Frag) (FA : Nat → Addr) (S : Addr → Prop) (H : Hp) : List Addr → List (List D) → Prop
  | nil : Nst K FA S H [] []
  | cons {b : Addr} {vs : List V} {xs : List D} {bs : List Addr} {xss : List (List D)} : S b → H b = some (.lst vs) → Rs K FA (gd S H) vs xs → Nst K FA S H bs xss → Nst K FA S H (b :: bs) (xs :: xss)
/-- a slot's own addresses -/
def Own (H : Hp) (σ : L2.St) (s : Env) (i : Nat) (b : Addr) : Prop :=
  (∃ d, s[i]? = some (.ow d) ∧ σ[i]? = some (some (.ref b))) ∨ (∃ xss a bs, s[i]? = some (.on xss) ∧ σ[i]? = some (some (.ref a)) ∧ H a = some (.lst (bs.map V.ref)) ∧ b ∈ a :: bs) ∨
  (∃ ks ds, s[i]? = some (.od ks ds) ∧ σ[i]? = some (some (.ref b)))
structure SR (K : PySem.W.Frag) (FA : Nat → Addr) (S : Addr → Prop) (H : Hp) (σ : L2.St) (s : Env) : Prop where
  len : s.length = σ.length
  dom : Dom S H
  sh : ∀ (i : Nat) d, s[i]? = some (.sh d) → ∃ v, σ[i]? = some (some v) ∧ R K FA (gd S H) v d
  ow : ∀ (i : Nat) d, s[i]? = some (.ow d) → ∃ a vs ds, d = .lst ds ∧ σ[i]? = some (some (.ref a)) ∧ S a ∧ H a = some (.lst vs) ∧ Rs K FA (gd S H) vs ds
  on : ∀ (i : Nat) xss, s[i]? = some (.on xss) → ∃ a bs, σ[i]? = some (some (.ref a)) ∧ S a ∧ H a = some (.lst (bs.map V.ref)) ∧ (a :: bs).Nodup ∧ Nst K FA S H bs xss
  od : ∀ (i : Nat) ks ds, s[i]? = some (.od ks ds) → ∃ (a : Addr) (kvs : List (Key × V)), σ[i]? = some (some (.ref a)) ∧ S a ∧ H a = some (.dK kvs) ∧ kvs.map (·.1) = ks.map Sum.inr ∧ Rs K FA (gd S H) (kvs.map (·.2)) ds
  ap : ∀ (i j : Nat) b, i ≠ j → Own H σ s i b → ¬ Own H σ s j b
section
variable {K : PySem.W.Frag} {FA : Nat → Addr} {S S' : Addr → Prop} {H H' : Hp} {σ σ' : L2.St} {s s' : Env} {bs cs : List Addr} {xss : List (List D)}
theorem Nst.imp (hS : ∀ b ∈ bs, S b → S' b) (hH : ∀ b ∈ bs, ∀ u, H b = some u → H' b = some u) (mg : Same (gd S H) (gd S' H')) (h : Nst K FA S H bs xss) : Nst K FA S' H' bs xss := by
  induction h with
  | nil => exact .nil
  | cons h1 h2 h3 _ ih => exact .cons (hS _ List.mem_cons_self h1) (hH _ List.mem_cons_self _ h2) (h3.mono mg) (ih (fun b hb => hS b (List.mem_cons_of_mem _ hb)) fun b hb => hH b (List.mem_cons_of_mem _ hb))
theorem Nst.len (h : Nst K FA S H bs xss) : bs.length = xss.length := by
  induction h with
  | nil => rfl
  | cons _ _ _ _ ih => rw [List.length_cons, List.length_cons, ih]
theorem Nst.mem (h : Nst K FA S H bs xss) : ∀ b ∈ bs, S b := by
  induction h with
  | nil => intro b hb; cases hb
  | cons h1 _ _ _ ih => exact fun b hb => (List.mem_cons.mp hb).elim (fun e => e ▸ h1) (ih b)
theorem Nst.get (h : Nst K FA S H bs xss) : ∀ (k : Nat) {xs : List D}, xss[k]? = some xs → ∃ b vs, bs[k]? = some b ∧ S b ∧ H b = some (.lst vs) ∧ Rs K FA (gd S H) vs xs := by
  induction h with
  | nil => intro k xs e; cases e
  | cons h1 h2 h3 _ ih =>
    intro k xs e
    cases k with
    | zero => cases e; exact ⟨_, _, rfl, h1, h2, h3⟩
    | succ k => exact ih k e
theorem Nst.dropLast (h : Nst K FA S H bs xss) : Nst K FA S H bs.dropLast xss.dropLast := by
  induction h with
  | nil => exact .nil
  | cons h1 h2 h3 h4 ih =>
    cases h4 with
    | nil => exact .nil
    | cons g1 g2 g3 g4 => exact .cons h1 h2 h3 ih
theorem Nst.snoc {b : Addr} {vs : List V} {xs : List D} (h : Nst K FA S H bs xss) (h1 : S b) (h2 : H b = some (.lst vs)) (h3 : Rs K FA (gd S H) vs xs) : Nst K FA S H (bs ++ [b]) (xss ++ [xs]) := by
  induction h with
  | nil => exact .cons h1 h2 h3 .nil
  | cons g1 g2 g3 _ ih => exact .cons g1 g2 g3 ih
theorem Nst.set (h : Nst K FA S H bs xss) : ∀ (k : Nat) {b : Addr} {vs : List V} {xs : List D}, bs[k]? = some b → bs.Nodup → Rs K FA (gd S H) vs xs → Same (gd S H) (gd S (L2.upd H b (.lst vs))) → Nst K FA S (L2.upd H b (.lst vs)) bs (xss.set k xs) := by
  induction h with
  | nil => intro k b vs xs e; cases e
  | @cons c ws ys cs yss h1 h2 h3 h4 ih =>
    intro k b vs xs e nd r mg
    obtain ⟨n1, n2⟩ := List.nodup_cons.mp nd
    cases k with
    | zero =>
      cases e
      exact .cons h1 L2.upd_same (r.mono mg) (h4.imp (fun _ _ q => q) (fun x hx u hu => by rw [L2.upd_ne fun (z : x = c) => n1 (z ▸ hx)]; exact hu) mg)
    | succ k =>
      have hb : b ∈ cs := List.mem_of_getElem? e
      exact .cons h1 (by rw [L2.upd_ne fun (z : c = b) => n1 (z.symm ▸ hb)]; exact h2) (h3.mono mg) (ih k e n2 r mg)
theorem map_ref_inj : ∀ {bs cs : List Addr}, bs.map V.ref = cs.map V.ref → bs = cs
  | [], [], _ => rfl
  | b :: bs, c :: cs, h => by
    rw [List.map_cons, List.map_cons] at h
    injection h with h1 h2
    injection h1 with h1
    rw [h1, map_ref_inj h2]
  | [], _ :: _, h => by cases h
  | _ :: _, [], h => by cases h
theorem Own.lt {i : Nat} {b : Addr} (h : Own H σ s i b) : ∃ x, s[i]? = some x ∧ ∀ d, x ≠ .sh d := h.elim (fun ⟨d, h, _⟩ => ⟨_, h, fun _ e => by cases e⟩) fun h => h.elim (fun ⟨xss, _, _, h, _⟩ => ⟨_, h, fun _ e => by cases e⟩) fun ⟨_, _, h, _⟩ => ⟨_, h, fun _ e => by cases e⟩
theorem Own.S_ (h : SR K FA S H σ s) {i : Nat} {b : Addr} (o : Own H σ s i b) : S b := by
  rcases o with ⟨d, h1, h2⟩ | ⟨xss, a, bs, h1, h2, h3, h4⟩ | ⟨ks, ds, h1, h2⟩
  · obtain ⟨a, vs, ds, _, e1, e2, _⟩ := h.ow i d h1
    rw [h2] at e1
    cases e1
    exact e2
  · obtain ⟨a', bs', e1, e2, e3, _, e5⟩ := h.on i xss h1
    rw [h2] at e1
    cases e1
    rw [h3] at e3
    cases map_ref_inj (by injection e3 with e3; injection e3)
    exact (List.mem_cons.mp h4).elim (fun e => e ▸ e2) (e5.mem b)
  · obtain ⟨a, kvs, e1, e2, _⟩ := h.od i ks ds h1
    rw [h2] at e1
    cases e1
    exact e2
/-- the addresses of a slot, by another heap -/
theorem Own.back {i : Nat} {b : Addr} (h : SR K FA S H σ s) (es : s'[i]? = s[i]?) (eσ : σ'[i]? = σ[i]?) (hH : ∀ c u, Own H σ s i c → H c = some u → H' c = some u) (o : Own H' σ' s' i b) : Own H σ s i b := by
  rcases o with ⟨d, h1, h2⟩ | ⟨xss, a, bs, h1, h2, h3, h4⟩ | ⟨ks, ds, h1, h2⟩
  · exact .inl ⟨d, es ▸ h1, eσ ▸ h2⟩
  · rw [es] at h1
    rw [eσ] at h2
    obtain ⟨a', bs', e1, e2, e3, _, e5⟩ := h.on i xss h1
    rw [h2] at e1
    cases e1
    have q := hH a _ (.inr (.inl ⟨xss, a, bs', h1, h2, e3, List.mem_cons_self⟩)) e3
    rw [h3] at q
    cases map_ref_inj (by injection q with q; injection q)
    exact .inr (.inl ⟨xss, a, bs, h1, h2, e3, h4⟩)
  · exact .inr (.inr ⟨ks, ds, es ▸ h1, eσ ▸ h2⟩)
theorem SR.mono (m : Same H H') (h : SR K FA S H σ s) : SR K FA S H' σ s :=
  ⟨h.len, h.dom.mono m, fun i d e => let ⟨v, h1, h2⟩ := h.sh i d e; ⟨v, h1, h2.mono (gd_mono m)⟩,
    fun i d e => let ⟨a, vs, ds, h1, h2, h3, h4, h5⟩ := h.ow i d e; ⟨a, vs, ds, h1, h2, h3, m _ _ h4, h5.mono (gd_mono m)⟩,
    fun i x e => let ⟨a, bs, h1, h2, h3, h4, h5⟩ := h.on i x e; ⟨a, bs, h1, h2, m _ _ h3, h4, h5.imp (fun _ _ q => q) (fun b _ u q => m b u q) (gd_mono m)⟩,
    fun i ks ds e => let ⟨a, kvs, h1, h2, h3, h4, h5⟩ := h.od i ks ds e; ⟨a, kvs, h1, h2, m _ _ h3, h4, h5.mono (gd_mono m)⟩,
    fun i j b n o1 o2 => h.ap i j b n (o1.back h rfl rfl fun c u _ q => m c u q) (o2.back h rfl rfl fun c u _ q => m c u q)⟩
/-- one slot changes, the others stand -/
theorem SR.frame {i : Nat} (h : SR K FA S H σ s) (hl : s'.length = σ'.length) (es : ∀ j, j ≠ i → s'[j]? = s[j]?) (eσ : ∀ j, j ≠ i → σ'[j]? = σ[j]?)
    (dm : Dom S' H') (mg : Same (gd S H) (gd S' H')) (hS : ∀ b, S b → ¬ Own H σ s i b → S' b) (hH : ∀ b u, H b = some u → ¬ Own H σ s i b → H' b = some u)
    (hsh : ∀ d, s'[i]? = some (.sh d) → ∃ v, σ'[i]? = some (some v) ∧ R K FA (gd S' H') v d)
    (how : ∀ d, s'[i]? = some (.ow d) → ∃ a vs ds, d = .lst ds ∧ σ'[i]? = some (some (.ref a)) ∧ S' a ∧ H' a = some (.lst vs) ∧ Rs K FA (gd S' H') vs ds)
    (hon : ∀ xss, s'[i]? = some (.on xss) → ∃ a bs, σ'[i]? = some (some (.ref a)) ∧ S' a ∧ H' a = some (.lst (bs.map V.ref)) ∧ (a :: bs).Nodup ∧ Nst K FA S' H' bs xss)
    (hap : ∀ b, Own H' σ' s' i b → Own H σ s i b ∨ H b = none)
    (hod : ∀ ks ds, s'[i]? = some (.od ks ds) → ∃ (a : Addr) (kvs : List (Key × V)), σ'[i]? = some (some (.ref a)) ∧ S' a ∧ H' a = some (.dK kvs) ∧ kvs.map (·.1) = ks.map Sum.inr ∧ Rs K FA (gd S' H') (kvs.map (·.2)) ds) : SR K FA S' H' σ' s' ∧ ∀ j b, j ≠ i → Own H' σ' s' j b → Own H σ s j b := by
  have keep : ∀ j b, j ≠ i → Own H' σ' s' j b → Own H σ s j b := fun j b n o => o.back h (es j n) (eσ j n) fun c u oc q => hH c u q fun z => h.ap i j c (fun e => n e.symm) z oc
  have own : ∀ j b, j ≠ i → Own H σ s j b → ¬ Own H σ s i b := fun j b n o z => h.ap j i b n o z
  refine ⟨⟨hl, dm, fun j d e => ?_, fun j d e => ?_, fun j x e => ?_, fun j ks ds e => ?_, fun j k b n o1 o2 => ?_⟩, keep⟩
  · by_cases q : j = i
    · subst q
      exact hsh d e
    · rw [es j q] at e
      obtain ⟨v, h1, h2⟩ := h.sh j d e
      exact ⟨v, (eσ j q).trans h1, h2.mono mg⟩
  · by_cases q : j = i
    · subst q
      exact how d e
    · rw [es j q] at e
      obtain ⟨a, vs, ds, h1, h2, h3, h4, h5⟩ := h.ow j d e
      have no := own j a q (.inl ⟨d, e, h2⟩)
      exact ⟨a, vs, ds, h1, (eσ j q).trans h2, hS a h3 no, hH a _ h4 no, h5.mono mg⟩
  · by_cases q : j = i
    · subst q
      exact hon x e
    · rw [es j q] at e
      obtain ⟨a, bs, h1, h2, h3, h4, h5⟩ := h.on j x e
      have no : ∀ b ∈ a :: bs, ¬ Own H σ s i b := fun b hb => own j b q (.inr (.inl ⟨x, a, bs, e, h1, h3, hb⟩))
      exact ⟨a, bs, (eσ j q).trans h1, hS a h2 (no a List.mem_cons_self), hH a _ h3 (no a List.mem_cons_self), h4, h5.imp (fun b hb z => hS b z (no b (List.mem_cons_of_mem _ hb))) (fun b hb u z => hH b u z (no b (List.mem_cons_of_mem _ hb))) mg⟩
  · by_cases q : j = i
    · subst q
      exact hod ks ds e
    · rw [es j q] at e
      obtain ⟨a, kvs, h1, h2, h3, h4, h5⟩ := h.od j ks ds e
      have no := own j a q (.inr (.inr ⟨ks, ds, e, h1⟩))
      exact ⟨a, kvs, (eσ j q).trans h1, hS a h2 no, hH a _ h3 no, h4, h5.mono mg⟩
  · have one : ∀ k, k ≠ i → Own H' σ' s' i b → Own H' σ' s' k b → False := fun k nk z1 z2 => by
      have ok := keep k b nk z2
      rcases hap b z1 with z | z
      · exact h.ap k i b nk ok z
      · exact h.dom.nn (ok.S_ h) z
    by_cases q : j = i
    · subst q
      exact one k (fun z => n z.symm) o1 o2
    · by_cases q2 : k = i
      · subst q2
        exact one j q o2 o1
      · exact h.ap j k b n (keep j b q o1) (keep k b q2 o2)
end
/-- the defs, the constants -/
structure Tb where
  T : Tab
  G : Nat → Option D
  GN : Nat → Str
/-- the program, what stands behind its top -/
structure Pr where
  P : Program
  w : World
  K : PySem.W.Frag
  mg : Str → Option Value
  base : Heap
  FA : Nat → Addr
  t : Tb
abbrev Pr.T (p : Pr) : Tab := p.t.T
abbrev Pr.G (p : Pr) : Nat → Option D := p.t.G
/-! ### what is checked -/
def visB (sc : Scope) (x : Str) : Bool := (match sc.names.lookup x with
  | some .local => true
  | some .cell => true
  | some .free => true
  | _ => false) && (!(x == ("__debug__" : Str)) && !(x == ("__classdict__" : Str)))
def gloB (sc : Scope) (x : Str) : Bool := (match sc.names.lookup x with
  | some .globalImplicit => true
  | _ => false) && (!(x == ("__debug__" : Str)) && !(x == ("__name__" : Str)))
def chkC : D → Const → Bool
  | .non, .none => true
  | .bl b, .bool c => b == c
  | .int i, .int j => decide (i = j)
  | .str x, .str y => decide (x = y)
  | _, _ => false
def notStar : Expr → Bool
  | .Starred _ _ => false
  | _ => true
def notSet : Expr → Bool
  | .Set _ _ _ => false
  | _ => true
def notSlice : Expr → Bool
  | .Slice _ _ _ _ => false
  | _ => true
/-- a test by its value -/
def plainT : Expr → Bool
  | .UnaryOp _ _ _ => false
  | .BoolOp _ _ _ => false
  | .IfExp _ _ _ _ => false
  | .Compare _ _ _ _ => false
  | _ => true
/-- what may stand as a test -/
def tst : E → Bool
  | .nt a => tst a
  | .an a b => tst a && tst b
  | .orr a b => tst a && tst b
  | .ife _ _ _ => false
  | _ => true
def meN : MI → Str
  | .index => "index"
  | .find => "find"
  | .split => "split"
  | .join => "join"
  | .get => "get"
  | .values => "values"
def meOk : MI → Nat → Bool
  | .find, 2 => true
  | .split, 1 => true
  | .join, 1 => true
  | .index, 1 => true
  | _, _ => false
/-- the keys of a display: texts -/
def strC : Expr → Option Str
  | .Constant (.str y) _ _ => some y
  | _ => none
def keysB : List Str → List (Option Expr) → Bool
  | [], [] => true
  | k :: ks, some x :: r => decide (strC x = some k) && keysB ks r
  | _, _ => false
/-- not a call without anything in it -/
def notCall0 : Expr → Bool
  | .Call _ [] [] _ => false
  | _ => true
/-- an own list, read -/
def al : E → Bool
  | .rd _ => true
  | .rdn _ _ => true
  | _ => false
/-- hands on a list of its own, or no list -/
def fr (T : Tab) : E → Bool
  | .var _ => false
  | .rd _ => false
  | .rdn _ _ => false
  | .gl _ => false
  | .dgT _ _ => false
  | .dix _ _ => false
  | .ix _ _ => false
  | .an _ b => fr T b
  | .orr _ b => fr T b
  | .ife _ a b => fr T a && fr T b
  | .call f _ => match T f with
    | some fi => fi.fresh
    | none => false
  | .cloc _ _ => false
  | _ => true
def opEq : Operator → Operator → Bool
  | .Add, .Add => true
  | .Sub, .Sub => true
  | .Mult, .Mult => true
  | .FloorDiv, .FloorDiv => true
  | .Mod, .Mod => true
  | .Pow, .Pow => true
  | _, _ => false
theorem opEq_ok : ∀ {a b : Operator}, opEq a b = true → a = b := by
  intro a b h
  cases a <;> cases b <;> first | rfl | cases h
def cmpEq : CmpOp → CmpOp → Bool
  | .Eq, .Eq => true
  | .NotEq, .NotEq => true
  | .Lt, .Lt => true
  | .LtE, .LtE => true
  | .Gt, .Gt => true
  | .GtE, .GtE => true
  | .In, .In => true
  | .NotIn, .NotIn => true
  | .Is, .Is => true
  | .IsNot, .IsNot => true
  | _, _ => false
theorem cmpEq_ok : ∀ {a b : CmpOp}, cmpEq a b = true → a = b := by
  intro a b h
  cases a <;> cases b <;> first | rfl | cases h
/-- the names at a target's slots; sc the scope that binds them -/
def tgB (N : List Str) (sc : Scope) : List Nat → List Expr → Bool
  | [], [] => true
  | i :: is, .Name x _ :: xs => decide (N[i]? = some x) && ((match sc.names.lookup x with
    | some .local => true
    | some .cell => true
    | _ => false) && tgB N sc is xs)
  | _, _ => false
def chkTg (N : List Str) (sc : Scope) : List Nat → Expr → Bool
  | [i], .Name x p => tgB N sc [i] [.Name x p]
  | is, .Tuple xs _ _ => decide (2 ≤ is.length) && tgB N sc is xs
  | _, _ => false
def nmOf : Expr → Option Str
  | .Name x _ => some x
  | _ => none
def ownOf (N : List Str) (is : List Nat) : List (Str × Nat) := is.map fun i => (N.getD i (Str.ofString ""), i)
/-- a constant dict, its keys tuples of texts -/
def isTk : Option D → Bool
  | some (.dct kvs) => !kvs.isEmpty && kvs.all fun q => (keyT q.1).isSome
  | _ => false
/-- its keys texts -/
def isSk : Option D → Bool
  | some (.dct kvs) => !kvs.isEmpty && kvs.all fun q => (keyS q.1).isSome
  | _ => false
def isTupG : Option D → Bool
  | some (.tup _) => true
  | _ => false
def dgtB (p : Tb) (sc : Scope) (g : Nat) (pos : Pos) : Expr → Bool
  | .Attribute (.Name x _) m apos => decide (p.GN g = x) && (gloB sc x && (isTk (p.G g) && (decide (m = Str.ofString "get") && (apos.endLine == pos.line))))
  | _ => false
def tixB (p : Tb) (sc : Scope) (g : Nat) (pos : Pos) : Expr → Bool
  | .Attribute (.Name x _) m apos => decide (p.GN g = x) && (gloB sc x && (isTupG (p.G g) && (decide (m = Str.ofString "index") && (apos.endLine == pos.line))))
  | _ => false
def dixB (p : Tb) (sc : Scope) (g : Nat) : Expr → Bool
  | .Name x _ => decide (p.GN g = x) && (gloB sc x && isSk (p.G g))
  | _ => false
def clocB (N : List Str) (sc : Scope) (i : Nat) : Expr → Bool
  | .Name x _ => decide (N[i]? = some x) && visB sc x
  | _ => false
def dgetB (N : List Str) (sc : Scope) (i : Nat) (pos : Pos) : Expr → Bool
  | .Attribute (.Name x _) m apos => decide (N[i]? = some x) && (visB sc x && (decide (m = Str.ofString "get") && (apos.endLine == pos.line)))
  | _ => false
def minB (sc : Scope) : Expr → Bool
  | .Name f _ => decide (f = biN .min_) && gloB sc f
  | _ => false
def varB (N : List Str) (sc : Scope) (i : Nat) : Expr → Bool
  | .Name y _ => decide (N[i]? = some y) && visB sc y
  | _ => false
def noneKw : List Keyword → Bool
  | [⟨some nm, .Constant .none _ _, _⟩] => decide (nm = Str.ofString "default")
  | _ => false
mutual
def chkE (p : Tb) (N : List Str) : Scope → E → Expr → Bool
  | sc, .c d, .Constant c _ _ => chkC d c
  | sc, .var i, .Name x _ => decide (N[i]? = some x) && visB sc x
  | sc, .rd i, .Name x _ => decide (N[i]? = some x) && visB sc x
  | sc, .rdn i k, .Subscript (.Name x _) y _ => decide (N[i]? = some x) && (visB sc x && (notSlice y && chkE p N sc k y))
  | sc, .tvals i, .Call (.Name f _) [.Call (.Attribute (.Name x _) m apos) [] [] cpos] [] _ => decide (f = biN .tuple_) && (gloB sc f && (decide (N[i]? = some x) && (visB sc x && (decide (m = Str.ofString "values") && (apos.endLine == cpos.line)))))
  | sc, .revl a, .Subscript x (.Slice none none (some (.UnaryOp .USub (.Constant (.int i) _ _) _)) _) _ => decide (i = 1) && chkE p N sc a x
  | sc, .lrg a, .Call (.Name f _) [.Call (.Name r _) [x] [] _] [] _ => decide (f = biN .list_) && (gloB sc f && (decide (r = Str.ofString "range") && (gloB sc r && (notStar x && chkE p N sc a x))))
  | sc, .lenn i, .Call (.Name f _) [.Name x _] [] _ => decide (f = biN .len) && (gloB sc f && (decide (N[i]? = some x) && visB sc x))
  | sc, .gl g, .Name x _ => decide (p.GN g = x) && (gloB sc x && ((p.G g).bind glD).isSome)
  | sc, .dgT g e, .Call f [y] [] pos => dgtB p sc g pos f && (notStar y && chkE p N sc e y)
  | sc, .tix g e, .Call f [y] [] pos => tixB p sc g pos f && (notStar y && chkE p N sc e y)
  | sc, .dix g e, .Subscript o y _ => dixB p sc g o && (notSlice y && chkE p N sc e y)
  | sc, .cloc i es, .Call f xs [] _ => clocB N sc i f && (chkEs p N sc es xs && (es.all (!al ·) && !xs.isEmpty))
  | sc, .tup es, .Tuple xs _ _ => chkEs p N sc es xs && es.all (!al ·)
  | sc, .lst es, .List xs _ => chkEs p N sc es xs && es.all (!al ·)
  | sc, .dget i k e, .Call f [y, z] [] pos => dgetB N sc i pos f && (notStar y && (notStar z && (chkE p N sc k y && chkE p N sc e z)))
  | sc, .mind a, .Call f [x] kws _ => minB sc f && (noneKw kws && (notStar x && chkE p N sc a x))
  | sc, .lcd is i c e, .ListComp el [⟨tg, iter, ifs, asy⟩] scope _ => decide (asy = 0) && (varB N sc i iter && (blkC N sc scope (ownOf N is) && (chkTg N scope is tg && ((tst c && (match ifs with
    | [] => (match c with | .c (.bl true) => true | _ => false)
    | [cx] => chkE p N (relS scope sc) c cx
    | _ => false)) && (chkE p N (relS scope sc) e el && !al e)))))
  | sc, .dsp ks es, .Dict keys xs _ => keysB ks keys && (chkEs p N sc es xs && (es.all (!al ·) && (!es.isEmpty && (decide (ks.length = xs.length) && decide (ks.length ≤ 15)))))
  | sc, .bin o a b, .BinOp x op y _ => opEq (pyOp o) op && (chkE p N sc a x && chkE p N sc b y)
  | sc, .neg a, .UnaryOp .USub x _ => chkE p N sc a x
  | sc, .nt a, .UnaryOp .Not x _ => chkE p N sc a x
  | sc, .cmp o a b, .Compare x [op] [y] _ => cmpEq (pyCmp o) op && (notSet y && (chkE p N sc a x && chkE p N sc b y))
  | sc, .chain o1 o2 a b c, .Compare x [op1, op2] [y, z] _ => cmpEq (pyCmp o1) op1 && (cmpEq (pyCmp o2) op2 && (notSet z && (chkE p N sc a x && (chkE p N sc b y && chkE p N sc c z))))
  | sc, .an a b, .BoolOp .And (x :: y :: r) pos => !al b && (chkE p N sc a x && (match r with
    | [] => chkE p N sc b y
    | _ => chkE p N sc b (.BoolOp .And (y :: r) pos)))
  | sc, .orr a b, .BoolOp .Or (x :: y :: r) pos => !al b && (chkE p N sc a x && (match r with
    | [] => chkE p N sc b y
    | _ => chkE p N sc b (.BoolOp .Or (y :: r) pos)))
  | sc, .ife c a b, .IfExp z x y _ => (!al a && !al b) && (tst c && (chkE p N sc c z && (chkE p N sc a x && chkE p N sc b y)))
  | sc, .ix a b, .Subscript x y _ => notSlice y && (chkE p N sc a x && chkE p N sc b y)
  | sc, .sl a lo hi, .Subscript x (.Slice l h none _) _ => chkE p N sc a x && ((match lo.isNo, l with
    | true, none => true
    | false, some l => chkE p N sc lo l
    | _, _ => false) && (match hi.isNo, h with
    | true, none => true
    | false, some h => chkE p N sc hi h
    | _, _ => false))
  | sc, .call f es, .Call (.Name x _) xs [] _ => gloB sc x && ((match p.T f with
    | some fi => decide (fi.name = x) && decide (xs.length + fi.dfl.length = fi.ps)
    | none => false) && (chkEs p N sc es xs && es.all (!al ·)))
  | sc, .callb f es, .Call (.Name x _) xs [] _ => gloB sc x && ((match p.T f with
    | some fi => decide (fi.name = x) && decide (xs.length + fi.dfl.length = fi.ps)
    | none => false) && (chkEs p N sc es xs && !xs.isEmpty))
  | sc, .bi f es, .Call (.Name x _) xs [] _ => decide (biN f = x) && (gloB sc x && (match biT f with
    | none => chkEs p N sc es xs && !xs.isEmpty
    | some t => (match xs with
      | [y, .Name z _] => decide (z = Str.ofString t) && (gloB sc z && (chkEs p N sc es [y]))
      | _ => false)))
  | sc, .me m o es, .Call (.Attribute y a apos) xs [] pos => decide (a = meN m) && ((meOk m xs.length && (notCall0 y && (apos.endLine == pos.line))) && (chkE p N sc o y && chkEs p N sc es xs))
  | sc, .lc is it c e, .ListComp el [⟨tg, iter, ifs, asy⟩] scope _ => decide (asy = 0) && ((notSet iter && chkE p N sc it iter) && (blkC N sc scope (ownOf N is) && (chkTg N scope is tg && ((tst c && (match ifs with
    | [] => (match c with | .c (.bl true) => true | _ => false)
    | [cx] => chkE p N (relS scope sc) c cx
    | _ => false)) && (chkE p N (relS scope sc) e el && !al e)))))
  | sc, .lcr i es c e, .ListComp el [⟨tg, .Call (.Name x _) xs [] _, ifs, asy⟩] scope _ => decide (asy = 0) && ((decide (x = Str.ofString "range") && (gloB sc x && (chkEs p N sc es xs && (decide (xs.length = 1) || decide (xs.length = 2))))) && (blkC N sc scope (ownOf N [i]) && (chkTg N scope [i] tg && ((tst c && (match ifs with
    | [] => (match c with | .c (.bl true) => true | _ => false)
    | [cx] => chkE p N (relS scope sc) c cx
    | _ => false)) && (chkE p N (relS scope sc) e el && !al e)))))
  | _, _, _ => false
def chkEs (p : Tb) (N : List Str) : Scope → List E → List Expr → Bool
  | _, [], [] => true
  | sc, e :: es, x :: xs => notStar x && (chkE p N sc e x && chkEs p N sc es xs)
  | _, _, _ => false
end
end PL

/-! PL5: the soundness of expressions. -/
namespace PL
open PySem PySem.Spec L2
/-- what stands under a name that is a def -/
def spF (p : Pr) (n : Nat) (fi : Fn) (f : Nat) : Sp := fun vs H Q _ => vs.length = fi.ps ∧ ∃ (S : Addr → Prop) (xs : List D) (d : D), Dom S H ∧ Rs p.K p.FA (gd S H) vs (xs ++ fi.dfl) ∧ call p.T p.G n f xs = some (d, []) ∧
  ∀ v H', Same H H' → R p.K p.FA (gd S H') v d → (fi.fresh = true → Fr p.K p.FA S H H' v d) → Q v H'
/-- the constants of the defaults -/
def dV : D → V
  | .bl b => .bl b
  | .int i => .int i
  | .str x => .str x
  | _ => .non
def isDfl : D → Bool
  | .non => true
  | .bl _ => true
  | .int _ => true
  | .str _ => true
  | _ => false
structure Facts (p : Pr) (n : Nat) : Prop where
  bi : ∀ f : BI, p.mg (biN f) = none
  rng : p.mg "range" = none
  rev : p.mg "reversed" = none
  bool : p.mg "bool" = none
  dict : p.mg "dict" = none
  fn : ∀ f fi, p.T f = some fi → ∃ fd ds, p.mg fi.name = some (.ref (p.FA f)) ∧ PySem.W.keepIn p.K (.ref (p.FA f)) = true ∧ Binds p.K fd (fi.names.take fi.ps) ds ∧ Vals (fi.dfl.map dV) ds ∧ fi.dfl.all isDfl = true ∧
    FnOk p.P p.w p.K p.mg p.base CX0 n (p.FA f) fd (fi.names.take fi.ps) (spF p n fi f)
  gl : ∀ x d, (p.G x).bind glD = some d → ∃ u v, p.mg (p.t.GN x) = some u ∧ RelV v u ∧ ∀ H, R p.K p.FA H v d
  gdT : ∀ x kvs, p.G x = some (.dct kvs) → isTk (p.G x) = true → ∃ a, p.mg (p.t.GN x) = some (.ref a) ∧ DKT p.P p.w p.K p.FA a kvs
  gdS : ∀ x kvs, p.G x = some (.dct kvs) → isSk (p.G x) = true → ∃ a, p.mg (p.t.GN x) = some (.ref a) ∧ DKS p.w p.K p.FA a kvs
  gt : ∀ x ds, p.G x = some (.tup ds) → ∃ a o, p.mg (p.t.GN x) = some (.ref a) ∧ (∃ vs, (∀ H, SqT p.K H a vs) ∧ ∀ H, Rs p.K p.FA H vs ds) ∧ p.K.lookup a = some o ∧ o.cls = .type "tuple" ∧ o.dict = none
structure XF (p : Pr) (n : Nat) (N : List Str) (sc : Scope) (X : Cx) : Prop where
  prog : X.prog = p.P
  w : X.w = p.w
  K : X.K = p.K
  mg : X.mg = p.mg
  base : X.base = p.base
  N : X.N = N
  sc : X.env.scope = sc
  calm : X.calm = true
  room : Room n X.A
  xe : X.xe = fun _ _ => False
section
variable (p : Pr) (n : Nat) (N : List Str)
def Post (a f : Bool) (S : Addr → Prop) (H : Hp) (d : D) (Q : VK) : Prop :=
  ∀ v H', Same H H' → RA p.K p.FA S H' v d → (a = false → R p.K p.FA (gd S H') v d) → (f = true → Fr p.K p.FA S H H' v d) → Q v H'
def Sat (t : TE) (e : E) : Prop := ∀ (s : Env) (d : D) (S : Addr → Prop) (H : Hp) (σ : L2.St) (Q : VK),
  ev (call p.T p.G n) p.G e s = some d → SR p.K p.FA S H σ s → Post p (al e) (fr p.T e) S H d Q → t σ H Q
def SatT (t : TT) (e : E) : Prop := ∀ (s : Env) (b : Bool) (S : Addr → Prop) (H : Hp) (σ : L2.St) (Q : Bool → Hp → Prop),
  ev (call p.T p.G n) p.G e s = some (.bl b) → SR p.K p.FA S H σ s → (∀ H', Same H H' → Q b H') → t σ H Q
def SatA (t : TA) (es : List E) : Prop := ∀ (s : Env) (ds : List D) (S : Addr → Prop) (H : Hp) (σ : L2.St) (Q : List V → Hp → Prop),
  evs (call p.T p.G n) p.G es s = some ds → SR p.K p.FA S H σ s → (∀ vs H', Same H H' → RAs p.K p.FA S H' vs ds → (es.all (!al ·) = true → Rs p.K p.FA (gd S H') vs ds) → Q vs H') → t σ H Q
def GoodE (sc : Scope) (e : E) (x : Expr) : Prop := ∃ t : TE, (∀ X, XF p n N sc X → PE X x t) ∧ Sat p n t e
def GoodT (sc : Scope) (e : E) (x : Expr) : Prop := ∃ t : TT, (∀ X, XF p n N sc X → PT X x t) ∧ SatT p n t e
def GoodA (sc : Scope) (es : List E) (xs : List Expr) : Prop := ∃ t : TA, (∀ X, XF p n N sc X → PA X xs t) ∧ SatA p n t es
end
section
variable {p : Pr} {n : Nat} {N : List Str} {sc : Scope} {S : Addr → Prop} {H H1 H2 : Hp} {d : D} {Q : VK} {a f : Bool}
theorem Post.ok (h : Post p a f S H d Q) (m : Same H H2) : Ok p.K p.FA S H2 d Q := fun v H' m' r q => h v H' (m.trans m') (.inl r) (fun _ => r) fun _ => q.back m
theorem hu70 {A : Around} {k : Nat} (h : Room k A) : A.units + 70 < cLine := by have := h.un; omega
theorem hu65 {A : Around} {k : Nat} (h : Room k A) : A.units + 65 < cLine := by have := h.un; omega
theorem ba {a b : Bool} (h : (a && b) = true) : a = true ∧ b = true := Bool.and_eq_true_iff.mp h
theorem star_cons {x : Expr} {xs : List Expr} {env : PySem.Env} (h : notStar x = true) : starEach (x :: xs) env = (false, eval x env) :: starEach xs env := by
  cases x <;> first | rfl | cases h
theorem star_none {env : PySem.Env} {pos : Pos} : ∀ {xs : List Expr}, xs.all notStar = true → (backTo pos (starEach xs env)).any (·.1) = false
  | [], _ => rfl
  | x :: xs, h => by
    rw [List.all_cons] at h
    obtain ⟨h1, h2⟩ := ba h
    rw [star_cons h1]
    have ih := star_none (env := env) (pos := pos) h2
    unfold backTo at ih ⊢
    rw [List.map_cons, List.any_cons, ih]
    rfl
theorem vis_ok {x : Str} (h : visB sc x = true) : (sc.names.lookup x = some .local ∨ sc.names.lookup x = some .cell ∨ sc.names.lookup x = some .free) ∧ (x == ("__debug__" : Str)) = false ∧ (x == ("__classdict__" : Str)) = false := by
  unfold visB at h
  obtain ⟨h1, h2⟩ := ba h
  obtain ⟨h3, h4⟩ := ba h2
  refine ⟨?_, by simpa using h3, by simpa using h4⟩
  split at h1
  · exact .inl (by assumption)
  · exact .inr (.inl (by assumption))
  · exact .inr (.inr (by assumption))
  · cases h1
theorem glo_ok {x : Str} (h : gloB sc x = true) : sc.names.lookup x = some .globalImplicit ∧ (x == ("__debug__" : Str)) = false ∧ x ≠ "__name__" := by
  unfold gloB at h
  obtain ⟨h1, h2⟩ := ba h
  obtain ⟨h3, h4⟩ := ba h2
  refine ⟨?_, by simpa using h3, by simpa using h4⟩
  split at h1
  · assumption
  · cases h1
theorem XF.gl {X : Cx} (h : XF p n N sc X) {x : Str} (q : gloB sc x = true) : Gl X x := by
  show X.env.scope.names.lookup x = some .globalImplicit
  rw [h.sc]
  exact (glo_ok q).1
theorem xe_pass {X : Cx} (h : XF p n N sc X) : PassesOwn (model X.prog X.w) X.A X.env X.xe := by
  rw [h.xe]
  exact PassesOwn.never
/-! ### leaves -/
theorem chkC_ok {c : Const} (h : chkC d c = true) : (∀ X : Cx, ∀ j pos, PE X (.Constant c j pos) (tC (dV d))) ∧ isDfl d = true := by
  unfold chkC at h
  split at h
  · exact ⟨fun X j pos => pe_non, rfl⟩
  · cases eq_of_beq h
    exact ⟨fun X j pos => pe_bl, rfl⟩
  · cases of_decide_eq_true h
    exact ⟨fun X j pos => pe_int, rfl⟩
  · cases of_decide_eq_true h
    exact ⟨fun X j pos => pe_str, rfl⟩
  · cases h
theorem dV_ok {K : PySem.W.Frag} {FA : Nat → Addr} {G : Hp} (h : isDfl d = true) : R K FA G (dV d) d := by
  cases d <;> first | (cases h; done) | exact .non | exact .bl _ | exact .int _ | exact .str _
theorem dV_nl (h : isDfl d = true) : ∀ ds, d ≠ .lst ds := fun ds e => by subst e; cases h
theorem dV_nd (h : isDfl d = true) : ∀ ks ds, d ≠ .dcs ks ds := fun ks ds e => by subst e; cases h
theorem good_c {c : Const} {j : Nat} {pos : Pos} (h : chkC d c = true) : GoodE p n N sc (.c d) (.Constant c j pos) := by
  obtain ⟨h1, h2⟩ := chkC_ok h
  refine ⟨_, fun X _ => h1 X j pos, fun s d' S H σ Q e hs q => ?_⟩
  cases e
  exact q _ _ (Same.refl _) (.inl (dV_ok h2)) (fun _ => dV_ok h2) fun _ => Fr.no (dV_nl h2) (dV_nd h2)
theorem good_name {i : Nat} {x : Str} {pos : Pos} (hN : N[i]? = some x) (h : visB sc x = true) : ∀ X, XF p n N sc X → PE X (.Name x pos) (tVar i) := fun X hx => by
  obtain ⟨h1, h2, h3⟩ := vis_ok h
  exact pe_var (by rw [hx.N]; exact hN) (by rw [hx.sc]; exact h1) h2 h3
theorem good_var {i : Nat} {x : Str} {pos : Pos} (hN : N[i]? = some x) (h : visB sc x = true) : GoodE p n N sc (.var i) (.Name x pos) := by
  refine ⟨_, good_name hN h, fun s d S H σ Q e hs q => ?_⟩
  unfold ev at e
  obtain ⟨sl, e1, e2⟩ := Option.bind_eq_some_iff.mp e
  cases sl <;> cases e2
  obtain ⟨v, h1, h2⟩ := hs.sh _ _ e1
  exact ⟨v, h1, q v H (Same.refl _) (.inl h2) (fun _ => h2) fun z => by cases z⟩
theorem good_rd {i : Nat} {x : Str} {pos : Pos} (hN : N[i]? = some x) (h : visB sc x = true) : GoodE p n N sc (.rd i) (.Name x pos) := by
  refine ⟨_, good_name hN h, fun s d S H σ Q e hs q => ?_⟩
  unfold ev at e
  obtain ⟨sl, e1, e2⟩ := Option.bind_eq_some_iff.mp e
  cases sl <;> cases e2
  · obtain ⟨a, vs, ds, rfl, h1, h2, h3, h4⟩ := hs.ow _ _ e1
    exact ⟨_, h1, q _ H (Same.refl _) (.inr (.inl ⟨a, vs, ds, rfl, rfl, h3, h4⟩)) (fun z => by cases z) fun z => by cases z⟩
  · obtain ⟨a, kvs, h1, h2, h3, h4, h5⟩ := hs.od _ _ _ e1
    exact ⟨_, h1, q _ H (Same.refl _) (.inr (.inr ⟨a, kvs, _, _, rfl, rfl, h3, h4, h5⟩)) (fun z => by cases z) fun z => by cases z⟩
theorem good_gl (fc : Facts p n) {x : Nat} {pos : Pos} (h : gloB sc (p.t.GN x) = true) (hg : ((p.G x).bind glD).isSome = true) : GoodE p n N sc (.gl x) (.Name (p.t.GN x) pos) := by
  obtain ⟨d0, e0⟩ := Option.isSome_iff_exists.mp hg
  obtain ⟨u, v, hm, rv, hr⟩ := fc.gl x d0 e0
  refine ⟨_, fun X hx => pe_glob (hx.gl h) (by rw [hx.mg]; exact hm) rv (glo_ok h).2.1, fun s d S H σ Q e hs q => ?_⟩
  unfold ev at e
  rw [e0] at e
  cases e
  exact q v H (Same.refl _) (.inl (hr _)) (fun _ => hr _) fun z => by cases z
/-! ### operators -/
theorem good_bin {o : B1} {op : Operator} {a b : E} {x y : Expr} {pos : Pos} (ho : opEq (pyOp o) op = true) (ha : GoodE p n N sc a x) (hb : GoodE p n N sc b y) : GoodE p n N sc (.bin o a b) (.BinOp x op y pos) := by
  obtain ⟨ta, pa, sa⟩ := ha
  obtain ⟨tb, pb, sb⟩ := hb
  cases opEq_ok ho
  refine ⟨tOp (rB p.K o) ta tb, fun X hx => pe_op (by rw [← hx.K]; exact opB o) (pa X hx) (pb X hx), fun s d S H σ Q e hs q => ?_⟩
  unfold ev at e
  obtain ⟨x', e1, e⟩ := Option.bind_eq_some_iff.mp e
  obtain ⟨y', e2, e3⟩ := Option.bind_eq_some_iff.mp e
  refine sa s x' S H σ _ e1 hs fun v H1 m1 ra _ _ => sb s y' S H1 σ _ e2 (hs.mono m1) fun u H2 m2 rb _ _ => ?_
  exact bin_ok e3 (ra.mono m2) rb (hs.dom.mono (m1.trans m2)) (q.ok (m1.trans m2))
theorem good_neg {a : E} {x : Expr} {pos : Pos} (ha : GoodE p n N sc a x) : GoodE p n N sc (.neg a) (.UnaryOp .USub x pos) := by
  obtain ⟨ta, pa, sa⟩ := ha
  refine ⟨_, fun X hx => pe_un un_neg (pa X hx), fun s d S H σ Q e hs q => ?_⟩
  unfold ev at e
  obtain ⟨x', e1, e⟩ := Option.bind_eq_some_iff.mp e
  refine sa s x' S H σ _ e1 hs fun v H1 m1 ra _ _ => ?_
  cases x' <;> cases e
  cases ra.int
  exact ⟨_, rfl, (q.ok m1).int⟩
theorem good_nt {a : E} {x : Expr} {pos : Pos} (ha : GoodE p n N sc a x) : GoodE p n N sc (.nt a) (.UnaryOp .Not x pos) := by
  obtain ⟨ta, pa, sa⟩ := ha
  refine ⟨_, fun X hx => pe_not (pa X hx), fun s d S H σ Q e hs q => ?_⟩
  unfold ev at e
  obtain ⟨x', e1, e⟩ := Option.bind_eq_some_iff.mp e
  refine sa s x' S H σ _ e1 hs fun v H1 m1 ra _ _ => ?_
  cases x' <;> cases e
  cases ra.bl
  exact ⟨_, rfl, (q.ok m1).bl⟩
theorem goodT_nt {a : E} {x : Expr} {pos : Pos} (ha : GoodT p n N sc a x) : GoodT p n N sc (.nt a) (.UnaryOp .Not x pos) := by
  obtain ⟨ta, pa, sa⟩ := ha
  refine ⟨_, fun X hx => pt_not (pa X hx), fun s b S H σ Q e hs q => ?_⟩
  unfold ev at e
  obtain ⟨x', e1, e⟩ := Option.bind_eq_some_iff.mp e
  cases x' <;> cases e
  exact sa s _ S H σ _ e1 hs fun H1 m1 => q H1 m1
theorem mark_ok {op : CmpOp} {y : Expr} (h : notSet y = true) : behindInMarks op y = false := by
  cases y <;> first | rfl | cases h
theorem cmp_sat {o : CO} {a b : E} {ta tb : TE} (sa : Sat p n ta a) (sb : Sat p n tb b) {s : Env} {S : Addr → Prop} {H : Hp} {σ : L2.St} {k : Bool} {Q : VK}
    (e : ev (call p.T p.G n) p.G (.cmp o a b) s = some (.bl k)) (hs : SR p.K p.FA S H σ s) (q : ∀ H', Same H H' → Q (.bl k) H') : tOp (rC p.K o) ta tb σ H Q := by
  unfold ev at e
  obtain ⟨x', e1, e⟩ := Option.bind_eq_some_iff.mp e
  obtain ⟨y', e2, e3⟩ := Option.bind_eq_some_iff.mp e
  obtain ⟨k', e4, e5⟩ := Option.map_eq_some_iff.mp e3
  cases e5
  refine sa s x' S H σ _ e1 hs fun v H1 m1 ra _ _ => sb s y' S H1 σ _ e2 (hs.mono m1) fun u H2 m2 rb _ _ => ?_
  exact cmp_ok e4 (ra.mono m2) rb (q H2 (m1.trans m2))
theorem good_cmp {o : CO} {op : CmpOp} {a b : E} {x y : Expr} {pos : Pos} (ho : cmpEq (pyCmp o) op = true) (hm : notSet y = true) (ha : GoodE p n N sc a x) (hb : GoodE p n N sc b y) :
    GoodE p n N sc (.cmp o a b) (.Compare x [op] [y] pos) ∧ GoodT p n N sc (.cmp o a b) (.Compare x [op] [y] pos) := by
  obtain ⟨ta, pa, sa⟩ := ha
  obtain ⟨tb, pb, sb⟩ := hb
  cases cmpEq_ok ho
  constructor
  · refine ⟨tOp (rC p.K o) ta tb, fun X hx => pe_cmpR (by rw [← hx.K]; exact opC (hu65 hx.room) o) (pa X hx) (pb X hx) (mark_ok hm), fun s d S H σ Q e hs q => ?_⟩
    have e' := e
    unfold ev at e'
    obtain ⟨x', e1, e'⟩ := Option.bind_eq_some_iff.mp e'
    obtain ⟨y', e2, e3⟩ := Option.bind_eq_some_iff.mp e'
    obtain ⟨k', e4, rfl⟩ := Option.map_eq_some_iff.mp e3
    exact cmp_sat sa sb e hs fun H' m => (q.ok m).bl
  · refine ⟨tTest (tOp (rC p.K o) ta tb), fun X hx => pt_cmpR (by rw [← hx.K]; exact opC (hu65 hx.room) o) (pa X hx) (pb X hx) (mark_ok hm), fun s k S H σ Q e hs q => ?_⟩
    exact cmp_sat sa sb e hs fun H' m => ⟨k, rfl, q H' m⟩
theorem lmark_ok {o1 o2 : CmpOp} {y z : Expr} (h : notSet z = true) : lastMarks [o1, o2] [y, z] = false := mark_ok h
theorem chain_sat {o1 o2 : CO} {a b c : E} {ta tb tc : TE} (sa : Sat p n ta a) (sb : Sat p n tb b) (sc' : Sat p n tc c) {s : Env} {S : Addr → Prop} {H : Hp} {σ : L2.St} {k : Bool} {Q : VK}
    (e : ev (call p.T p.G n) p.G (.chain o1 o2 a b c) s = some (.bl k)) (hs : SR p.K p.FA S H σ s) (q : ∀ H', Same H H' → Q (.bl k) H') : tChain (rC p.K o1) (rC p.K o2) ta tb tc σ H Q := by
  unfold ev at e
  obtain ⟨x', e1, e⟩ := Option.bind_eq_some_iff.mp e
  obtain ⟨y', e2, e⟩ := Option.bind_eq_some_iff.mp e
  obtain ⟨k1, e3, e⟩ := Option.bind_eq_some_iff.mp e
  refine sa s x' S H σ _ e1 hs fun v H1 m1 ra _ _ => sb s y' S H1 σ _ e2 (hs.mono m1) fun u H2 m2 rb _ _ => ?_
  refine cmp_ok e3 (ra.mono m2) rb ⟨k1, rfl, ?_⟩
  cases k1 with
  | false =>
    rw [if_neg Bool.false_ne_true] at e
    cases e
    rw [if_neg Bool.false_ne_true]
    exact q _ (m1.trans m2)
  | true =>
    rw [if_pos rfl] at e
    obtain ⟨z', e4, e⟩ := Option.bind_eq_some_iff.mp e
    obtain ⟨k', e5, e6⟩ := Option.map_eq_some_iff.mp e
    cases e6
    rw [if_pos rfl]
    refine sc' s z' S H2 σ _ e4 (hs.mono (m1.trans m2)) fun w H3 m3 rc _ _ => ?_
    exact cmp_ok e5 (rb.mono m3) rc (q _ ((m1.trans m2).trans m3))
theorem chain_bl {o1 o2 : CO} {a b c : E} {F : Fc} {G : Nat → Option D} {s : Env} (e : ev F G (.chain o1 o2 a b c) s = some d) : ∃ k, d = .bl k := by
  unfold ev at e
  obtain ⟨x', e1, e⟩ := Option.bind_eq_some_iff.mp e
  obtain ⟨y', e2, e⟩ := Option.bind_eq_some_iff.mp e
  obtain ⟨k1, e3, e⟩ := Option.bind_eq_some_iff.mp e
  split at e
  · obtain ⟨z', e4, e⟩ := Option.bind_eq_some_iff.mp e
    obtain ⟨k', e5, e6⟩ := Option.map_eq_some_iff.mp e
    exact ⟨_, e6.symm⟩
  · cases e
    exact ⟨_, rfl⟩
theorem good_chain {o1 o2 : CO} {p1 p2 : CmpOp} {a b c : E} {x y z : Expr} {pos : Pos} (h1 : cmpEq (pyCmp o1) p1 = true) (h2 : cmpEq (pyCmp o2) p2 = true) (hm : notSet z = true) (ha : GoodE p n N sc a x) (hb : GoodE p n N sc b y) (hc : GoodE p n N sc c z) :
    GoodE p n N sc (.chain o1 o2 a b c) (.Compare x [p1, p2] [y, z] pos) ∧ GoodT p n N sc (.chain o1 o2 a b c) (.Compare x [p1, p2] [y, z] pos) := by
  obtain ⟨ta, pa, sa⟩ := ha
  obtain ⟨tb, pb, sb⟩ := hb
  obtain ⟨tc, pc, sc'⟩ := hc
  cases cmpEq_ok h1
  cases cmpEq_ok h2
  constructor
  · refine ⟨tChain (rC p.K o1) (rC p.K o2) ta tb tc, fun X hx => pe_chain (by rw [← hx.K]; exact opC (hu65 hx.room) o1) (by rw [← hx.K]; exact opC (hu65 hx.room) o2) (pa X hx) (pb X hx) (pc X hx) (lmark_ok hm), fun s d S H σ Q e hs q => ?_⟩
    obtain ⟨k, rfl⟩ := chain_bl e
    exact chain_sat sa sb sc' e hs fun H' m => (q.ok m).bl
  · refine ⟨tTest (tChain (rC p.K o1) (rC p.K o2) ta tb tc), fun X hx => pt_chain (by rw [← hx.K]; exact opC (hu65 hx.room) o1) (by rw [← hx.K]; exact opC (hu65 hx.room) o2) (pa X hx) (pb X hx) (pc X hx) (lmark_ok hm), fun s k S H σ Q e hs q => ?_⟩
    exact chain_sat sa sb sc' e hs fun H' m => ⟨k, rfl, q H' m⟩
/-! ### and, or, if -/
theorem good_an {a b : E} {x y : Expr} {r : List Expr} {pos : Pos} (nb : al b = false) (ha : GoodE p n N sc a x) (hb : GoodE p n N sc b (.BoolOp .And (y :: r) pos)) : GoodE p n N sc (.an a b) (.BoolOp .And (x :: y :: r) pos) := by
  obtain ⟨ta, pa, sa⟩ := ha
  obtain ⟨tb, pb, sb⟩ := hb
  refine ⟨_, fun X hx => pe_and (pa X hx) (pb X hx), fun s d S H σ Q e hs q => ?_⟩
  unfold ev at e
  obtain ⟨x', e1, e⟩ := Option.bind_eq_some_iff.mp e
  refine sa s x' S H σ _ e1 hs fun v H1 m1 ra _ _ => ?_
  split at e
  · cases ra.bl
    refine ⟨true, rfl, ?_⟩
    rw [if_pos rfl]
    exact sb s d S H1 σ _ e (hs.mono m1) fun u H2 m2 rb qb fb => q u H2 (m1.trans m2) rb (fun _ => qb nb) fun z => (fb z).back m1
  · cases e
    cases ra.bl
    refine ⟨false, rfl, ?_⟩
    rw [if_neg Bool.false_ne_true]
    exact (q.ok m1).bl
  · cases e
theorem good_orr {a b : E} {x y : Expr} {r : List Expr} {pos : Pos} (nb : al b = false) (ha : GoodE p n N sc a x) (hb : GoodE p n N sc b (.BoolOp .Or (y :: r) pos)) : GoodE p n N sc (.orr a b) (.BoolOp .Or (x :: y :: r) pos) := by
  obtain ⟨ta, pa, sa⟩ := ha
  obtain ⟨tb, pb, sb⟩ := hb
  refine ⟨_, fun X hx => pe_or (pa X hx) (pb X hx), fun s d S H σ Q e hs q => ?_⟩
  unfold ev at e
  obtain ⟨x', e1, e⟩ := Option.bind_eq_some_iff.mp e
  refine sa s x' S H σ _ e1 hs fun v H1 m1 ra _ _ => ?_
  split at e
  · cases e
    cases ra.bl
    refine ⟨true, rfl, ?_⟩
    rw [if_pos rfl]
    exact (q.ok m1).bl
  · cases ra.bl
    refine ⟨false, rfl, ?_⟩
    rw [if_neg Bool.false_ne_true]
    exact sb s d S H1 σ _ e (hs.mono m1) fun u H2 m2 rb qb fb => q u H2 (m1.trans m2) rb (fun _ => qb nb) fun z => (fb z).back m1
  · cases e
theorem good_one {op : BoolOp} {b : E} {y : Expr} {pos : Pos} (hb : GoodE p n N sc b y) : GoodE p n N sc b (.BoolOp op [y] pos) := by
  obtain ⟨tb, pb, sb⟩ := hb
  exact ⟨tb, fun X hx => pe_one (pb X hx), sb⟩
theorem goodT_one {op : BoolOp} {b : E} {y : Expr} {pos : Pos} (hb : GoodT p n N sc b y) : GoodT p n N sc b (.BoolOp op [y] pos) := by
  obtain ⟨tb, pb, sb⟩ := hb
  refine ⟨tb, fun X hx => ?_, sb⟩
  cases op with
  | And => exact (pw_and1 (pb X hx)).pt
  | Or => exact (pw_or1 (pb X hx)).pt
theorem pw_of {X : Cx} {op : BoolOp} {vs : List Expr} {pos : Pos} {t : TT} (h : PT X (.BoolOp op vs pos) t) : PW X (.BoolOp op vs pos) t := ⟨fun _ => h.run⟩
theorem goodT_an {a b : E} {x y : Expr} {r : List Expr} {pos : Pos} (ha : GoodT p n N sc a x) (hb : GoodT p n N sc b (.BoolOp .And (y :: r) pos)) : GoodT p n N sc (.an a b) (.BoolOp .And (x :: y :: r) pos) := by
  obtain ⟨ta, pa, sa⟩ := ha
  obtain ⟨tb, pb, sb⟩ := hb
  refine ⟨_, fun X hx => (pw_and (pa X hx) (pw_of (pb X hx))).pt, fun s k S H σ Q e hs q => ?_⟩
  unfold ev at e
  obtain ⟨x', e1, e⟩ := Option.bind_eq_some_iff.mp e
  split at e
  · refine sa s _ S H σ _ e1 hs fun H1 m1 => ?_
    rw [if_pos rfl]
    exact sb s k S H1 σ _ e (hs.mono m1) fun H2 m2 => q H2 (m1.trans m2)
  · cases e
    refine sa s _ S H σ _ e1 hs fun H1 m1 => ?_
    rw [if_neg Bool.false_ne_true]
    exact q H1 m1
  · cases e
theorem goodT_orr {a b : E} {x y : Expr} {r : List Expr} {pos : Pos} (ha : GoodT p n N sc a x) (hb : GoodT p n N sc b (.BoolOp .Or (y :: r) pos)) : GoodT p n N sc (.orr a b) (.BoolOp .Or (x :: y :: r) pos) := by
  obtain ⟨ta, pa, sa⟩ := ha
  obtain ⟨tb, pb, sb⟩ := hb
  refine ⟨_, fun X hx => (pw_or (pa X hx) (pw_of (pb X hx))).pt, fun s k S H σ Q e hs q => ?_⟩
  unfold ev at e
  obtain ⟨x', e1, e⟩ := Option.bind_eq_some_iff.mp e
  split at e
  · cases e
    refine sa s _ S H σ _ e1 hs fun H1 m1 => ?_
    rw [if_pos rfl]
    exact q H1 m1
  · refine sa s _ S H σ _ e1 hs fun H1 m1 => ?_
    rw [if_neg Bool.false_ne_true]
    exact sb s k S H1 σ _ e (hs.mono m1) fun H2 m2 => q H2 (m1.trans m2)
  · cases e
theorem good_ife {c a b : E} {z x y : Expr} {pos : Pos} (na : al a = false) (nb : al b = false) (hc : GoodT p n N sc c z) (ha : GoodE p n N sc a x) (hb : GoodE p n N sc b y) : GoodE p n N sc (.ife c a b) (.IfExp z x y pos) := by
  obtain ⟨tc, pc, sc'⟩ := hc
  obtain ⟨ta, pa, sa⟩ := ha
  obtain ⟨tb, pb, sb⟩ := hb
  refine ⟨_, fun X hx => pe_ifExp (pc X hx) (pa X hx) (pb X hx), fun s d S H σ Q e hs q => ?_⟩
  unfold ev at e
  obtain ⟨x', e1, e⟩ := Option.bind_eq_some_iff.mp e
  split at e
  · refine sc' s _ S H σ _ e1 hs fun H1 m1 => ?_
    rw [if_pos rfl]
    exact sa s d S H1 σ _ e (hs.mono m1) fun u H2 m2 rb qb fb => q u H2 (m1.trans m2) rb (fun _ => qb na) fun w => (fb (ba w).1).back m1
  · refine sc' s _ S H σ _ e1 hs fun H1 m1 => ?_
    rw [if_neg Bool.false_ne_true]
    exact sb s d S H1 σ _ e (hs.mono m1) fun u H2 m2 rb qb fb => q u H2 (m1.trans m2) rb (fun _ => qb nb) fun w => (fb (ba w).2).back m1
  · cases e
/-- a test by its value -/
theorem isTrue_plain' {x : Expr} (h : plainT x = true) (env : PySem.Env) (whole : Sem Value) : isTrue x env whole = (do let v ← whole; standAt x.pos; holding [v] (truthy v)) := by
  cases x <;> first | rfl | cases h
theorem goodT_val {e : E} {x : Expr} (h : plainT x = true) (he : GoodE p n N sc e x) : GoodT p n N sc e x := by
  obtain ⟨t, pt, st⟩ := he
  refine ⟨_, fun X hx => pt_val (pt X hx) (isTrue_plain' h X.env), fun s k S H σ Q e hs q => ?_⟩
  exact st s _ S H σ _ e hs fun v H1 m1 ra _ _ => ⟨k, ra.bl, q H1 m1⟩
/-! ### lists of expressions, displays -/
theorem good_nil : GoodA p n N sc [] [] := ⟨tNil, fun X _ => pa_nil, fun s ds S H σ Q e hs q => by
  unfold evs at e
  cases e
  exact q [] H (Same.refl _) trivial fun _ => .nil⟩
theorem good_cons {e : E} {es : List E} {x : Expr} {xs : List Expr} (hn : notStar x = true) (h : GoodE p n N sc e x) (hs : GoodA p n N sc es xs) : GoodA p n N sc (e :: es) (x :: xs) := by
  obtain ⟨t, pt, st⟩ := h
  obtain ⟨ts, pts, sts⟩ := hs
  refine ⟨_, fun X hx => pa_cons (pt X hx) (pts X hx) (star_cons hn), fun s ds S H σ Q e' hs q => ?_⟩
  unfold evs at e'
  obtain ⟨d, e1, e'⟩ := Option.bind_eq_some_iff.mp e'
  obtain ⟨r, e2, rfl⟩ := Option.map_eq_some_iff.mp e'
  refine st s d S H σ _ e1 hs fun v H1 m1 ra qa _ => sts s r S H1 σ _ e2 (hs.mono m1) fun vs H2 m2 rs qs => ?_
  refine q (v :: vs) H2 (m1.trans m2) ⟨ra.mono m2, rs⟩ fun c => ?_
  rw [List.all_cons] at c
  obtain ⟨c1, c2⟩ := ba c
  exact .cons ((qa (by simpa using c1)).mono (gd_mono m2)) (qs c2)
theorem good_tup {es : List E} {xs : List Expr} {k : Nat} {pos : Pos} (c : es.all (!al ·) = true) (h : GoodA p n N sc es xs) : GoodE p n N sc (.tup es) (.Tuple xs k pos) := by
  obtain ⟨t, pt, st⟩ := h
  refine ⟨_, fun X hx => pe_tup (pt X hx), fun s d S H σ Q e hs q => ?_⟩
  unfold ev at e
  obtain ⟨ds, e1, e⟩ := Option.bind_eq_some_iff.mp e
  split at e
  · cases e
    rename_i hz
    refine st s ds S H σ _ e1 hs fun vs H1 m1 _ qs => ⟨by rw [(qs c).length]; exact hz, fun a ha => ?_⟩
    exact (q.ok m1).newT (hs.dom.mono m1) ha (qs c)
  · cases e
theorem good_lst {es : List E} {xs : List Expr} {pos : Pos} (c : es.all (!al ·) = true) (h : GoodA p n N sc es xs) : GoodE p n N sc (.lst es) (.List xs pos) := by
  obtain ⟨t, pt, st⟩ := h
  refine ⟨_, fun X hx => pe_lst (pt X hx), fun s d S H σ Q e hs q => ?_⟩
  unfold ev at e
  obtain ⟨ds, e1, e⟩ := Option.bind_eq_some_iff.mp e
  split at e
  · cases e
    rename_i hz
    refine st s ds S H σ _ e1 hs fun vs H1 m1 _ qs => ⟨by rw [(qs c).length]; exact hz, fun a ha => ?_⟩
    exact (q.ok m1).newL (hs.dom.mono m1) ha (qs c)
  · cases e
end
end PL

/-! PL6: subscripts, slices, calls, comprehensions; the whole of expressions. -/
namespace PL
open PySem PySem.Spec L2
section
variable {p : Pr} {n : Nat} {N : List Str} {sc : Scope} {S : Addr → Prop} {H H1 H2 : Hp} {d : D} {Q : VK} {a f : Bool}
/-! ### subscripts, slices -/
theorem plainIx {b : Expr} (h : notSlice b = true) : PlainIx b := by
  intro o i
  cases b <;> first | rfl | cases h
theorem good_ix {a b : E} {x y : Expr} {pos : Pos} (hn : notSlice y = true) (ha : GoodE p n N sc a x) (hb : GoodE p n N sc b y) : GoodE p n N sc (.ix a b) (.Subscript x y pos) := by
  obtain ⟨ta, pa, sa⟩ := ha
  obtain ⟨tb, pb, sb⟩ := hb
  refine ⟨tOp (rIxA p.K) ta tb, fun X hx => pe_ix (by rw [← hx.K]; exact ix_any (by have := hu65 hx.room; omega)) (pa X hx) (pb X hx) (plainIx hn), fun s d S H σ Q e hs q => ?_⟩
  unfold ev at e
  obtain ⟨x', e1, e⟩ := Option.bind_eq_some_iff.mp e
  obtain ⟨y', e2, e3⟩ := Option.bind_eq_some_iff.mp e
  refine sa s x' S H σ _ e1 hs fun v H1 m1 ra _ _ => sb s y' S H1 σ _ e2 (hs.mono m1) fun u H2 m2 rb _ _ => ?_
  exact ix_ok e3 (ra.mono m2) rb fun w r => q w H2 (m1.trans m2) (.inl r) (fun _ => r) fun z => by cases z
theorem Rs.rev {K : PySem.W.Frag} {FA : Nat → Addr} {G : Hp} : ∀ {vs : List V} {ds : List D}, Rs K FA G vs ds → Rs K FA G vs.reverse ds.reverse
  | _, _, .nil => .nil
  | _, _, .cons h r => by
    rw [List.reverse_cons, List.reverse_cons]
    exact (Rs.rev r).append (.cons h .nil)
theorem good_revl {a : E} {x : Expr} {k : Nat} {p1 p2 p3 pos : Pos} (ha : GoodE p n N sc a x) : GoodE p n N sc (.revl a) (.Subscript x (.Slice none none (some (.UnaryOp .USub (.Constant (.int 1) k p1) p2)) p3) pos) := by
  obtain ⟨ta, pa, sa⟩ := ha
  refine ⟨tRevL p.K ta, fun X hx => by rw [← hx.K]; exact pe_revL (pa X hx), fun s d S H σ Q e hs q => ?_⟩
  unfold ev at e
  obtain ⟨x', e1, e2⟩ := Option.bind_eq_some_iff.mp e
  cases x' <;> first | (cases e2; done) | skip
  cases e2
  refine sa s _ S H σ _ e1 hs fun v H1 m1 ra _ _ => ?_
  obtain ⟨b, vs, rfl, h, r⟩ := ra.lst
  exact ⟨b, vs, rfl, SqL.of h, fun p hp => (q.ok m1).newL (hs.dom.mono m1) hp r.rev⟩
theorem good_rdn {i : Nat} {k : E} {x : Str} {y : Expr} {q1 pos : Pos} (hN : N[i]? = some x) (hv : visB sc x = true) (hn : notSlice y = true) (hk : GoodE p n N sc k y) : GoodE p n N sc (.rdn i k) (.Subscript (.Name x q1) y pos) := by
  obtain ⟨tk, pk, sk⟩ := hk
  refine ⟨tOp (rIx p.K) (tVar i) tk, fun X hx => pe_ix (by rw [← hx.K]; exact ix_seq) (good_name hN hv X hx) (pk X hx) (plainIx hn), fun s d S H σ Q e hs q => ?_⟩
  unfold ev at e
  obtain ⟨xss, e1, e⟩ := Option.bind_eq_some_iff.mp e
  obtain ⟨sl, e0, e1⟩ := Option.bind_eq_some_iff.mp e1
  cases sl <;> cases e1
  obtain ⟨y', e2, e3⟩ := Option.bind_eq_some_iff.mp e
  obtain ⟨a, bs, h1, h2, h3, h4, h5⟩ := hs.on i _ e0
  refine ⟨_, h1, sk s y' S H σ _ e2 hs fun u H1 m1 rb _ _ => ?_⟩
  split at e3
  · obtain ⟨xs, e4, rfl⟩ := Option.map_eq_some_iff.mp e3
    cases rb.int
    unfold atI at e4
    obtain ⟨k0, e5, e6⟩ := Option.bind_eq_some_iff.mp e4
    obtain ⟨b, vs, g1, g2, g3, g4⟩ := h5.get k0 e6
    refine .inl ⟨a, bs.map V.ref, _, .ref b, rfl, rfl, SqL.of (m1 _ _ h3), ?_, q (.ref b) H1 m1 (.inr (.inl ⟨b, vs, xs, rfl, rfl, m1 _ _ g3, g4.mono (gd_mono m1)⟩)) (fun z => by cases z) fun z => by cases z⟩
    unfold atI
    rw [List.length_map, h5.len, e5, Option.bind_some, List.getElem?_map, g1]
    rfl
  · cases e3
/-- a slice's end -/
def SatO (p : Pr) (n : Nat) (t : TO) (e : E) : Prop := ∀ (s : Env) (o : Option Int) (S : Addr → Prop) (H : Hp) (σ : L2.St) (Q : Option Int → Hp → Prop),
  (if e.isNo then some none else (ev (call p.T p.G n) p.G e s).bind endD) = some o → SR p.K p.FA S H σ s → (∀ H', Same H H' → Q o H') → t σ H Q
def GoodO (p : Pr) (n : Nat) (N : List Str) (sc : Scope) (e : E) (x : Option Expr) : Prop := ∃ t : TO, (∀ X, XF p n N sc X → PO X x t) ∧ SatO p n t e
theorem goodO_none {e : E} (h : e.isNo = true) : GoodO p n N sc e none := ⟨_, fun X _ => po_none, fun s o S H σ Q e hs q => by
  rw [h, if_pos rfl] at e
  cases e
  exact q H (Same.refl _)⟩
theorem goodO_some {e : E} {x : Expr} (h : e.isNo = false) (he : GoodE p n N sc e x) : GoodO p n N sc e (some x) := by
  obtain ⟨t, pt, st⟩ := he
  refine ⟨_, fun X hx => po_some (pt X hx), fun s o S H σ Q e hs q => ?_⟩
  rw [h, if_neg Bool.false_ne_true] at e
  obtain ⟨d, e1, e2⟩ := Option.bind_eq_some_iff.mp e
  refine st s d S H σ _ e1 hs fun v H1 m1 ra _ _ => ?_
  cases d <;> cases e2
  exact ⟨_, ra.int, q H1 m1⟩
theorem good_sl {a lo hi : E} {x : Expr} {l h : Option Expr} {p2 pos : Pos} (ha : GoodE p n N sc a x) (hl : GoodO p n N sc lo l) (hh : GoodO p n N sc hi h) : GoodE p n N sc (.sl a lo hi) (.Subscript x (.Slice l h none p2) pos) := by
  obtain ⟨ta, pa, sa⟩ := ha
  obtain ⟨tl, pl, sl⟩ := hl
  obtain ⟨th, ph, sh⟩ := hh
  refine ⟨tSl (rSl p.K) ta tl th, fun X hx => pe_slice (by rw [← hx.K]; exact slR) (pa X hx) (pl X hx) (ph X hx), fun s d S H σ Q e hs q => ?_⟩
  unfold ev at e
  obtain ⟨x', e1, e⟩ := Option.bind_eq_some_iff.mp e
  obtain ⟨l', e2, e⟩ := Option.bind_eq_some_iff.mp e
  obtain ⟨h', e3, e4⟩ := Option.bind_eq_some_iff.mp e
  refine sa s x' S H σ _ e1 hs fun v H1 m1 ra _ _ => sl s l' S H1 σ _ e2 (hs.mono m1) fun H2 m2 => sh s h' S H2 σ _ e3 (hs.mono (m1.trans m2)) fun H3 m3 => ?_
  exact sl_ok e4 (ra.mono (m2.trans m3)) (hs.dom.mono (m1.trans (m2.trans m3))) (q.ok (m1.trans (m2.trans m3)))
/-! ### calls -/
theorem call_len {T : Tab} {G : Nat → Option D} {n : Nat} {f : Nat} {fi : Fn} {xs : List D} {r : D × List D} (e : call T G n f xs = some r) (h : T f = some fi) : (xs ++ fi.dfl).length = fi.ps := by
  cases n with
  | zero => cases e
  | succ n =>
    unfold call at e
    rw [h, Option.bind_some] at e
    split at e
    · assumption
    · cases e
theorem dfl_rs {K : PySem.W.Frag} {FA : Nat → Addr} {G : Hp} : ∀ {ds : List D}, ds.all isDfl = true → Rs K FA G (ds.map dV) ds
  | [], _ => .nil
  | d :: ds, h => by
    rw [List.all_cons] at h
    obtain ⟨h1, h2⟩ := ba h
    exact .cons (dV_ok h1) (dfl_rs h2)
theorem call_sat {fi : Fn} {f : Nat} {es : List E} {ta : TA} (hT : p.T f = some fi) (hd : fi.dfl.all isDfl = true) (sa : SatA p n ta es) (c : es.all (!al ·) = true) : Sat p n (tCall (spF p n fi f) (fi.dfl.map dV) E0 ta) (.call f es) := by
  intro s d S H σ Q e hs q
  unfold ev at e
  obtain ⟨xs, e1, e⟩ := Option.bind_eq_some_iff.mp e
  obtain ⟨⟨d', io⟩, e2, e⟩ := Option.bind_eq_some_iff.mp e
  have hl := call_len e2 hT
  cases io with
  | cons _ _ => cases e
  | nil =>
    cases e
    refine sa s xs S H σ _ e1 hs fun vs H1 m1 _ qs => ?_
    have r := (qs c).append (dfl_rs (K := p.K) (FA := p.FA) (G := gd S H1) hd)
    refine ⟨by rw [r.length]; exact hl, S, xs, _, hs.dom.mono m1, r, e2, fun v H' m' rv fv => q v H' (m1.trans m') (.inl rv) (fun _ => rv) fun z => ?_⟩
    unfold fr at z
    rw [hT] at z
    exact (fv z).back m1
theorem good_call (fc : Facts p n) {f : Nat} {fi : Fn} {es : List E} {x : Expr} {xs : List Expr} {q1 pos : Pos} (hT : p.T f = some fi) (hg : gloB sc fi.name = true) (hst : (x :: xs).all notStar = true) (h : GoodA p n N sc es (x :: xs)) (c : es.all (!al ·) = true) :
    GoodE p n N sc (.call f es) (.Call (.Name fi.name q1) (x :: xs) [] pos) := by
  obtain ⟨ta, pa, sa⟩ := h
  obtain ⟨fd, ds, h1, h2, h3, h4, h5, h6⟩ := fc.fn f fi hT
  refine ⟨_, fun X hx => ?_, call_sat hT h5 sa c⟩
  have hst' := hst
  rw [List.all_cons] at hst'
  obtain ⟨c1, c2⟩ := ba hst'
  exact pe_call (CX := CX0) (k := n) (f := p.FA f) (fd := fd) (ps := fi.names.take fi.ps) (by rw [hx.prog, hx.w, hx.K, hx.mg, hx.base]; exact h6) hx.room (hx.gl hg) (by rw [hx.mg]; exact h1) (by rw [hx.K]; exact h2) (by rw [hx.K]; exact h3) h4 pass0 (pa X hx) (glo_ok hg).2.1 (star_cons c1) (star_none c2)
theorem good_call0 (fc : Facts p n) {f : Nat} {fi : Fn} {q1 pos : Pos} (hT : p.T f = some fi) (hg : gloB sc fi.name = true) : GoodE p n N sc (.call f []) (.Call (.Name fi.name q1) [] [] pos) := by
  obtain ⟨fd, ds, h1, h2, h3, h4, h5, h6⟩ := fc.fn f fi hT
  obtain ⟨ta, pa, sa⟩ := good_nil (p := p) (n := n) (N := N) (sc := sc)
  have sa0 : SatA p n tNil [] := fun s ds S H σ Q e hs q => by
    unfold evs at e
    cases e
    exact q [] H (Same.refl _) trivial fun _ => .nil
  refine ⟨_, fun X hx => ?_, call_sat hT h5 sa0 rfl⟩
  exact pe_call0 (CX := CX0) (k := n) (f := p.FA f) (fd := fd) (ps := fi.names.take fi.ps) (by rw [hx.prog, hx.w, hx.K, hx.mg, hx.base]; exact h6) hx.room (hx.gl hg) (by rw [hx.mg]; exact h1) (by rw [hx.K]; exact h2) (by rw [hx.K]; exact h3) h4 pass0 (glo_ok hg).2.1
mutual
theorem noL_R {K : PySem.W.Frag} {FA : Nat → Addr} {G G' : Hp} (m : ∀ a o, G a = some o → MutO o = false → G' a = some o) : ∀ {v : V} {d : D}, R K FA G v d → noL d = true → R K FA G' v d
  | _, _, .non, _ => .non
  | _, _, .bl b, _ => .bl b
  | _, _, .int i, _ => .int i
  | _, _, .str x, _ => .str x
  | _, _, .tup h r, c => .tup (h.elim (fun q => .inl (q.elim (fun q => .inl (m _ _ q rfl)) fun ⟨o, q⟩ => .inr ⟨o, m _ _ q rfl⟩)) .inr) (noLs_R m r (by simpa [noL] using c))
  | _, _, .lst _ _, c => by simp [noL] at c
  | _, _, .fls _ _, c => by simp [noL] at c
  | _, _, .dcs _ _ _, c => by simp [noL] at c
  | _, _, .fn f h, _ => .fn f h
theorem noLs_R {K : PySem.W.Frag} {FA : Nat → Addr} {G G' : Hp} (m : ∀ a o, G a = some o → MutO o = false → G' a = some o) : ∀ {vs : List V} {ds : List D}, Rs K FA G vs ds → noLs ds = true → Rs K FA G' vs ds
  | _, _, .nil, _ => .nil
  | _, _, .cons h r, c => by
    simp only [noLs] at c
    obtain ⟨c1, c2⟩ := ba c
    exact .cons (noL_R m h c1) (noLs_R m r c2)
end
theorem RAs.all : ∀ {vs : List V} {ds : List D}, RAs p.K p.FA S H vs ds → Rs p.K p.FA H vs ds
  | [], [], _ => .nil
  | _ :: _, _ :: _, h => .cons h.1.all (RAs.all h.2)
  | [], _ :: _, h => h.elim
  | _ :: _, [], h => h.elim
/-- a call that is handed lists of one's own: its answer has none -/
theorem callb_sat {fi : Fn} {f : Nat} {es : List E} {ta : TA} (hT : p.T f = some fi) (hd : fi.dfl.all isDfl = true) (sa : SatA p n ta es) : Sat p n (tCall (spF p n fi f) (fi.dfl.map dV) E0 ta) (.callb f es) := by
  intro s d S H σ Q e hs q
  unfold ev at e
  obtain ⟨xs, e1, e⟩ := Option.bind_eq_some_iff.mp e
  obtain ⟨⟨d', io⟩, e2, e⟩ := Option.bind_eq_some_iff.mp e
  have hl := call_len e2 hT
  cases io with
  | cons _ _ => cases e
  | nil =>
    have e' : (if noL d' = true then some d' else none) = some d := e
    by_cases hn : noL d' = true
    · rw [if_pos hn] at e'
      cases e'
      refine sa s xs S H σ _ e1 hs fun vs H1 m1 rs _ => ?_
      have same0 : ∀ H' : Hp, gd (fun _ => False) H' = H' := fun H' => by
        funext a
        unfold gd
        rw [if_neg fun z => z]
      have r := (RAs.all rs).append (dfl_rs (K := p.K) (FA := p.FA) (G := H1) hd)
      refine ⟨by rw [r.length]; exact hl, fun _ => False, xs, _, fun a z => z.elim, by rw [same0]; exact r, e2, fun v H' m' rv fv => ?_⟩
      rw [same0] at rv
      have dm := hs.dom.mono (m1.trans m')
      have rv' : R p.K p.FA (gd S H') v d := noL_R (fun a o e hne => by
        refine gd_of (fun z => ?_) e
        obtain ⟨o', q, hm⟩ := dm a z
        rw [q] at e
        cases e
        rw [hm] at hne
        cases hne) rv hn
      exact q v H' (m1.trans m') (.inl rv') (fun _ => rv') fun _ => Fr.no (fun ds e => by rw [e] at hn; cases hn) fun ks ds e => by rw [e] at hn; cases hn
    · rw [if_neg hn] at e'
      cases e'
theorem good_callb (fc : Facts p n) {f : Nat} {fi : Fn} {es : List E} {x : Expr} {xs : List Expr} {q1 pos : Pos} (hT : p.T f = some fi) (hg : gloB sc fi.name = true) (hst : (x :: xs).all notStar = true) (h : GoodA p n N sc es (x :: xs)) :
    GoodE p n N sc (.callb f es) (.Call (.Name fi.name q1) (x :: xs) [] pos) := by
  obtain ⟨ta, pa, sa⟩ := h
  obtain ⟨fd, ds, h1, h2, h3, h4, h5, h6⟩ := fc.fn f fi hT
  refine ⟨_, fun X hx => ?_, callb_sat hT h5 sa⟩
  have hst' := hst
  rw [List.all_cons] at hst'
  obtain ⟨c1, c2⟩ := ba hst'
  exact pe_call (CX := CX0) (k := n) (f := p.FA f) (fd := fd) (ps := fi.names.take fi.ps) (by rw [hx.prog, hx.w, hx.K, hx.mg, hx.base]; exact h6) hx.room (hx.gl hg) (by rw [hx.mg]; exact h1) (by rw [hx.K]; exact h2) (by rw [hx.K]; exact h3) h4 pass0 (pa X hx) (glo_ok hg).2.1 (star_cons c1) (star_none c2)
/-! ### constant dicts, tuples -/
theorem noSl_of {b : Expr} (h : notSlice b = true) : NoSl b := by
  intro o i
  cases b <;> first | rfl | cases h
theorem good_dgT (fc : Facts p n) {g : Nat} {e : E} {y : Expr} {kvs : List (D × D)} {q1 apos pos : Pos} (hG : p.G g = some (.dct kvs)) (hT : isTk (p.G g) = true) (hg : gloB sc (p.t.GN g) = true) (hl : (apos.endLine == pos.line) = true) (hst : notStar y = true) (he : GoodE p n N sc e y) :
    GoodE p n N sc (.dgT g e) (.Call (.Attribute (.Name (p.t.GN g) q1) (Str.ofString "get") apos) [y] [] pos) := by
  obtain ⟨a, hm, hd⟩ := fc.gdT g kvs hG hT
  obtain ⟨ta, pa, sa⟩ := good_cons hst he good_nil
  refine ⟨tGetT p.K p.FA kvs ta, fun X hx => ?_, fun s d0 S H σ Q e' hs q => ?_⟩
  · have z := pe_getT (X := X) (FA := p.FA) (d := a) (kvs := kvs) (q1 := q1) (apos := apos) (cpos := pos) (by have := hu65 hx.room; omega) (hx.gl hg) (by rw [hx.mg]; exact hm) (by rw [hx.prog, hx.w, hx.K]; exact hd) (pa X hx) (glo_ok hg).2.1 rfl (by rw [star_cons hst]; rfl) hl (star_cons hst)
    rw [hx.K] at z
    exact z
  · unfold ev at e'
    obtain ⟨k, e1, e'⟩ := Option.bind_eq_some_iff.mp e'
    rw [hG] at e'
    have e2 : (keyT k).map (lookT kvs) = some d0 := e'
    obtain ⟨ks, e3, rfl⟩ := Option.map_eq_some_iff.mp e2
    unfold keyT at e3
    split at e3
    · rename_i ds
      refine sa s [.tup ds] S H σ _ (by unfold evs; rw [e1]; rfl) hs fun vs H1 m1 rs _ => ?_
      obtain ⟨v, rfl, r1⟩ := rs.one
      obtain ⟨b, ws, rfl, hb, hr⟩ := r1.tup
      exact ⟨ks, b, ws, ds, _, rfl, hb, hr, e3, fun v hv => q v H1 m1 (.inl (hv _)) (fun _ => hv _) fun z => by cases z⟩
    · cases e3
theorem good_dix (fc : Facts p n) {g : Nat} {e : E} {y : Expr} {kvs : List (D × D)} {q1 pos : Pos} (hG : p.G g = some (.dct kvs)) (hT : isSk (p.G g) = true) (hg : gloB sc (p.t.GN g) = true) (hn : notSlice y = true) (he : GoodE p n N sc e y) :
    GoodE p n N sc (.dix g e) (.Subscript (.Name (p.t.GN g) q1) y pos) := by
  obtain ⟨a, hm, hd⟩ := fc.gdS g kvs hG hT
  obtain ⟨te, pe, se⟩ := he
  refine ⟨tIxS p.K p.FA kvs te, fun X hx => ?_, fun s d0 S H σ Q e' hs q => ?_⟩
  · have z := pe_ixS (X := X) (FA := p.FA) (d := a) (kvs := kvs) (q1 := q1) (pos := pos) (hx.gl hg) (by rw [hx.mg]; exact hm) (by rw [hx.w, hx.K]; exact hd) (pe X hx) (noSl_of hn) (glo_ok hg).2.1
    rw [hx.K] at z
    exact z
  · unfold ev at e'
    obtain ⟨k, e1, e'⟩ := Option.bind_eq_some_iff.mp e'
    rw [hG] at e'
    have e2 : (keyS k).bind (lookS kvs) = some d0 := e'
    obtain ⟨x, e3, e4⟩ := Option.bind_eq_some_iff.mp e2
    unfold keyS at e3
    split at e3
    · cases e3
      refine se s _ S H σ _ e1 hs fun v H1 m1 ra _ _ => ?_
      exact ⟨x, d0, ra.str, e4, fun v hv => q v H1 m1 (.inl (hv _)) (fun _ => hv _) fun z => by cases z⟩
    · cases e3
theorem find_first {ys : List Str} {z : Str} {j : Nat} (h : (ys.findIdx? fun y => decide (y = z)) = some j) : ys[j]? = some z ∧ ∀ m, m < j → ys[m]? ≠ some z := by
  obtain ⟨hj, h1, h2⟩ := List.findIdx?_eq_some_iff_getElem.mp h
  refine ⟨?_, fun m hm e => ?_⟩
  · rw [List.getElem?_eq_getElem hj, of_decide_eq_true h1]
  · obtain ⟨hl, e⟩ := List.getElem?_eq_some_iff.mp e
    have := h2 m hm
    rw [e] at this
    simp at this
theorem strs_rs0 {K : PySem.W.Frag} {FA : Nat → Addr} {G : Hp} : ∀ {vs : List V} {ds : List D} {bs : List Str}, Rs K FA G vs ds → strsD ds = some bs → vs = bs.map V.str
  | _, _, _, .nil, e => by cases e; rfl
  | _, _, _, .cons h r, e => by
    unfold strsD at e
    split at e
    · rename_i q; cases q
    · rename_i q
      cases q
      obtain ⟨bs, e1, rfl⟩ := Option.map_eq_some_iff.mp e
      cases h
      rw [strs_rs0 r e1]
      rfl
    · cases e
theorem good_tix (fc : Facts p n) {g : Nat} {e : E} {y : Expr} {ds : List D} {q1 apos pos : Pos} (hG : p.G g = some (.tup ds)) (hg : gloB sc (p.t.GN g) = true) (hl : (apos.endLine == pos.line) = true) (hst : notStar y = true) (he : GoodE p n N sc e y) :
    GoodE p n N sc (.tix g e) (.Call (.Attribute (.Name (p.t.GN g) q1) (Str.ofString "index") apos) [y] [] pos) := by
  obtain ⟨a, o, hm, ⟨vs, hv, hr⟩, k1, k2, k3⟩ := fc.gt g ds hG
  obtain ⟨ta, pa, sa⟩ := good_cons hst he good_nil
  refine ⟨tBM p.K "tuple" (fun x xs H Q => ∃ p', ∃ ys : List Str, ∃ z j, x = .ref p' ∧ xs = [.str z] ∧ SqT p.K H p' (ys.map V.str) ∧ ys[j]? = some z ∧ (∀ m, m < j → ys[m]? ≠ some z) ∧ Q (.int (j : Nat)) H) (tC (.ref a)) ta, fun X hx => ?_, fun s d0 S H σ Q e' hs q => ?_⟩
  · rw [← hx.K]
    exact pe_bm PySem.F.plainAttrs_tuple PySem.F.slot_tuple_index PySem.F.type_tuple_index mt_tup_index (pe_glob (hx.gl hg) (by rw [hx.mg]; exact hm) rfl (glo_ok hg).2.1) (pa X hx) rfl (by rw [star_cons hst]; rfl) hl (star_cons hst) rfl
  · unfold ev at e'
    obtain ⟨k, e1, e'⟩ := Option.bind_eq_some_iff.mp e'
    rw [hG] at e'
    have e2 : ((strsD ds).bind fun ys => (keyS k).bind fun z => (ys.findIdx? fun y => decide (y = z)).map fun (j : Nat) => D.int (j : Int)) = some d0 := e'
    obtain ⟨ys, e3, e4⟩ := Option.bind_eq_some_iff.mp e2
    obtain ⟨z, e5, e6⟩ := Option.bind_eq_some_iff.mp e4
    obtain ⟨j, e7, rfl⟩ := Option.map_eq_some_iff.mp e6
    unfold keyS at e5
    split at e5
    · cases e5
      refine ⟨.inr (.inl ⟨rfl, o, k1, k2, k3⟩), ?_⟩
      refine sa s [.str z] S H σ _ (by unfold evs; rw [e1]; rfl) hs fun us H1 m1 rs _ => ?_
      obtain ⟨v, rfl, r1⟩ := rs.one
      cases r1.str
      obtain ⟨f1, f2⟩ := find_first e7
      exact ⟨a, ys, z, j, rfl, rfl, by rw [← strs_rs0 (hr H1) e3]; exact hv H1, f1, f2, (q.ok m1).int⟩
    · cases e5
/-- a def that a slot holds -/
def tCallF (p : Pr) (n i : Nat) (t : TA) : TE := fun σ H Q => ∃ f fi, σ[i]? = some (some (.ref (p.FA f))) ∧ p.T f = some fi ∧ t σ H fun vs H1 => spF p n fi f (vs ++ fi.dfl.map dV) H1 Q E0
theorem good_cloc (fc : Facts p n) {i : Nat} {es : List E} {y : Str} {x : Expr} {xs : List Expr} {q1 pos : Pos} (hN : N[i]? = some y) (hv : visB sc y = true) (hst : (x :: xs).all notStar = true) (h : GoodA p n N sc es (x :: xs)) (c : es.all (!al ·) = true) :
    GoodE p n N sc (.cloc i es) (.Call (.Name y q1) (x :: xs) [] pos) := by
  obtain ⟨ta, pa, sa⟩ := h
  obtain ⟨v1, v2, v3⟩ := vis_ok hv
  refine ⟨tCallF p n i ta, fun X hx => ⟨fun pins s σ H Q I h => ?_⟩, fun s d S H σ Q e hs q => ?_⟩
  · obtain ⟨f, fi, h0, hT, ht⟩ := h
    obtain ⟨fd, ds, h1, h2, h3, h4, h5, h6⟩ := fc.fn f fi hT
    have hst' := hst
    rw [List.all_cons] at hst'
    obtain ⟨c1, c2⟩ := ba hst'
    exact (pe_callL (CX := CX0) (k := n) (i := i) (f := p.FA f) (fd := fd) (ps := fi.names.take fi.ps) (sp := spF p n fi f) (E := E0) (by rw [hx.prog, hx.w, hx.K, hx.mg, hx.base]; exact h6) hx.room (by rw [hx.N]; exact hN) (by rw [hx.sc]; exact v1) (by rw [hx.K]; exact h2) (by rw [hx.K]; exact h3) h4 pass0 (pa X hx) v2 v3 (star_cons c1) (star_none c2)).run pins s σ H Q I ⟨h0, ht⟩
  · unfold ev at e
    obtain ⟨o, e0, e⟩ := Option.bind_eq_some_iff.mp e
    obtain ⟨ds, e1, e⟩ := Option.bind_eq_some_iff.mp e
    split at e
    · rename_i _ f _
      obtain ⟨⟨d', io⟩, e2, e⟩ := Option.bind_eq_some_iff.mp e
      obtain ⟨v, w1, w2⟩ := hs.sh _ _ e0
      cases w2
      have hT : ∃ fi, p.T f = some fi := by
        cases n with
        | zero => cases e2
        | succ n =>
          unfold call at e2
          obtain ⟨fi, e3, _⟩ := Option.bind_eq_some_iff.mp e2
          exact ⟨fi, e3⟩
      obtain ⟨fi, hT⟩ := hT
      obtain ⟨_, _, _, _, _, _, h5, _⟩ := fc.fn f fi hT
      have hl := call_len e2 hT
      cases io with
      | cons _ _ => cases e
      | nil =>
        cases e
        refine ⟨f, fi, w1, hT, sa s ds S H σ _ e1 hs fun vs H1 m1 _ qs => ?_⟩
        have r := (qs c).append (dfl_rs (K := p.K) (FA := p.FA) (G := gd S H1) h5)
        exact ⟨by rw [r.length]; exact hl, S, ds, _, hs.dom.mono m1, r, e2, fun v H' m' rv _ => q v H' (m1.trans m') (.inl rv) (fun _ => rv) fun z => by cases z⟩
    · cases e
/-! ### a dict by its pairs -/
theorem SR.hide {σ : L2.St} {s : Env} {K : PySem.W.Frag} {FA : Nat → Addr} {a : Addr} {o : HO} (h : SR K FA S H σ s) (hn : H a = none) (ho : MutO o = true) : SR K FA (fun b => S b ∨ b = a) (L2.upd H a o) σ s := by
  have m : Same H (L2.upd H a o) := same_new hn
  have mg : Same (gd S H) (gd (fun b => S b ∨ b = a) (L2.upd H a o)) := fun b u e => by
    have hb : H b = some u := gd_sub b u e
    have nb : b ≠ a := ne_of_none hb hn
    have ns : ¬ S b := fun z => by
      unfold gd at e
      rw [if_pos z] at e
      cases e
    rw [gd_of (fun z => z.elim ns nb) (m b u hb)]
  exact ⟨h.len, fun b hb => hb.elim (fun z => h.dom.mono m b z) fun z => ⟨o, by rw [z]; exact L2.upd_same, ho⟩, fun i d e => let ⟨v, h1, h2⟩ := h.sh i d e; ⟨v, h1, h2.mono mg⟩,
    fun i d e => let ⟨a, vs, ds, h1, h2, h3, h4, h5⟩ := h.ow i d e; ⟨a, vs, ds, h1, h2, .inl h3, m _ _ h4, h5.mono mg⟩,
    fun i x e => let ⟨a, bs, h1, h2, h3, h4, h5⟩ := h.on i x e; ⟨a, bs, h1, .inl h2, m _ _ h3, h4, h5.imp (fun _ _ q => .inl q) (fun b _ u q => m b u q) mg⟩,
    fun i ks ds e => let ⟨a, kvs, h1, h2, h3, h4, h5⟩ := h.od i ks ds e; ⟨a, kvs, h1, .inl h2, m _ _ h3, h4, h5.mono mg⟩,
    fun i j b n o1 o2 => h.ap i j b n (o1.back h rfl rfl fun c u _ q => m c u q) (o2.back h rfl rfl fun c u _ q => m c u q)⟩
/-- the values of a display: the dict stands empty meanwhile -/
def SatP (p : Pr) (n : Nat) (ks : List Str) (trs : List (TE × TE)) (es : List E) : Prop := ∀ (s : Env) (ds : List D) (S : Addr → Prop) (H : Hp) (σ : L2.St) (Q : List (V × V) → Hp → Prop),
  evs (call p.T p.G n) p.G es s = some ds → SR p.K p.FA S H σ s → (∀ (vs : List V) H', Same H H' → Rs p.K p.FA (gd S H') vs ds → Q ((ks.zip vs).map fun kv => (V.str kv.1, kv.2)) H') → tPairs trs σ H Q
def GoodP (p : Pr) (n : Nat) (N : List Str) (sc : Scope) (ks : List Str) (es : List E) (keys : List (Option Expr)) (xs : List Expr) : Prop := ∃ trs, (∀ X, XF p n N sc X → ∀ pos, PPs X pos keys xs trs) ∧ SatP p n ks trs es
theorem goodP_nil : GoodP p n N sc [] [] [] [] := ⟨[], fun X _ pos => pps_nil, fun s ds S H σ Q e hs q => by
  unfold evs at e
  cases e
  exact q [] H (Same.refl _) .nil⟩
theorem goodP_cons {k : Str} {ks : List Str} {e : E} {es : List E} {ke x : Expr} {keys : List (Option Expr)} {xs : List Expr} (hk : strC ke = some k) (ha : al e = false) (h : GoodE p n N sc e x) (hs : GoodP p n N sc ks es keys xs) : GoodP p n N sc (k :: ks) (e :: es) (some ke :: keys) (x :: xs) := by
  obtain ⟨t, pt, st⟩ := h
  obtain ⟨ts, pts, sts⟩ := hs
  refine ⟨(tC (.str k), t) :: ts, fun X hx pos => pps_cons ?_ (pt X hx) (pts X hx pos), fun s ds S H σ Q e' hs q => ?_⟩
  · unfold strC at hk
    split at hk
    · cases hk
      exact pe_str
    · cases hk
  · unfold evs at e'
    obtain ⟨d, e1, e'⟩ := Option.bind_eq_some_iff.mp e'
    obtain ⟨r, e2, rfl⟩ := Option.map_eq_some_iff.mp e'
    refine st s d S H σ _ e1 hs fun v H1 m1 _ qa _ => sts s r S H1 σ _ e2 (hs.mono m1) fun vs H2 m2 rs => ?_
    exact q (v :: vs) H2 (m1.trans m2) (.cons ((qa ha).mono (gd_mono m2)) rs)
theorem keysB_len : ∀ {ks : List Str} {keys : List (Option Expr)}, keysB ks keys = true → keys.length = ks.length ∧ keys.all (·.isSome) = true
  | [], [], _ => ⟨rfl, rfl⟩
  | k :: ks, some x :: r, h => by
    unfold keysB at h
    obtain ⟨h1, h2⟩ := keysB_len (ba h).2
    exact ⟨by rw [List.length_cons, List.length_cons, h1], by rw [List.all_cons, h2]; rfl⟩
  | [], _ :: _, h => by cases h
  | _ :: _, [], h => by cases h
  | _ :: _, none :: _, h => by cases h
theorem putK_new {kvs : List (Key × V)} {k : Key} {v : V} (h : k ∉ kvs.map (·.1)) : putK kvs k v = kvs ++ [(k, v)] := by
  unfold putK
  rw [if_neg fun z => h ?_]
  obtain ⟨q, h1, h2⟩ := List.any_eq_true.mp z
  exact List.mem_map.mpr ⟨q, h1, of_decide_eq_true h2⟩
theorem mergeK_new : ∀ {more kvs : List (Key × V)}, ((kvs ++ more).map (·.1)).Nodup → mergeK kvs more = kvs ++ more
  | [], kvs, _ => by rw [List.append_nil]; rfl
  | p :: more, kvs, h => by
    have e : kvs ++ p :: more = (kvs ++ [p]) ++ more := by rw [List.append_assoc]; rfl
    have hn : p.1 ∉ kvs.map (·.1) := fun z => by
      rw [List.map_append, List.map_cons] at h
      exact (List.nodup_append.mp h).2.2 _ z _ List.mem_cons_self rfl
    show mergeK (putK kvs p.1 p.2) more = _
    rw [putK_new hn, e]
    rw [e] at h
    exact mergeK_new h
theorem good_dsp {ks : List Str} {es : List E} {keys : List (Option Expr)} {xs : List Expr} {pos : Pos} (hk : keysB ks keys = true) (hl : ks.length = xs.length) (h0 : keys ≠ []) (h15 : ks.length ≤ 15) (h : GoodP p n N sc ks es keys xs) : GoodE p n N sc (.dsp ks es) (.Dict keys xs pos) := by
  obtain ⟨trs, pt, st⟩ := h
  obtain ⟨k1, k2⟩ := keysB_len hk
  refine ⟨tDisp trs, fun X hx => pe_disp (pt X hx pos) k2 (k1.trans hl) h0 (by rw [k1]; exact h15), fun s d S H σ Q e hs q a hn => ?_⟩
  unfold ev at e
  obtain ⟨ds, e1, e2⟩ := Option.bind_eq_some_iff.mp e
  split at e2
  · rename_i c
    cases e2
    obtain ⟨c1, c2, c3⟩ := c
    refine st s ds (fun b => S b ∨ b = a) (L2.upd H a (.dK [])) σ _ e1 (hs.hide hn rfl) fun vs H1 m1 rs => ?_
    have hlv : ks.length = vs.length := c2.trans rs.length.symm
    have hm : ((ks.zip vs).map fun kv => ((Sum.inr kv.1 : Key), kv.2)).map (·.1) = ks.map Sum.inr := by
      rw [List.map_map]
      have z : (ks.zip vs).map Prod.fst = ks := List.map_fst_zip (by omega)
      rw [show ks.map (Sum.inr : Str → Key) = ((ks.zip vs).map Prod.fst).map Sum.inr by rw [z], List.map_map]
      rfl
    have hv : ((ks.zip vs).map fun kv => ((Sum.inr kv.1 : Key), kv.2)).map (·.2) = vs := by
      rw [List.map_map]
      exact List.map_snd_zip (by omega)
    refine ⟨m1 _ _ L2.upd_same, (ks.zip vs).map fun kv => ((Sum.inr kv.1 : Key), kv.2), ?_, ?_, ?_⟩
    · rw [List.map_map]
      rfl
    · rw [List.length_map, List.length_zip]
      omega
    · rw [mergeK_new (kvs := []) (by
        rw [List.nil_append, hm]
        exact List.Pairwise.map _ (fun _ _ h z => h (by injection z)) c1), List.nil_append]
      have m0 : Same H (L2.upd H1 a (.dK ((ks.zip vs).map fun kv => ((Sum.inr kv.1 : Key), kv.2)))) := fun b u hb => by
        have nb : b ≠ a := ne_of_none hb hn
        rw [L2.upd_ne nb]
        exact m1 b u (by rw [L2.upd_ne nb]; exact hb)
      have rs1 : Rs p.K p.FA (gd (fun b => S b ∨ b = a) (L2.upd H1 a (.dK ((ks.zip vs).map fun kv => ((Sum.inr kv.1 : Key), kv.2))))) vs ds := rs.mono fun b u hb => by
        have h1 := gd_sub b u hb
        have ns : ¬ (S b ∨ b = a) := fun z => by
          unfold gd at hb
          rw [if_pos z] at hb
          cases hb
        rw [gd_of ns]
        rw [L2.upd_ne fun z => ns (.inr z)]
        exact h1
      have nS : ¬ S a := fun z => hs.dom.nn z hn
      have r : R p.K p.FA (gd S (L2.upd H1 a (.dK ((ks.zip vs).map fun kv => ((Sum.inr kv.1 : Key), kv.2))))) (.ref a) (.dcs ks ds) := .dcs (.inl (gd_of nS L2.upd_same)) hm (by
        rw [hv]
        exact rs1.mono (gd_anti fun b z => .inl z))
      exact q _ _ m0 (.inl r) (fun _ => r) fun _ => ⟨(fun ds' e => by cases e), (fun ks' ds' e => by
        cases e
        exact ⟨a, _, rfl, hn, L2.upd_same, hm, by rw [hv]; exact rs1⟩)⟩
  · cases e2
/-! ### built-ins -/
theorem biPE {X : Cx} {f : BI} {x : Expr} {xs : List Expr} {q1 pos : Pos} {t : TA} (hc : X.calm = true) (hu : X.A.units + 70 < cLine) (hg : Gl X (biN f)) (hm : X.mg (biN f) = none) (ha : PA X (x :: xs) t) (hn : biN f ≠ "__name__") (hdb : (biN f == ("__debug__" : Str)) = false) (hst : (x :: xs).all notStar = true) :
    PE X (.Call (.Name (biN f) q1) (x :: xs) [] pos) (tCB (biR X.K f) t) := by
  rw [List.all_cons] at hst
  obtain ⟨c1, c2⟩ := ba hst
  have hv := biV_boot f
  have hcall := biC (X := X) hc hu f
  cases f <;> first
    | exact pe_callB hcall hg hm hv ha hn hdb (star_cons c1) (star_none c2)
    | exact pe_callTy hcall hg hm hv ha hn hdb (star_cons c1) (star_none c2)
theorem good_bi (fc : Facts p n) {f : BI} {es : List E} {x : Expr} {xs : List Expr} {q1 pos : Pos} (hb : biT f = none) (hg : gloB sc (biN f) = true) (hst : (x :: xs).all notStar = true) (h : GoodA p n N sc es (x :: xs)) :
    GoodE p n N sc (.bi f es) (.Call (.Name (biN f) q1) (x :: xs) [] pos) := by
  obtain ⟨ta, pa, sa⟩ := h
  refine ⟨tCB (biR p.K f) ta, fun X hx => ?_, fun s d S H σ Q e hs q => ?_⟩
  · rw [← hx.K]
    exact biPE hx.calm (hu70 hx.room) (hx.gl hg) (by rw [hx.mg]; exact fc.bi f) (pa X hx) (glo_ok hg).2.2 (glo_ok hg).2.1 hst
  · unfold ev at e
    obtain ⟨ds, e1, e2⟩ := Option.bind_eq_some_iff.mp e
    refine sa s ds S H σ _ e1 hs fun vs H1 m1 rs _ => ?_
    have z := bi_ok e2 rs (hs.dom.mono m1) (q.ok m1)
    unfold biX at z
    rw [hb, List.append_nil] at z
    exact z
theorem good_lenn (fc : Facts p n) {i : Nat} {x : Str} {q1 q2 pos : Pos} (hN : N[i]? = some x) (hv : visB sc x = true) (hg : gloB sc (biN .len) = true) :
    GoodE p n N sc (.lenn i) (.Call (.Name (biN .len) q1) [.Name x q2] [] pos) := by
  refine ⟨tCB (biR p.K .len) (tCons (tVar i) tNil), fun X hx => ?_, fun s d S H σ Q e hs q => ?_⟩
  · rw [← hx.K]
    exact biPE hx.calm (hu70 hx.room) (hx.gl hg) (by rw [hx.mg]; exact fc.bi .len) (pa_cons (good_name hN hv X hx) pa_nil (star_cons rfl)) (glo_ok hg).2.2 (glo_ok hg).2.1 rfl
  · unfold ev at e
    obtain ⟨xss, e1, rfl⟩ := Option.map_eq_some_iff.mp e
    obtain ⟨sl, e0, e1⟩ := Option.bind_eq_some_iff.mp e1
    cases sl <;> cases e1
    obtain ⟨a, bs, h1, h2, h3, h4, h5⟩ := hs.on i _ e0
    refine ⟨_, h1, ?_⟩
    refine ⟨_, _, rfl, .inl ⟨bs.map V.ref, SqL.of h3, rfl⟩, ?_⟩
    rw [List.length_map, h5.len]
    exact (q.ok (Same.refl _)).int
theorem tyPE {X : Cx} {t : String} {x : Str} {pos : Pos} (hx : x = Str.ofString t) (ht : t = "int" ∨ t = "str" ∨ t = "tuple" ∨ t = "list" ∨ t = "bool" ∨ t = "dict") (hg : Gl X x) (hm : X.mg x = none) (hn : x ≠ "__name__") (hdb : (x == ("__debug__" : Str)) = false) : PE X (.Name x pos) (tC (.ty t)) := by
  refine pe_bltn (u := .type t) hg hm ?_ rfl hn hdb
  subst hx
  rcases ht with rfl | rfl | rfl | rfl | rfl | rfl <;> decide +kernel
theorem biT_in {f : BI} {t : String} (h : biT f = some t) : t = "int" ∨ t = "str" ∨ t = "tuple" ∨ t = "list" ∨ t = "bool" ∨ t = "dict" := by
  cases f <;> first | (cases h; done) | (cases h; simp)
theorem ty_mg (fc : Facts p n) {t : String} (ht : t = "int" ∨ t = "str" ∨ t = "tuple" ∨ t = "list" ∨ t = "bool" ∨ t = "dict") : p.mg (Str.ofString t) = none := by
  rcases ht with rfl | rfl | rfl | rfl | rfl | rfl
  · exact fc.bi .int_
  · exact fc.bi .str_
  · exact fc.bi .tuple_
  · exact fc.bi .list_
  · exact fc.bool
  · exact fc.dict
theorem good_isi (fc : Facts p n) {f : BI} {t : String} {e1 : E} {x : Expr} {z : Str} {q1 q2 pos : Pos} (hb : biT f = some t) (hg : gloB sc (biN f) = true) (hz : z = Str.ofString t) (hgz : gloB sc z = true) (hst : notStar x = true) (h : GoodE p n N sc e1 x) :
    GoodE p n N sc (.bi f [e1]) (.Call (.Name (biN f) q1) [x, .Name z q2] [] pos) := by
  obtain ⟨te, pe, se⟩ := h
  refine ⟨tCB (biR p.K f) (tCons te (tCons (tC (.ty t)) tNil)), fun X hx => ?_, fun s d S H σ Q e hs q => ?_⟩
  · rw [← hx.K]
    refine biPE hx.calm (hu70 hx.room) (hx.gl hg) (by rw [hx.mg]; exact fc.bi f) (pa_cons (pe X hx) (pa_cons (tyPE hz (biT_in hb) (hx.gl hgz) ?_ (glo_ok hgz).2.2 (glo_ok hgz).2.1) pa_nil) (star_cons hst)) (glo_ok hg).2.2 (glo_ok hg).2.1 (by rw [List.all_cons, hst]; rfl)
    rw [hx.mg, hz]
    exact ty_mg fc (biT_in hb)
  · unfold ev at e
    obtain ⟨ds, e1', e2⟩ := Option.bind_eq_some_iff.mp e
    unfold evs at e1'
    obtain ⟨d1, e3, e4⟩ := Option.bind_eq_some_iff.mp e1'
    unfold evs at e4
    cases e4
    refine se s d1 S H σ _ e3 hs fun v H1 m1 ra _ _ => ?_
    have z := bi_ok (vs := [v]) e2 ⟨ra, trivial⟩ (hs.dom.mono m1) (q.ok m1)
    unfold biX at z
    rw [hb] at z
    exact z
/-! ### methods of texts -/
theorem strs_rs {K : PySem.W.Frag} {FA : Nat → Addr} {G : Hp} : ∀ {vs : List V} {ds : List D} {bs : List Str}, Rs K FA G vs ds → strsD ds = some bs → vs = bs.map V.str
  | _, _, _, .nil, e => by cases e; rfl
  | _, _, _, .cons h r, e => by
    unfold strsD at e
    split at e
    · rename_i q; cases q
    · rename_i q
      cases q
      obtain ⟨bs, e1, rfl⟩ := Option.map_eq_some_iff.mp e
      cases h
      rw [strs_rs r e1]
      rfl
    · cases e
def meI : MI → String
  | .index => "list.index"
  | .find => "str.find"
  | .split => "str.split"
  | .join => "str.join"
  | .get => "dict.get"
  | .values => "dict.values"
def meTy : MI → String
  | .index => "list"
  | _ => "str"
/-- what a dict has at a key, or the default -/
def rGet : V → List V → Hp → VK → Prop := fun x xs H Q => ∃ a y d o, x = .ref a ∧ xs = [y, d] ∧ DGet H a y o ∧ Q (o.getD d) H
theorem mt_get {X : Cx} (hu : X.A.units + 1 < cLine) : MtR X "dict.get" rGet := by
  intro pins s σ H x xs v us Q I rx rxs h
  obtain ⟨a, y, d, o, rfl, rfl, g, q⟩ := h
  cases rx
  obtain ⟨u, r, rfl, ry, rd⟩ := rxs.two
  exact d_get2 hu I g ry rd fun w' s' I' rw' => ⟨_, H, I', rw', q⟩
def meR (K : PySem.W.Frag) : MI → V → List V → Hp → VK → Prop
  | .index => rIndex K
  | .find => fun x xs H Q => ∃ (a b : Str) (i : Int), x = .str a ∧ xs = [.str b, .int i] ∧ Q (.int (Txt.find3 a b i)) H
  | .split => fun x xs H Q => ∃ a b, x = .str a ∧ xs = [.str b] ∧ (b.length == 0) = false ∧ a.length + 2 ≤ sizeLine ∧ rNewStrs (Txt.split a b) H Q
  | .join => fun x xs H Q => ∃ a p, ∃ ys : List Str, x = .str a ∧ xs = [.ref p] ∧ (SqL K H p (ys.map V.str) ∨ SqT K H p (ys.map V.str)) ∧ (ys.map (·.length)).sum + ys.length * a.length ≤ 16777216 ∧ Q (.str (Txt.join a ys)) H
  | _ => fun _ _ _ _ => False
theorem meM {X : Cx} (hu : X.A.units + 1 < cLine) : ∀ m : MI, MtR X (meI m) (meR X.K m)
  | .find => mt_find3
  | .split => mt_split
  | .join => mt_join
  | .index => mt_index
  | .get => fun _ _ _ _ _ _ _ _ _ _ _ _ h => h.elim
  | .values => fun _ _ _ _ _ _ _ _ _ _ _ _ h => h.elim
theorem meS {k : Nat} : ∀ {m : MI}, meOk m k = true → Slot (meTy m) (meN m) (meI m) ∧ typeOf (.builtin (meI m)) = pure (.type "method_descriptor")
  | .find, _ => ⟨PySem.F.slot_str_find, PySem.F.type_str_find⟩
  | .split, _ => ⟨PySem.F.slot_str_split, PySem.F.type_str_split⟩
  | .join, _ => ⟨PySem.F.slot_str_join, PySem.F.type_str_join⟩
  | .index, _ => ⟨PySem.F.slot_list_index, PySem.F.type_list_index⟩
  | .get, h => by unfold meOk at h; cases h
  | .values, h => by unfold meOk at h; cases h
theorem findD_mem : ∀ {ks : List Str} {vs : List D} {k : Str} {d : D}, findD ks vs k = some d → d ∈ vs
  | [], _, _, _, e => by unfold findD at e; cases e
  | _ :: _, [], _, _, e => by unfold findD at e; cases e
  | j :: ks, v :: vs, k, d, e => by
    unfold findD at e
    split at e
    · cases e
      exact List.mem_cons_self
    · exact List.mem_cons_of_mem _ (findD_mem e)
theorem RA.flat {K : PySem.W.Frag} {FA : Nat → Addr} {v : V} (r : RA K FA S H v d) (h : flatD d = true) : R K FA (gd S H) v d := by
  rcases r with r | ⟨_, _, _, _, e, _⟩ | ⟨_, _, _, _, _, e, _⟩
  · exact r
  · subst e; cases h
  · subst e; cases h
theorem Ok.flat {K : PySem.W.Frag} {FA : Nat → Addr} {v : V} (q : Ok K FA S H d Q) (r : R K FA (gd S H) v d) (h : flatD d = true) : Q v H :=
  q _ _ (Same.refl _) r (Fr.no (fun ds e => by subst e; cases h) fun ks ds e => by subst e; cases h)
theorem base_ok {y : Expr} {a : Str} {env : PySem.Env} {u : Sem Value} (h : notCall0 y = true) : attributeBase y a env u = u := by
  cases y with
  | Call g xs ks pos =>
    cases xs <;> cases ks <;> first | (unfold notCall0 at h; cases h; done) | (cases g <;> rfl)
  | _ => rfl
theorem meOk_len {k : Nat} : ∀ {m : MI}, meOk m k = true → k = 1 ∨ k = 2 := by
  intro m h
  unfold meOk at h
  split at h <;> first | exact .inl rfl | exact .inr rfl | cases h
theorem mePE {X : Cx} (hu : X.A.units + 1 < cLine) {m : MI} {y : Expr} {xs : List Expr} {to : TE} {t : TA} {apos pos : Pos} (hk : meOk m xs.length = true) (hb : notCall0 y = true) (hl : (apos.endLine == pos.line) = true) (hst : xs.all notStar = true) (ho : PE X y to) (ha : PA X xs t) :
    PE X (.Call (.Attribute y (meN m) apos) xs [] pos) (tBM X.K (meTy m) (meR X.K m) to t) := by
  have pat : PySem.PlainAttrs (meTy m) := by cases m <;> first | exact PySem.F.plainAttrs_list | exact PySem.F.plainAttrs_str
  match xs, meOk_len hk with
  | [x], _ =>
    rw [List.all_cons] at hst
    have c1 := (ba hst).1
    exact pe_bm pat (meS hk).1 (meS hk).2 (meM hu m) ho ha (base_ok hb) (by rw [star_cons c1]; rfl) hl (star_cons c1) rfl
  | [x, z], _ =>
    rw [List.all_cons, List.all_cons] at hst
    have c1 := (ba hst).1
    have c2 := (ba (ba hst).2).1
    exact pe_bm pat (meS hk).1 (meS hk).2 (meM hu m) ho ha (base_ok hb) (by rw [star_cons c1, star_cons c2]; rfl) hl (star_cons c1) (by rw [star_cons c2]; rfl)
  | [], h => exact absurd h (by decide)
  | _ :: _ :: _ :: _, h => exact absurd h (by simp only [List.length_cons]; omega)
theorem me_ty {K : PySem.W.Frag} {FA : Nat → Addr} {m : MI} {x : D} {ds : List D} {v : V} (e : meD m x ds = some d) (r : RA K FA S H v x) : tyV K (meTy m) v H := by
  unfold meD at e
  split at e <;> first
    | (cases r.str; rfl)
    | (obtain ⟨a, vs, rfl, h, _⟩ := r.lst; exact .inl ⟨rfl, vs, SqL.of h⟩)
    | cases e
theorem me_ok {K : PySem.W.Frag} {FA : Nat → Addr} {m : MI} {x : D} {ds : List D} {v : V} {vs : List V} (e : meD m x ds = some d) (r : RA K FA S H v x) (rs : RAs K FA S H vs ds) (dm : Dom S H) (q : Ok K FA S H d Q) : meR K m v vs H Q := by
  unfold meD at e
  split at e
  · split at e
    · rename_i c
      cases e
      cases r.str
      obtain ⟨u, rfl, r1⟩ := rs.one
      cases r1.str
      exact ⟨_, _, rfl, rfl, c.1, c.2, fun p hp => q.newL dm hp rs_strs⟩
    · cases e
  · cases e
    cases r.str
    obtain ⟨u, w, rfl, r1, r2⟩ := rs.two
    cases r1.str
    cases r2.int
    exact ⟨_, _, _, rfl, rfl, q.int⟩
  · obtain ⟨ys, e1, e2⟩ := Option.bind_eq_some_iff.mp e
    split at e2
    · rename_i c
      cases e2
      cases r.str
      obtain ⟨u, rfl, r1⟩ := rs.one
      obtain ⟨a, us, rfl, h, r⟩ := r1.lst
      exact ⟨_, a, ys, rfl, rfl, .inl (by rw [← strs_rs r e1]; exact SqL.of h), c, q.str⟩
    · cases e2
  · obtain ⟨ys, e1, e2⟩ := Option.bind_eq_some_iff.mp e
    split at e2
    · rename_i c
      cases e2
      cases r.str
      obtain ⟨u, rfl, r1⟩ := rs.one
      obtain ⟨a, us, rfl, h, r⟩ := r1.tup
      exact ⟨_, a, ys, rfl, rfl, .inr (by rw [← strs_rs r e1]; exact h), c, q.str⟩
    · cases e2
  · rename_i ys x0
    unfold idxD at e
    split at e
    · rename_i c
      obtain ⟨j, e1, rfl⟩ := Option.map_eq_some_iff.mp e
      obtain ⟨c1, c2⟩ := ba c
      obtain ⟨a, us, rfl, h, hr⟩ := r.lst
      obtain ⟨u, rfl, r1⟩ := rs.one
      have hr' := hr.mono (K := K) (FA := FA) gd_sub
      have r1' := r1.all
      obtain ⟨hj, g1, g2⟩ := List.findIdx?_eq_some_iff_getElem.mp e1
      obtain ⟨z, z1, z2⟩ := hr'.get (List.getElem?_eq_getElem hj)
      refine ⟨a, us, u, j, z, rfl, rfl, SqL.of h, flat_of r1' c1, flats_of hr' c2, z1, ?_, fun m z' hm hz => ?_, q.int⟩
      · rw [eqF_of z2 r1' (List.all_eq_true.mp c2 _ (List.getElem_mem hj)) c1]
        exact g1
      · obtain ⟨d', k1, k2⟩ := hr'.get' hz
        obtain ⟨hml, k3⟩ := List.getElem?_eq_some_iff.mp k1
        rw [eqF_of k2 r1' (List.all_eq_true.mp c2 _ (List.mem_of_getElem? k1)) c1]
        have k4 := g2 m hm
        rw [k3] at k4
        simpa using k4
    · cases e
  · cases e
theorem good_me {m : MI} {o : E} {es : List E} {y : Expr} {xs : List Expr} {apos pos : Pos} (hk : meOk m xs.length = true) (hb : notCall0 y = true) (hl : (apos.endLine == pos.line) = true) (hst : xs.all notStar = true) (ho : GoodE p n N sc o y) (ha : GoodA p n N sc es xs) :
    GoodE p n N sc (.me m o es) (.Call (.Attribute y (meN m) apos) xs [] pos) := by
  obtain ⟨to, po, so⟩ := ho
  obtain ⟨ta, pa, sa⟩ := ha
  refine ⟨tBM p.K (meTy m) (meR p.K m) to ta, fun X hx => by rw [← hx.K]; exact mePE (by have := hu65 hx.room; omega) hk hb hl hst (po X hx) (pa X hx), fun s d S H σ Q e hs q => ?_⟩
  unfold ev at e
  obtain ⟨x', e1, e⟩ := Option.bind_eq_some_iff.mp e
  obtain ⟨ds, e2, e3⟩ := Option.bind_eq_some_iff.mp e
  refine so s x' S H σ _ e1 hs fun v H1 m1 ra _ _ => ⟨me_ty e3 ra, ?_⟩
  refine sa s ds S H1 σ _ e2 (hs.mono m1) fun vs H2 m2 rs _ => ?_
  exact me_ok e3 (ra.mono m2) rs ((hs.dom.mono m1).mono m2) (q.ok (m1.trans m2))
/-- a dict's get, the dict one's own -/
theorem good_dget {i : Nat} {k e : E} {x : Str} {y z : Expr} {q1 apos pos : Pos} (hN : N[i]? = some x) (hv : visB sc x = true) (hl : (apos.endLine == pos.line) = true) (s1 : notStar y = true) (s2 : notStar z = true) (hk : GoodE p n N sc k y) (he : GoodE p n N sc e z) :
    GoodE p n N sc (.dget i k e) (.Call (.Attribute (.Name x q1) (Str.ofString "get") apos) [y, z] [] pos) := by
  obtain ⟨ta, pa, sa⟩ := good_cons s1 hk (good_cons s2 he good_nil)
  refine ⟨tBM p.K "dict" rGet (tVar i) ta, fun X hx => ?_, fun s d S H σ Q e' hs q => ?_⟩
  · rw [← hx.K]
    exact pe_bm PySem.F.plainAttrs_dict PySem.F.slot_dict_get PySem.F.type_dict_get (mt_get (by have := hu65 hx.room; omega)) (good_name hN hv X hx) (pa X hx) rfl (by rw [star_cons s1, star_cons s2]; rfl) hl (star_cons s1) (by rw [star_cons s2]; rfl)
  · unfold ev at e'
    obtain ⟨pr, e0, e'⟩ := Option.bind_eq_some_iff.mp e'
    obtain ⟨sl, e1, e2⟩ := Option.bind_eq_some_iff.mp e0
    rcases sl with _ | d | d | d | ⟨ks, vs0⟩ <;> first | (cases e2; done) | skip
    cases e2
    obtain ⟨kk, e3, e'⟩ := Option.bind_eq_some_iff.mp e'
    obtain ⟨dd, e4, e'⟩ := Option.bind_eq_some_iff.mp e'
    cases kk <;> first | (cases e'; done) | skip
    rename_i k0 e6
    obtain ⟨a, kvs, h1, h2, h3, h4, h5⟩ := hs.od i _ _ e1
    refine ⟨_, h1, .inr (.inr (.inl ⟨rfl, .inl ⟨kvs, h3⟩⟩)), ?_⟩
    refine sa s [.str k0, dd] S H σ _ (by unfold evs; rw [e3]; unfold evs; rw [e4]; rfl) hs fun ws H1 m1 rs _ => ?_
    have e5 : (if (flatD dd && vs0.all flatD) = true then some ((findD ks vs0 k0).getD dd) else none) = some d := e'
    split at e5
    · rename_i c
      cases e5
      obtain ⟨c1, c2⟩ := ba c
      obtain ⟨u, w, rfl, r1, r2⟩ := rs.two
      cases r1.str
      refine ⟨a, _, _, _, rfl, rfl, DGet.k (k := Sum.inr k0) (m1 _ _ h3), ?_⟩
      have r := h5.mono (gd_mono m1)
      have q := q.ok m1
      have z := findD_val h4 r k0
      cases e2 : findD ks vs0 k0 with
      | none =>
        rw [e2] at z q
        rw [show valV kvs (Sum.inr k0) = none from z]
        exact q.flat (r2.flat c1) c1
      | some d1 =>
        rw [e2] at z q
        obtain ⟨v1, z1, z2⟩ := z
        rw [z1]
        exact q.flat z2 (List.all_eq_true.mp c2 _ (findD_mem e2))
    · cases e5
/-! ### the least of texts -/
def mnV : List Str → V
  | [] => .non
  | y :: ys => .str (ys.foldl (fun a z => if decide (z.cps.toList < a.cps.toList) = true then z else a) y)
def rMind (K : PySem.W.Frag) : List V → List V → Hp → VK → Prop := fun xs zs H Q => ∃ (a : Addr) (ys : List Str), xs = [.ref a] ∧ zs = [.non] ∧ SqL K H a (ys.map V.str) ∧ Q (mnV ys) H
theorem hold_strs {h : Heap} : ∀ {ys : List Str} {us : List Value}, Vals (ys.map V.str) us → PySem.W.HoldAll h us ys
  | [], _, r => by
    rw [List.map_nil] at r
    cases r
    exact ⟨[], .nil⟩
  | y :: ys, _, r => by
    rw [List.map_cons] at r
    cases r with
    | cons r1 r2 =>
      obtain ⟨t, rfl⟩ := r1
      obtain ⟨as, k⟩ := hold_strs (h := h) r2
      exact ⟨_, .cons (show Reads h (.str y t) (PySem.W.Datum.toD y) [] from .str y t) k⟩
theorem cr_mind {X : Cx} (hc : X.calm = true) (hu : X.A.units + 1 < cLine) : CallRK X (.builtin "min") [Str.ofString "default"] (rMind X.K) := by
  intro pins s σ H xs zs us ws Q I r1 r2 h
  obtain ⟨a, ys, rfl, rfl, hs, q⟩ := h
  obtain ⟨its, rv, hl, _⟩ := I.list hs
  rw [Vals.ref1 r1]
  obtain ⟨u, rfl, ru⟩ := Vals.one r2
  cases ru
  refine PySem.W.min_list_datum_default (α := Str) (I.ok.hd hc) hl.isList (hold_strs rv) hu (fun e h' tk hk => ?_) fun y ys' i v h' tk e hi hh hk => ?_
  · subst e
    exact ⟨.non, H, I.kept hk, rfl, q⟩
  · subst e
    obtain ⟨as, rd⟩ := hh
    have e2 : ∃ t, v = .str (PySem.W.minOf y ys') t := by
      generalize hm : (PySem.W.Datum.toD (PySem.W.minOf y ys') : PyData) = m at rd
      have hm : PyData.str (PySem.W.minOf y ys') = m := hm
      subst hm
      cases rd
      exact ⟨_, rfl⟩
    obtain ⟨t, rfl⟩ := e2
    exact ⟨.str (PySem.W.minOf y ys'), H, I.kept hk, ⟨t, rfl⟩, q⟩
theorem good_mind (fc : Facts p n) {a : E} {x : Expr} {kws : List Keyword} {q1 pos : Pos} (hg : gloB sc (biN .min_) = true) (hk : noneKw kws = true) (hst : notStar x = true) (ha : GoodE p n N sc a x) :
    GoodE p n N sc (.mind a) (.Call (.Name (biN .min_) q1) [x] kws pos) := by
  obtain ⟨ta, pa, sa⟩ := good_cons hst ha good_nil
  unfold noneKw at hk
  split at hk
  · rename_i nm c1 c2 c3
    cases of_decide_eq_true hk
    refine ⟨tCKw (rMind p.K) ta (tCons (tC .non) tNil), fun X hx => ?_, fun s d S H σ Q e' hs q => ?_⟩
    · rw [← hx.K]
      exact pe_callBK (cr_mind hx.calm (by have := hu65 hx.room; omega)) (hx.gl hg) (by rw [hx.mg]; exact fc.bi .min_) (biV_boot .min_) (pa X hx) (pk_cons pe_non pk_nil) (glo_ok hg).2.2 (glo_ok hg).2.1 (by rw [star_cons hst]; rfl) (by rw [star_cons hst]; rfl)
    · unfold ev at e'
      obtain ⟨l, e1, e2⟩ := Option.bind_eq_some_iff.mp e'
      cases l <;> first | (cases e2; done) | skip
      rename_i xs
      have e3 : (strsD xs).map mnS = some d := e2
      obtain ⟨ys, e4, rfl⟩ := Option.map_eq_some_iff.mp e3
      refine sa s [.lst xs] S H σ _ (by unfold evs; rw [e1]; rfl) hs fun vs H1 m1 rs _ => ?_
      obtain ⟨v, rfl, r1⟩ := rs.one
      obtain ⟨b, us, rfl, h, r⟩ := r1.lst
      refine ⟨b, ys, rfl, rfl, by rw [← strs_rs r e4]; exact SqL.of h, ?_⟩
      cases ys with
      | nil => exact (q.ok m1).non
      | cons y ys => exact (q.ok m1).str
  · cases hk
/-! ### targets -/
def gList : List Nat → TGs
  | [] => gNil
  | i :: is => gCons (gName i) (gList is)
def gOf (K : PySem.W.Frag) : List Nat → TG
  | [i] => gName i
  | is => gTup K is.length (gList is)
theorem assign_each {xs : List Expr} {env : PySem.Env} : ∀ {is : List Nat}, tgB N sc is xs = true → (assignEach xs env).length = is.length ∧ (assignEach xs env).findIdx? (·.1) = none := by
  induction xs with
  | nil =>
    intro is h
    cases is with
    | nil => exact ⟨rfl, rfl⟩
    | cons => cases h
  | cons x xs ih =>
    intro is h
    cases is with
    | nil => cases h
    | cons i is =>
      cases x <;> first | (cases h; done) | skip
      rename_i nm ps
      unfold tgB at h
      obtain ⟨h1, h2⟩ := ih (ba (ba h).2).2
      have e : assignEach (Expr.Name nm ps :: xs) env = (false, assign (.Name nm ps) env) :: assignEach xs env := rfl
      rw [e, List.length_cons, List.length_cons, h1, List.findIdx?_cons, h2]
      exact ⟨rfl, rfl⟩
theorem loc_ok {x : Str} (h : (match sc.names.lookup x with
    | some .local => true
    | some .cell => true
    | _ => false) = true) : sc.names.lookup x = some .local ∨ sc.names.lookup x = some .cell := by
  split at h
  · exact .inl (by assumption)
  · exact .inr (by assumption)
  · cases h
theorem pgs_ok {X : Cx} (hN : X.N = N) (nd : N.Nodup) (hl : ∀ x, (sc.names.lookup x = some .local ∨ sc.names.lookup x = some .cell) → Loc X.env.scope x ∧ (X.fn x = true ∨ X.env.scope.names.lookup x = some .local)) :
    ∀ {is : List Nat} {xs : List Expr}, tgB N sc is xs = true → PGs X xs (gList is)
  | [], [], _ => pgs_nil
  | i :: is, .Name x ps :: xs, h => by
    unfold tgB at h
    obtain ⟨h1, h2⟩ := ba h
    obtain ⟨h3, h4⟩ := ba h2
    obtain ⟨k1, k2⟩ := hl x (loc_ok h3)
    exact pgs_cons (pg_name (i := i) (by rw [hN]; exact nd) (by rw [hN]; exact of_decide_eq_true h1) k1 k2) (pgs_ok hN nd hl h4)
  | [], _ :: _, h => by cases h
  | _ :: _, [], h => by cases h
theorem pg_ok {X : Cx} (hK : X.K = p.K) (hc : X.calm = true) (hN : X.N = N) (nd : N.Nodup) (hl : ∀ x, (sc.names.lookup x = some .local ∨ sc.names.lookup x = some .cell) → Loc X.env.scope x ∧ (X.fn x = true ∨ X.env.scope.names.lookup x = some .local))
    {is : List Nat} {tg : Expr} (h : chkTg N sc is tg = true) : PG X tg (gOf p.K is) := by
  unfold chkTg at h
  split at h
  · rename_i i x ps
    unfold tgB at h
    obtain ⟨h1, h2⟩ := ba h
    obtain ⟨h3, h4⟩ := ba h2
    obtain ⟨k1, k2⟩ := hl x (loc_ok h3)
    exact pg_name (i := i) (by rw [hN]; exact nd) (by rw [hN]; exact of_decide_eq_true h1) k1 k2
  · rename_i xs k ps _
    obtain ⟨h1, h2⟩ := ba h
    have hlen : 2 ≤ is.length := of_decide_eq_true h1
    have e : gOf p.K is = gTup X.K is.length (gList is) := by
      rw [hK]
      match is, hlen with
      | a :: b :: r, _ => rfl
    rw [e]
    obtain ⟨q1, q2⟩ := assign_each (env := X.env) h2
    exact pg_tup hc (pgs_ok hN nd hl h2) q1 q2
  · cases h
theorem SR.set' {K : PySem.W.Frag} {FA : Nat → Addr} {σ : L2.St} {s : Env} {i : Nat} {v : V} (h : SR K FA S H σ s) (r : R K FA (gd S H) v d) : SR K FA S H (σ.set i (some v)) (s.set i (.sh d)) ∧ ∀ j b, Own H (σ.set i (some v)) (s.set i (.sh d)) j b → Own H σ s j b := by
  have hi : ∀ x, (s.set i (.sh d))[i]? = some x → x = .sh d ∧ (σ.set i (some v))[i]? = some (some v) := fun x e => by
    rw [List.getElem?_set, if_pos rfl] at e
    rw [List.getElem?_set, if_pos rfl, ← h.len]
    split at e
    · rename_i hlt
      cases e
      rw [if_pos hlt]
      exact ⟨rfl, rfl⟩
    · cases e
  have no : ∀ b, ¬ Own H (σ.set i (some v)) (s.set i (.sh d)) i b := fun b o => by
    obtain ⟨x, e, nx⟩ := o.lt
    exact nx d (hi x e).1
  obtain ⟨k1, k2⟩ := h.frame (i := i) (s' := s.set i (.sh d)) (σ' := σ.set i (some v)) (by rw [List.length_set, List.length_set]; exact h.len) (fun j n => List.getElem?_set_ne fun z => n z.symm) (fun j n => List.getElem?_set_ne fun z => n z.symm) h.dom (Same.refl _) (fun _ q _ => q) (fun _ _ q _ => q)
    (fun e he => by obtain ⟨z1, z2⟩ := hi _ he; cases z1; exact ⟨v, z2, r⟩) (fun e he => by have z := (hi _ he).1; cases z) (fun e he => by have z := (hi _ he).1; cases z) (fun b o => absurd o (no b)) (fun ks ds he => by have z := (hi _ he).1; cases z)
  exact ⟨k1, fun j b o => if q : j = i then absurd (q ▸ o) (no b) else k2 j b q o⟩
theorem SR.set {K : PySem.W.Frag} {FA : Nat → Addr} {σ : L2.St} {s : Env} {i : Nat} {v : V} (h : SR K FA S H σ s) (r : R K FA (gd S H) v d) : SR K FA S H (σ.set i (some v)) (s.set i (.sh d)) := (h.set' r).1
theorem tgs_sat {K : PySem.W.Frag} {FA : Nat → Addr} {s2 : Env} {Qs : L2.St → Hp → Prop} : ∀ {is : List Nat} {ds : List D} {vs : List V} {s : Env} {σ : L2.St}, tgs is ds s = some s2 → Rs K FA (gd S H) vs ds → SR K FA S H σ s →
    (∀ σ2, SR K FA S H σ2 s2 → (∀ us : List Nat, (∀ i ∈ is, i ∈ us) → wipe σ2 us = wipe σ us) → Qs σ2 H) → gList is vs σ H Qs
  | [], [], _, s, σ, e, r, hs, q => by
    cases e
    cases r
    exact ⟨rfl, q σ hs fun _ _ => rfl⟩
  | i :: is, d :: ds, _, s, σ, e, r, hs, q => by
    cases r with
    | cons r1 r2 =>
      refine ⟨_, _, rfl, ?_⟩
      refine tgs_sat (is := is) e r2 (hs.set (i := i) r1) fun σ2 h2 w => q σ2 h2 fun us hus => ?_
      rw [w us fun j hj => hus j (List.mem_cons_of_mem _ hj)]
      exact wipe_set (hus i List.mem_cons_self)
  | [], _ :: _, _, _, _, e, _, _, _ => by cases e
  | _ :: _, [], _, _, _, e, _, _, _ => by cases e
where
  wipe_set {σ : L2.St} {i : Nat} {v : Option V} : ∀ {us : List Nat}, i ∈ us → wipe (σ.set i v) us = wipe σ us := by
    have comm : ∀ (us : List Nat) (σ : L2.St) (i : Nat) (v : Option V), i ∉ us → wipe (σ.set i v) us = (wipe σ us).set i v := by
      intro us
      induction us with
      | nil => intro σ i v _; rfl
      | cons u us ih =>
        intro σ i v h
        unfold wipe
        rw [ih σ i v fun z => h (List.mem_cons_of_mem _ z)]
        rw [List.set_comm]
        intro z
        exact h (z ▸ List.mem_cons_self)
    intro us
    induction us with
    | nil => intro h; cases h
    | cons u us ih =>
      intro h
      unfold wipe
      by_cases c : i ∈ us
      · rw [ih c]
      · have eu : i = u := (List.mem_cons.mp h).resolve_right c
        subst eu
        rw [comm us σ i v c, List.set_set]
theorem tg_sat {K : PySem.W.Frag} {FA : Nat → Addr} {s s2 : Env} {σ : L2.St} {v : V} {is : List Nat} {Qs : L2.St → Hp → Prop} (e : tgD is d s = some s2) (r : R K FA (gd S H) v d) (hs : SR K FA S H σ s)
    (q : ∀ σ2, SR K FA S H σ2 s2 → (∀ us : List Nat, (∀ i ∈ is, i ∈ us) → wipe σ2 us = wipe σ us) → Qs σ2 H) : gOf K is v σ H Qs := by
  unfold tgD at e
  split at e
  · cases e
    exact q _ (hs.set r) fun us h => tgs_sat.wipe_set (h _ List.mem_cons_self)
  · rename_i xs hne
    cases r with
    | tup h r =>
      have e2 : gOf K is = gTup K is.length (gList is) := by
        match is, hne with
        | [], _ => rfl
        | [i], hne => exact absurd rfl (hne i)
        | a :: b :: t, _ => rfl
      rw [e2]
      have hl : xs.length = is.length := by
        have : ∀ (is : List Nat) (xs : List D) (s : Env), tgs is xs s = some s2 → xs.length = is.length := by
          intro is
          induction is with
          | nil => intro xs s e; cases xs with
            | nil => rfl
            | cons => cases e
          | cons i is ih => intro xs s e; cases xs with
            | nil => cases e
            | cons x xs => rw [List.length_cons, List.length_cons, ih xs _ e]
        exact this is xs s e
      exact ⟨_, _, rfl, sqT_mono gd_sub h, by rw [r.length]; exact hl, tgs_sat e r hs q⟩
  · cases e
end
end PL

/-! PL7: comprehensions; expressions as a whole. -/
namespace PL
open PySem PySem.Spec L2
/-! ### what is walked -/
/-- a walk over the values vs, as long as P holds of the heap -/
structure Wk (J : It) (vs : List V) (P : Hp → Prop) : Prop where
  go : ∀ (i : Nat) H, P H → i < vs.length → J.go i H
  stop : ∀ H, P H → J.stop vs.length H
  yld : ∀ (i : Nat) H x H', P H → i < vs.length → J.yld i H x H' → H' = H ∧ vs[i]? = some x
theorem wk_list {K : PySem.W.Frag} {a : Addr} {vs : List V} : Wk (Itl K a) vs fun H => SqL K H a vs where
  go := fun i H h l => ⟨vs, vs[i], h, by simp [l]⟩
  stop := fun H h => ⟨vs, h, Nat.le_refl _⟩
  yld := fun i H x H' h l y => ⟨y.1, y.2 vs h⟩
theorem wk_tup {K : PySem.W.Frag} {a : Addr} {vs : List V} : Wk (Itt K a) vs fun H => SqT K H a vs where
  go := fun i H h l => ⟨vs, vs[i], h, by simp [l]⟩
  stop := fun H h => ⟨vs, h, Nat.le_refl _⟩
  yld := fun i H x H' h l y => ⟨y.1, y.2 vs h⟩
def rngV (lo : Int) (n : Nat) : List V := (List.range n).map fun (k : Nat) => V.int (lo + (k : Int))
theorem wk_rng {lo : Int} {n : Nat} : Wk (Itr lo n) (rngV lo n) fun _ => True where
  go := fun i H _ l => by
    unfold rngV at l
    rw [List.length_map, List.length_range] at l
    exact l
  stop := fun H _ => by
    unfold rngV
    rw [List.length_map, List.length_range]
    exact Nat.le_refl _
  yld := fun i H x H' _ l y => by
    unfold rngV at l ⊢
    rw [List.length_map, List.length_range] at l
    obtain ⟨y1, y2⟩ := y
    refine ⟨y1, ?_⟩
    rw [y2, List.getElem?_map, List.getElem?_range l]
    rfl
/-- a list or a tuple -/
def iSeq (K : PySem.W.Frag) (tl : TE) : TI := fun σ H R => tl σ H fun x H1 => (∃ z, x = .str z ∧ R (Its z) H1) ∨ ∃ a, x = .ref a ∧ (((∃ xs, SqL K H1 a xs) ∧ R (Itl K a) H1) ∨ ((∃ xs, SqT K H1 a xs) ∧ R (Itt K a) H1))
theorem pi_seq {X : Cx} {tg l : Expr} {tl : TE} (hl : PE X l tl) : PI X tg l (iSeq X.K tl) := by
  refine ⟨fun pins s σ H R I h => ?_⟩
  refine thn (hl.run pins s σ H _ I h) fun v s1 ⟨x, H1, I1, r1, q1⟩ => ?_
  rcases q1 with ⟨z, e, q⟩ | ⟨a, e, q⟩
  · subst e
    obtain ⟨t, rfl⟩ := r1
    cases ha : z.cps.all (· < 128)
    · exact wpAny_pyIter_wide ha (pi_one (tk := s1.toks) I1 _ (turn_str _ z t "str_iterator" (.inr rfl)) ⟨_, Heap.get?_push_size _ rfl, rfl, rfl⟩ q)
    · exact wpAny_pyIter_ascii ha (pi_one (tk := s1.toks) I1 _ (turn_str _ z t "str_ascii_iterator" (.inl rfl)) ⟨_, Heap.get?_push_size _ rfl, rfl, rfl⟩ q)
  subst e
  cases r1
  rcases q with ⟨⟨xs, hq⟩, q⟩ | ⟨⟨xs, hq⟩, q⟩
  · obtain ⟨its, rv, pp, hz⟩ := I1.list hq
    refine wpAny_pyIter_list pp.isList ?_
    refine ⟨s1.heap.objs.size, [s1.heap.objs.size], _, _, H1, rfl, I1.kept (t' := s1.toks) fun b o e => Heap.get?_push_of_some _ e, turn_list a _, ⟨_, Heap.get?_push_size _ rfl, rfl, rfl⟩, fun b hb => ?_, q⟩
    have e : b = s1.heap.objs.size := by simpa using hb
    subst e
    exact I1.fpOk (Nat.le_refl _) (I1.hok.fresh (Nat.le_refl _))
  · obtain ⟨its, rv, pp, hz⟩ := I1.tuple hq
    refine wpAny_pyIter_tuple (show s1.heap.IsTuple a its.toArray from pp) ?_
    refine ⟨s1.heap.objs.size, [s1.heap.objs.size], _, _, H1, rfl, I1.kept (t' := s1.toks) fun b o e => Heap.get?_push_of_some _ e, turn_tuple a _, ⟨_, Heap.get?_push_size _ rfl, rfl, rfl⟩, fun b hb => ?_, q⟩
    have e : b = s1.heap.objs.size := by simpa using hb
    subst e
    exact I1.fpOk (Nat.le_refl _) (I1.hok.fresh (Nat.le_refl _))
theorem wk_str {z : Str} : Wk (Its z) (z.cps.toList.map fun c => V.str ⟨#[c]⟩) fun _ => True where
  go := fun i H _ l => by
    rw [List.length_map, Array.length_toList] at l
    exact l
  stop := fun H _ => by
    show z.cps.size ≤ _
    rw [List.length_map, Array.length_toList]
    exact Nat.le_refl _
  yld := fun i H x H' _ l y => by
    obtain ⟨y1, c, y2, y3⟩ := y
    refine ⟨y1, ?_⟩
    rw [y3, List.getElem?_map, Array.getElem?_toList, y2]
    rfl
/-- range of one or two ints -/
def iRngA (ta : TA) : TI := fun σ H R => ta σ H fun vs H1 => (∃ j : Int, vs = [.int j] ∧ -(2 ^ 62) ≤ j ∧ j < 2 ^ 62 ∧ R (Itr 0 j.toNat) H1) ∨ ∃ i j : Int, vs = [.int i, .int j] ∧ (-(2 ^ 62) ≤ i ∧ i < 2 ^ 62 ∧ -(2 ^ 62) ≤ j ∧ j < 2 ^ 62) ∧ R (Itr i (j - i).toNat) H1
section
variable {p : Pr} {n : Nat} {N : List Str} {sc : Scope} {S : Addr → Prop} {H H1 H2 : Hp} {d : D} {Q : VK}
/-- the walk over an expression's value -/
def SatI (p : Pr) (n : Nat) (t : TI) (al : Bool) (f : Env → Option (List D)) : Prop := ∀ (s : Env) (ds : List D) (S : Addr → Prop) (H : Hp) (σ : L2.St) (R' : It → Hp → Prop),
  f s = some ds → SR p.K p.FA S H σ s → (∀ J vs P H1, Same H H1 → Wk J vs P → (∀ H', Same H1 H' → P H') → (al = false → ∀ S' H', Same (gd S H1) (gd S' H') → P H') → Rs p.K p.FA (gd S H1) vs ds → R' J H1) → t σ H R'
theorem goodI_e {e : E} {x tg : Expr} (he : GoodE p n N sc e x) : ∃ t : TI, (∀ X, XF p n N sc X → PI X tg x t) ∧ SatI p n t (al e) fun s => (ev (call p.T p.G n) p.G e s).bind itD := by
  obtain ⟨t, pt, st⟩ := he
  refine ⟨iSeq p.K t, fun X hx => by rw [← hx.K]; exact pi_seq (pt X hx), fun s ds S H σ R' e hs q => ?_⟩
  obtain ⟨d, e1, e2⟩ := Option.bind_eq_some_iff.mp e
  refine st s d S H σ _ e1 hs fun v H1 m1 ra qa _ => ?_
  unfold itD at e2
  split at e2
  · cases e2
    obtain ⟨a, vs, rfl, h, r⟩ := ra.tup'
    exact .inr ⟨a, rfl, .inr ⟨⟨vs, sqT_mono gd_sub h⟩, q _ vs _ H1 m1 wk_tup (fun H' m => sqT_mono m (sqT_mono gd_sub h)) (fun _ S' H' m => sqT_mono gd_sub (sqT_mono m h)) r⟩⟩
  · cases e2
    obtain ⟨a, vs, rfl, h, r⟩ := ra.lst
    refine .inr ⟨a, rfl, .inl ⟨⟨vs, SqL.of h⟩, q _ vs _ H1 m1 wk_list (fun H' m => SqL.of (m _ _ h)) (fun z S' H' m => ?_) r⟩⟩
    have r2 := qa z
    cases r2 with
    | lst h2 _ =>
      have e3 := gd_sub _ _ h2
      rw [h] at e3
      cases e3
      exact SqL.of (gd_sub _ _ (m _ _ h2))
  · cases e2
    obtain ⟨a, vs, rfl, h, r⟩ := ra.fls'
    exact .inr ⟨a, rfl, .inl ⟨⟨vs, sqL_mono gd_sub h⟩, q _ vs _ H1 m1 wk_list (fun H' m => sqL_mono m (sqL_mono gd_sub h)) (fun _ S' H' m => sqL_mono gd_sub (sqL_mono m h)) r⟩⟩
  · cases e2
    have ev := ra.str
    subst ev
    refine .inl ⟨_, rfl, q _ _ _ H1 m1 wk_str (fun _ _ => trivial) (fun _ _ _ _ => trivial) ?_⟩
    generalize Array.toList _ = l
    induction l with
    | nil => exact .nil
    | cons a l ih => exact .cons (.str _) ih
  · cases e2
theorem evs_len {F : Fc} {G : Nat → Option D} {s : Env} : ∀ {es : List E} {ds : List D}, evs F G es s = some ds → ds.length = es.length
  | [], ds, e => by
    unfold evs at e
    cases e
    rfl
  | e :: es, ds, h => by
    unfold evs at h
    obtain ⟨d, e1, h⟩ := Option.bind_eq_some_iff.mp h
    obtain ⟨r, e2, rfl⟩ := Option.map_eq_some_iff.mp h
    rw [List.length_cons, List.length_cons, evs_len e2]
theorem rng_rs {K : PySem.W.Frag} {FA : Nat → Addr} {G : Hp} {k : Nat} {lo : Int} : Rs K FA G (rngV lo k) ((List.range k).map fun (j : Nat) => D.int (lo + (j : Int))) := by
  unfold rngV
  generalize List.range k = l
  induction l with
  | nil => exact .nil
  | cons a l ih => exact .cons (.int _) ih
theorem rng_rs0 {K : PySem.W.Frag} {FA : Nat → Addr} {G : Hp} {k : Nat} : Rs K FA G (rngV 0 k) ((List.range k).map fun (j : Nat) => D.int (j : Int)) := by
  have z := rng_rs (K := K) (FA := FA) (G := G) (k := k) (lo := 0)
  simp only [Int.zero_add] at z
  exact z
theorem good_lrg (fc : Facts p n) {a : E} {x : Expr} {q1 q2 pos pos2 : Pos} (hg : gloB sc (biN .list_) = true) (hg2 : gloB sc (Str.ofString "range") = true) (hst : notStar x = true) (ha : GoodE p n N sc a x) :
    GoodE p n N sc (.lrg a) (.Call (.Name (biN .list_) q1) [.Call (.Name (Str.ofString "range") q2) [x] [] pos2] [] pos) := by
  obtain ⟨ta, pa, sa⟩ := ha
  refine ⟨tLstRg (tRg1 ta), fun X hx => pe_listRg hx.calm (hx.gl hg) (by rw [hx.mg]; exact fc.bi .list_) (prg_1 (hx.gl hg2) (by rw [hx.mg]; exact fc.rng) (pa X hx) (star_cons hst)) (star_cons rfl), fun s d S H σ Q e hs q => ?_⟩
  unfold ev at e
  obtain ⟨x', e1, e2⟩ := Option.bind_eq_some_iff.mp e
  cases x' <;> first | (cases e2; done) | skip
  rename_i i
  have e3 : (if 0 ≤ i ∧ i ≤ 16777216 then some (D.lst ((List.range i.toNat).map fun (k : Nat) => D.int (k : Int))) else none) = some d := e2
  by_cases hz : 0 ≤ i ∧ i ≤ 16777216
  · rw [if_pos hz] at e3
    cases e3
    refine sa s _ S H σ _ e1 hs fun v H1 m1 ra _ _ => ⟨i, ra.int, RgOk.of_le (Int.le_refl _) hz.2 (by decide) hz.1, fun a ha => ?_⟩
    refine (q.ok m1).newL (hs.dom.mono m1) ha ?_
    have z := rng_rs0 (K := p.K) (FA := p.FA) (G := gd S H1) (k := i.toNat)
    have e4 : rgV 0 i = rngV 0 i.toNat := by
      unfold rgV rngV
      rw [Int.sub_zero]
    rw [e4]
    exact z
  · rw [if_neg hz] at e3
    cases e3
theorem wk_rev {K : PySem.W.Frag} {a : Addr} {vs : List V} : Wk (Itv K a vs.length) vs.reverse fun H => SqL K H a vs where
  go := fun i H h l => by
    rw [List.length_reverse] at l
    exact ⟨l, vs, vs[vs.length - 1 - i]'(by omega), h, List.getElem?_eq_getElem (by omega)⟩
  stop := fun H h => by
    rw [List.length_reverse]
    exact Nat.le_refl _
  yld := fun i H x H' h l y => ⟨y.1, by
    rw [List.length_reverse] at l
    rw [List.getElem?_reverse l]
    exact y.2 vs h⟩
theorem goodI_v (fc : Facts p n) {e : E} {x tg : Expr} {q1 pos : Pos} (hg : gloB sc (Str.ofString "reversed") = true) (hst : notStar x = true) (hal : al e = false) (he : GoodE p n N sc e x) :
    ∃ t : TI, (∀ X, XF p n N sc X → PI X tg (.Call (.Name (Str.ofString "reversed") q1) [x] [] pos) t) ∧ SatI p n t false fun s => (ev (call p.T p.G n) p.G e s).bind revD := by
  obtain ⟨t, pt, st⟩ := he
  refine ⟨RT.iRevA p.K t, fun X hx => by rw [← hx.K]; exact RT.pi_revA (hx.gl hg) (by rw [hx.mg]; exact fc.rev) (pt X hx) (star_cons hst), fun s ds S H σ R' e hs q => ?_⟩
  obtain ⟨d, e1, e2⟩ := Option.bind_eq_some_iff.mp e
  refine st s d S H σ _ e1 hs fun v H1 m1 ra qa _ => ?_
  cases d <;> first | (cases e2; done) | skip
  cases e2
  have r2 := qa hal
  cases r2 with
  | lst h2 r =>
    exact ⟨_, _, rfl, .inl ⟨SqL.of (gd_sub _ _ h2), q _ _ _ H1 m1 wk_rev (fun H' m => SqL.of (m _ _ (gd_sub _ _ h2))) (fun _ S' H' m => SqL.of (gd_sub _ _ (m _ _ h2))) r.rev⟩⟩
theorem goodI_r (fc : Facts p n) {es : List E} {xs : List Expr} {q1 pos : Pos} {tg : Expr} (hg : gloB sc (Str.ofString "range") = true) (hl : xs.length = 1 ∨ xs.length = 2) (hle : es.length = xs.length) (hst : xs.all notStar = true) (h : GoodA p n N sc es xs) :
    ∃ t : TI, (∀ X, XF p n N sc X → PI X tg (.Call (.Name (Str.ofString "range") q1) xs [] pos) t) ∧ SatI p n t false fun s => (evs (call p.T p.G n) p.G es s).bind rngD := by
  obtain ⟨ta, pa, sa⟩ := h
  match xs, hl with
  | [x], _ =>
    have hst' := hst
    rw [List.all_cons] at hst'
    refine ⟨iRng1 ta, fun X hx => pi_range1 (hx.gl hg) (by rw [hx.mg]; exact fc.rng) (pa X hx) (star_cons (ba hst').1), fun s ds S H σ R' e hs q => ?_⟩
    obtain ⟨xs', e1, e2⟩ := Option.bind_eq_some_iff.mp e
    have hx := (evs_len e1).trans hle
    refine sa s xs' S H σ _ e1 hs fun vs H1 m1 rs _ => ?_
    unfold rngD at e2
    split at e2
    · rename_i j
      split at e2
      · rename_i hz
        cases e2
        obtain ⟨v, rfl, r1⟩ := rs.one
        cases r1.int
        exact ⟨_, rfl, hz.1, hz.2, q _ _ _ H1 m1 wk_rng (fun _ _ => trivial) (fun _ _ _ _ => trivial) rng_rs0⟩
      · cases e2
    · cases hx
    · cases e2
  | [x, y], _ =>
    have hst' := hst
    rw [List.all_cons, List.all_cons] at hst'
    refine ⟨iRng2 ta, fun X hx => pi_range2 (hx.gl hg) (by rw [hx.mg]; exact fc.rng) (pa X hx) (by rw [star_cons (ba hst').1, star_cons (ba (ba hst').2).1]; rfl) (by rw [star_cons (ba (ba hst').2).1]; rfl), fun s ds S H σ R' e hs q => ?_⟩
    obtain ⟨xs', e1, e2⟩ := Option.bind_eq_some_iff.mp e
    have hx := (evs_len e1).trans hle
    refine sa s xs' S H σ _ e1 hs fun vs H1 m1 rs _ => ?_
    unfold rngD at e2
    split at e2
    · cases hx
    · split at e2
      · cases e2
        rename_i hz
        obtain ⟨v, u, rfl, r1, r2⟩ := rs.two
        cases r1.int
        cases r2.int
        exact ⟨_, _, rfl, hz, q _ _ _ H1 m1 wk_rng (fun _ _ => trivial) (fun _ _ _ _ => trivial) rng_rs⟩
      · cases e2
    · cases e2
/-! ### comprehensions -/
theorem lc_wk {J : It} {vs : List V} {P : Hp → Prop} (W : Wk J vs P) {g : TG} {tt : TT} {te : TE} {us : List Nat} {σ : L2.St} {H1 : Hp} {D : Addr} {Qd : Hp → Prop} (Pv : Nat → Hp → Prop) (h0 : Pv 0 (upd H1 D (.lst []))) (hP : ∀ i H, Pv i H → P H)
    (hs : ∀ i x H, vs[i]? = some x → Pv i H → g x (wipe σ us) H fun σ2 H2 => wipe σ2 us = wipe σ us ∧ tt σ2 H2 fun b H3 =>
      if b = true then te σ2 H3 fun y H4 => ∃ acc, H4 D = some (.lst acc) ∧ acc.length < sizeLine ∧ Pv (i + 1) (upd H4 D (.lst (acc ++ [y]))) else Pv (i + 1) H3) (hd : ∀ H, Pv vs.length H → Qd H) :
    ∃ W : Nat → Nat → Hp → Prop, (∃ m, W 0 m (upd H1 D (.lst []))) ∧ ∀ i m H, W i m H →
      (J.stop i H ∧ Qd H) ∨ (J.go i H ∧ ∃ Nx : Hp → Prop, (∀ H', Nx H' → ∃ m', m' < m ∧ W (i + 1) m' H') ∧ ∀ x H', J.yld i H x H' → g x (wipe σ us) H' fun σ2 H2 => wipe σ2 us = wipe σ us ∧ tt σ2 H2 fun b H3 =>
        if b = true then te σ2 H3 fun y H4 => ∃ acc, H4 D = some (.lst acc) ∧ acc.length < sizeLine ∧ Nx (upd H4 D (.lst (acc ++ [y]))) else Nx H3) := by
  refine ⟨fun i m H => m = vs.length - i ∧ i ≤ vs.length ∧ Pv i H, ⟨vs.length, by simp, Nat.zero_le _, h0⟩, ?_⟩
  rintro i m H ⟨rfl, hi, q⟩
  by_cases hlt : i < vs.length
  · refine .inr ⟨W.go i H (hP i H q) hlt, Pv (i + 1), fun H' p' => ⟨vs.length - (i + 1), by omega, rfl, hlt, p'⟩, fun x H' y => ?_⟩
    obtain ⟨e, y2⟩ := W.yld i H x H' (hP i H q) hlt y
    subst e
    exact hs i x _ y2 q
  · have e : i = vs.length := by omega
    subst e
    exact .inl ⟨W.stop H (hP _ H q), hd H q⟩
theorem SR.ext {K : PySem.W.Frag} {FA : Nat → Addr} {S' : Addr → Prop} {σ : L2.St} {s : Env} (m : Same H H1) (mg : Same (gd S H) (gd S' H1)) (dm : Dom S' H1) (hS : ∀ a, S a → S' a) (h : SR K FA S H σ s) : SR K FA S' H1 σ s :=
  ⟨h.len, dm, fun i d e => let ⟨v, h1, h2⟩ := h.sh i d e; ⟨v, h1, h2.mono mg⟩, fun i d e => let ⟨a, vs, ds, h1, h2, h3, h4, h5⟩ := h.ow i d e; ⟨a, vs, ds, h1, h2, hS a h3, m _ _ h4, h5.mono mg⟩,
    fun i x e => let ⟨a, bs, h1, h2, h3, h4, h5⟩ := h.on i x e; ⟨a, bs, h1, hS a h2, m _ _ h3, h4, h5.imp (fun b _ q => hS b q) (fun b _ u q => m b u q) mg⟩,
    fun i ks ds e => let ⟨a, kvs, h1, h2, h3, h4, h5⟩ := h.od i ks ds e; ⟨a, kvs, h1, hS a h2, m _ _ h3, h4, h5.mono mg⟩,
    fun i j b n o1 o2 => h.ap i j b n (o1.back h rfl rfl fun c u _ q => m c u q) (o2.back h rfl rfl fun c u _ q => m c u q)⟩
theorem wipe_get {σ : L2.St} {s : Env} (hl : s.length = σ.length) : ∀ (us : List Nat) (i : Nat), (wipeE s us)[i]? = s[i]? ∧ (wipe σ us)[i]? = σ[i]? ∨ ((wipeE s us)[i]? = some .un ∧ (wipe σ us)[i]? = some none) ∨ ((wipeE s us)[i]? = none ∧ (wipe σ us)[i]? = none)
  | [], i => .inl ⟨rfl, rfl⟩
  | u :: us, i => by
    have l1 : ∀ us : List Nat, (wipeE s us).length = s.length := by
      intro us
      induction us with
      | nil => rfl
      | cons u us ih => unfold wipeE; rw [List.length_set, ih]
    unfold wipeE wipe
    rw [List.getElem?_set, List.getElem?_set, l1, wipe_length, hl]
    by_cases q : u = i
    · rw [if_pos q, if_pos q]
      split
      · exact .inr (.inl ⟨rfl, rfl⟩)
      · exact .inr (.inr ⟨rfl, rfl⟩)
    · rw [if_neg q, if_neg q]
      exact wipe_get hl us i
theorem wipeE_len {s : Env} : ∀ us : List Nat, (wipeE s us).length = s.length := by
  intro us
  induction us with
  | nil => rfl
  | cons u us ih => unfold wipeE; rw [List.length_set, ih]
theorem SR.wipe {K : PySem.W.Frag} {FA : Nat → Addr} {σ : L2.St} {s : Env} (h : SR K FA S H σ s) (us : List Nat) : SR K FA S H (L2.wipe σ us) (wipeE s us) := by
  have hg := wipe_get h.len us
  have back : ∀ i b, Own H (L2.wipe σ us) (wipeE s us) i b → Own H σ s i b := fun i b o => by
    rcases hg i with ⟨h1, h2⟩ | ⟨h1, h2⟩ | ⟨h1, h2⟩
    · exact o.back h h1 h2 fun _ _ _ q => q
    · rcases o with ⟨d, e, _⟩ | ⟨x, _, _, e, _⟩ | ⟨ks, ds, e, _⟩ <;> (rw [h1] at e; cases e)
    · rcases o with ⟨d, e, _⟩ | ⟨x, _, _, e, _⟩ | ⟨ks, ds, e, _⟩ <;> (rw [h1] at e; cases e)
  refine ⟨by rw [wipeE_len, wipe_length]; exact h.len, h.dom, fun i d e => ?_, fun i d e => ?_, fun i d e => ?_, fun i ks ds e => ?_, fun i j b n o1 o2 => h.ap i j b n (back i b o1) (back j b o2)⟩
  · rcases hg i with ⟨h1, h2⟩ | ⟨h1, h2⟩ | ⟨h1, h2⟩
    · rw [h1] at e
      rw [h2]
      exact h.sh i d e
    · rw [h1] at e; cases e
    · rw [h1] at e; cases e
  · rcases hg i with ⟨h1, h2⟩ | ⟨h1, h2⟩ | ⟨h1, h2⟩
    · rw [h1] at e
      rw [h2]
      exact h.ow i d e
    · rw [h1] at e; cases e
    · rw [h1] at e; cases e
  · rcases hg i with ⟨h1, h2⟩ | ⟨h1, h2⟩ | ⟨h1, h2⟩
    · rw [h1] at e
      rw [h2]
      exact h.on i d e
    · rw [h1] at e; cases e
    · rw [h1] at e; cases e
  · rcases hg i with ⟨h1, h2⟩ | ⟨h1, h2⟩ | ⟨h1, h2⟩
    · rw [h1] at e
      rw [h2]
      exact h.od i ks ds e
    · rw [h1] at e; cases e
    · rw [h1] at e; cases e
theorem gd_upd {a : Addr} {o : HO} (h : S a) : Same (gd S H) (gd S (upd H a o)) := fun b u e => by
  unfold gd at *
  split at e
  · cases e
  · rename_i nb
    rw [if_neg nb, upd_ne fun z => nb (by rw [z]; exact h)]
    exact e
/-- the turn of a comprehension, as the small language has it -/
def lcF (p : Pr) (n : Nat) (is : List Nat) (c e : E) (s : Env) (x : D) : Option (Option D) := (tgD is x (wipeE s is)).bind fun s2 => (ev (call p.T p.G n) p.G c s2).bind fun k => match k with
  | .bl true => (ev (call p.T p.G n) p.G e s2).map some
  | .bl false => some none
  | _ => none
theorem lc_sat0 {wi : TI} {tt : TT} {te : TE} {is : List Nat} {c e : E} {s : Env} {ds r : List D} {σ : L2.St} (si : ∀ R' : It → Hp → Prop, (∀ J vs P H1, Same H H1 → Wk J vs P → (∀ H', Same H1 H' → P H') → Rs p.K p.FA (gd S H1) vs ds → R' J H1) → wi σ H R') (st : SatT p n tt c) (se : Sat p n te e) (ne : al e = false)
    (e2 : lcD (lcF p n is c e s) ds = some r) (hz : r.length ≤ sizeLine) (hs : SR p.K p.FA S H σ s) (q : Ok p.K p.FA S H (.lst r) Q) : tLc wi (gOf p.K is) tt te is σ H Q := by
  refine si _ fun J vs P H1 m1 W hp rs => ?_
  intro D hD
  have dm1 := hs.dom.mono m1
  have nD : ¬ S D := fun z => dm1.nn z hD
  let S2 : Addr → Prop := fun a => S a ∨ a = D
  have hS2 : S2 D := .inr rfl
  have same1 : ∀ {H' : Hp}, Same H1 H' → Same (gd S H1) (gd S2 H') := fun {H'} m b u e => by
    have hb : H1 b = some u := gd_sub b u e
    have nb : b ≠ D := ne_of_none hb hD
    have ns : ¬ S b := fun z => by
      unfold gd at e
      rw [if_pos z] at e
      cases e
    exact gd_of (fun z => z.elim ns nb) (m b u hb)
  have hs1 := hs.mono m1
  refine lc_wk W (fun i H' => Same H1 H' ∧ Dom S2 H' ∧ ∃ acc done rest, H' D = some (.lst acc) ∧ Rs p.K p.FA (gd S2 H') acc done ∧ lcD (lcF p n is c e s) (ds.drop i) = some rest ∧ done ++ rest = r) ⟨same_new hD, ?_, [], [], r, upd_same, .nil, by simpa using e2, rfl⟩
    (fun i H' h => hp H' h.1) ?_ ?_
  · intro a ha
    rcases ha with ha | rfl
    · rw [upd_ne fun z => nD (by rw [← z]; exact ha)]
      exact dm1 a ha
    · exact ⟨_, upd_same, rfl⟩
  · rintro i x H' hi ⟨m, dm, acc, done, rest, hacc, ra, hr, hf⟩
    obtain ⟨dx, hdx, rx⟩ := rs.get' hi
    have hdrop : ds.drop i = dx :: ds.drop (i + 1) := by
      obtain ⟨h1, h2⟩ := List.getElem?_eq_some_iff.mp hdx
      rw [← h2]
      exact List.drop_eq_getElem_cons h1
    rw [hdrop] at hr
    unfold lcD at hr
    obtain ⟨y, hy, hr⟩ := Option.bind_eq_some_iff.mp hr
    obtain ⟨rest', hr', hr⟩ := Option.map_eq_some_iff.mp hr
    unfold lcF at hy
    obtain ⟨s2, ht, hy⟩ := Option.bind_eq_some_iff.mp hy
    obtain ⟨k, hk, hy⟩ := Option.bind_eq_some_iff.mp hy
    have hsw : SR p.K p.FA S2 H' (L2.wipe σ is) (wipeE s is) := (hs1.wipe is).ext m (same1 m) dm fun a ha => .inl ha
    refine tg_sat ht (rx.mono (same1 m)) hsw fun σ2 h2 hw => ⟨?_, ?_⟩
    · have q := hw is fun i h => h
      have ww : ∀ us : List Nat, (∀ i ∈ us, i ∈ is) → L2.wipe (L2.wipe σ is) us = L2.wipe σ is := by
        intro us
        induction us with
        | nil => intro _; rfl
        | cons u us ih =>
          intro hu
          show (L2.wipe (L2.wipe σ is) us).set u none = L2.wipe σ is
          rw [ih fun j hj => hu j (List.mem_cons_of_mem _ hj)]
          have hm := hu u List.mem_cons_self
          apply List.ext_getElem?
          intro j
          rw [List.getElem?_set]
          by_cases qj : u = j
          · rw [if_pos qj]
            subst qj
            have key : ∀ (us : List Nat), u ∈ us → (L2.wipe σ us)[u]? = if u < (L2.wipe σ us).length then some none else none := by
              intro us
              induction us with
              | nil => intro h; cases h
              | cons w us ih2 =>
                intro h
                unfold L2.wipe
                rw [List.getElem?_set, List.length_set]
                by_cases qw : w = u
                · subst qw
                  rw [if_pos rfl]
                · rw [if_neg qw]
                  exact ih2 ((List.mem_cons.mp h).resolve_left fun z => qw z.symm)
            rw [key is hm]
          · rw [if_neg qj]
      rw [q]
      exact ww is fun i h => h
    · split at hy
      · obtain ⟨w, hw2, hy⟩ := Option.map_eq_some_iff.mp hy
        cases hy
        refine st s2 true S2 H' σ2 _ hk h2 fun H3 m3 => ?_
        rw [if_pos rfl]
        refine se s2 w S2 H3 σ2 _ hw2 (h2.mono m3) fun yv H4 m4 _ ry _ => ?_
        have hlen : acc.length = done.length := ra.length
        subst hr
        have hfl : (done ++ w :: rest').length ≤ sizeLine := by rw [hf]; exact hz
        rw [List.length_append, List.length_cons] at hfl
        refine ⟨acc, m4 _ _ (m3 _ _ hacc), by omega, ?_, ?_, acc ++ [yv], done ++ [w], rest', upd_same, ?_, hr', ?_⟩
        · intro b u hb
          rw [upd_ne (ne_of_none hb hD)]
          exact m4 _ _ (m3 _ _ (m b u hb))
        · intro b hb
          by_cases z : b = D
          · exact ⟨_, (congrArg _ z).trans upd_same, rfl⟩
          · rw [upd_ne z]
            exact (dm.mono (m3.trans m4)) b hb
        · refine Rs.mono (gd_upd hS2) (Rs.append (ra.mono (gd_mono (m3.trans m4))) (.cons (ry ne) .nil))
        · rw [List.append_assoc]
          exact hf
      · cases hy
        subst hr
        refine st s2 false S2 H' σ2 _ hk h2 fun H3 m3 => ?_
        rw [if_neg Bool.false_ne_true]
        exact ⟨m.trans m3, dm.mono m3, acc, done, rest', m3 _ _ hacc, ra.mono (gd_mono m3), hr', hf⟩
      · cases hy
  · rintro H' ⟨m, dm, acc, done, rest, hacc, ra, hr, hf⟩
    have hz2 : ds.drop vs.length = [] := by rw [rs.length]; exact List.drop_length
    rw [hz2] at hr
    cases hr
    rw [List.append_nil] at hf
    subst hf
    refine q _ H' (m1.trans m) (.lst (gd_of nD hacc) (ra.mono (gd_anti fun a ha => .inl ha))) ?_
    refine ⟨fun ds' e' => ?_, fun ks' ds' e' => by cases e'⟩
    cases e'
    exact ⟨D, acc, rfl, m1.free hD, hacc, ra⟩
theorem lc_sat {wi : TI} {tt : TT} {te : TE} {is : List Nat} {c e : E} {b : Bool} {f : Env → Option (List D)} (si : SatI p n wi b f) (st : SatT p n tt c) (se : Sat p n te e) (ne : al e = false) {s : Env} {ds r : List D} {σ : L2.St}
    (e1 : f s = some ds) (e2 : lcD (lcF p n is c e s) ds = some r) (hz : r.length ≤ sizeLine) (hs : SR p.K p.FA S H σ s) (q : Ok p.K p.FA S H (.lst r) Q) : tLc wi (gOf p.K is) tt te is σ H Q :=
  lc_sat0 (fun R' k => si s ds S H σ R' e1 hs fun J vs P H1 m1 W hp _ rs => k J vs P H1 m1 W hp rs) st se ne e2 hz hs q
theorem folded_ok {x : Expr} {env : PySem.Env} (h : notSet x = true) : ∀ v, foldedSetIterable x env v = pure v := by
  intro v
  cases x <;> first | rfl | cases h
theorem xf_blk {X : Cx} (h : XF p n N sc X) (s : Shared) (H : Hp) (scope : Scope) (cl : List (Str × Addr)) (C : Addr) (fp : List Addr) : XF p n N (relS scope sc) (X.blk s H scope (compEnvC scope cl C X.env) fp) :=
  ⟨h.prog, h.w, h.K, h.mg, h.base, h.N, by
    show relS scope X.env.scope = relS scope sc
    rw [h.sc], h.calm, h.room, rfl⟩
theorem lc_if {F : Fc} {G : Nat → Option D} {is : List Nat} {c e : E} {xs : List D} {s : Env} {d : D} (h : ((lcD (fun x => (tgD is x (wipeE s is)).bind fun s2 => (ev F G c s2).bind fun k => match k with
        | .bl true => (ev F G e s2).map some
        | .bl false => some none
        | _ => none) xs).bind fun r => if r.length ≤ sizeLine then some (.lst r) else none) = some d) : ∃ r, d = .lst r ∧ r.length ≤ sizeLine ∧ lcD (fun x => (tgD is x (wipeE s is)).bind fun s2 => (ev F G c s2).bind fun k => match k with
        | .bl true => (ev F G e s2).map some
        | .bl false => some none
        | _ => none) xs = some r := by
  obtain ⟨r, h1, h2⟩ := Option.bind_eq_some_iff.mp h
  split at h2
  · cases h2
    exact ⟨r, rfl, by assumption, h1⟩
  · cases h2
/-! ### a walk over a dict, the dict locked -/
structure RM (G G' : Hp) : Prop where
  rd : ∀ a u, (∀ o w, u ≠ HO.frz o w) → Rd G a u → Rd G' a u
  ls : ∀ a vs, G a = some (.lst vs) → G' a = some (.lst vs)
section
variable {K : PySem.W.Frag} {FA : Nat → Addr} {G G' : Hp}
theorem RM.t {a : Addr} {vs : List V} (m : RM G G') (h : SqT K G a vs) : SqT K G' a vs := h.elim (fun q => .inl (m.rd _ _ (fun _ _ z => nomatch z) q)) .inr
theorem RM.l {a : Addr} {vs : List V} (m : RM G G') (h : SqL K G a vs) : SqL K G' a vs := h.elim (fun q => .inl (m.rd _ _ (fun _ _ z => nomatch z) q)) .inr
theorem RM.k {a : Addr} {kvs : List (Key × V)} (m : RM G G') (h : Rd G a (.dK kvs)) : Rd G' a (.dK kvs) := m.rd _ _ (fun _ _ z => nomatch z) h
theorem gd_in7 {a : Addr} {o : HO} (h : gd S H a = some o) : ¬ S a ∧ H a = some o := by
  unfold gd at h
  split at h
  · cases h
  · exact ⟨by assumption, h⟩
mutual
theorem R.rm (m : RM G G') : ∀ {v : V} {d : D}, R K FA G v d → R K FA G' v d
  | _, _, .non => .non
  | _, _, .bl b => .bl b
  | _, _, .int i => .int i
  | _, _, .str x => .str x
  | _, _, .tup h r => .tup (m.t h) (Rs.rm m r)
  | _, _, .lst h r => .lst (m.ls _ _ h) (Rs.rm m r)
  | _, _, .fls h r => .fls (m.l h) (Rs.rm m r)
  | _, _, .fn f h => .fn f h
  | _, _, .dcs h k r => .dcs (m.k h) k (Rs.rm m r)
theorem Rs.rm (m : RM G G') : ∀ {vs : List V} {ds : List D}, Rs K FA G vs ds → Rs K FA G' vs ds
  | _, _, .nil => .nil
  | _, _, .cons h r => .cons (R.rm m h) (Rs.rm m r)
end
theorem RM.lock {a : Addr} {kvs : List (Key × V)} {od : Obj} (h : H a = some (.dK kvs)) (n : ¬ S a) : RM (gd S H) (gd S (L2.upd H a (.frz od (.dK kvs)))) := by
  have ne : ∀ b o, gd S H b = some o → b ≠ a → gd S (L2.upd H a (.frz od (.dK kvs))) b = some o := fun b o e z => by
    obtain ⟨ns, e2⟩ := gd_in7 e
    exact gd_of ns (by rw [L2.upd_ne z]; exact e2)
  refine ⟨fun b u _ q => ?_, fun b vs e => ne b _ e fun z => ?_⟩
  · rcases q with e | ⟨o, e⟩
    · by_cases z : b = a
      · have e2 := gd_sub b u e
        rw [z, h] at e2
        cases e2
        rw [z]
        exact .inr ⟨od, gd_of n L2.upd_same⟩
      · exact .inl (ne b _ e z)
    · refine .inr ⟨o, ne b _ e fun z => ?_⟩
      have e2 := gd_sub b _ e
      rw [z, h] at e2
      cases e2
  · have e2 := gd_sub b _ e
    rw [z, h] at e2
    cases e2
theorem RM.open_ {a : Addr} {kvs : List (Key × V)} {od : Obj} (h : H a = some (.frz od (.dK kvs))) (n : ¬ S a) : RM (gd S H) (gd S (L2.upd H a (.dK kvs))) := by
  have ne : ∀ b o, gd S H b = some o → b ≠ a → gd S (L2.upd H a (.dK kvs)) b = some o := fun b o e z => by
    obtain ⟨ns, e2⟩ := gd_in7 e
    exact gd_of ns (by rw [L2.upd_ne z]; exact e2)
  refine ⟨fun b u nf q => ?_, fun b vs e => ne b _ e fun z => ?_⟩
  · rcases q with e | ⟨o, e⟩
    · refine .inl (ne b _ e fun z => ?_)
      have e2 := gd_sub b u e
      rw [z, h] at e2
      cases e2
      exact nf _ _ rfl
    · by_cases z : b = a
      · have e2 := gd_sub b _ e
        rw [z, h] at e2
        cases e2
        rw [z]
        exact .inl (gd_of n L2.upd_same)
      · exact .inr ⟨o, ne b _ e z⟩
  · have e2 := gd_sub b _ e
    rw [z, h] at e2
    cases e2
theorem Nst.rm {H' : Hp} {bs : List Addr} {xss : List (List D)} (hH : ∀ b ∈ bs, ∀ u, H b = some u → H' b = some u) (m : RM (gd S H) (gd S H')) (h : Nst K FA S H bs xss) : Nst K FA S H' bs xss := by
  induction h with
  | nil => exact .nil
  | cons h1 h2 h3 _ ih => exact .cons h1 (hH _ List.mem_cons_self _ h2) (h3.rm m) (ih fun b hb => hH b (List.mem_cons_of_mem _ hb))
theorem SR.lock {σ : L2.St} {s : Env} {a : Addr} {kvs : List (Key × V)} {od : Obj} (hs : SR K FA S H σ s) (h : H a = some (.dK kvs)) (n : ¬ S a) : SR K FA S (L2.upd H a (.frz od (.dK kvs))) σ s := by
  have m : RM (gd S H) (gd S (L2.upd H a (.frz od (.dK kvs)))) := RM.lock h n
  have st : ∀ b, S b → ∀ u, H b = some u → L2.upd H a (.frz od (.dK kvs)) b = some u := fun b hb u e => by rw [L2.upd_ne fun z : b = a => n (z ▸ hb)]; exact e
  exact ⟨hs.len, fun b hb => let ⟨o, e, k⟩ := hs.dom b hb; ⟨o, st b hb o e, k⟩, fun i d e => let ⟨v, h1, h2⟩ := hs.sh i d e; ⟨v, h1, h2.rm m⟩,
    fun i d e => let ⟨a, vs, ds, h1, h2, h3, h4, h5⟩ := hs.ow i d e; ⟨a, vs, ds, h1, h2, h3, st _ h3 _ h4, h5.rm m⟩,
    fun i x e => let ⟨a, bs, h1, h2, h3, h4, h5⟩ := hs.on i x e; ⟨a, bs, h1, h2, st _ h2 _ h3, h4, h5.rm (fun b hb u q => st b (h5.mem b hb) u q) m⟩,
    fun i ks ds e => let ⟨a, kvs, h1, h2, h3, h4, h5⟩ := hs.od i ks ds e; ⟨a, kvs, h1, h2, st _ h2 _ h3, h4, h5.rm m⟩,
    fun i j b nij o1 o2 => hs.ap i j b nij (o1.back hs rfl rfl fun c u q e => st c (q.S_ hs) u e) (o2.back hs rfl rfl fun c u q e => st c (q.S_ hs) u e)⟩
end
theorem pe_or {X : Cx} {e : Expr} {t1 t2 : TE} (h1 : PE X e t1) (h2 : PE X e t2) : PE X e (fun σ H Q => t1 σ H Q ∨ t2 σ H Q) := ⟨fun pins s σ H Q I h => h.elim (h1.run pins s σ H Q I) (h2.run pins s σ H Q I)⟩
theorem wk_keys {d : Addr} {o : Obj} {kvs : List (Key × V)} {ks : List Str} (hk : kvs.map (·.1) = ks.map Sum.inr) : Wk (Itk d o kvs) (ks.map V.str) (fun H => H d = some (.frz o (.dK kvs))) := by
  have hl := keys_inr hk
  refine ⟨fun i H h l => ⟨h, by rw [List.length_map] at l; omega⟩, fun H h => ⟨h, by rw [List.length_map]; omega⟩, fun i H x H' h l y => ?_⟩
  obtain ⟨y1, k, v, y2, rfl⟩ := y
  refine ⟨y1, ?_⟩
  have e := congrArg (fun l => l[i]?) hk
  simp only [List.getElem?_map, y2, Option.map_some] at e
  obtain ⟨z, e1, e2⟩ := Option.map_eq_some_iff.mp e.symm
  rw [List.getElem?_map, e1]
  show some (V.str z) = some (kV k)
  rw [← e2]
  rfl
/-- a comprehension's parts over a block -/
structure LcOk (p : Pr) (n : Nat) (N : List Str) (sc scope : Scope) (is : List Nat) (tg : Expr) (ifs : List Expr) (c e : E) (el : Expr) : Prop where
  blk : blkC N sc scope (ownOf N is) = true
  tg : chkTg N scope is tg = true
  tt : ∃ t : TT, (∀ X, XF p n N (relS scope sc) X → PTs X ifs t) ∧ SatT p n t c
  el : GoodE p n N (relS scope sc) e el
  ne : al e = false
theorem own_snd {is : List Nat} : (ownOf N is).map (·.2) = is := by
  unfold ownOf
  rw [List.map_map]
  exact List.map_id is
theorem tg_blk {X : Cx} (h : XF p n N sc X) (nd : N.Nodup) {scope : Scope} {is : List Nat} {tg : Expr} (ht : chkTg N scope is tg = true) (s : Shared) (H : Hp) (C : Addr) (cl : List (Str × Addr)) (fp : List Addr) : PG (X.blk s H scope (compEnvC scope cl C X.env) fp) tg (gOf p.K is) := by
  refine pg_ok (X := X.blk s H scope (compEnvC scope cl C X.env) fp) h.K h.calm h.N nd (fun x hx => ?_) ht
  have key : ∀ k, k ≠ NameKind.free → scope.names.lookup x = some k → (relS scope X.env.scope).names.lookup x = some k := fun k hk e => lookup_relS_keep hk e
  rcases hx with e | e
  · exact ⟨.inl (key _ (by decide) e), .inr (key _ (by decide) e)⟩
  · refine ⟨.inr (key _ (by decide) e), .inl ?_⟩
    show (scope.names.lookup x == some .cell) = true
    rw [e]
    rfl
theorem good_lcAny {scope : Scope} {is : List Nat} {tg iter : Expr} {ifs : List Expr} {c e l : E} {el : Expr} {pos : Pos} {b : Bool} {f : Env → Option (List D)} (nd : N.Nodup) (k : LcOk p n N sc scope is tg ifs c e el) (hs : notSet iter = true)
    (hi : ∃ t : TI, (∀ X, XF p n N sc X → PI X tg iter t) ∧ SatI p n t b f) (hl : fr p.T l = true)
    (hev : ∀ s d, ev (call p.T p.G n) p.G l s = some d → ∃ ds r, f s = some ds ∧ lcD (lcF p n is c e s) ds = some r ∧ r.length ≤ sizeLine ∧ d = .lst r) : GoodE p n N sc l (.ListComp el [⟨tg, iter, ifs, 0⟩] scope pos) := by
  obtain ⟨wi, pi, si⟩ := hi
  obtain ⟨tt, pt, st⟩ := k.tt
  obtain ⟨te, pe, se⟩ := k.el
  refine ⟨tLc wi (gOf p.K is) tt te is, fun X hx => ?_, fun s d S H σ Q e hs q => ?_⟩
  · have z := pe_lc (own := ownOf N is) (pos := pos) hx.calm (by rw [hx.N]; exact nd) (pi X hx) (by rw [hx.N, hx.sc]; exact blkOk_by k.blk) (fun s H C cl fp => tg_blk hx nd k.tg s H C cl fp) (fun s H C cl fp => pt _ (xf_blk hx s H scope cl C fp)) (fun s H C cl fp => pe _ (xf_blk hx s H scope cl C fp)) (folded_ok hs)
    rw [own_snd] at z
    exact z
  · obtain ⟨ds, r, e1, e2, e3, rfl⟩ := hev s d e
    exact lc_sat si st se k.ne e1 e2 e3 hs (q.ok (Same.refl _))
theorem lcd_sat {tt : TT} {te : TE} {is : List Nat} {i : Nat} {c e : E} (st : SatT p n tt c) (se : Sat p n te e) (ne : al e = false) : Sat p n (fun σ H Q => tLockE (tLc (iKeys (tVar i)) (gOf p.K is) tt te is) σ H Q ∨ tLc (iKeys (tVar i)) (gOf p.K is) tt te is σ H Q) (.lcd is i c e) := by
  intro s d S H σ Q e' hs q
  unfold ev at e'
  obtain ⟨xs, e1, e'⟩ := Option.bind_eq_some_iff.mp e'
  obtain ⟨dd, e2, e3⟩ := Option.bind_eq_some_iff.mp e1
  obtain ⟨sl, e4, e5⟩ := Option.bind_eq_some_iff.mp e2
  cases sl <;> cases e5
  obtain ⟨v, h1, h2⟩ := hs.sh _ _ e4
  cases dd <;> first | (cases e3; done) | skip
  rename_i ks vs0
  cases e3
  obtain ⟨r, rfl, hz, hr⟩ := lc_if e'
  obtain ⟨a, kvs, rfl, hk, hrs, rd⟩ : ∃ (a : Addr) (kvs : List (Key × V)), v = .ref a ∧ kvs.map (·.1) = ks.map Sum.inr ∧ Rs p.K p.FA (gd S H) (kvs.map (·.2)) vs0 ∧ Rd (gd S H) a (.dK kvs) := by
    cases h2 with
    | dcs h k r => exact ⟨_, _, rfl, k, r, h⟩
  rcases rd with e6 | ⟨o, e6⟩
  · obtain ⟨nS, ha⟩ := gd_in7 e6
    refine .inl ⟨a, _, ha, trivial, fun od => ?_⟩
    have hs' := hs.lock (od := od) ha nS
    refine lc_sat0 (S := S) (ds := ks.map .str) (r := r) (fun R' kk => ⟨_, h1, a, od, rfl, .inl ⟨kvs, L2.upd_same, kk _ (ks.map V.str) _ _ (Same.refl _) (wk_keys hk) (fun H' m => m _ _ L2.upd_same) rs_strs⟩⟩) st se ne hr hz hs' fun v H2 m2 r2 f2 => ?_
    have e7 : H2 a = some (.frz od (.dK kvs)) := m2 _ _ L2.upd_same
    have mS : Same H (L2.upd H2 a (.dK kvs)) := fun b u hb => by
      by_cases z : b = a
      · rw [z] at hb ⊢
        rw [ha] at hb
        rw [L2.upd_same, hb]
      · rw [L2.upd_ne z]
        exact m2 b u (by rw [L2.upd_ne z]; exact hb)
    have r3 := r2.rm (RM.open_ e7 nS)
    refine ⟨e7, q v _ mS (.inl r3) (fun _ => r3) fun _ => ⟨fun ds' e8 => ?_, fun _ _ e8 => by cases e8⟩⟩
    obtain ⟨b, us, k1, k2, k3, k4⟩ := f2.1 ds' e8
    have nb : b ≠ a := fun z => by rw [z, L2.upd_same] at k2; cases k2
    exact ⟨b, us, k1, by rw [L2.upd_ne nb] at k2; exact k2, by rw [L2.upd_ne nb]; exact k3, k4.rm (RM.open_ e7 fun z => z.elim nS fun z => nb z.symm)⟩
  · obtain ⟨nS, ha⟩ := gd_in7 e6
    exact .inr (lc_sat0 (S := S) (ds := ks.map .str) (r := r) (fun R' kk => ⟨_, h1, a, o, rfl, .inl ⟨kvs, ha, kk _ (ks.map V.str) _ _ (Same.refl _) (wk_keys hk) (fun H' m => m _ _ ha) rs_strs⟩⟩) st se ne hr hz hs (q.ok (Same.refl _)))
theorem good_lcd {scope : Scope} {is : List Nat} {i : Nat} {y : Str} {tg : Expr} {ifs : List Expr} {c e : E} {el : Expr} {q1 pos : Pos} (nd : N.Nodup) (k : LcOk p n N sc scope is tg ifs c e el) (hN : N[i]? = some y) (hv : visB sc y = true) : GoodE p n N sc (.lcd is i c e) (.ListComp el [⟨tg, .Name y q1, ifs, 0⟩] scope pos) := by
  obtain ⟨tt, pt, st⟩ := k.tt
  obtain ⟨te, pe, se⟩ := k.el
  refine ⟨_, fun X hx => ?_, lcd_sat st se k.ne⟩
  have z := pe_lc (own := ownOf N is) (pos := pos) hx.calm (by rw [hx.N]; exact nd) (pi_keys (good_name (pos := q1) hN hv X hx)) (by rw [hx.N, hx.sc]; exact blkOk_by k.blk) (fun s H C cl fp => tg_blk hx nd k.tg s H C cl fp) (fun s H C cl fp => pt _ (xf_blk hx s H scope cl C fp)) (fun s H C cl fp => pe _ (xf_blk hx s H scope cl C fp)) (folded_ok rfl)
  rw [own_snd] at z
  exact pe_or (pe_lock z) z
theorem notStars : ∀ {es : List E} {xs : List Expr}, chkEs p.t N sc es xs = true → xs.all notStar = true ∧ es.length = xs.length
  | [], [], _ => ⟨rfl, rfl⟩
  | e :: es, x :: xs, h => by
    unfold chkEs at h
    obtain ⟨h1, h2⟩ := ba h
    obtain ⟨q1, q2⟩ := notStars (ba h2).2
    refine ⟨?_, by rw [List.length_cons, List.length_cons, q2]⟩
    rw [List.all_cons, h1, q1]
    rfl
  | [], _ :: _, h => by unfold chkEs at h; cases h
  | _ :: _, [], h => by unfold chkEs at h; cases h
end
end PL

/-! PL8: expressions as a whole. -/
namespace PL
open PySem PySem.Spec L2
section
variable {p : Pr} {n : Nat} {N : List Str} {sc : Scope} {x : Expr}
theorem chk_c {d : D} (h : chkE p.t N sc (.c d) x = true) : ∃ c j pos, x = .Constant c j pos ∧ chkC d c = true := by
  cases x <;> first | exact ⟨_, _, _, rfl, h⟩ | (unfold chkE at h; cases h)
theorem chk_var {i : Nat} (h : chkE p.t N sc (.var i) x = true) : ∃ y pos, x = .Name y pos ∧ N[i]? = some y ∧ visB sc y = true := by
  cases x <;> first | (unfold chkE at h; cases h; done) | (unfold chkE at h; exact ⟨_, _, rfl, of_decide_eq_true (ba h).1, (ba h).2⟩)
theorem chk_rd {i : Nat} (h : chkE p.t N sc (.rd i) x = true) : ∃ y pos, x = .Name y pos ∧ N[i]? = some y ∧ visB sc y = true := by
  cases x <;> first | (unfold chkE at h; cases h; done) | (unfold chkE at h; exact ⟨_, _, rfl, of_decide_eq_true (ba h).1, (ba h).2⟩)
theorem chk_rdn {i : Nat} {k : E} (h : chkE p.t N sc (.rdn i k) x = true) : ∃ y q1 z pos, x = .Subscript (.Name y q1) z pos ∧ N[i]? = some y ∧ visB sc y = true ∧ notSlice z = true ∧ chkE p.t N sc k z = true := by
  cases x <;> first | (unfold chkE at h; cases h; done) | skip
  rename_i o z pos
  cases o <;> first | (unfold chkE at h; cases h; done) | skip
  unfold chkE at h
  exact ⟨_, _, _, _, rfl, of_decide_eq_true (ba h).1, (ba (ba h).2).1, ba (ba (ba h).2).2⟩
theorem chk_lenn {i : Nat} (h : chkE p.t N sc (.lenn i) x = true) : ∃ q1 y q2 pos, x = .Call (.Name (biN .len) q1) [.Name y q2] [] pos ∧ gloB sc (biN .len) = true ∧ N[i]? = some y ∧ visB sc y = true := by
  cases x <;> first | (unfold chkE at h; cases h; done) | skip
  rename_i f xs ks pos
  cases f <;> first | (unfold chkE at h; cases h; done) | skip
  rcases xs with _ | ⟨z, _ | ⟨z2, xs⟩⟩ <;> first
    | (unfold chkE at h; cases h; done)
    | (cases z <;> (unfold chkE at h; cases h; done))
    | skip
  cases z <;> first | (unfold chkE at h; cases h; done) | skip
  cases ks <;> first | (unfold chkE at h; cases h; done) | skip
  unfold chkE at h
  obtain ⟨h1, k1⟩ := ba h
  obtain ⟨h2, k2⟩ := ba k1
  obtain ⟨h3, h4⟩ := ba k2
  have e := of_decide_eq_true h1
  have e3 := of_decide_eq_true h3
  clear h k1 h1 k2 h3
  subst e
  exact ⟨_, _, _, _, rfl, h2, e3, h4⟩
theorem good_tvals (fc : Facts p n) {i : Nat} {y : Str} {q1 q2 apos cpos pos : Pos} (hg : gloB sc (biN .tuple_) = true) (hN : N[i]? = some y) (hv : visB sc y = true) (hl : (apos.endLine == cpos.line) = true) :
    GoodE p n N sc (.tvals i) (.Call (.Name (biN .tuple_) q1) [.Call (.Attribute (.Name y q2) (Str.ofString "values") apos) [] [] cpos] [] pos) := by
  refine ⟨tTupVals (tVar i), fun X hx => pe_tupVals hx.calm (hx.gl hg) (by rw [hx.mg]; exact fc.bi .tuple_) (good_name hN hv X hx) rfl hl (star_cons rfl), fun s d S H σ Q e hs q => ?_⟩
  unfold ev at e
  obtain ⟨dd, e1, rfl⟩ := Option.map_eq_some_iff.mp e
  obtain ⟨sl, e0, e1⟩ := Option.bind_eq_some_iff.mp e1
  cases sl <;> cases e1
  obtain ⟨a, kvs, h1, h2, h3, h4, h5⟩ := hs.od i _ _ e0
  exact ⟨_, h1, a, kvs, rfl, h3, fun p hp => (q.ok (Same.refl _)).newT hs.dom hp h5⟩
theorem chk_tvals {i : Nat} (h : chkE p.t N sc (.tvals i) x = true) : ∃ q1 y q2 apos cpos pos, x = .Call (.Name (biN .tuple_) q1) [.Call (.Attribute (.Name y q2) (Str.ofString "values") apos) [] [] cpos] [] pos ∧ gloB sc (biN .tuple_) = true ∧ N[i]? = some y ∧ visB sc y = true ∧ (apos.endLine == cpos.line) = true := by
  cases x <;> first | (unfold chkE at h; cases h; done) | skip
  rename_i f xs ks pos
  cases f <;> first | (unfold chkE at h; cases h; done) | skip
  rcases xs with _ | ⟨z, _ | ⟨z2, xs⟩⟩
  · unfold chkE at h; cases h
  rotate_left
  · simp [chkE] at h
  cases z <;> first | (simp [chkE] at h; done) | skip
  rename_i g ys ks2 cpos
  cases g <;> first | (simp [chkE] at h; done) | skip
  rename_i o m apos
  cases o <;> first | (simp [chkE] at h; done) | skip
  cases ys <;> first | (simp [chkE] at h; done) | skip
  cases ks2 <;> first | (simp [chkE] at h; done) | skip
  cases ks <;> first | (simp [chkE] at h; done) | skip
  unfold chkE at h
  obtain ⟨h1, k1⟩ := ba h
  obtain ⟨h2, k2⟩ := ba k1
  obtain ⟨h3, k3⟩ := ba k2
  obtain ⟨h4, k4⟩ := ba k3
  obtain ⟨h5, h6⟩ := ba k4
  have e1 := of_decide_eq_true h1
  have e3 := of_decide_eq_true h3
  have e5 := of_decide_eq_true h5
  clear h k1 h1 k2 h3 k3 k4 h5
  subst e1 e5
  exact ⟨_, _, _, _, _, _, rfl, h2, e3, h4, h6⟩
theorem chk_revl {a : E} (h : chkE p.t N sc (.revl a) x = true) : ∃ y k p1 p2 p3 pos, x = .Subscript y (.Slice none none (some (.UnaryOp .USub (.Constant (.int 1) k p1) p2)) p3) pos ∧ chkE p.t N sc a y = true := by
  cases x <;> first | (unfold chkE at h; cases h; done) | skip
  rename_i y z pos
  cases z <;> first | (unfold chkE at h; cases h; done) | skip
  rename_i lo hi st p3
  cases lo <;> first | (unfold chkE at h; cases h; done) | skip
  cases hi <;> first | (unfold chkE at h; cases h; done) | skip
  cases st <;> first | (unfold chkE at h; cases h; done) | skip
  rename_i st
  cases st <;> first | (unfold chkE at h; cases h; done) | skip
  rename_i op u p2
  cases op <;> first | (unfold chkE at h; cases h; done) | skip
  cases u <;> first | (unfold chkE at h; cases h; done) | skip
  rename_i c k p1
  cases c <;> first | (unfold chkE at h; cases h; done) | skip
  unfold chkE at h
  obtain ⟨h1, h2⟩ := ba h
  cases of_decide_eq_true h1
  exact ⟨_, _, _, _, _, _, rfl, h2⟩
theorem chk_lrg {a : E} (h : chkE p.t N sc (.lrg a) x = true) : ∃ q1 q2 y pos2 pos, x = .Call (.Name (biN .list_) q1) [.Call (.Name (Str.ofString "range") q2) [y] [] pos2] [] pos ∧ gloB sc (biN .list_) = true ∧ gloB sc (Str.ofString "range") = true ∧ notStar y = true ∧ chkE p.t N sc a y = true := by
  cases x <;> first | (unfold chkE at h; cases h; done) | skip
  rename_i f xs ks pos
  cases f <;> first | (unfold chkE at h; cases h; done) | skip
  rcases xs with _ | ⟨z, _ | ⟨z2, xs⟩⟩
  · unfold chkE at h; cases h
  rotate_left
  · simp [chkE] at h
  cases z <;> first | (simp [chkE] at h; done) | skip
  rename_i g ys ks2 pos2
  cases g <;> first | (simp [chkE] at h; done) | skip
  rcases ys with _ | ⟨y, _ | ⟨y2, ys⟩⟩
  · simp [chkE] at h
  rotate_left
  · simp [chkE] at h
  cases ks2 <;> first | (simp [chkE] at h; done) | skip
  cases ks <;> first | (simp [chkE] at h; done) | skip
  unfold chkE at h
  obtain ⟨h1, k1⟩ := ba h
  obtain ⟨h2, k2⟩ := ba k1
  obtain ⟨h3, k3⟩ := ba k2
  obtain ⟨h4, k4⟩ := ba k3
  obtain ⟨h5, h6⟩ := ba k4
  have e1 := of_decide_eq_true h1
  have e3 := of_decide_eq_true h3
  clear h k1 h1 k2 h3 k3
  subst e1 e3
  exact ⟨_, _, _, _, _, rfl, h2, h4, h5, h6⟩
theorem chk_gl {g : Nat} (h : chkE p.t N sc (.gl g) x = true) : ∃ pos, x = .Name (p.t.GN g) pos ∧ gloB sc (p.t.GN g) = true ∧ ((p.G g).bind glD).isSome = true := by
  cases x <;> first | (unfold chkE at h; cases h; done) | (unfold chkE at h; obtain ⟨h1, h2⟩ := ba h; cases of_decide_eq_true h1; exact ⟨_, rfl, ba h2⟩)
theorem chk_dgT {g : Nat} {e : E} (h : chkE p.t N sc (.dgT g e) x = true) : ∃ q1 apos y pos kvs, x = .Call (.Attribute (.Name (p.t.GN g) q1) (Str.ofString "get") apos) [y] [] pos ∧ p.G g = some (.dct kvs) ∧ isTk (p.G g) = true ∧ gloB sc (p.t.GN g) = true ∧ (apos.endLine == pos.line) = true ∧ notStar y = true ∧ chkE p.t N sc e y = true := by
  cases x <;> first | (unfold chkE at h; cases h; done) | skip
  rename_i f xs ks pos
  rcases xs with _ | ⟨y, _ | ⟨z2, xs⟩⟩ <;> first | (unfold chkE at h; cases h; done) | skip
  cases ks <;> first | (unfold chkE at h; cases h; done) | skip
  unfold chkE at h
  obtain ⟨h1, h⟩ := ba h
  obtain ⟨h2, h3⟩ := ba h
  unfold dgtB at h1
  split at h1
  · obtain ⟨a1, h1⟩ := ba h1
    obtain ⟨a2, h1⟩ := ba h1
    obtain ⟨a3, h1⟩ := ba h1
    obtain ⟨a4, a5⟩ := ba h1
    cases of_decide_eq_true a1
    cases of_decide_eq_true a4
    have a3' := a3
    unfold isTk at a3'
    split at a3'
    · exact ⟨_, _, _, _, _, rfl, by assumption, a3, a2, a5, h2, h3⟩
    · cases a3'
  · cases h1
theorem chk_tix {g : Nat} {e : E} (h : chkE p.t N sc (.tix g e) x = true) : ∃ q1 apos y pos ds, x = .Call (.Attribute (.Name (p.t.GN g) q1) (Str.ofString "index") apos) [y] [] pos ∧ p.G g = some (.tup ds) ∧ gloB sc (p.t.GN g) = true ∧ (apos.endLine == pos.line) = true ∧ notStar y = true ∧ chkE p.t N sc e y = true := by
  cases x <;> first | (unfold chkE at h; cases h; done) | skip
  rename_i f xs ks pos
  rcases xs with _ | ⟨y, _ | ⟨z2, xs⟩⟩ <;> first | (unfold chkE at h; cases h; done) | skip
  cases ks <;> first | (unfold chkE at h; cases h; done) | skip
  unfold chkE at h
  obtain ⟨h1, h⟩ := ba h
  obtain ⟨h2, h3⟩ := ba h
  unfold tixB at h1
  split at h1
  · obtain ⟨a1, h1⟩ := ba h1
    obtain ⟨a2, h1⟩ := ba h1
    obtain ⟨a3, h1⟩ := ba h1
    obtain ⟨a4, a5⟩ := ba h1
    cases of_decide_eq_true a1
    cases of_decide_eq_true a4
    unfold isTupG at a3
    split at a3
    · exact ⟨_, _, _, _, _, rfl, by assumption, a2, a5, h2, h3⟩
    · cases a3
  · cases h1
theorem chk_dix {g : Nat} {e : E} (h : chkE p.t N sc (.dix g e) x = true) : ∃ q1 y pos kvs, x = .Subscript (.Name (p.t.GN g) q1) y pos ∧ p.G g = some (.dct kvs) ∧ isSk (p.G g) = true ∧ gloB sc (p.t.GN g) = true ∧ notSlice y = true ∧ chkE p.t N sc e y = true := by
  cases x <;> first | (unfold chkE at h; cases h; done) | skip
  unfold chkE at h
  obtain ⟨h1, h⟩ := ba h
  obtain ⟨h2, h3⟩ := ba h
  unfold dixB at h1
  split at h1
  · obtain ⟨a1, h1⟩ := ba h1
    obtain ⟨a2, a3⟩ := ba h1
    cases of_decide_eq_true a1
    have a3' := a3
    unfold isSk at a3'
    split at a3'
    · exact ⟨_, _, _, _, rfl, by assumption, a3, a2, h2, h3⟩
    · cases a3'
  · cases h1
theorem chk_cloc {i : Nat} {es : List E} (h : chkE p.t N sc (.cloc i es) x = true) : ∃ y q1 z zs pos, x = .Call (.Name y q1) (z :: zs) [] pos ∧ N[i]? = some y ∧ visB sc y = true ∧ chkEs p.t N sc es (z :: zs) = true ∧ es.all (!al ·) = true := by
  cases x <;> first | (unfold chkE at h; cases h; done) | skip
  rename_i f xs ks pos
  cases ks <;> first | (unfold chkE at h; cases h; done) | skip
  unfold chkE at h
  obtain ⟨h1, h⟩ := ba h
  obtain ⟨h2, h⟩ := ba h
  obtain ⟨h3, h4⟩ := ba h
  cases xs with
  | nil => cases h4
  | cons z zs =>
    unfold clocB at h1
    split at h1
    · obtain ⟨a1, a2⟩ := ba h1
      exact ⟨_, _, _, _, _, rfl, of_decide_eq_true a1, a2, h2, h3⟩
    · cases h1
theorem chk_tup {es : List E} (h : chkE p.t N sc (.tup es) x = true) : ∃ xs k pos, x = .Tuple xs k pos ∧ chkEs p.t N sc es xs = true ∧ es.all (!al ·) = true := by
  cases x <;> first | (unfold chkE at h; cases h; done) | (unfold chkE at h; exact ⟨_, _, _, rfl, ba h⟩)
theorem chk_dsp {ks : List Str} {es : List E} (h : chkE p.t N sc (.dsp ks es) x = true) : ∃ keys xs pos, x = .Dict keys xs pos ∧ keysB ks keys = true ∧ chkEs p.t N sc es xs = true ∧ es.all (!al ·) = true ∧ es ≠ [] ∧ ks.length = xs.length ∧ ks.length ≤ 15 := by
  cases x <;> (unfold chkE at h; first | (cases h; done) | skip)
  obtain ⟨h1, h⟩ := ba h
  obtain ⟨h2, h⟩ := ba h
  obtain ⟨h3, h⟩ := ba h
  obtain ⟨h4, h⟩ := ba h
  obtain ⟨h5, h6⟩ := ba h
  exact ⟨_, _, _, rfl, h1, h2, h3, (fun z => by rw [z] at h4; cases h4), of_decide_eq_true h5, of_decide_eq_true h6⟩
theorem chk_lst {es : List E} (h : chkE p.t N sc (.lst es) x = true) : ∃ xs pos, x = .List xs pos ∧ chkEs p.t N sc es xs = true ∧ es.all (!al ·) = true := by
  cases x <;> first | (unfold chkE at h; cases h; done) | (unfold chkE at h; exact ⟨_, _, rfl, ba h⟩)
theorem chk_bin {o : B1} {a b : E} (h : chkE p.t N sc (.bin o a b) x = true) : ∃ y op z pos, x = .BinOp y op z pos ∧ opEq (pyOp o) op = true ∧ chkE p.t N sc a y = true ∧ chkE p.t N sc b z = true := by
  cases x <;> first | (unfold chkE at h; cases h; done) | (unfold chkE at h; exact ⟨_, _, _, _, rfl, (ba h).1, (ba (ba h).2).1, (ba (ba h).2).2⟩)
theorem chk_neg {a : E} (h : chkE p.t N sc (.neg a) x = true) : ∃ y pos, x = .UnaryOp .USub y pos ∧ chkE p.t N sc a y = true := by
  cases x <;> first | (unfold chkE at h; cases h; done) | skip
  rename_i op y pos
  cases op <;> first | (unfold chkE at h; cases h; done) | (unfold chkE at h; exact ⟨_, _, rfl, h⟩)
theorem chk_nt {a : E} (h : chkE p.t N sc (.nt a) x = true) : ∃ y pos, x = .UnaryOp .Not y pos ∧ chkE p.t N sc a y = true := by
  cases x <;> first | (unfold chkE at h; cases h; done) | skip
  rename_i op y pos
  cases op <;> first | (unfold chkE at h; cases h; done) | (unfold chkE at h; exact ⟨_, _, rfl, h⟩)
theorem chk_cmp {o : CO} {a b : E} (h : chkE p.t N sc (.cmp o a b) x = true) : ∃ y op z pos, x = .Compare y [op] [z] pos ∧ cmpEq (pyCmp o) op = true ∧ notSet z = true ∧ chkE p.t N sc a y = true ∧ chkE p.t N sc b z = true := by
  cases x <;> first | (unfold chkE at h; cases h; done) | skip
  rename_i y ops cs pos
  rcases ops with _ | ⟨op, _ | ⟨op2, ops⟩⟩ <;> rcases cs with _ | ⟨z, _ | ⟨z2, cs⟩⟩ <;> first
    | (unfold chkE at h; cases h; done)
    | (unfold chkE at h; exact ⟨_, _, _, _, rfl, (ba h).1, (ba (ba h).2).1, (ba (ba (ba h).2).2).1, (ba (ba (ba h).2).2).2⟩)
theorem chk_chain {o1 o2 : CO} {a b c : E} (h : chkE p.t N sc (.chain o1 o2 a b c) x = true) : ∃ y p1 p2 z w pos, x = .Compare y [p1, p2] [z, w] pos ∧ cmpEq (pyCmp o1) p1 = true ∧ cmpEq (pyCmp o2) p2 = true ∧ notSet w = true ∧ chkE p.t N sc a y = true ∧ chkE p.t N sc b z = true ∧ chkE p.t N sc c w = true := by
  cases x <;> first | (unfold chkE at h; cases h; done) | skip
  rename_i y ops cs pos
  rcases ops with _ | ⟨op, _ | ⟨op2, _ | ⟨op3, ops⟩⟩⟩ <;> rcases cs with _ | ⟨z, _ | ⟨z2, _ | ⟨z3, cs⟩⟩⟩ <;> first
    | (unfold chkE at h; cases h; done)
    | (unfold chkE at h
       obtain ⟨h1, h⟩ := ba h
       obtain ⟨h2, h⟩ := ba h
       obtain ⟨h3, h⟩ := ba h
       obtain ⟨h4, h⟩ := ba h
       obtain ⟨h5, h6⟩ := ba h
       exact ⟨_, _, _, _, _, _, rfl, h1, h2, h3, h4, h5, h6⟩)
theorem chk_an {a b : E} (h : chkE p.t N sc (.an a b) x = true) : ∃ y z r pos, x = .BoolOp .And (y :: z :: r) pos ∧ al b = false ∧ chkE p.t N sc a y = true ∧ ((r = [] ∧ chkE p.t N sc b z = true) ∨ (r ≠ [] ∧ chkE p.t N sc b (.BoolOp .And (z :: r) pos) = true)) := by
  cases x <;> first | (unfold chkE at h; cases h; done) | skip
  rename_i op vs pos
  cases op <;> first | (unfold chkE at h; cases h; done) | skip
  rcases vs with _ | ⟨y, _ | ⟨z, r⟩⟩ <;> first | (unfold chkE at h; cases h; done) | skip
  unfold chkE at h
  obtain ⟨h1, h⟩ := ba h
  obtain ⟨h2, h3⟩ := ba h
  refine ⟨y, z, r, pos, rfl, by simpa using h1, h2, ?_⟩
  cases r with
  | nil => exact .inl ⟨rfl, h3⟩
  | cons r1 r2 => exact .inr ⟨List.cons_ne_nil _ _, h3⟩
theorem chk_orr {a b : E} (h : chkE p.t N sc (.orr a b) x = true) : ∃ y z r pos, x = .BoolOp .Or (y :: z :: r) pos ∧ al b = false ∧ chkE p.t N sc a y = true ∧ ((r = [] ∧ chkE p.t N sc b z = true) ∨ (r ≠ [] ∧ chkE p.t N sc b (.BoolOp .Or (z :: r) pos) = true)) := by
  cases x <;> first | (unfold chkE at h; cases h; done) | skip
  rename_i op vs pos
  cases op <;> first | (unfold chkE at h; cases h; done) | skip
  rcases vs with _ | ⟨y, _ | ⟨z, r⟩⟩ <;> first | (unfold chkE at h; cases h; done) | skip
  unfold chkE at h
  obtain ⟨h1, h⟩ := ba h
  obtain ⟨h2, h3⟩ := ba h
  refine ⟨y, z, r, pos, rfl, by simpa using h1, h2, ?_⟩
  cases r with
  | nil => exact .inl ⟨rfl, h3⟩
  | cons r1 r2 => exact .inr ⟨List.cons_ne_nil _ _, h3⟩
theorem chk_ife {c a b : E} (h : chkE p.t N sc (.ife c a b) x = true) : ∃ z y w pos, x = .IfExp z y w pos ∧ al a = false ∧ al b = false ∧ tst c = true ∧ chkE p.t N sc c z = true ∧ chkE p.t N sc a y = true ∧ chkE p.t N sc b w = true := by
  cases x <;> first | (unfold chkE at h; cases h; done) | skip
  unfold chkE at h
  obtain ⟨h1, h⟩ := ba h
  obtain ⟨h2, h⟩ := ba h
  obtain ⟨h3, h⟩ := ba h
  exact ⟨_, _, _, _, rfl, by simpa using (ba h1).1, by simpa using (ba h1).2, h2, h3, ba h⟩
theorem chk_ix {a b : E} (h : chkE p.t N sc (.ix a b) x = true) : ∃ y z pos, x = .Subscript y z pos ∧ notSlice z = true ∧ chkE p.t N sc a y = true ∧ chkE p.t N sc b z = true := by
  cases x <;> first | (unfold chkE at h; cases h; done) | skip
  unfold chkE at h
  exact ⟨_, _, _, rfl, (ba h).1, ba (ba h).2⟩
/-- a slice's end, checked -/
def chkO (p : Pr) (N : List Str) (sc : Scope) (e : E) (x : Option Expr) : Prop := (e.isNo = true ∧ x = none) ∨ ∃ y, e.isNo = false ∧ x = some y ∧ chkE p.t N sc e y = true
theorem chkO_of {e : E} {o : Option Expr} (h : (match e.isNo, o with
    | true, none => true
    | false, some l => chkE p.t N sc e l
    | _, _ => false) = true) : chkO p N sc e o := by
  split at h
  · exact .inl ⟨by assumption, rfl⟩
  · exact .inr ⟨_, by assumption, rfl, h⟩
  · cases h
theorem chk_sl {a lo hi : E} (h : chkE p.t N sc (.sl a lo hi) x = true) : ∃ y l u p2 pos, x = .Subscript y (.Slice l u none p2) pos ∧ chkE p.t N sc a y = true ∧ chkO p N sc lo l ∧ chkO p N sc hi u := by
  cases x <;> first | (unfold chkE at h; cases h; done) | skip
  rename_i y sl pos
  cases sl <;> first | (unfold chkE at h; cases h; done) | skip
  rename_i l u st p2
  cases st <;> first | (unfold chkE at h; cases h; done) | skip
  unfold chkE at h
  obtain ⟨h1, h⟩ := ba h
  obtain ⟨h2, h3⟩ := ba h
  exact ⟨_, _, _, _, _, rfl, h1, chkO_of h2, chkO_of h3⟩
theorem chk_call {f : Nat} {es : List E} (h : chkE p.t N sc (.call f es) x = true) : ∃ q xs pos fi, x = .Call (.Name fi.name q) xs [] pos ∧ gloB sc fi.name = true ∧ p.T f = some fi ∧ chkEs p.t N sc es xs = true ∧ es.all (!al ·) = true := by
  cases x <;> first | (unfold chkE at h; cases h; done) | skip
  rename_i g xs ks pos
  cases g <;> first | (unfold chkE at h; cases h; done) | skip
  cases ks <;> first | (unfold chkE at h; cases h; done) | skip
  unfold chkE at h
  obtain ⟨h2, k2⟩ := ba h
  obtain ⟨h3, k3⟩ := ba k2
  clear h k2
  split at h3
  · have e := of_decide_eq_true (ba h3).1
    clear h3
    subst e
    exact ⟨_, _, _, _, rfl, h2, by assumption, ba k3⟩
  · cases h3
theorem chk_callb {f : Nat} {es : List E} (h : chkE p.t N sc (.callb f es) x = true) : ∃ q y ys pos fi, x = .Call (.Name fi.name q) (y :: ys) [] pos ∧ gloB sc fi.name = true ∧ p.T f = some fi ∧ chkEs p.t N sc es (y :: ys) = true := by
  cases x <;> first | (unfold chkE at h; cases h; done) | skip
  rename_i g xs ks pos
  cases g <;> first | (unfold chkE at h; cases h; done) | skip
  cases ks <;> first | (unfold chkE at h; cases h; done) | skip
  unfold chkE at h
  obtain ⟨h2, k2⟩ := ba h
  obtain ⟨h3, k3⟩ := ba k2
  obtain ⟨h4, h5⟩ := ba k3
  clear h k2 k3
  cases xs with
  | nil => cases h5
  | cons y ys =>
    split at h3
    · have e := of_decide_eq_true (ba h3).1
      clear h3
      subst e
      exact ⟨_, _, _, _, _, rfl, h2, by assumption, h4⟩
    · cases h3
theorem chk_bi {f : BI} {es : List E} (h : chkE p.t N sc (.bi f es) x = true) : ∃ q xs pos, x = .Call (.Name (biN f) q) xs [] pos ∧ gloB sc (biN f) = true ∧ ((biT f = none ∧ chkEs p.t N sc es xs = true ∧ xs ≠ []) ∨ ∃ t y z q2, biT f = some t ∧ xs = [y, .Name z q2] ∧ z = Str.ofString t ∧ gloB sc z = true ∧ chkEs p.t N sc es [y] = true) := by
  cases x <;> first | (unfold chkE at h; cases h; done) | skip
  rename_i g xs ks pos
  cases g <;> first | (unfold chkE at h; cases h; done) | skip
  cases ks <;> first | (unfold chkE at h; cases h; done) | skip
  unfold chkE at h
  obtain ⟨h1, g1⟩ := ba h
  obtain ⟨h2, g2⟩ := ba g1
  have e := of_decide_eq_true h1
  clear h g1 h1
  subst e
  refine ⟨_, _, _, rfl, h2, ?_⟩
  split at g2
  · rename_i hb
    refine .inl ⟨hb, (ba g2).1, fun e => ?_⟩
    have := (ba g2).2
    rw [e] at this
    cases this
  · rename_i t hb
    split at g2
    · obtain ⟨k1, g3⟩ := ba g2
      obtain ⟨k2, g4⟩ := ba g3
      exact .inr ⟨t, _, _, _, hb, rfl, of_decide_eq_true k1, k2, g4⟩
    · cases g2
theorem chk_me {m : MI} {o : E} {es : List E} (h : chkE p.t N sc (.me m o es) x = true) : ∃ y apos xs pos, x = .Call (.Attribute y (meN m) apos) xs [] pos ∧ meOk m xs.length = true ∧ notCall0 y = true ∧ (apos.endLine == pos.line) = true ∧ chkE p.t N sc o y = true ∧ chkEs p.t N sc es xs = true := by
  cases x <;> first | (unfold chkE at h; cases h; done) | skip
  rename_i g xs ks pos
  cases g <;> first | (unfold chkE at h; cases h; done) | skip
  cases ks <;> first | (unfold chkE at h; cases h; done) | skip
  unfold chkE at h
  obtain ⟨h1, g1⟩ := ba h
  obtain ⟨h2, g2⟩ := ba g1
  cases of_decide_eq_true h1
  exact ⟨_, _, _, _, rfl, (ba h2).1, (ba (ba h2).2).1, (ba (ba h2).2).2, (ba g2).1, (ba g2).2⟩
/-- a comprehension's tests, checked -/
def chkIf (p : Pr) (N : List Str) (sc : Scope) (c : E) (ifs : List Expr) : Prop := (ifs = [] ∧ c = .c (.bl true)) ∨ ∃ cx, ifs = [cx] ∧ chkE p.t N sc c cx = true
theorem chkIf_of {c : E} {ifs : List Expr} (h : (match ifs with
    | [] => (match c with | .c (.bl true) => true | _ => false)
    | [cx] => chkE p.t N sc c cx
    | _ => false) = true) : chkIf p N sc c ifs := by
  split at h
  · split at h
    · exact .inl ⟨rfl, rfl⟩
    · cases h
  · exact .inr ⟨_, rfl, h⟩
  · cases h
theorem chk_lcd {is : List Nat} {i : Nat} {c e : E} (h : chkE p.t N sc (.lcd is i c e) x = true) : ∃ el tg y q1 ifs scope pos, x = .ListComp el [⟨tg, .Name y q1, ifs, 0⟩] scope pos ∧ N[i]? = some y ∧ visB sc y = true ∧ blkC N sc scope (ownOf N is) = true ∧ chkTg N scope is tg = true ∧ tst c = true ∧ chkIf p N (relS scope sc) c ifs ∧ chkE p.t N (relS scope sc) e el = true ∧ al e = false := by
  cases x <;> first | (unfold chkE at h; cases h; done) | skip
  rename_i el gs scope pos
  rcases gs with _ | ⟨⟨tg, iter, ifs, asy⟩, _ | ⟨g2, gs⟩⟩ <;> first | (unfold chkE at h; cases h; done) | skip
  unfold chkE at h
  obtain ⟨h1, h⟩ := ba h
  obtain ⟨h2, h⟩ := ba h
  obtain ⟨h3, h⟩ := ba h
  obtain ⟨h4, h⟩ := ba h
  obtain ⟨h5, h6⟩ := ba h
  cases of_decide_eq_true h1
  unfold varB at h2
  split at h2
  rotate_left
  · cases h2
  exact ⟨_, _, _, _, _, _, _, rfl, of_decide_eq_true (ba h2).1, (ba h2).2, h3, h4, (ba h5).1, chkIf_of (ba h5).2, (ba h6).1, by simpa using (ba h6).2⟩
theorem chk_dget {i : Nat} {k e : E} (h : chkE p.t N sc (.dget i k e) x = true) : ∃ y q1 apos z w pos, x = .Call (.Attribute (.Name y q1) (Str.ofString "get") apos) [z, w] [] pos ∧ N[i]? = some y ∧ visB sc y = true ∧ (apos.endLine == pos.line) = true ∧ notStar z = true ∧ notStar w = true ∧ chkE p.t N sc k z = true ∧ chkE p.t N sc e w = true := by
  cases x <;> first | (unfold chkE at h; cases h; done) | skip
  rename_i f xs ks pos
  rcases xs with _ | ⟨z, _ | ⟨w, _ | ⟨z3, xs⟩⟩⟩ <;> first | (unfold chkE at h; cases h; done) | skip
  cases ks <;> first | (unfold chkE at h; cases h; done) | skip
  unfold chkE at h
  obtain ⟨h1, h⟩ := ba h
  obtain ⟨h2, h⟩ := ba h
  obtain ⟨h3, h⟩ := ba h
  obtain ⟨h6, h7⟩ := ba h
  unfold dgetB at h1
  split at h1
  · obtain ⟨a1, h1⟩ := ba h1
    obtain ⟨a2, h1⟩ := ba h1
    obtain ⟨a3, a4⟩ := ba h1
    cases of_decide_eq_true a3
    exact ⟨_, _, _, _, _, _, rfl, of_decide_eq_true a1, a2, a4, h2, h3, h6, h7⟩
  · cases h1
theorem chk_mind {a : E} (h : chkE p.t N sc (.mind a) x = true) : ∃ q1 y kws pos, x = .Call (.Name (biN .min_) q1) [y] kws pos ∧ gloB sc (biN .min_) = true ∧ noneKw kws = true ∧ notStar y = true ∧ chkE p.t N sc a y = true := by
  cases x <;> first | (unfold chkE at h; cases h; done) | skip
  rename_i f xs ks pos
  rcases xs with _ | ⟨z, _ | ⟨z2, xs⟩⟩ <;> first | (unfold chkE at h; cases h; done) | skip
  unfold chkE at h
  obtain ⟨h1, h⟩ := ba h
  obtain ⟨h3, h⟩ := ba h
  obtain ⟨h4, h5⟩ := ba h
  unfold minB at h1
  split at h1
  rotate_left
  · cases h1
  obtain ⟨h1, h2⟩ := ba h1
  have e := of_decide_eq_true h1
  subst e
  exact ⟨_, _, _, _, rfl, h2, h3, h4, h5⟩
theorem chk_lc {is : List Nat} {it c e : E} (h : chkE p.t N sc (.lc is it c e) x = true) : ∃ el tg iter ifs scope pos, x = .ListComp el [⟨tg, iter, ifs, 0⟩] scope pos ∧ notSet iter = true ∧ chkE p.t N sc it iter = true ∧ blkC N sc scope (ownOf N is) = true ∧ chkTg N scope is tg = true ∧ tst c = true ∧ chkIf p N (relS scope sc) c ifs ∧ chkE p.t N (relS scope sc) e el = true ∧ al e = false := by
  cases x <;> first | (unfold chkE at h; cases h; done) | skip
  rename_i el gs scope pos
  rcases gs with _ | ⟨⟨tg, iter, ifs, asy⟩, _ | ⟨g2, gs⟩⟩ <;> first | (unfold chkE at h; cases h; done) | skip
  unfold chkE at h
  obtain ⟨h1, h⟩ := ba h
  obtain ⟨h2, h⟩ := ba h
  obtain ⟨h3, h⟩ := ba h
  obtain ⟨h4, h⟩ := ba h
  obtain ⟨h5, h6⟩ := ba h
  cases of_decide_eq_true h1
  exact ⟨_, _, _, _, _, _, rfl, (ba h2).1, (ba h2).2, h3, h4, (ba h5).1, chkIf_of (ba h5).2, (ba h6).1, by simpa using (ba h6).2⟩
theorem chk_lcr {i : Nat} {es : List E} {c e : E} (h : chkE p.t N sc (.lcr i es c e) x = true) : ∃ el tg q xs p2 ifs scope pos, x = .ListComp el [⟨tg, .Call (.Name (Str.ofString "range") q) xs [] p2, ifs, 0⟩] scope pos ∧ gloB sc (Str.ofString "range") = true ∧ chkEs p.t N sc es xs = true ∧ (xs.length = 1 ∨ xs.length = 2) ∧ blkC N sc scope (ownOf N [i]) = true ∧ chkTg N scope [i] tg = true ∧ tst c = true ∧ chkIf p N (relS scope sc) c ifs ∧ chkE p.t N (relS scope sc) e el = true ∧ al e = false := by
  cases x <;> first | (unfold chkE at h; cases h; done) | skip
  rename_i el gs scope pos
  rcases gs with _ | ⟨⟨tg, iter, ifs, asy⟩, _ | ⟨g2, gs⟩⟩ <;> first
    | (unfold chkE at h; cases h; done)
    | skip
  case cons.cons => (cases iter <;> first
    | (unfold chkE at h; cases h; done)
    | (rename_i g xs ks p2; cases g <;> first | (unfold chkE at h; cases h; done) | (cases ks <;> (unfold chkE at h; cases h; done))))
  cases iter <;> first | (unfold chkE at h; cases h; done) | skip
  rename_i g xs ks p2
  cases g <;> first | (unfold chkE at h; cases h; done) | skip
  cases ks <;> first | (unfold chkE at h; cases h; done) | skip
  unfold chkE at h
  obtain ⟨h1, h⟩ := ba h
  obtain ⟨h2, h⟩ := ba h
  obtain ⟨h3, h⟩ := ba h
  obtain ⟨h4, h⟩ := ba h
  obtain ⟨h5, h6⟩ := ba h
  obtain ⟨k1, h2⟩ := ba h2
  obtain ⟨k2, h2⟩ := ba h2
  obtain ⟨k3, k4⟩ := ba h2
  cases of_decide_eq_true h1
  have ek := of_decide_eq_true k1
  subst ek
  refine ⟨_, _, _, _, _, _, _, _, rfl, k2, k3, ?_, h3, h4, (ba h5).1, chkIf_of (ba h5).2, (ba h6).1, by simpa using (ba h6).2⟩
  rcases Bool.or_eq_true_iff.mp k4 with z | z
  · exact .inl (of_decide_eq_true z)
  · exact .inr (of_decide_eq_true z)
end
section
variable {p : Pr} {n : Nat} {N : List Str}
theorem ifs_ok {sc : Scope} {c : E} {ifs : List Expr} (h : chkIf p N sc c ifs) (ht : tst c = true) (q : ∀ cx, chkE p.t N sc c cx = true → GoodT p n N sc c cx) : ∃ t : TT, (∀ X, XF p n N sc X → PTs X ifs t) ∧ SatT p n t c := by
  rcases h with ⟨rfl, rfl⟩ | ⟨cx, rfl, h⟩
  · refine ⟨tYes, fun X _ => pts_nil, fun s b S H σ Q e hs q => ?_⟩
    cases e
    exact q H (Same.refl _)
  · obtain ⟨t, pt, st⟩ := q cx h
    exact ⟨t, fun X hx => pts_one (pt X hx), st⟩
mutual
theorem ev_ok (fc : Facts p n) (nd : N.Nodup) : ∀ (e : E) (sc : Scope) (x : Expr), chkE p.t N sc e x = true → GoodE p n N sc e x ∧ (tst e = true → GoodT p n N sc e x)
  | .c d, sc, x, h => by
    obtain ⟨c, j, pos, rfl, h⟩ := chk_c h
    exact ⟨good_c h, fun _ => goodT_val rfl (good_c h)⟩
  | .var i, sc, x, h => by
    obtain ⟨y, pos, rfl, h1, h2⟩ := chk_var h
    exact ⟨good_var h1 h2, fun _ => goodT_val rfl (good_var h1 h2)⟩
  | .rd i, sc, x, h => by
    obtain ⟨y, pos, rfl, h1, h2⟩ := chk_rd h
    exact ⟨good_rd h1 h2, fun _ => goodT_val rfl (good_rd h1 h2)⟩
  | .rdn i k, sc, x, h => by
    obtain ⟨y, q1, z, pos, rfl, h1, h2, h3, h4⟩ := chk_rdn h
    have g := good_rdn (q1 := q1) (pos := pos) h1 h2 h3 (ev_ok fc nd k sc z h4).1
    exact ⟨g, fun _ => goodT_val rfl g⟩
  | .lenn i, sc, x, h => by
    obtain ⟨q1, y, q2, pos, rfl, h1, h2, h3⟩ := chk_lenn h
    have g := good_lenn (q1 := q1) (q2 := q2) (pos := pos) fc h2 h3 h1
    exact ⟨g, fun _ => goodT_val rfl g⟩
  | .tvals i, sc, x, h => by
    obtain ⟨q1, y, q2, apos, cpos, pos, rfl, h1, h2, h3, h4⟩ := chk_tvals h
    have g := good_tvals (q1 := q1) (q2 := q2) (pos := pos) fc h1 h2 h3 h4
    exact ⟨g, fun _ => goodT_val rfl g⟩
  | .revl a, sc, x, h => by
    obtain ⟨y, k, p1, p2, p3, pos, rfl, h1⟩ := chk_revl h
    have g := good_revl (k := k) (p1 := p1) (p2 := p2) (p3 := p3) (pos := pos) (ev_ok fc nd a sc y h1).1
    exact ⟨g, fun _ => goodT_val rfl g⟩
  | .lrg a, sc, x, h => by
    obtain ⟨q1, q2, y, pos2, pos, rfl, h1, h2, h3, h4⟩ := chk_lrg h
    have g := good_lrg (q1 := q1) (q2 := q2) (pos := pos) (pos2 := pos2) fc h1 h2 h3 (ev_ok fc nd a sc y h4).1
    exact ⟨g, fun _ => goodT_val rfl g⟩
  | .gl g, sc, x, h => by
    obtain ⟨pos, rfl, h1, h2⟩ := chk_gl h
    exact ⟨good_gl fc h1 h2, fun _ => goodT_val rfl (good_gl fc h1 h2)⟩
  | .tup es, sc, x, h => by
    obtain ⟨xs, k, pos, rfl, h1, h2⟩ := chk_tup h
    have g := good_tup (k := k) (pos := pos) h2 (evs_ok fc nd es sc xs h1)
    exact ⟨g, fun _ => goodT_val rfl g⟩
  | .lst es, sc, x, h => by
    obtain ⟨xs, pos, rfl, h1, h2⟩ := chk_lst h
    have g := good_lst (pos := pos) h2 (evs_ok fc nd es sc xs h1)
    exact ⟨g, fun _ => goodT_val rfl g⟩
  | .dsp ks es, sc, x, h => by
    obtain ⟨keys, xs, pos, rfl, h1, h2, h3, h4, h5, h6⟩ := chk_dsp h
    have hk : keys ≠ [] := fun z => by
      have := (keysB_len h1).1
      rw [z, h5, ← (notStars h2).2] at this
      exact h4 (List.length_eq_zero_iff.mp this.symm)
    have g := good_dsp (pos := pos) h1 h5 hk h6 (dsp_ok fc nd es sc ks keys xs h2 h3 h1 h5)
    exact ⟨g, fun _ => goodT_val rfl g⟩
  | .dget i k e, sc, x, h => by
    obtain ⟨y, q1, apos, z, w, pos, rfl, h1, h2, h3, h4, h5, h6, h7⟩ := chk_dget h
    have g := good_dget (q1 := q1) (apos := apos) (pos := pos) h1 h2 h3 h4 h5 (ev_ok fc nd k sc z h6).1 (ev_ok fc nd e sc w h7).1
    exact ⟨g, fun _ => goodT_val rfl g⟩
  | .mind a, sc, x, h => by
    obtain ⟨q1, y, kws, pos, rfl, h1, h2, h3, h4⟩ := chk_mind h
    have g := good_mind (q1 := q1) (pos := pos) fc h1 h2 h3 (ev_ok fc nd a sc y h4).1
    exact ⟨g, fun _ => goodT_val rfl g⟩
  | .lcd is i c e, sc, x, h => by
    obtain ⟨el, tg, y, q1, ifs, scope, pos, rfl, h1, h2, h3, h4, h5, h6, h7, h8⟩ := chk_lcd h
    have g := good_lcd (q1 := q1) (pos := pos) nd ⟨h3, h4, ifs_ok h6 h5 fun cx hc => (ev_ok fc nd c _ cx hc).2 h5, (ev_ok fc nd e _ el h7).1, h8⟩ h1 h2
    exact ⟨g, fun _ => goodT_val rfl g⟩
  | .bin o a b, sc, x, h => by
    obtain ⟨y, op, z, pos, rfl, h1, h2, h3⟩ := chk_bin h
    have g := good_bin (pos := pos) h1 (ev_ok fc nd a sc y h2).1 (ev_ok fc nd b sc z h3).1
    exact ⟨g, fun _ => goodT_val rfl g⟩
  | .neg a, sc, x, h => by
    obtain ⟨y, pos, rfl, h1⟩ := chk_neg h
    have g := good_neg (pos := pos) (ev_ok fc nd a sc y h1).1
    refine ⟨g, fun _ => ?_⟩
    obtain ⟨t, pt, st⟩ := g
    exact ⟨_, fun X hx => pt_val (pt X hx) fun _ => rfl, fun s k S H σ Q e hs q => st s _ S H σ _ e hs fun v H1 m1 ra _ _ => ⟨k, ra.bl, q H1 m1⟩⟩
  | .nt a, sc, x, h => by
    obtain ⟨y, pos, rfl, h1⟩ := chk_nt h
    have g := ev_ok fc nd a sc y h1
    exact ⟨good_nt g.1, fun ht => goodT_nt (g.2 ht)⟩
  | .cmp o a b, sc, x, h => by
    obtain ⟨y, op, z, pos, rfl, h1, h2, h3, h4⟩ := chk_cmp h
    have g := good_cmp (pos := pos) h1 h2 (ev_ok fc nd a sc y h3).1 (ev_ok fc nd b sc z h4).1
    exact ⟨g.1, fun _ => g.2⟩
  | .chain o1 o2 a b c, sc, x, h => by
    obtain ⟨y, p1, p2, z, w, pos, rfl, h1, h2, h3, h4, h5, h6⟩ := chk_chain h
    have g := good_chain (pos := pos) h1 h2 h3 (ev_ok fc nd a sc y h4).1 (ev_ok fc nd b sc z h5).1 (ev_ok fc nd c sc w h6).1
    exact ⟨g.1, fun _ => g.2⟩
  | .an a b, sc, x, h => by
    obtain ⟨y, z, r, pos, rfl, h1, h2, h3⟩ := chk_an h
    have ga := ev_ok fc nd a sc y h2
    rcases h3 with ⟨rfl, h3⟩ | ⟨_, h3⟩
    · have gb := ev_ok fc nd b sc z h3
      exact ⟨good_an h1 ga.1 (good_one gb.1), fun ht => goodT_an (ga.2 (ba ht).1) (goodT_one (gb.2 (ba ht).2))⟩
    · have gb := ev_ok fc nd b sc _ h3
      exact ⟨good_an h1 ga.1 gb.1, fun ht => goodT_an (ga.2 (ba ht).1) (gb.2 (ba ht).2)⟩
  | .orr a b, sc, x, h => by
    obtain ⟨y, z, r, pos, rfl, h1, h2, h3⟩ := chk_orr h
    have ga := ev_ok fc nd a sc y h2
    rcases h3 with ⟨rfl, h3⟩ | ⟨_, h3⟩
    · have gb := ev_ok fc nd b sc z h3
      exact ⟨good_orr h1 ga.1 (good_one gb.1), fun ht => goodT_orr (ga.2 (ba ht).1) (goodT_one (gb.2 (ba ht).2))⟩
    · have gb := ev_ok fc nd b sc _ h3
      exact ⟨good_orr h1 ga.1 gb.1, fun ht => goodT_orr (ga.2 (ba ht).1) (gb.2 (ba ht).2)⟩
  | .ife c a b, sc, x, h => by
    obtain ⟨z, y, w, pos, rfl, h1, h2, h3, h4, h5, h6⟩ := chk_ife h
    exact ⟨good_ife h1 h2 ((ev_ok fc nd c sc z h4).2 h3) (ev_ok fc nd a sc y h5).1 (ev_ok fc nd b sc w h6).1, fun ht => by cases ht⟩
  | .ix a b, sc, x, h => by
    obtain ⟨y, z, pos, rfl, h1, h2, h3⟩ := chk_ix h
    have g := good_ix (pos := pos) h1 (ev_ok fc nd a sc y h2).1 (ev_ok fc nd b sc z h3).1
    exact ⟨g, fun _ => goodT_val rfl g⟩
  | .sl a lo hi, sc, x, h => by
    obtain ⟨y, l, u, p2, pos, rfl, h1, h2, h3⟩ := chk_sl h
    have gl : GoodO p n N sc lo l := by
      rcases h2 with ⟨e, rfl⟩ | ⟨z, e, rfl, h2⟩
      · exact goodO_none e
      · exact goodO_some e (ev_ok fc nd lo sc z h2).1
    have gu : GoodO p n N sc hi u := by
      rcases h3 with ⟨e, rfl⟩ | ⟨z, e, rfl, h3⟩
      · exact goodO_none e
      · exact goodO_some e (ev_ok fc nd hi sc z h3).1
    have g := good_sl (p2 := p2) (pos := pos) (ev_ok fc nd a sc y h1).1 gl gu
    exact ⟨g, fun _ => goodT_val rfl g⟩
  | .nohi, sc, x, h => by
    unfold chkE at h
    cases h
  | .call f es, sc, x, h => by
    obtain ⟨q, xs, pos, fi, rfl, h1, h2, h3, h4⟩ := chk_call h
    have g : GoodE p n N sc (.call f es) (.Call (.Name fi.name q) xs [] pos) := by
      have ga := evs_ok fc nd es sc xs h3
      have hst := (notStars h3).1
      have hl := (notStars h3).2
      cases xs with
      | nil =>
        cases es with
        | nil => exact good_call0 fc h2 h1
        | cons _ _ => cases hl
      | cons y ys => exact good_call fc h2 h1 hst ga h4
    exact ⟨g, fun _ => goodT_val rfl g⟩
  | .callb f es, sc, x, h => by
    obtain ⟨q, y, ys, pos, fi, rfl, h1, h2, h3⟩ := chk_callb h
    have g := good_callb (q1 := q) (pos := pos) fc h2 h1 (notStars h3).1 (evs_ok fc nd es sc _ h3)
    exact ⟨g, fun _ => goodT_val rfl g⟩
  | .cloc i es, sc, x, h => by
    obtain ⟨y, q1, z, zs, pos, rfl, h1, h2, h3, h4⟩ := chk_cloc h
    have g := good_cloc (q1 := q1) (pos := pos) fc h1 h2 (notStars h3).1 (evs_ok fc nd es sc _ h3) h4
    exact ⟨g, fun _ => goodT_val rfl g⟩
  | .dgT g e, sc, x, h => by
    obtain ⟨q1, apos, y, pos, kvs, rfl, h1, h2, h3, h4, h5, h6⟩ := chk_dgT h
    have g := good_dgT (q1 := q1) (pos := pos) fc h1 h2 h3 h4 h5 (ev_ok fc nd e sc y h6).1
    exact ⟨g, fun _ => goodT_val rfl g⟩
  | .tix g e, sc, x, h => by
    obtain ⟨q1, apos, y, pos, ds, rfl, h1, h3, h4, h5, h6⟩ := chk_tix h
    have g := good_tix (q1 := q1) (pos := pos) fc h1 h3 h4 h5 (ev_ok fc nd e sc y h6).1
    exact ⟨g, fun _ => goodT_val rfl g⟩
  | .dix g e, sc, x, h => by
    obtain ⟨q1, y, pos, kvs, rfl, h1, h2, h3, h4, h5⟩ := chk_dix h
    have g := good_dix (q1 := q1) (pos := pos) fc h1 h2 h3 h4 (ev_ok fc nd e sc y h5).1
    exact ⟨g, fun _ => goodT_val rfl g⟩
  | .bi f es, sc, x, h => by
    obtain ⟨q, xs, pos, rfl, h1, h2⟩ := chk_bi h
    have g : GoodE p n N sc (.bi f es) (.Call (.Name (biN f) q) xs [] pos) := by
      rcases h2 with ⟨h2, h3, h4⟩ | ⟨t, y, z, q2, h2, rfl, h3, h4, h5⟩
      · have ga := evs_ok fc nd es sc xs h3
        have hst := (notStars h3).1
        cases xs with
        | nil => exact absurd rfl h4
        | cons y ys => exact good_bi fc h2 h1 hst ga
      · have hl := (notStars h5).2
        match es, hl with
        | [e1], _ =>
          have k := h5
          unfold chkEs at k
          exact good_isi fc h2 h1 h3 h4 (ba k).1 (ev_ok fc nd e1 sc y (ba (ba k).2).1).1
    exact ⟨g, fun _ => goodT_val rfl g⟩
  | .me m o es, sc, x, h => by
    obtain ⟨y, apos, xs, pos, rfl, h1, h2, h3, h4, h5⟩ := chk_me h
    have g := good_me (pos := pos) h1 h2 h3 (notStars h5).1 (ev_ok fc nd o sc y h4).1 (evs_ok fc nd es sc xs h5)
    exact ⟨g, fun _ => goodT_val rfl g⟩
  | .lc is it c e, sc, x, h => by
    obtain ⟨el, tg, iter, ifs, scope, pos, rfl, h1, h2, h3, h4, h5, h6, h7, h8⟩ := chk_lc h
    have g : GoodE p n N sc (.lc is it c e) (.ListComp el [⟨tg, iter, ifs, 0⟩] scope pos) := by
      refine good_lcAny nd ⟨h3, h4, ifs_ok h6 h5 fun cx hc => (ev_ok fc nd c _ cx hc).2 h5, (ev_ok fc nd e _ el h7).1, h8⟩ h1 (goodI_e (ev_ok fc nd it sc iter h2).1) rfl fun s d e' => ?_
      unfold ev at e'
      obtain ⟨l, e1, e'⟩ := Option.bind_eq_some_iff.mp e'
      obtain ⟨ds, e2, e'⟩ := Option.bind_eq_some_iff.mp e'
      obtain ⟨r, rfl, e3, e4⟩ := lc_if e'
      exact ⟨ds, r, by rw [e1]; exact e2, e4, e3, rfl⟩
    exact ⟨g, fun _ => goodT_val rfl g⟩
  | .lcr i es c e, sc, x, h => by
    obtain ⟨el, tg, q, xs, p2, ifs, scope, pos, rfl, h1, h2, h2', h3, h4, h5, h6, h7, h8⟩ := chk_lcr h
    have g : GoodE p n N sc (.lcr i es c e) (.ListComp el [⟨tg, .Call (.Name (Str.ofString "range") q) xs [] p2, ifs, 0⟩] scope pos) := by
      refine good_lcAny nd ⟨h3, h4, ifs_ok h6 h5 fun cx hc => (ev_ok fc nd c _ cx hc).2 h5, (ev_ok fc nd e _ el h7).1, h8⟩ rfl (goodI_r fc h1 h2' (notStars h2).2 (notStars h2).1 (evs_ok fc nd es sc xs h2)) rfl fun s d e' => ?_
      unfold ev at e'
      obtain ⟨l, e1, e'⟩ := Option.bind_eq_some_iff.mp e'
      obtain ⟨ds, e2, e'⟩ := Option.bind_eq_some_iff.mp e'
      obtain ⟨r, rfl, e3, e4⟩ := lc_if e'
      exact ⟨ds, r, by rw [e1]; exact e2, e4, e3, rfl⟩
    exact ⟨g, fun _ => goodT_val rfl g⟩
  | .no, sc, x, h => by
    unfold chkE at h
    cases h
theorem dsp_ok (fc : Facts p n) (nd : N.Nodup) : ∀ (es : List E) (sc : Scope) (ks : List Str) (keys : List (Option Expr)) (xs : List Expr), chkEs p.t N sc es xs = true → es.all (!al ·) = true → keysB ks keys = true → ks.length = xs.length → GoodP p n N sc ks es keys xs
  | [], sc, [], [], [], _, _, _, _ => goodP_nil
  | e :: es, sc, k :: ks, some ke :: keys, x :: xs, h, ha, hk, hl => by
    unfold chkEs at h
    unfold keysB at hk
    rw [List.all_cons] at ha
    obtain ⟨_, h⟩ := ba h
    obtain ⟨h2, h3⟩ := ba h
    obtain ⟨a1, a2⟩ := ba ha
    exact goodP_cons (of_decide_eq_true (ba hk).1) (by simpa using a1) (ev_ok fc nd e sc x h2).1 (dsp_ok fc nd es sc ks keys xs h3 a2 (ba hk).2 (by simpa using hl))
  | [], _, _, _, _ :: _, h, _, _, _ => by unfold chkEs at h; cases h
  | _ :: _, _, _, _, [], h, _, _, _ => by unfold chkEs at h; cases h
  | [], _, _ :: _, _, [], _, _, _, h => by cases h
  | _ :: _, _, [], _, _ :: _, _, _, _, h => by cases h
  | _, _, [], _ :: _, _, _, _, h, _ => by unfold keysB at h; cases h
  | _, _, _ :: _, [], _, _, _, h, _ => by unfold keysB at h; cases h
  | _, _, _ :: _, none :: _, _, _, _, h, _ => by unfold keysB at h; cases h
theorem evs_ok (fc : Facts p n) (nd : N.Nodup) : ∀ (es : List E) (sc : Scope) (xs : List Expr), chkEs p.t N sc es xs = true → GoodA p n N sc es xs
  | [], sc, [], h => good_nil
  | e :: es, sc, x :: xs, h => by
    unfold chkEs at h
    obtain ⟨h1, h⟩ := ba h
    obtain ⟨h2, h3⟩ := ba h
    exact good_cons h1 (ev_ok fc nd e sc x h2).1 (evs_ok fc nd es sc xs h3)
  | [], _, _ :: _, h => by unfold chkEs at h; cases h
  | _ :: _, _, [], h => by unfold chkEs at h; cases h
end
end
end PL

/-! PL9: statements, defs. -/
namespace PL
open PySem PySem.Spec L2
/-! ### what is checked -/
def isComp : Expr → Bool
  | .ListComp _ _ _ _ => true
  | .SetComp _ _ _ _ => true
  | .DictComp _ _ _ _ _ => true
  | _ => false
def isTup : Expr → Bool
  | .Tuple _ _ _ => true
  | _ => false
def locB (sc : Scope) (x : Str) : Bool := match sc.names.lookup x with
  | some .local => true
  | some .cell => true
  | _ => false
def nmB (N : List Str) (sc : Scope) (i : Nat) (y : Str) : Bool := decide (N[i]? = some y) && locB sc y
def swB (sc : Scope) (y : Str) (py : Pos) : Expr → Bool
  | .ListComp _ _ scope pos => (py.line == pos.line) && ((match sc.names.lookup y with
    | some .local => true
    | _ => false) && !(scope.names.any fun (n, k) => n == y && (k == .local || k == .cell)))
  | _ => false
def isLc : E → Bool
  | .lc _ _ _ _ => true
  | .lcr _ _ _ _ => true
  | .lcd _ _ _ _ => true
  | _ => false
def isLcd : E → Bool
  | .lcd _ _ _ _ => true
  | _ => false
def omN : OM → Str
  | .clear => "clear"
  | .pop => "pop"
  | .popat => "pop"
  | .insert => "insert"
  | .extend => "extend"
  | .reverse => "reverse"
def omOk : OM → Nat → Bool
  | .clear, 0 => true
  | .pop, 0 => true
  | .popat, 1 => true
  | .insert, 2 => true
  | .extend, 1 => true
  | .reverse, 0 => true
  | _, _ => false
/-- a method of a named list -/
def mthB (p : Tb) (N : List Str) (sc : Scope) (i : Nat) (m : OM) (es : List E) : Expr → Bool
  | .Call (.Attribute (.Name y _) a apos) xs [] cpos => decide (N[i]? = some y) && (visB sc y && (decide (a = omN m) && (omOk m xs.length && (chkEs p N sc es xs && (es.all (!al ·) && (apos.endLine == cpos.line))))))
  | _ => false
/-- x.pop() -/
def popB (N : List Str) (sc : Scope) (i : Nat) : Expr → Bool
  | .Call (.Attribute (.Name y _) a apos) [] [] cpos => decide (N[i]? = some y) && (visB sc y && (decide (a = Str.ofString "pop") && (apos.endLine == cpos.line)))
  | _ => false
/-- tuple(x.pop()) -/
def tpB (N : List Str) (sc : Scope) (i : Nat) : Expr → Bool
  | .Call (.Name t _) [x] [] _ => decide (t = biN .tuple_) && (gloB sc t && popB N sc i x)
  | _ => false
def setnB (p : Tb) (N : List Str) (sc : Scope) (es : List E) : Expr → Bool
  | .List xs _ => chkEs p N sc es xs && (decide (es.length ≤ 1) && (es.all (fr p.T ·) && es.all (!al ·)))
  | _ => false
def appnB (p : Tb) (N : List Str) (sc : Scope) (i : Nat) (e : E) : Expr → Bool
  | .Call (.Attribute (.Name y _) m apos) [x] [] cpos => decide (N[i]? = some y) && (visB sc y && (decide (m = Str.ofString "append") && (notStar x && (chkE p N sc e x && (!al e && (fr p.T e && (apos.endLine == cpos.line)))))))
  | _ => false
def appatB (p : Tb) (N : List Str) (sc : Scope) (i : Nat) (k e : E) : Expr → Bool
  | .Call (.Attribute (.Subscript (.Name y _) kx _) m apos) [x] [] cpos => decide (N[i]? = some y) && (visB sc y && (notSlice kx && (chkE p N sc k kx && (decide (m = Str.ofString "append") && (notStar x && (chkE p N sc e x && (!al e && (apos.endLine == cpos.line))))))))
  | _ => false
def apptpB (p : Tb) (N : List Str) (sc : Scope) (i : Nat) (k : E) (j : Nat) : Expr → Bool
  | .Call (.Attribute (.Subscript (.Name y _) kx _) m apos) [x] [] cpos => decide (N[i]? = some y) && (visB sc y && (notSlice kx && (chkE p N sc k kx && (decide (m = Str.ofString "append") && (decide (i ≠ j) && (tpB N sc j x && (apos.endLine == cpos.line)))))))
  | _ => false
def newdB : Expr → Bool
  | .Dict [] [] _ => true
  | _ => false
def augB : B1 → Bool
  | .add => true
  | .sub => true
  | _ => false
mutual
def chkS (p : Tb) (N : List Str) (sc : Scope) (fresh : Bool) : S → Stmt → Bool
  | .set i e, .Assign [.Name y py] x _ => nmB N sc i y && (chkE p N sc e x && (!al e && ((!isComp x && !isLc e) || (isLc e && swB sc y py x))))
  | .seto i e, .Assign [.Name y py] x _ => nmB N sc i y && (chkE p N sc e x && (fr p.T e && (!al e && ((!isComp x && !isLc e) || (isLc e && swB sc y py x)))))
  | .unp is e, .Assign [tg] x _ => decide (2 ≤ is.length) && (chkTg N sc is tg && (!isComp x && (!isTup x && (chkE p N sc e x && !al e))))
  | .aug i o e, .AugAssign (.Name y _) op x _ => nmB N sc i y && (augB o && (opEq (pyOp o) op && chkE p N sc e x))
  | .expr e, .Expr x _ => chkE p N sc e x && !isComp x
  | .app i e, .Expr (.Call (.Attribute (.Name y _) m apos) [x] [] cpos) _ => decide (N[i]? = some y) && (visB sc y && (decide (m = Str.ofString "append") && (notStar x && (chkE p N sc e x && (!al e && (apos.endLine == cpos.line))))))
  | .mth i m es, .Expr x _ => mthB p N sc i m es x
  | .newd i, .Assign [.Name y _] x _ => nmB N sc i y && newdB x
  | .putd i k e, .Assign [.Subscript (.Name y _) kx _] x _ => decide (N[i]? = some y) && (visB sc y && (notSlice kx && (chkE p N sc k kx && (chkE p N sc e x && (!al e && !isComp x)))))
  | .setn i es, .Assign [.Name y _] x _ => nmB N sc i y && setnB p N sc es x
  | .appn i e, .Expr x _ => appnB p N sc i e x
  | .appat i k e, .Expr x _ => appatB p N sc i k e x
  | .popn j i, .Assign [.Name z _] x _ => nmB N sc j z && (decide (i ≠ j) && popB N sc i x)
  | .popt j i, .Assign [.Name z _] x _ => nmB N sc j z && (decide (i ≠ j) && tpB N sc i x)
  | .apptp i k j, .Expr x _ => apptpB p N sc i k j x
  | .mthx j i m es, .Assign [.Name z _] x _ => nmB N sc j z && (decide (i ≠ j) && mthB p N sc i m es x)
  | .sets i k e, .Assign [.Subscript (.Name y _) kx _] x _ => decide (N[i]? = some y) && (visB sc y && (notSlice kx && (chkE p N sc k kx && (chkE p N sc e x && (!al e && !isComp x)))))
  | .ret e, .Return (some x) _ => chkE p N sc e x && (!al e && (!fresh || fr p.T e))
  | .reto i, .Return (some (.Name y _)) _ => decide (N[i]? = some y) && visB sc y
  | .retn, .Return none _ => true
  | .iff c a b, .If x xs ys _ => tst c && (chkE p N sc c x && (chkSs p N sc fresh a xs && chkSs p N sc fresh b ys))
  | .whl c b, .While x xs [] _ => tst c && (chkE p N sc c x && chkSs p N sc fresh b xs)
  | .for_ is it b, .For tg x xs [] _ => chkTg N sc is tg && (notSet x && (chkE p N sc it x && (!al it && chkSs p N sc fresh b xs)))
  | .forv is it b, .For tg (.Call (.Name r _) [x] [] _) xs [] _ => chkTg N sc is tg && (decide (r = Str.ofString "reversed") && (gloB sc r && (notStar x && (chkE p N sc it x && (!al it && chkSs p N sc fresh b xs)))))
  | .forr i es b, .For tg (.Call (.Name r _) ys [] _) xs [] _ => chkTg N sc [i] tg && (decide (r = Str.ofString "range") && (gloB sc r && (chkEs p N sc es ys && ((decide (ys.length = 1) || decide (ys.length = 2)) && chkSs p N sc fresh b xs))))
  | .brk, .Break _ => true
  | .cnt, .Continue _ => true
  | .pass, .Pass _ => true
  | .never, _ => true
  | _, _ => false
def chkSs (p : Tb) (N : List Str) (sc : Scope) (fresh : Bool) : List S → List Stmt → Bool
  | [], [] => true
  | s :: ss, xs => match s with
    | .share _ => chkSs p N sc fresh ss xs
    | s => match xs with
      | [] => false
      | x :: xs => chkS p N sc fresh s x && chkSs p N sc fresh ss xs
  | [], _ :: _ => false
end
/-! ### the state of a body -/
structure SS (p : Pr) (H0 : Hp) (S0 S : Addr → Prop) (H : Hp) (σ : L2.St) (s : Env) : Prop where
  sr : SR p.K p.FA S H σ s
  same : Same H0 H
  sub : ∀ a, S0 a → S a
  new : ∀ (i : Nat) a, Own H σ s i a → H0 a = none
def PostS (p : Pr) (fresh : Bool) (H0 : Hp) (S0 S : Addr → Prop) (H : Hp) (D : Ends) : Out → Prop
  | .nx s => ∀ S' σ' H', SS p H0 S0 S' H' σ' s → Same (gd S H) (gd S' H') → D.nx σ' H'
  | .bk s => ∀ S' σ' H', SS p H0 S0 S' H' σ' s → Same (gd S H) (gd S' H') → D.bk σ' H'
  | .ct s => ∀ S' σ' H', SS p H0 S0 S' H' σ' s → Same (gd S H) (gd S' H') → D.ct σ' H'
  | .rt d _ => ∀ v H', Same H0 H' → R p.K p.FA (gd S0 H') v d → (fresh = true → Fr p.K p.FA S0 H0 H' v d) → D.rt v H'
structure XS (p : Pr) (n : Nat) (N : List Str) (sc : Scope) (X : Cx) : Prop where
  xf : XF p n N sc X
  fn : ∀ x, X.fn x = true
  kind : sc.kind = .function
def SatS (p : Pr) (n : Nat) (fresh : Bool) (t : TS) (f : Env → Option Out) : Prop := ∀ (s : Env) (o : Out) (H0 : Hp) (S0 S : Addr → Prop) (H : Hp) (σ : L2.St) (D : Ends),
  f s = some o → Dom S0 H0 → SS p H0 S0 S H σ s → PostS p fresh H0 S0 S H D o → t D σ H
def GoodS (p : Pr) (n : Nat) (N : List Str) (sc : Scope) (fresh : Bool) (s : S) (x : Stmt) : Prop := ∃ t : TS, (∀ X, XS p n N sc X → PS X x t) ∧ SatS p n fresh t (ex (call p.T p.G n) p.G s)
def GoodSs (p : Pr) (n : Nat) (N : List Str) (sc : Scope) (fresh : Bool) (s : List S) (x : List Stmt) : Prop := ∃ t : TS, (∀ X, XS p n N sc X → PSs X x t) ∧ SatS p n fresh t (exs (call p.T p.G n) p.G s)
section
variable {p : Pr} {n : Nat} {N : List Str} {sc : Scope} {fresh : Bool} {H0 H H1 H2 : Hp} {S0 S S' : Addr → Prop} {σ : L2.St} {s : Env} {D : Ends} {o : Out} {d : PL.D}
theorem PostS.move (m : Same (gd S H) (gd S' H1)) (q : PostS p fresh H0 S0 S H D o) : PostS p fresh H0 S0 S' H1 D o := by
  cases o with
  | nx s => exact fun S2 σ2 H2 h m2 => q S2 σ2 H2 h (m.trans m2)
  | bk s => exact fun S2 σ2 H2 h m2 => q S2 σ2 H2 h (m.trans m2)
  | ct s => exact fun S2 σ2 H2 h m2 => q S2 σ2 H2 h (m.trans m2)
  | rt d s => exact q
theorem SS.mono (m : Same H H1) (h : SS p H0 S0 S H σ s) : SS p H0 S0 S H1 σ s := ⟨h.sr.mono m, h.same.trans m, h.sub, fun i a o => h.new i a (o.back h.sr rfl rfl fun c u _ q => m c u q)⟩
theorem SS.set {i : Nat} {v : V} (h : SS p H0 S0 S H σ s) (r : R p.K p.FA (gd S H) v d) : SS p H0 S0 S H (σ.set i (some v)) (s.set i (.sh d)) :=
  ⟨h.sr.set r, h.same, h.sub, fun j a o => h.new j a ((h.sr.set' r).2 j a o)⟩
/-- a slot takes what is new -/
theorem set_get {α : Type} {s : List α} {i : Nat} {x y : α} (h : (s.set i x)[i]? = some y) : y = x ∧ i < s.length := by
  rw [List.getElem?_set, if_pos rfl] at h
  split at h
  · cases h
    exact ⟨rfl, by assumption⟩
  · cases h
/-- one slot changes, the others stand -/
theorem SS.frame {i : Nat} {s' : Env} {σ' : L2.St} (h : SS p H0 S0 S H σ s) (hl : s'.length = σ'.length) (es : ∀ j, j ≠ i → s'[j]? = s[j]?) (eσ : ∀ j, j ≠ i → σ'[j]? = σ[j]?)
    (dm : Dom S' H1) (mg : Same (gd S H) (gd S' H1)) (hS : ∀ b, S b → ¬ Own H σ s i b → S' b) (hH : ∀ b u, H b = some u → ¬ Own H σ s i b → H1 b = some u) (hsub : ∀ b, S0 b → S' b)
    (hsh : ∀ d, s'[i]? = some (.sh d) → ∃ v, σ'[i]? = some (some v) ∧ R p.K p.FA (gd S' H1) v d)
    (how : ∀ d, s'[i]? = some (.ow d) → ∃ a vs ds, d = .lst ds ∧ σ'[i]? = some (some (.ref a)) ∧ S' a ∧ H1 a = some (.lst vs) ∧ Rs p.K p.FA (gd S' H1) vs ds)
    (hon : ∀ xss, s'[i]? = some (.on xss) → ∃ a bs, σ'[i]? = some (some (.ref a)) ∧ S' a ∧ H1 a = some (.lst (bs.map V.ref)) ∧ (a :: bs).Nodup ∧ Nst p.K p.FA S' H1 bs xss)
    (hap : ∀ b, Own H1 σ' s' i b → Own H σ s i b ∨ H b = none)
    (hod : ∀ ks ds, s'[i]? = some (.od ks ds) → ∃ (a : Addr) (kvs : List (Key × V)), σ'[i]? = some (some (.ref a)) ∧ S' a ∧ H1 a = some (.dK kvs) ∧ kvs.map (·.1) = ks.map Sum.inr ∧ Rs p.K p.FA (gd S' H1) (kvs.map (·.2)) ds := by (intro ks ds e; cases (set_get e).1)) : SS p H0 S0 S' H1 σ' s' := by
  obtain ⟨k1, k2⟩ := h.sr.frame hl es eσ dm mg hS hH hsh how hon hap hod
  refine ⟨k1, fun b u hb => hH b u (h.same b u hb) fun z => ?_, hsub, fun j a o => ?_⟩
  · rw [h.new i b z] at hb
    cases hb
  · by_cases q : j = i
    · subst q
      rcases hap a o with z | z
      · exact h.new j a z
      · exact h.same.free z
    · exact h.new j a (k2 j a q o)
theorem get_set {α : Type} {s : List α} {i : Nat} {x : α} (h : i < s.length) : (s.set i x)[i]? = some x := by
  rw [List.getElem?_set, if_pos rfl, if_pos h]
theorem get_ne {α : Type} {s : List α} {i j : Nat} {x : α} (h : j ≠ i) : (s.set i x)[j]? = s[j]? := List.getElem?_set_ne fun z => h z.symm
theorem gd_in {a : Addr} {o : HO} (h : gd S H a = some o) : ¬ S a ∧ H a = some o := by
  refine ⟨fun z => ?_, gd_sub a o h⟩
  unfold gd at h
  rw [if_pos z] at h
  cases h
theorem loc_of {y : Str} (h : locB sc y = true) : Loc sc y := loc_ok h
theorem swaps_no {x : Expr} {t : Option Expr} {l : Nat} {env : PySem.Env} (h : isComp x = false) : swapsWith x t l env = pure false := by
  cases x <;> first | rfl | cases h
/-- a pack of a comprehension's parts -/
def LcPack (p : Pr) (n : Nat) (N : List Str) (sc : Scope) (l : E) (x : Expr) : Prop := ∃ (el tg iter : Expr) (ifs : List Expr) (scope : Scope) (pos : Pos) (is : List Nat) (c e : E) (b : Bool) (f : Env → Option (List PL.D)),
  x = .ListComp el [⟨tg, iter, ifs, 0⟩] scope pos ∧ LcOk p n N sc scope is tg ifs c e el ∧ notSet iter = true ∧ (∃ t : TI, (∀ X, XF p n N sc X → PI X tg iter t) ∧ SatI p n t b f) ∧
  (∀ s d, ev (call p.T p.G n) p.G l s = some d → ∃ ds r, f s = some ds ∧ lcD (lcF p n is c e s) ds = some r ∧ r.length ≤ sizeLine ∧ d = .lst r)
theorem lc_pack (fc : Facts p n) (nd : N.Nodup) {l : E} {x : Expr} (hl : isLc l = true) (hld : isLcd l = false) (h : chkE p.t N sc l x = true) : LcPack p n N sc l x := by
  cases l <;> first | (cases hl; done) | (cases hld; done) | skip
  · rename_i is it c e
    obtain ⟨el, tg, iter, ifs, scope, pos, rfl, h1, h2, h3, h4, h5, h6, h7, h8⟩ := chk_lc h
    refine ⟨el, tg, iter, ifs, scope, pos, is, c, e, _, _, rfl, ⟨h3, h4, ifs_ok h6 h5 fun cx hc => (ev_ok fc nd c _ cx hc).2 h5, (ev_ok fc nd e _ el h7).1, h8⟩, h1, goodI_e (ev_ok fc nd it sc iter h2).1, fun s d e' => ?_⟩
    unfold ev at e'
    obtain ⟨l, e1, e'⟩ := Option.bind_eq_some_iff.mp e'
    obtain ⟨ds, e2, e'⟩ := Option.bind_eq_some_iff.mp e'
    obtain ⟨r, rfl, e3, e4⟩ := lc_if e'
    exact ⟨ds, r, by rw [e1]; exact e2, e4, e3, rfl⟩
  · rename_i i es c e
    obtain ⟨el, tg, q, xs, p2, ifs, scope, pos, rfl, h1, h2, h2', h3, h4, h5, h6, h7, h8⟩ := chk_lcr h
    refine ⟨el, tg, _, ifs, scope, pos, [i], c, e, _, _, rfl, ⟨h3, h4, ifs_ok h6 h5 fun cx hc => (ev_ok fc nd c _ cx hc).2 h5, (ev_ok fc nd e _ el h7).1, h8⟩, rfl, goodI_r fc h1 h2' (notStars h2).2 (notStars h2).1 (evs_ok fc nd es sc xs h2), fun s d e' => ?_⟩
    unfold ev at e'
    obtain ⟨l, e1, e'⟩ := Option.bind_eq_some_iff.mp e'
    obtain ⟨ds, e2, e'⟩ := Option.bind_eq_some_iff.mp e'
    obtain ⟨r, rfl, e3, e4⟩ := lc_if e'
    exact ⟨ds, r, by rw [e1]; exact e2, e4, e3, rfl⟩
theorem ps_or {X : Cx} {st : Stmt} {t1 t2 : TS} (h1 : PS X st t1) (h2 : PS X st t2) : PS X st (fun D σ H => t1 D σ H ∨ t2 D σ H) := ⟨fun pins s σ H D I h => h.elim (h1.run pins s σ H D I) (h2.run pins s σ H D I)⟩
/-- a value is stored under a name: one rule for all -/
def GoodV (p : Pr) (n : Nat) (N : List Str) (sc : Scope) (i : Nat) (e : E) (st : Stmt) : Prop := ∃ te : TE, (∀ X, XS p n N sc X → PS X st (tAsg te (gName i))) ∧
  ∀ (s : Env) (d : PL.D) (S : Addr → Prop) (H : Hp) (σ : L2.St) (Q : VK), ev (call p.T p.G n) p.G e s = some d → SR p.K p.FA S H σ s → Post p false (fr p.T e) S H d Q → te σ H Q
theorem good_v (fc : Facts p n) (nd : N.Nodup) {i : Nat} {e : E} {y : Str} {py pos : Pos} {x : Expr} (h1 : nmB N sc i y = true) (h2 : chkE p.t N sc e x = true) (h3 : al e = false) (h4 : ((!isComp x && !isLc e) || (isLc e && swB sc y py x)) = true) : GoodV p n N sc i e (.Assign [.Name y py] x pos) := by
  obtain ⟨hN, hl⟩ := ba h1
  have hN := of_decide_eq_true hN
  rcases Bool.or_eq_true_iff.mp h4 with h4 | h4
  · obtain ⟨c1, c2⟩ := ba h4
    obtain ⟨te, pe, se⟩ := (ev_ok fc nd e sc x h2).1
    refine ⟨te, fun X hx => ps_set (by rw [hx.xf.N]; exact nd) (by rw [hx.xf.N]; exact hN) (by rw [hx.xf.sc]; exact loc_of hl) (pe X hx.xf) (swaps_no (by simpa using c1)) (.inl (hx.fn _)), fun s d S H σ Q e' hs q => se s d S H σ Q e' hs ?_⟩
    rw [h3]
    exact q
  · obtain ⟨c1, c2⟩ := ba h4
    by_cases hld : isLcd e = true
    · cases e <;> first | (cases hld; done) | skip
      rename_i is j c e2 _
      obtain ⟨el, tg, z0, q1, ifs, scope, pos2, rfl, g1, g2, g3, g4, g5, g6, g7, g8⟩ := chk_lcd h2
      obtain ⟨tt, pt, st⟩ := ifs_ok g6 g5 fun cx hc => (ev_ok fc nd c _ cx hc).2 g5
      obtain ⟨te, pe, se⟩ := (ev_ok fc nd e2 _ el g7).1
      unfold swB at c2
      obtain ⟨d1, d2⟩ := ba c2
      obtain ⟨d3, d4⟩ := ba d2
      have hyl : sc.names.lookup y = some .local := by
        split at d3
        · assumption
        · cases d3
      refine ⟨_, fun X hx => ?_, fun s d S H σ Q e' hs q => lcd_sat st se g8 s d S H σ Q e' hs (by rw [h3]; exact q)⟩
      have hx' := hx.xf
      have z := ps_setLc (i := i) (own := ownOf N is) (pos := pos2) (spos := pos) (y := y) (py := py) hx'.calm (by rw [hx'.N]; exact nd) (by rw [hx'.N]; exact hN) (by rw [hx'.sc]; exact hyl) (sw_true (by rw [hx'.sc]; exact hx.kind) (by rw [hx'.sc]; exact hyl) d1 (by simpa using d4)) (pi_keys (good_name (pos := q1) g1 g2 X hx')) (by rw [hx'.N, hx'.sc]; exact blkOk_by g3)
        (fun s H C cl fp => tg_blk hx' nd g4 s H C cl fp) (fun s H C cl fp => pt _ (xf_blk hx' s H scope cl C fp)) (fun s H C cl fp => pe _ (xf_blk hx' s H scope cl C fp)) (folded_ok rfl)
      rw [own_snd] at z
      exact ps_or (ps_lock z) z
    obtain ⟨el, tg, iter, ifs, scope, pos2, is, c, e2, b, f, rfl, k, hs, ⟨wi, pi, si⟩, hev⟩ := lc_pack fc nd c1 (by simpa using hld) h2
    obtain ⟨tt, pt, st⟩ := k.tt
    obtain ⟨te, pe, se⟩ := k.el
    unfold swB at c2
    obtain ⟨d1, d2⟩ := ba c2
    obtain ⟨d3, d4⟩ := ba d2
    have hyl : sc.names.lookup y = some .local := by
      split at d3
      · assumption
      · cases d3
    refine ⟨tLc wi (gOf p.K is) tt te is, fun X hx => ?_, fun s d S H σ Q e' hs q => ?_⟩
    · have hx' := hx.xf
      have z := ps_setLc (i := i) (own := ownOf N is) (pos := pos2) (spos := pos) (y := y) (py := py) hx'.calm (by rw [hx'.N]; exact nd) (by rw [hx'.N]; exact hN) (by rw [hx'.sc]; exact hyl) (sw_true (by rw [hx'.sc]; exact hx.kind) (by rw [hx'.sc]; exact hyl) d1 (by simpa using d4)) (pi X hx') (by rw [hx'.N, hx'.sc]; exact blkOk_by k.blk)
        (fun s H C cl fp => tg_blk hx' nd k.tg s H C cl fp) (fun s H C cl fp => pt _ (xf_blk hx' s H scope cl C fp)) (fun s H C cl fp => pe _ (xf_blk hx' s H scope cl C fp)) (folded_ok hs)
      rw [own_snd] at z
      exact z
    · obtain ⟨ds, r, e1, e2, e3, rfl⟩ := hev s d e'
      exact lc_sat si st se k.ne e1 e2 e3 hs (q.ok (Same.refl _))
theorem good_set {i : Nat} {e : E} {x : Stmt} (h : GoodV p n N sc i e x) : GoodS p n N sc fresh (.set i e) x := by
  obtain ⟨te, pt, st⟩ := h
  refine ⟨_, pt, fun s o H0 S0 S H σ D e' d0 hs q => ?_⟩
  unfold ex at e'
  obtain ⟨d, e1, rfl⟩ := Option.map_eq_some_iff.mp e'
  exact st s d S H σ _ e1 hs.sr fun v H1 m1 _ r _ => q S _ H1 ((hs.mono m1).set (r rfl)) (gd_mono m1)
theorem good_seto {i : Nat} {e : E} {x : Stmt} (hf : fr p.T e = true) (h : GoodV p n N sc i e x) : GoodS p n N sc fresh (.seto i e) x := by
  obtain ⟨te, pt, st⟩ := h
  refine ⟨_, pt, fun s o H0 S0 S H σ D e' d0 hs q => ?_⟩
  unfold ex at e'
  obtain ⟨d, e1, e2⟩ := Option.bind_eq_some_iff.mp e'
  cases d <;> first | (cases e2; done) | skip
  rotate_left
  · rename_i ks ds
    cases e2
    refine st s _ S H σ _ e1 hs.sr fun v H1 m1 _ _ fv => ?_
    obtain ⟨a, kvs, rfl, hn, ha, hk, hr⟩ := (fv hf).2 ks ds rfl
    have hs1 := hs.mono m1
    have mg : Same (gd S H) (gd (fun b => S b ∨ b = a) H1) := fun b u e => by
      obtain ⟨ns, hb⟩ := gd_in e
      exact gd_of (fun z => z.elim ns (ne_of_none hb hn)) (m1 b u hb)
    have dm : Dom (fun b => S b ∨ b = a) H1 := fun b hb => hb.elim (fun z => hs1.sr.dom b z) fun z => ⟨_, (congrArg _ z).trans ha, rfl⟩
    refine q (fun b => S b ∨ b = a) _ H1 (hs.frame (i := i) (by rw [List.length_set, List.length_set]; exact hs.sr.len) (fun j n => get_ne n) (fun j n => get_ne n) dm mg (fun b z _ => .inl z) (fun b u z _ => m1 b u z) (fun b z => .inl (hs.sub b z)) (fun d e => by cases (set_get e).1) (fun d e => by cases (set_get e).1) (fun d e => by cases (set_get e).1) (fun b o => ?_) (fun ks ds e => ?_)) mg
    · rcases o with ⟨d, e, f⟩ | ⟨x, _, _, e, _⟩ | ⟨_, _, e, f⟩
      · cases (set_get e).1
      · cases (set_get e).1
      · cases (set_get f).1
        exact .inr hn
    · obtain ⟨z1, z2⟩ := set_get e
      cases z1
      exact ⟨a, kvs, get_set (by rw [← hs.sr.len]; exact z2), .inr rfl, ha, hk, hr⟩
  rename_i ds
  cases e2
  refine st s _ S H σ _ e1 hs.sr fun v H1 m1 _ _ fv => ?_
  obtain ⟨a, vs, rfl, hn, ha, hr⟩ := (fv hf).1 ds rfl
  have hs1 := hs.mono m1
  have na : ∀ b, S b → b ≠ a := fun b hb z => hs.sr.dom.nn hb (by rw [z]; exact hn)
  have mg : Same (gd S H) (gd (fun b => S b ∨ b = a) H1) := fun b u e => by
    obtain ⟨ns, hb⟩ := gd_in e
    exact gd_of (fun z => z.elim ns (ne_of_none hb hn)) (m1 b u hb)
  have dm : Dom (fun b => S b ∨ b = a) H1 := fun b hb => hb.elim (fun z => hs1.sr.dom b z) fun z => ⟨_, (congrArg _ z).trans ha, rfl⟩
  refine q (fun b => S b ∨ b = a) _ H1 (hs.frame (i := i) (by rw [List.length_set, List.length_set]; exact hs.sr.len) (fun j n => get_ne n) (fun j n => get_ne n) dm mg (fun b z _ => .inl z) (fun b u z _ => m1 b u z) (fun b z => .inl (hs.sub b z)) (fun d e => ?_) (fun d e => ?_) (fun d e => ?_) fun b o => ?_) mg
  · cases (set_get e).1
  · obtain ⟨z1, z2⟩ := set_get e
    cases z1
    exact ⟨a, vs, ds, rfl, get_set (by rw [← hs.sr.len]; exact z2), .inr rfl, ha, hr⟩
  · cases (set_get e).1
  · rcases o with ⟨d, e, f⟩ | ⟨x, _, _, e, _⟩ | ⟨_, _, e, _⟩
    · cases (set_get f).1
      exact .inr hn
    · cases (set_get e).1
    · cases (set_get e).1
end
end PL

/-! PL10: statements, defs, the rest. -/
namespace PL
open PySem PySem.Spec L2
section
variable {p : Pr} {n : Nat} {N : List Str} {sc : Scope} {fresh : Bool} {H0 H H1 H2 : Hp} {S0 S S' : Addr → Prop} {σ : L2.St} {s : Env} {D : Ends} {o : Out} {d : PL.D}
theorem GoodE.get {e : E} {x : Expr} (h : GoodE p n N sc e x) (ha : al e = false) : ∃ te : TE, (∀ X, XF p n N sc X → PE X x te) ∧ ∀ (s : Env) (d : PL.D) (S : Addr → Prop) (H : Hp) (σ : L2.St) (Q : VK),
    ev (call p.T p.G n) p.G e s = some d → SR p.K p.FA S H σ s → (∀ v H', Same H H' → R p.K p.FA (gd S H') v d → (fr p.T e = true → Fr p.K p.FA S H H' v d) → Q v H') → te σ H Q := by
  obtain ⟨t, pt, st⟩ := h
  exact ⟨t, pt, fun s d S H σ Q e' hs q => st s d S H σ Q e' hs fun v H' m _ r f => q v H' m (r ha) f⟩
theorem gList_out {is : List Nat} {j : Nat} {σ2 : L2.St} (hw : ∀ us : List Nat, (∀ i ∈ is, i ∈ us) → wipe σ2 us = wipe σ us) (h : j ∉ is) : σ2[j]? = σ[j]? := by
  have out : ∀ (us : List Nat) (τ : L2.St), j ∉ us → (wipe τ us)[j]? = τ[j]? := by
    intro us
    induction us with
    | nil => intro τ _; rfl
    | cons u us ih =>
      intro τ h
      unfold wipe
      rw [List.getElem?_set_ne fun z => h (by rw [z]; exact List.mem_cons_self)]
      exact ih τ fun z => h (List.mem_cons_of_mem _ z)
  rw [← out is σ2 h, ← out is σ h, hw is fun i q => q]
theorem tgs_own {is : List Nat} : ∀ {xs : List PL.D} {s s2 : Env} {j : Nat} {y : Sl}, tgs is xs s = some s2 → s2[j]? = some y → (∀ d, y ≠ .sh d) → s[j]? = some y ∧ j ∉ is := by
  induction is with
  | nil =>
    intro xs s s2 j y e h ny
    cases xs with
    | nil => cases e; exact ⟨h, by simp⟩
    | cons => cases e
  | cons i is ih =>
    intro xs s s2 j y e h ny
    cases xs with
    | nil => cases e
    | cons x xs =>
      obtain ⟨h1, h2⟩ := ih (xs := xs) (s := s.set i (.sh x)) e h ny
      rw [List.getElem?_set] at h1
      by_cases q : i = j
      · rw [if_pos q] at h1
        split at h1
        · cases h1; exact absurd rfl (ny x)
        · cases h1
      · rw [if_neg q] at h1
        exact ⟨h1, fun z => (List.mem_cons.mp z).elim (fun z => q z.symm) h2⟩
theorem tgD_own {is : List Nat} {x : PL.D} {s s2 : Env} {j : Nat} {y : Sl} (e : tgD is x s = some s2) (h : s2[j]? = some y) (ny : ∀ d, y ≠ .sh d) : s[j]? = some y ∧ j ∉ is := by
  unfold tgD at e
  split at e
  · cases e
    rw [List.getElem?_set] at h
    rename_i i
    by_cases q : i = j
    · rw [if_pos q] at h
      split at h
      · cases h; exact absurd rfl (ny x)
      · cases h
    · rw [if_neg q] at h
      exact ⟨h, fun z => q (List.mem_singleton.mp z).symm⟩
  · exact tgs_own e h ny
  · cases e
theorem tg_ss {is : List Nat} {x : PL.D} {v : V} {s2 : Env} {Qs : L2.St → Hp → Prop} (e : tgD is x s = some s2) (r : R p.K p.FA (gd S H) v x) (hs : SS p H0 S0 S H σ s) (q : ∀ σ2, SS p H0 S0 S H σ2 s2 → Qs σ2 H) : gOf p.K is v σ H Qs :=
  tg_sat e r hs.sr fun σ2 h hw => q σ2 ⟨h, hs.same, hs.sub, fun j a o => by
    obtain ⟨y, hy, ny⟩ := o.lt
    obtain ⟨h1, h2⟩ := tgD_own e hy ny
    exact hs.new j a (o.back hs.sr (hy.trans h1.symm) (gList_out hw h2) fun _ _ _ q => q)⟩
theorem XS.loc {X : Cx} (hx : XS p n N sc X) (x : Str) (h : sc.names.lookup x = some .local ∨ sc.names.lookup x = some .cell) : Loc X.env.scope x ∧ (X.fn x = true ∨ X.env.scope.names.lookup x = some .local) := ⟨by rw [hx.xf.sc]; exact h, .inl (hx.fn x)⟩
theorem XS.pg {X : Cx} (hx : XS p n N sc X) (nd : N.Nodup) {is : List Nat} {tg : Expr} (h : chkTg N sc is tg = true) : PG X tg (gOf p.K is) := pg_ok hx.xf.K hx.xf.calm hx.xf.N nd (fun x q => hx.loc x q) h
theorem swSole {tg x : Expr} {l : Nat} {env : PySem.Env} (h : isComp x = false) : swapsWithSole [tg] x l env = pure false := swaps_no h
theorem swStores {tg x : Expr} {env : PySem.Env} (h : isTup x = false) : swappedStores [tg] x env = pure none := by
  cases x <;> first | (cases h; done) | (cases tg <;> rfl)
theorem swStores2 {o i x : Expr} {q : Pos} {env : PySem.Env} : swappedStores [.Subscript o i q] x env = pure none := by
  cases x <;> rfl
theorem good_unp (nd : N.Nodup) {is : List Nat} {e : E} {tg x : Expr} {pos : Pos} (h1 : chkTg N sc is tg = true) (h2 : isComp x = false) (h3 : isTup x = false) (he : GoodE p n N sc e x) (ha : al e = false) (h2' : (∀ env : PySem.Env, (assignEach [tg] env).map (·.2) = [assign tg env])) : GoodS p n N sc fresh (.unp is e) (.Assign [tg] x pos) := by
  obtain ⟨te, pe, se⟩ := he.get ha
  refine ⟨_, fun X hx => ps_asg (pe X hx.xf) (hx.pg nd h1) (swSole h2) (swStores h3) (h2' _), fun s o H0 S0 S H σ D e' d0 hs q => ?_⟩
  unfold ex at e'
  obtain ⟨d, e1, e2⟩ := Option.bind_eq_some_iff.mp e'
  obtain ⟨s2, e3, rfl⟩ := Option.map_eq_some_iff.mp e2
  exact se s d S H σ _ e1 hs.sr fun v H1 m1 r _ => tg_ss e3 r (hs.mono m1) fun σ2 h => q S σ2 H1 h (gd_mono m1)
def ipB : B1 → TIp
  | .add => ipI fun i j => i + j
  | _ => ipI fun i j => i - j
theorem good_aug (nd : N.Nodup) {i : Nat} {o1 : B1} {op : Operator} {e : E} {y : Str} {py pos : Pos} {x : Expr} (h1 : nmB N sc i y = true) (h2 : augB o1 = true) (h3 : opEq (pyOp o1) op = true) (he : GoodE p n N sc e x) : GoodS p n N sc fresh (.aug i o1 e) (.AugAssign (.Name y py) op x pos) := by
  obtain ⟨te, pe, se⟩ := he
  obtain ⟨hN, hl⟩ := ba h1
  have hN := of_decide_eq_true hN
  cases opEq_ok h3
  refine ⟨tAug i te (ipB o1), fun X hx => ?_, fun s o H0 S0 S H σ D e' d0 hs q => ?_⟩
  · have := hx.xf
    have hN' : X.N[i]? = some y := by rw [this.N]; exact hN
    have nd' : X.N.Nodup := by rw [this.N]; exact nd
    have hl' : Loc X.env.scope y := by rw [this.sc]; exact loc_of hl
    cases o1 <;> first | (cases h2; done) | skip
    · exact ps_aug nd' hN' hl' (pe X this) ip_add (.inl (hx.fn _))
    · exact ps_aug nd' hN' hl' (pe X this) ip_sub (.inl (hx.fn _))
  · unfold ex at e'
    obtain ⟨x0, e1, e'⟩ := Option.bind_eq_some_iff.mp e'
    obtain ⟨sl, e0, e1⟩ := Option.bind_eq_some_iff.mp e1
    obtain ⟨y0, e2, e'⟩ := Option.bind_eq_some_iff.mp e'
    cases sl <;> cases e1
    obtain ⟨v, h4, h5⟩ := hs.sr.sh i _ e0
    split at e'
    · obtain ⟨z, e3, rfl⟩ := Option.map_eq_some_iff.mp e'
      refine ⟨v, h4, se s _ S H σ _ e2 hs.sr fun u H1 m1 ra _ _ => ?_⟩
      cases h5
      have eu := ra.int
      subst eu
      cases o1 <;> first | (cases h2; done) | skip
      · cases e3
        exact ⟨_, _, rfl, rfl, q S _ H1 ((hs.mono m1).set (.int _)) (gd_mono m1)⟩
      · cases e3
        exact ⟨_, _, rfl, rfl, q S _ H1 ((hs.mono m1).set (.int _)) (gd_mono m1)⟩
    · cases e'
theorem good_expr {e : E} {x : Expr} {pos : Pos} (h : isComp x = false) (he : GoodE p n N sc e x) : GoodS p n N sc fresh (.expr e) (.Expr x pos) := by
  obtain ⟨te, pe, se⟩ := he
  refine ⟨_, fun X hx => ps_expr (pe X hx.xf) (swaps_no h), fun s o H0 S0 S H σ D e' d0 hs q => ?_⟩
  unfold ex at e'
  obtain ⟨d, e1, rfl⟩ := Option.map_eq_some_iff.mp e'
  exact se s d S H σ _ e1 hs.sr fun v H1 m1 _ _ _ => q S σ H1 (hs.mono m1) (gd_mono m1)
/-- an own list is changed -/
theorem SS.upd {i : Nat} {a : Addr} {vs : List V} {xs ds : List PL.D} (h : SS p H0 S0 S H σ s) (h0 : s[i]? = some (.ow (.lst xs))) (h1 : σ[i]? = some (some (.ref a))) (r : Rs p.K p.FA (gd S H) vs ds) : SS p H0 S0 S (L2.upd H a (.lst vs)) σ (s.set i (.ow (.lst ds))) ∧ Same (gd S H) (gd S (L2.upd H a (.lst vs))) := by
  obtain ⟨b, ws, es, e1, e2, e3, e4, e5⟩ := h.sr.ow i _ h0
  rw [h1] at e2
  cases e2
  have mg : Same (gd S H) (gd S (L2.upd H a (.lst vs))) := gd_upd e3
  have oa : Own H σ s i a := .inl ⟨_, h0, h1⟩
  refine ⟨h.frame (i := i) (by rw [List.length_set]; exact h.sr.len) (fun j n => get_ne n) (fun _ _ => rfl) (fun b hb => ?_) mg (fun _ z _ => z) (fun b u hb no => by rw [upd_ne fun (z : b = a) => no (z ▸ oa)]; exact hb) h.sub (fun d e => ?_) (fun d e => ?_) (fun d e => ?_) (fun b o => ?_), mg⟩
  · by_cases z : b = a
    · exact ⟨_, (congrArg _ z).trans upd_same, rfl⟩
    · rw [upd_ne z]
      exact h.sr.dom b hb
  · cases (set_get e).1
  · cases (set_get e).1
    exact ⟨a, vs, ds, rfl, h1, e3, upd_same, r.mono mg⟩
  · cases (set_get e).1
  · rcases o with ⟨d, e, f⟩ | ⟨x, _, _, e, _⟩ | ⟨_, _, e, _⟩
    · rw [h1] at f
      cases f
      exact .inl oa
    · cases (set_get e).1
    · cases (set_get e).1
theorem good_app {i : Nat} {e : E} {y : Str} {py apos cpos pos : Pos} {x : Expr} (hN : N[i]? = some y) (hv : visB sc y = true) (hst : notStar x = true) (he : GoodE p n N sc e x) (ha : al e = false) (hl : (apos.endLine == cpos.line) = true) :
    GoodS p n N sc fresh (.app i e) (.Expr (.Call (.Attribute (.Name y py) (Str.ofString "append") apos) [x] [] cpos) pos) := by
  obtain ⟨te, pe, se⟩ := he.get ha
  refine ⟨tDrop (tBM p.K "list" rAppend (tVar i) (tCons te tNil)), fun X hx => ?_, fun s o H0 S0 S H σ D e' d0 hs q => ?_⟩
  · refine ps_expr ?_
    rw [← hx.xf.K]
    exact pe_bm PySem.F.plainAttrs_list PySem.F.slot_list_append PySem.F.type_list_append mt_append (good_name hN hv X hx.xf) (pa_cons (pe X hx.xf) pa_nil (star_cons hst)) rfl (by rw [star_cons hst]; rfl) hl (star_cons hst) rfl
  · unfold ex at e'
    obtain ⟨x0, e1, e'⟩ := Option.bind_eq_some_iff.mp e'
    obtain ⟨sl, e0, e1⟩ := Option.bind_eq_some_iff.mp e1
    obtain ⟨d, e2, e'⟩ := Option.bind_eq_some_iff.mp e'
    cases sl <;> cases e1
    obtain ⟨a, vs, xs, rfl, h1, h2, h3, h4⟩ := hs.sr.ow i _ e0
    have e4 : (if xs.length < sizeLine then some (Out.nx (s.set i (.ow (.lst (xs ++ [d]))))) else none) = some o := e'
    by_cases hz : xs.length < sizeLine
    · rw [if_pos hz] at e4
      cases e4
      refine ⟨_, h1, Or.inl ⟨rfl, _, Or.inl (Or.inl h3)⟩, se s d S H σ _ e2 hs.sr fun v H1 m1 r _ => ?_⟩
      refine ⟨a, vs, v, rfl, rfl, m1 _ _ h3, by rw [h4.length]; exact hz, ?_⟩
      obtain ⟨k1, k2⟩ := (hs.mono m1).upd e0 h1 ((h4.mono (gd_mono m1)).append (.cons r .nil))
      exact q S σ _ k1 ((gd_mono m1).trans k2)
    · rw [if_neg hz] at e4
      cases e4
/-! methods of own lists -/
section
open PyProof.Rows
theorem list_extend_tup (l : Addr) (items : Array Value) (n : Nat) (b : Addr) (items2 : Array Value) (n2 : Nat) (di : Option Addr) (sl : Array (Option Value)) (hs0 : ¬(!items.isEmpty && Builtin.List.listTooLong (items.size + items2.size)) = true) (hs1 : items.size ≤ sizeLine) (hs2 : items.size + items2.size ≤ sizeLine + 1) :
    Meets (Builtin.«list.extend» ⟨[.ref l, .ref b], []⟩) (fun _ R s => s.heap.get? l = some { cls := .type "list", dict := none, data := .seq items n, slots := #[] } ∧ s.heap.get? b = some { cls := .type "tuple", dict := di, data := .seq items2 n2, slots := sl } ∧ R (.ok (.ret Value.none)) { s with heap := s.heap.update l (Obj.mapSeq fun x => x ++ items2), toks := s.toks }) :=
  .of_wp fun prog w A R s h => by
    obtain ⟨hp, g, d, tk, os⟩ := s; obtain ⟨hl, hb, h⟩ := h; have f1 := PySem.AutoSeq1.idx_int; have f2 := PySem.AutoSeq1.sub_tuple_tuple; have f3 := PySem.AutoSeq1.sub_list_list; have f4 := PySem.AutoSeq1.sub_tuple_list; have f5 := PySem.AutoSeq1.sub_list_tuple;
    have hz' : (items ++ items2).size ≤ sizeLine + 1 := by rw [Array.size_append]; exact hs2
    wp_walk using (wpAny_updateSeq hl rfl (hz := hs1) (_hz' := hz')), PySem.AutoSeq1.wpAny_loadPart' hl, PySem.AutoSeq1.wpAny_loadPart' hb; exact ⟨_, rfl, h⟩
def rExtT (K : PySem.W.Frag) : V → List V → Hp → VK → Prop := fun x vs H Q => ∃ l b xs zs, x = .ref l ∧ vs = [.ref b] ∧ H l = some (.lst xs) ∧ SqT K H b zs ∧ xs.length + zs.length ≤ sizeLine ∧ Q .non (upd H l (.lst (xs ++ zs)))
theorem mt_extT {X : Cx} : MtR X "list.extend" (rExtT X.K) := by
  intro pins s σ H x vs v us Q I rx rv h
  obtain ⟨l, b, xs, zs, rfl, rfl, hH, hB, hz, q⟩ := h
  cases rx
  obtain ⟨u, rfl, ru⟩ := rv.one
  cases ru
  obtain ⟨z, its, n, r, hl, e⟩ := I.lstM hH
  obtain ⟨its2, r2, ⟨o, e2, hc, n2, hd⟩, hz2⟩ := I.tuple hB
  have hl2 := r2.length
  obtain ⟨c, di, dt, sl⟩ := o
  cases hc
  cases hd
  have hsz : its.toArray.size + its2.toArray.size ≤ sizeLine := by rw [List.size_toArray, List.size_toArray]; omega
  have hlong : ¬ (!its.toArray.isEmpty && Builtin.List.listTooLong (its.toArray.size + its2.toArray.size)) = true := by
    rw [notLongL hsz, Bool.and_false]
    exact Bool.false_ne_true
  refine call_meets PySem.F.slot_list_extend ⟨_, e, rfl⟩ PySem.F.entry_list_extend (PySem.F.args_list_extend_2 _ _)
    (list_extend_tup l its.toArray n b its2.toArray n2 di sl hlong (by rw [List.size_toArray]; omega) (by omega)) ⟨e, e2, ?_⟩
  refine ⟨.non, _, I.lset (its' := its ++ its2) hH e (by simp) (r.append r2) ?_, rfl, q⟩
  rw [List.length_append]
  omega
end

def omI : OM → String
  | .clear => "list.clear"
  | .pop => "list.pop"
  | .popat => "list.pop"
  | .insert => "list.insert"
  | .extend => "list.extend"
  | .reverse => "list.reverse"
def rIns : V → List V → Hp → VK → Prop := fun x vs H Q => ∃ (l : Addr) (xs : List V) (i : Int) (y : V), x = .ref l ∧ vs = [.int i, y] ∧ H l = some (.lst xs) ∧ xs.length < sizeLine ∧ 0 ≤ i ∧ i < 2 ^ 63 ∧
    Q .non (L2.upd H l (.lst (xs.take i.toNat ++ [y] ++ xs.drop i.toNat)))
def omR (K : PySem.W.Frag) : OM → V → List V → Hp → VK → Prop
  | .clear => rClear
  | .pop => rPop
  | .popat => rPopAt
  | .insert => rIns
  | .extend => fun x vs H Q => rExtend x vs H Q ∨ rExtT K x vs H Q
  | .reverse => rReverse
theorem omM {X : Cx} : ∀ m : OM, MtR X (omI m) (omR X.K m)
  | .clear => mt_clear
  | .pop => mt_pop
  | .popat => mt_popAt
  | .insert => mt_insert
  | .extend => MtR.or mt_extend mt_extT
  | .reverse => mt_reverse
theorem omS : ∀ m : OM, Slot "list" (omN m) (omI m) ∧ typeOf (.builtin (omI m)) = pure (.type "method_descriptor")
  | .clear => ⟨PySem.F.slot_list_clear, PySem.F.type_list_clear⟩
  | .pop => ⟨PySem.F.slot_list_pop, PySem.F.type_list_pop⟩
  | .popat => ⟨PySem.F.slot_list_pop, PySem.F.type_list_pop⟩
  | .insert => ⟨PySem.F.slot_list_insert, PySem.F.type_list_insert⟩
  | .extend => ⟨PySem.F.slot_list_extend, PySem.F.type_list_extend⟩
  | .reverse => ⟨PySem.F.slot_list_reverse, PySem.F.type_list_reverse⟩
theorem omOk_len {k : Nat} : ∀ {m : OM}, omOk m k = true → k = 0 ∨ k = 1 ∨ k = 2 := by
  intro m h
  unfold omOk at h
  split at h <;> first | exact .inl rfl | exact .inr (.inl rfl) | exact .inr (.inr rfl) | cases h
theorem omPE {X : Cx} {m : OM} {y : Str} {py apos cpos : Pos} {xs : List Expr} {to : TE} {t : TA} (hk : omOk m xs.length = true) (hl : (apos.endLine == cpos.line) = true) (hst : xs.all notStar = true) (ho : PE X (.Name y py) to) (ha : PA X xs t) (h0 : xs = [] → t = tNil) :
    PE X (.Call (.Attribute (.Name y py) (omN m) apos) xs [] cpos) (tBM X.K "list" (omR X.K m) to t) := by
  match xs, omOk_len hk with
  | [], _ =>
    cases h0 rfl
    exact pe_bm0 PySem.F.plainAttrs_list (omS m).1 (omS m).2 (omM m) ho rfl hl
  | [x], _ =>
    rw [List.all_cons] at hst
    have c1 := (ba hst).1
    exact pe_bm PySem.F.plainAttrs_list (omS m).1 (omS m).2 (omM m) ho ha rfl (by rw [star_cons c1]; rfl) hl (star_cons c1) rfl
  | [x, z], _ =>
    rw [List.all_cons, List.all_cons] at hst
    have c1 := (ba hst).1
    have c2 := (ba (ba hst).2).1
    exact pe_bm PySem.F.plainAttrs_list (omS m).1 (omS m).2 (omM m) ho ha rfl (by rw [star_cons c1, star_cons c2]; rfl) hl (star_cons c1) (by rw [star_cons c2]; rfl)
  | _ :: _ :: _ :: _, h => exact absurd h (by simp only [List.length_cons]; omega)
theorem Rs.eraseIdx {K : PySem.W.Frag} {FA : Nat → Addr} {G : Hp} : ∀ (n : Nat) {vs : List V} {ds : List PL.D}, Rs K FA G vs ds → Rs K FA G (vs.eraseIdx n) (ds.eraseIdx n)
  | _, _, _, .nil => by simp; exact .nil
  | 0, _, _, .cons _ r => by simp; exact r
  | n + 1, _, _, .cons h r => by simp; exact .cons h (Rs.eraseIdx n r)
theorem Rs.dropLast {K : PySem.W.Frag} {FA : Nat → Addr} {G : Hp} {vs : List V} {ds : List PL.D} (r : Rs K FA G vs ds) : Rs K FA G vs.dropLast ds.dropLast := by
  rw [List.dropLast_eq_take, List.dropLast_eq_take, r.length]
  exact r.take _
theorem Rs.reverse {K : PySem.W.Frag} {FA : Nat → Addr} {G : Hp} : ∀ {vs : List V} {ds : List PL.D}, Rs K FA G vs ds → Rs K FA G vs.reverse ds.reverse
  | _, _, .nil => .nil
  | _, _, .cons h r => by
    rw [List.reverse_cons, List.reverse_cons]
    exact (Rs.reverse r).append (.cons h .nil)
theorem om_ok {K : PySem.W.Frag} {FA : Nat → Addr} {G : Hp} {m : OM} {ds ds' xs : List PL.D} {d : PL.D} {vs us : List V} {a : Addr} {Q : VK} (e : omD m ds xs = some (ds', d)) (ha : H a = some (.lst vs)) (hG : Same G H) (r : Rs K FA G vs ds) (ra : Rs K FA G us xs)
    (q : ∀ vs' v, Rs K FA G vs' ds' → R K FA G v d → Q v (L2.upd H a (.lst vs'))) : omR K m (.ref a) us H Q := by
  unfold omD at e
  split at e
  · cases e
    cases ra
    exact ⟨a, vs, rfl, rfl, ha, q _ _ .nil .non⟩
  · obtain ⟨z, e1, e2⟩ := Option.map_eq_some_iff.mp e
    cases e2
    cases ra
    obtain ⟨v, h1, h2⟩ := r.get e1
    exact ⟨a, vs, v, rfl, rfl, ha, by rw [r.length]; exact h1, q _ _ r.dropLast h2⟩
  · split at e
    · rename_i i c
      obtain ⟨k, e1, e2⟩ := Option.bind_eq_some_iff.mp e
      obtain ⟨z, e3, e4⟩ := Option.map_eq_some_iff.mp e2
      cases e4
      cases ra with
      | cons h1 h2 =>
        cases h1
        cases h2
        obtain ⟨v, h3, h4⟩ := r.get e3
        exact ⟨a, vs, _, k, v, rfl, rfl, ha, by omega, by omega, by rw [r.length]; exact e1, h3, q _ _ (r.eraseIdx k) h4⟩
    · cases e
  · split at e
    · rename_i i z c
      cases e
      cases ra with
      | cons h1 h2 =>
        cases h1
        cases h2 with
        | cons h2 h3 =>
          cases h3
          exact ⟨a, vs, _, _, rfl, rfl, ha, by rw [r.length]; exact c.1, c.2.1, by omega, q _ _ (((r.take _).append (.cons h2 .nil)).append (r.drop _)) .non⟩
    · cases e
  · split at e
    · rename_i es c
      cases e
      cases ra with
      | cons h1 h2 =>
        cases h2
        cases h1 with
        | lst h3 h4 => exact .inl ⟨a, _, vs, _, rfl, rfl, ha, hG _ _ h3, by rw [r.length, h4.length]; exact c, q _ _ (r.append h4) .non⟩
    · cases e
  · split at e
    · rename_i es c
      cases e
      cases ra with
      | cons h1 h2 =>
        cases h2
        cases h1 with
        | tup h3 h4 => exact .inr ⟨a, _, vs, _, rfl, rfl, ha, sqT_mono hG h3, by rw [r.length, h4.length]; exact c, q _ _ (r.append h4) .non⟩
    · cases e
  · cases e
    cases ra
    exact ⟨a, vs, rfl, rfl, ha, q _ _ r.reverse .non⟩
  · cases e
theorem mth_nil {es : List E} {xs : List Expr} (h : chkEs p.t N sc es xs = true) (h0 : xs = []) : es = [] := by
  subst h0
  cases es with
  | nil => rfl
  | cons => unfold chkEs at h; cases h
/-- the arguments of a method, none of them written otherwise -/
theorem goodA_nil {es : List E} {xs : List Expr} (h : GoodA p n N sc es xs) (he : xs = [] → es = []) : ∃ t : TA, (∀ X, XF p n N sc X → PA X xs t) ∧ SatA p n t es ∧ (xs = [] → t = tNil) := by
  cases xs with
  | nil =>
    cases he rfl
    obtain ⟨t, pt, st⟩ := (good_nil : GoodA p n N sc [] [])
    exact ⟨tNil, fun X _ => pa_nil, fun s ds S H σ Q e hs q => by
      unfold evs at e
      cases e
      exact q [] H (Same.refl _) trivial fun _ => .nil, fun _ => rfl⟩
  | cons x xs =>
    obtain ⟨t, pt, st⟩ := h
    exact ⟨t, pt, st, fun e => by cases e⟩
theorem om_sat {i : Nat} {m : OM} {es : List E} {t : TA} (st : SatA p n t es) (hal : es.all (!al ·) = true) {x0 : PL.D} {xs ds ds' : List PL.D} {d : PL.D} {Q : VK} (hs : SS p H0 S0 S H σ s) (e0 : s[i]? = some (.ow x0)) (ex : x0 = .lst ds) (e2 : evs (call p.T p.G n) p.G es s = some xs) (e3 : omD m ds xs = some (ds', d))
    (q : ∀ v H1 a vs', Same H H1 → σ[i]? = some (some (.ref a)) → Rs p.K p.FA (gd S H1) vs' ds' → R p.K p.FA (gd S H1) v d → Q v (L2.upd H1 a (.lst vs'))) : tBM p.K "list" (omR p.K m) (tVar i) t σ H Q := by
  subst ex
  obtain ⟨a, vs, es', e4, h1, h2, h3, h4⟩ := hs.sr.ow i _ e0
  cases e4
  refine ⟨_, h1, Or.inl ⟨rfl, _, Or.inl (Or.inl h3)⟩, ?_⟩
  refine st s xs S H σ _ e2 hs.sr fun us H1 m1 _ rs => ?_
  exact om_ok e3 (m1 _ _ h3) gd_sub (h4.mono (gd_mono m1)) (rs hal) fun vs' v r1 r2 => q v H1 a vs' m1 h1 r1 r2
theorem good_mth {i : Nat} {m : OM} {es : List E} {y : Str} {py apos cpos pos : Pos} {xs : List Expr} (hN : N[i]? = some y) (hv : visB sc y = true) (hk : omOk m xs.length = true) (hst : xs.all notStar = true) (ha : GoodA p n N sc es xs) (he : xs = [] → es = []) (hal : es.all (!al ·) = true) (hl : (apos.endLine == cpos.line) = true) :
    GoodS p n N sc fresh (.mth i m es) (.Expr (.Call (.Attribute (.Name y py) (omN m) apos) xs [] cpos) pos) := by
  obtain ⟨t, pt, st, h0⟩ := goodA_nil ha he
  refine ⟨tDrop (tBM p.K "list" (omR p.K m) (tVar i) t), fun X hx => ?_, fun s o H0 S0 S H σ D e' d0 hs q => ?_⟩
  · refine ps_expr ?_
    rw [← hx.xf.K]
    exact omPE hk hl hst (good_name hN hv X hx.xf) (pt X hx.xf) h0
  · unfold ex at e'
    obtain ⟨x0, e1, e'⟩ := Option.bind_eq_some_iff.mp e'
    obtain ⟨sl, e0, e1⟩ := Option.bind_eq_some_iff.mp e1
    obtain ⟨ds, e2, e'⟩ := Option.bind_eq_some_iff.mp e'
    cases sl <;> cases e1
    split at e'
    · obtain ⟨⟨ds', d⟩, e3, rfl⟩ := Option.map_eq_some_iff.mp e'
      refine om_sat st hal hs e0 rfl e2 e3 fun v H1 a vs' m1 h1 r1 r2 => ?_
      obtain ⟨k1, k2⟩ := (hs.mono m1).upd e0 h1 r1
      exact q S σ _ k1 ((gd_mono m1).trans k2)
    · cases e'
theorem good_mthx (nd : N.Nodup) {j i : Nat} {m : OM} {es : List E} {y z : Str} {py pz apos cpos pos : Pos} {xs : List Expr} (hz : nmB N sc j z = true) (hij : i ≠ j) (hN : N[i]? = some y) (hv : visB sc y = true) (hk : omOk m xs.length = true) (hst : xs.all notStar = true) (ha : GoodA p n N sc es xs) (he : xs = [] → es = []) (hal : es.all (!al ·) = true) (hl : (apos.endLine == cpos.line) = true) :
    GoodS p n N sc fresh (.mthx j i m es) (.Assign [.Name z pz] (.Call (.Attribute (.Name y py) (omN m) apos) xs [] cpos) pos) := by
  obtain ⟨t, pt, st, h0⟩ := goodA_nil ha he
  obtain ⟨hN', hl'⟩ := ba hz
  have hN' := of_decide_eq_true hN'
  refine ⟨tAsg (tBM p.K "list" (omR p.K m) (tVar i) t) (gName j), fun X hx => ?_, fun s o H0 S0 S H σ D e' d0 hs q => ?_⟩
  · refine ps_set (by rw [hx.xf.N]; exact nd) (by rw [hx.xf.N]; exact hN') (by rw [hx.xf.sc]; exact loc_of hl') ?_ (swaps_no rfl) (.inl (hx.fn _))
    rw [← hx.xf.K]
    exact omPE hk hl hst (good_name hN hv X hx.xf) (pt X hx.xf) h0
  · unfold ex at e'
    obtain ⟨x0, e1, e'⟩ := Option.bind_eq_some_iff.mp e'
    obtain ⟨sl, e0, e1⟩ := Option.bind_eq_some_iff.mp e1
    obtain ⟨ds, e2, e'⟩ := Option.bind_eq_some_iff.mp e'
    cases sl <;> cases e1
    split at e'
    · obtain ⟨⟨ds', d⟩, e3, rfl⟩ := Option.map_eq_some_iff.mp e'
      refine om_sat st hal hs e0 rfl e2 e3 fun v H1 a vs' m1 h1 r1 r2 => ?_
      obtain ⟨k1, k2⟩ := (hs.mono m1).upd e0 h1 r1
      exact q S _ _ (k1.set (r2.mono k2)) ((gd_mono m1).trans k2)
    · cases e'
theorem asg_sub {ox ix : Expr} {env : PySem.Env} {pos : Pos} (h : notSlice ix = true) (v : Value) : assign (.Subscript ox ix pos) env v = (do
      let ov ← holding [v] (eval ox env)
      let iv ← holding [v, ov] (eval ix env)
      standAt pos
      holding [v, ov, iv] (setItem ov iv v)
      release [v, ov, iv] []) := by
  cases ix <;> first | (cases h; done) | rfl
theorem good_sets {i : Nat} {k e : E} {y : Str} {py q1 pos : Pos} {kx x : Expr} (hN : N[i]? = some y) (hv : visB sc y = true) (hsl : notSlice kx = true) (hk : GoodE p n N sc k kx) (he : GoodE p n N sc e x) (ha : al e = false) (hc : isComp x = false) :
    GoodS p n N sc fresh (.sets i k e) (.Assign [.Subscript (.Name y py) kx q1] x pos) := by
  obtain ⟨te, pe, se⟩ := he.get ha
  obtain ⟨tk, pk, sk⟩ := hk
  refine ⟨tAsg te (gSub (tVar i) tk rSetL), fun X hx => ps_asg (pe X hx.xf) (pg_sub (good_name hN hv X hx.xf) (pk X hx.xf) set_list (asg_sub hsl)) (swSole hc) swStores2, fun s o H0 S0 S H σ D e' d0 hs q => ?_⟩
  unfold ex at e'
  obtain ⟨x0, e1, e'⟩ := Option.bind_eq_some_iff.mp e'
  obtain ⟨sl, e0, e1⟩ := Option.bind_eq_some_iff.mp e1
  obtain ⟨d, e2, e'⟩ := Option.bind_eq_some_iff.mp e'
  obtain ⟨kd, e3, e'⟩ := Option.bind_eq_some_iff.mp e'
  cases sl <;> cases e1
  obtain ⟨a, vs, xs, rfl, h1, h2, h3, h4⟩ := hs.sr.ow i _ e0
  split at e'
  · rename_i q0
    cases q0
    obtain ⟨j, e4, rfl⟩ := Option.map_eq_some_iff.mp e'
    refine se s d S H σ _ e2 hs.sr fun v H1 m1 r _ => ⟨_, h1, ?_⟩
    refine sk s _ S H1 σ _ e3 (hs.sr.mono m1) fun u H2 m2 ru _ _ => ?_
    refine ⟨a, vs, _, j, rfl, ru.int, (m1.trans m2) _ _ h3, by rw [h4.length]; exact e4, ?_⟩
    obtain ⟨k1, k2⟩ := (hs.mono (m1.trans m2)).upd e0 h1 ((h4.mono (gd_mono (m1.trans m2))).set j (r.mono (gd_mono m2)))
    exact q S σ _ k1 ((gd_mono (m1.trans m2)).trans k2)
  · cases e'
theorem good_ret {e : E} {x : Expr} {pos : Pos} (he : GoodE p n N sc e x) (ha : al e = false) (hf : (!fresh || fr p.T e) = true) : GoodS p n N sc fresh (.ret e) (.Return (some x) pos) := by
  obtain ⟨te, pe, se⟩ := he.get ha
  refine ⟨_, fun X hx => ps_ret (pe X hx.xf), fun s o H0 S0 S H σ D e' d0 hs q => ?_⟩
  unfold ex at e'
  obtain ⟨d, e1, rfl⟩ := Option.map_eq_some_iff.mp e'
  refine se s d S H σ _ e1 hs.sr fun v H1 m1 r f => q v H1 (hs.same.trans m1) (r.mono (gd_anti hs.sub)) fun z => ?_
  rw [z] at hf
  refine ⟨fun ds e2 => ?_, fun ks ds e2 => ?_⟩
  · obtain ⟨a, vs, k1, k2, k3, k4⟩ := (f (by simpa using hf)).1 ds e2
    exact ⟨a, vs, k1, hs.same.free k2, k3, k4.mono (gd_anti fun b hb => hb.elim (fun z => .inl (hs.sub b z)) .inr)⟩
  · obtain ⟨a, kvs, k1, k2, k3, k4, k5⟩ := (f (by simpa using hf)).2 ks ds e2
    exact ⟨a, kvs, k1, hs.same.free k2, k3, k4, k5.mono (gd_anti fun b hb => hb.elim (fun z => .inl (hs.sub b z)) .inr)⟩
theorem good_reto {i : Nat} {y : Str} {py pos : Pos} (hN : N[i]? = some y) (hv : visB sc y = true) : GoodS p n N sc fresh (.reto i) (.Return (some (.Name y py)) pos) := by
  refine ⟨_, fun X hx => ps_ret (good_name hN hv X hx.xf), fun s o H0 S0 S H σ D e' d0 hs q => ?_⟩
  unfold ex at e'
  obtain ⟨x0, e1, rfl⟩ := Option.map_eq_some_iff.mp e'
  obtain ⟨sl, e0, e1⟩ := Option.bind_eq_some_iff.mp e1
  cases sl <;> cases e1
  · obtain ⟨a, vs, xs, rfl, h1, h2, h3, h4⟩ := hs.sr.ow i _ e0
    have hn := hs.new i a (.inl ⟨_, e0, h1⟩)
    have ns : ¬ S0 a := fun z => d0.nn z hn
    refine ⟨_, h1, q _ H hs.same (.lst (gd_of ns h3) (h4.mono (gd_anti hs.sub))) fun _ => ⟨fun ds e2 => ?_, fun ks ds e2 => by cases e2⟩⟩
    cases e2
    exact ⟨a, vs, rfl, hn, h3, h4.mono (gd_anti fun b hb => hb.elim (hs.sub b) fun z => by rw [z]; exact h2)⟩
  · obtain ⟨a, kvs, h1, h2, h3, h4, h5⟩ := hs.sr.od i _ _ e0
    have hn := hs.new i a (.inr (.inr ⟨_, _, e0, h1⟩))
    have ns : ¬ S0 a := fun z => d0.nn z hn
    refine ⟨_, h1, q _ H hs.same (.dcs (.inl (gd_of ns h3)) h4 (h5.mono (gd_anti hs.sub))) fun _ => ⟨fun ds e2 => (by cases e2), fun ks ds e2 => ?_⟩⟩
    cases e2
    exact ⟨a, kvs, rfl, hn, h3, h4, h5.mono (gd_anti fun b hb => hb.elim (hs.sub b) fun z => by rw [z]; exact h2)⟩
theorem good_retn {pos : Pos} : GoodS p n N sc fresh .retn (.Return none pos) :=
  ⟨_, fun X hx => ps_retN, fun s o H0 S0 S H σ D e' d0 hs q => by
    unfold ex at e'
    cases e'
    exact q _ H hs.same .non fun _ => Fr.no fun _ e => by cases e⟩
theorem good_iff {c : E} {a b : List PL.S} {x : Expr} {xs ys : List Stmt} {pos : Pos} (hc : GoodT p n N sc c x) (ha : GoodSs p n N sc fresh a xs) (hb : GoodSs p n N sc fresh b ys) : GoodS p n N sc fresh (.iff c a b) (.If x xs ys pos) := by
  obtain ⟨tc, pc, sc'⟩ := hc
  obtain ⟨ta, pa, sa⟩ := ha
  obtain ⟨tb, pb, sb⟩ := hb
  refine ⟨_, fun X hx => ps_if (pc X hx.xf) (pa X hx) (pb X hx), fun s o H0 S0 S H σ D e' d0 hs q => ?_⟩
  unfold ex at e'
  obtain ⟨k, e1, e'⟩ := Option.bind_eq_some_iff.mp e'
  split at e'
  · refine sc' s _ S H σ _ e1 hs.sr fun H1 m1 => ?_
    rw [if_pos rfl]
    exact sa s o H0 S0 S H1 σ D e' d0 (hs.mono m1) (q.move (gd_mono m1))
  · refine sc' s _ S H σ _ e1 hs.sr fun H1 m1 => ?_
    rw [if_neg Bool.false_ne_true]
    exact sb s o H0 S0 S H1 σ D e' d0 (hs.mono m1) (q.move (gd_mono m1))
  · cases e'
theorem good_whl {c : E} {b : List PL.S} {x : Expr} {xs : List Stmt} {pos : Pos} (hc : GoodT p n N sc c x) (hb : GoodSs p n N sc fresh b xs) : GoodS p n N sc fresh (.whl c b) (.While x xs [] pos) := by
  obtain ⟨tc, pc, sc'⟩ := hc
  obtain ⟨tb, pb, sb⟩ := hb
  refine ⟨_, fun X hx => ps_while (xe_pass hx.xf) (pc X hx.xf) (pb X hx), fun s o H0 S0 S H σ D e' d0 hs q => ?_⟩
  unfold ex at e'
  refine ⟨fun m σ' H' => ∃ S' s', SS p H0 S0 S' H' σ' s' ∧ Same (gd S H) (gd S' H') ∧ whlD (ev (call p.T p.G n) p.G c) (exs (call p.T p.G n) p.G b) m s' = some o, ⟨fuel, S, s, hs, Same.refl _, e'⟩, ?_⟩
  rintro m σ' H' ⟨S', s', hs', mg, e⟩
  cases m with
  | zero => cases e
  | succ m =>
    unfold whlD at e
    obtain ⟨k, e1, e⟩ := Option.bind_eq_some_iff.mp e
    split at e
    · obtain ⟨o2, e2, e⟩ := Option.bind_eq_some_iff.mp e
      refine sc' s' _ S' H' σ' _ e1 hs'.sr fun H1 m1 => ?_
      rw [if_pos rfl]
      have hg1 : Same (gd S H) (gd S' H1) := mg.trans (gd_mono m1)
      refine ⟨fun σ2 H2 => ∃ S2 s2, SS p H0 S0 S2 H2 σ2 s2 ∧ Same (gd S H) (gd S2 H2) ∧ whlD (ev (call p.T p.G n) p.G c) (exs (call p.T p.G n) p.G b) m s2 = some o, fun σ2 H2 h => ⟨m, Nat.lt_succ_self _, h⟩, ?_⟩
      refine sb s' o2 H0 S0 S' H1 σ' _ e2 d0 (hs'.mono m1) ?_
      cases o2 with
      | nx s2 => exact fun S2 σ2 H2 h2 m2 => ⟨S2, s2, h2, hg1.trans m2, e⟩
      | ct s2 => exact fun S2 σ2 H2 h2 m2 => ⟨S2, s2, h2, hg1.trans m2, e⟩
      | bk s2 =>
        cases e
        exact fun S2 σ2 H2 h2 m2 => q S2 σ2 H2 h2 (hg1.trans m2)
      | rt d s2 =>
        cases e
        exact q
    · cases e
      refine sc' s' _ S' H' σ' _ e1 hs'.sr fun H1 m1 => ?_
      rw [if_neg Bool.false_ne_true]
      exact q S' σ' H1 (hs'.mono m1) (mg.trans (gd_mono m1))
    · cases e
theorem for_wk {J : It} {vs : List V} {P : Hp → Prop} (W : Wk J vs P) {g : TG} {tb : TS} {D : Ends} {σ : L2.St} {H : Hp} (Pv : Nat → L2.St → Hp → Prop) (h0 : Pv 0 σ H) (hP : ∀ i σ H, Pv i σ H → P H)
    (hs : ∀ i x σ H, vs[i]? = some x → Pv i σ H → g x σ H fun σ2 H2 => tb { D with nx := Pv (i + 1), ct := Pv (i + 1), bk := D.nx } σ2 H2) (hd : ∀ σ H, Pv vs.length σ H → D.nx σ H) :
    ∃ W : Nat → Nat → L2.St → Hp → Prop, (∃ m, W 0 m σ H) ∧ ∀ i m σ H, W i m σ H →
      (J.stop i H ∧ D.nx σ H) ∨ (J.go i H ∧ ∃ N : L2.St → Hp → Prop, (∀ σ' H', N σ' H' → ∃ m', m' < m ∧ W (i + 1) m' σ' H') ∧ ∀ x H', J.yld i H x H' → g x σ H' fun σ2 H2 => tb { D with nx := N, ct := N, bk := D.nx } σ2 H2) := by
  refine ⟨fun i m σ H => m = vs.length - i ∧ i ≤ vs.length ∧ Pv i σ H, ⟨vs.length, by simp, Nat.zero_le _, h0⟩, ?_⟩
  rintro i m σ H ⟨rfl, hi, q⟩
  by_cases hlt : i < vs.length
  · refine .inr ⟨W.go i H (hP i σ H q) hlt, Pv (i + 1), fun σ' H' p' => ⟨vs.length - (i + 1), by omega, rfl, hlt, p'⟩, fun x H' y => ?_⟩
    obtain ⟨e, y2⟩ := W.yld i H x H' (hP i σ H q) hlt y
    subst e
    exact hs i x σ _ y2 q
  · have e : i = vs.length := by omega
    subst e
    exact .inl ⟨W.stop H (hP _ σ H q), hd σ H q⟩
theorem good_forAny (nd : N.Nodup) {is : List Nat} {l : PL.S} {b : List PL.S} {tg iter : Expr} {xs : List Stmt} {pos : Pos} {f : Env → Option (List PL.D)} (h1 : chkTg N sc is tg = true) (hn : notSet iter = true)
    (hi : ∃ t : TI, (∀ X, XF p n N sc X → PI X tg iter t) ∧ SatI p n t false f) (hb : GoodSs p n N sc fresh b xs)
    (hev : ∀ s o, ex (call p.T p.G n) p.G l s = some o → ∃ ds, f s = some ds ∧ forD (tgD is) (exs (call p.T p.G n) p.G b) ds s = some o) : GoodS p n N sc fresh l (.For tg iter xs [] pos) := by
  obtain ⟨wi, pi, si⟩ := hi
  obtain ⟨tb, pb, sb⟩ := hb
  refine ⟨tFor wi (gOf p.K is) tb, fun X hx => ps_for (xe_pass hx.xf) hx.xf.calm (pi X hx.xf) (hx.pg nd h1) (pb X hx) (folded_ok hn), fun s o H0 S0 S H σ D e' d0 hs q => ?_⟩
  obtain ⟨ds, e1, e2⟩ := hev s o e'
  refine si s ds S H σ _ e1 hs.sr fun J vs P H1 m1 W _ hp rs => ?_
  have mg1 : Same (gd S H) (gd S H1) := gd_mono m1
  refine for_wk W (fun i σ' H' => ∃ S' s', SS p H0 S0 S' H' σ' s' ∧ Same (gd S H1) (gd S' H') ∧ forD (tgD is) (exs (call p.T p.G n) p.G b) (ds.drop i) s' = some o) ⟨S, s, hs.mono m1, Same.refl _, by simpa using e2⟩ (fun i σ' H' ⟨S', s', _, m, _⟩ => hp rfl S' H' m) ?_ ?_
  · rintro i x σ' H' hi ⟨S', s', hs', m, e⟩
    obtain ⟨dx, hdx, rx⟩ := rs.get' hi
    have hdrop : ds.drop i = dx :: ds.drop (i + 1) := by
      obtain ⟨h1, h2⟩ := List.getElem?_eq_some_iff.mp hdx
      rw [← h2]
      exact List.drop_eq_getElem_cons h1
    rw [hdrop] at e
    unfold forD at e
    obtain ⟨s1, e3, e⟩ := Option.bind_eq_some_iff.mp e
    obtain ⟨o2, e4, e⟩ := Option.bind_eq_some_iff.mp e
    refine tg_ss e3 (rx.mono m) hs' fun σ2 h2 => ?_
    refine sb s1 o2 H0 S0 S' H' σ2 _ e4 d0 h2 ?_
    cases o2 with
    | nx s2 => exact fun S2 σ3 H3 h3 m3 => ⟨S2, s2, h3, m.trans m3, e⟩
    | ct s2 => exact fun S2 σ3 H3 h3 m3 => ⟨S2, s2, h3, m.trans m3, e⟩
    | bk s2 =>
      cases e
      exact fun S2 σ3 H3 h3 m3 => q S2 σ3 H3 h3 (mg1.trans (m.trans m3))
    | rt d s2 =>
      cases e
      exact q
  · rintro σ' H' ⟨S', s', hs', m, e⟩
    have hz2 : ds.drop vs.length = [] := by rw [rs.length]; exact List.drop_length
    rw [hz2] at e
    cases e
    exact q S' σ' H' hs' (mg1.trans m)
theorem good_seq {a : PL.S} {r : List PL.S} {x : Stmt} {xs : List Stmt} (ha : GoodS p n N sc fresh a x) (hr : GoodSs p n N sc fresh r xs) : GoodSs p n N sc fresh (a :: r) (x :: xs) := by
  obtain ⟨ta, pa, sa⟩ := ha
  obtain ⟨tr, pr, sr⟩ := hr
  refine ⟨_, fun X hx => pss_cons (pa X hx) (pr X hx), fun s o H0 S0 S H σ D e' d0 hs q => ?_⟩
  unfold exs at e'
  obtain ⟨o1, e1, e'⟩ := Option.bind_eq_some_iff.mp e'
  refine sa s o1 H0 S0 S H σ _ e1 d0 hs ?_
  cases o1 with
  | nx s2 => exact fun S2 σ2 H2 h2 m2 => sr s2 o H0 S0 S2 H2 σ2 D e' d0 h2 (q.move m2)
  | bk s2 => cases e'; exact q
  | ct s2 => cases e'; exact q
  | rt d s2 => cases e'; exact q
theorem good_share {i : Nat} {r : List PL.S} {xs : List Stmt} (hr : GoodSs p n N sc fresh r xs) : GoodSs p n N sc fresh (.share i :: r) xs := by
  obtain ⟨tr, pr, sr⟩ := hr
  refine ⟨tr, pr, fun s o H0 S0 S H σ D e' d0 hs q => ?_⟩
  unfold exs at e'
  obtain ⟨o1, e1, e'⟩ := Option.bind_eq_some_iff.mp e'
  unfold ex at e1
  obtain ⟨x0, e2, rfl⟩ := Option.map_eq_some_iff.mp e1
  obtain ⟨sl, e0, e3⟩ := Option.bind_eq_some_iff.mp e2
  clear e1 e2
  cases sl <;> cases e3
  rotate_left
  · obtain ⟨a, kvs, h1, h2, h3, h4, h5⟩ := hs.sr.od i _ _ e0
    have oa : Own H σ s i a := .inr (.inr ⟨_, _, e0, h1⟩)
    have hn := hs.new i a oa
    have mg : Same (gd S H) (gd (fun b => S b ∧ b ≠ a) H) := gd_anti fun b hb => hb.1
    refine sr _ o H0 S0 (fun b => S b ∧ b ≠ a) H σ D e' d0 (hs.frame (i := i) (by rw [List.length_set]; exact hs.sr.len) (fun j n => get_ne n) (fun _ _ => rfl) (fun b hb => hs.sr.dom b hb.1) mg (fun b z no => ⟨z, fun q => no (q ▸ oa)⟩) (fun _ _ z _ => z) (fun b hb => ⟨hs.sub b hb, fun z => d0.nn hb (by rw [z]; exact hn)⟩) (fun d e => ?_) (fun d e => ?_) (fun d e => ?_) (fun b o => ?_)) (q.move mg)
    · cases (set_get e).1
      exact ⟨_, h1, .dcs (.inl (gd_of (fun z => z.2 rfl) h3)) h4 (h5.mono mg)⟩
    · cases (set_get e).1
    · cases (set_get e).1
    · obtain ⟨x, e, nx⟩ := o.lt
      exact absurd (set_get e).1 (nx _)
  obtain ⟨a, vs, ds, rfl, h1, h2, h3, h4⟩ := hs.sr.ow i _ e0
  have oa : Own H σ s i a := .inl ⟨_, e0, h1⟩
  have hn := hs.new i a oa
  have mg : Same (gd S H) (gd (fun b => S b ∧ b ≠ a) H) := gd_anti fun b hb => hb.1
  refine sr _ o H0 S0 (fun b => S b ∧ b ≠ a) H σ D e' d0 (hs.frame (i := i) (by rw [List.length_set]; exact hs.sr.len) (fun j n => get_ne n) (fun _ _ => rfl) (fun b hb => hs.sr.dom b hb.1) mg (fun b z no => ⟨z, fun q => no (q ▸ oa)⟩) (fun _ _ z _ => z) (fun b hb => ⟨hs.sub b hb, fun z => d0.nn hb (by rw [z]; exact hn)⟩) (fun d e => ?_) (fun d e => ?_) (fun d e => ?_) (fun b o => ?_)) (q.move mg)
  · cases (set_get e).1
    exact ⟨_, h1, .lst (gd_of (fun z => z.2 rfl) h3) (h4.mono mg)⟩
  · cases (set_get e).1
  · cases (set_get e).1
  · obtain ⟨x, e, nx⟩ := o.lt
    exact absurd (set_get e).1 (nx _)
theorem good_snil : GoodSs p n N sc fresh [] [] := ⟨_, fun X _ => pss_nil, fun s o H0 S0 S H σ D e' d0 hs q => by
  unfold exs at e'
  cases e'
  exact q S σ H hs (Same.refl _)⟩
end
end PL

/-! PLN: lists of own lists. -/
namespace PL
open PySem PySem.Spec L2
section
variable {p : Pr} {n : Nat} {N : List Str} {sc : Scope} {fresh : Bool} {H0 H H1 H2 : Hp} {S0 S S' : Addr → Prop} {σ : L2.St} {s : Env} {D : Ends} {o : Out} {d : PL.D}
theorem dom_upd {a : Addr} {vs : List V} (dm : Dom S H) (hS : ∀ b, S' b → S b ∨ b = a) : Dom S' (L2.upd H a (.lst vs)) := fun b hb => by
  by_cases z : b = a
  · exact ⟨_, (congrArg _ z).trans upd_same, rfl⟩
  · rw [upd_ne z]
    exact dm b ((hS b hb).resolve_right z)
/-- x = [] or [e] -/
theorem SS.setn0 {i : Nat} {a : Addr} (h : SS p H0 S0 S H σ s) (m : Same H H1) (hn : H a = none) (ha : H1 a = some (.lst [])) : SS p H0 S0 (fun b => S b ∨ b = a) H1 (σ.set i (some (.ref a))) (s.set i (.on [])) ∧ Same (gd S H) (gd (fun b => S b ∨ b = a) H1) := by
  have mg : Same (gd S H) (gd (fun b => S b ∨ b = a) H1) := fun b u e => by
    obtain ⟨ns, hb⟩ := gd_in e
    exact gd_of (fun z => z.elim ns (ne_of_none hb hn)) (m b u hb)
  refine ⟨h.frame (i := i) (by rw [List.length_set, List.length_set]; exact h.sr.len) (fun j n => get_ne n) (fun j n => get_ne n) (fun b hb => hb.elim (fun z => (h.sr.dom.mono m) b z) fun z => ⟨_, (congrArg _ z).trans ha, rfl⟩) mg (fun b z _ => .inl z) (fun b u z _ => m b u z) (fun b z => .inl (h.sub b z)) (fun d e => ?_) (fun d e => ?_) (fun d e => ?_) fun b o => ?_, mg⟩
  · cases (set_get e).1
  · cases (set_get e).1
  · obtain ⟨z1, z2⟩ := set_get e
    cases z1
    exact ⟨a, [], get_set (by rw [← h.sr.len]; exact z2), .inr rfl, ha, List.nodup_cons.mpr ⟨List.not_mem_nil, List.nodup_nil⟩, .nil⟩
  · rcases o with ⟨d, e, f⟩ | ⟨x, a', bs, e, f, g, k⟩ | ⟨_, _, e, _⟩
    · cases (set_get e).1
    · cases (set_get f).1
      rw [ha] at g
      cases map_ref_inj (bs := []) (cs := bs) (by injection g with g; injection g)
      rw [List.mem_singleton] at k
      subst k
      exact .inr hn
    · cases (set_get e).1
theorem SS.setn1 {i : Nat} {a b : Addr} {vs : List V} {xs : List PL.D} (h : SS p H0 S0 S H σ s) (m : Same H H1) (hb : H b = none) (hb1 : H1 b = some (.lst vs)) (r : Rs p.K p.FA (gd (fun c => S c ∨ c = b) H1) vs xs) (ha : H1 a = none) :
    SS p H0 S0 (fun c => (S c ∨ c = b) ∨ c = a) (L2.upd H1 a (.lst [.ref b])) (σ.set i (some (.ref a))) (s.set i (.on [xs])) ∧ Same (gd S H) (gd (fun c => (S c ∨ c = b) ∨ c = a) (L2.upd H1 a (.lst [.ref b]))) := by
  have hn := m.free ha
  have nab : b ≠ a := fun z => by rw [z, ha] at hb1; cases hb1
  have mg : Same (gd S H) (gd (fun c => (S c ∨ c = b) ∨ c = a) (L2.upd H1 a (.lst [.ref b]))) := fun c u e => by
    obtain ⟨ns, hc⟩ := gd_in e
    have nc := ne_of_none hc hn
    exact gd_of (fun z => z.elim (fun z => z.elim ns (ne_of_none hc hb)) nc) (by rw [upd_ne nc]; exact m c u hc)
  have mg2 : Same (gd (fun c => S c ∨ c = b) H1) (gd (fun c => (S c ∨ c = b) ∨ c = a) (L2.upd H1 a (.lst [.ref b]))) := fun c u e => by
    obtain ⟨ns, hc⟩ := gd_in e
    have nc := ne_of_none hc ha
    exact gd_of (fun z => z.elim ns nc) (by rw [upd_ne nc]; exact hc)
  refine ⟨h.frame (i := i) (by rw [List.length_set, List.length_set]; exact h.sr.len) (fun j n => get_ne n) (fun j n => get_ne n) (fun c hc => ?_) mg (fun c z _ => .inl (.inl z)) (fun c u z _ => by rw [upd_ne (ne_of_none z hn)]; exact m c u z) (fun c z => .inl (.inl (h.sub c z))) (fun d e => ?_) (fun d e => ?_) (fun d e => ?_) fun c o => ?_, mg⟩
  · by_cases z : c = a
    · exact ⟨_, (congrArg _ z).trans upd_same, rfl⟩
    · rw [upd_ne z]
      rcases hc.resolve_right z with q | q
      · exact h.sr.dom.mono m c q
      · exact ⟨_, (congrArg _ q).trans hb1, rfl⟩
  · cases (set_get e).1
  · cases (set_get e).1
  · obtain ⟨z1, z2⟩ := set_get e
    cases z1
    exact ⟨a, [b], get_set (by rw [← h.sr.len]; exact z2), .inr rfl, upd_same, List.nodup_cons.mpr ⟨fun z => nab (List.mem_singleton.mp z).symm, List.nodup_cons.mpr ⟨List.not_mem_nil, List.nodup_nil⟩⟩, .cons (.inl (.inr rfl)) (by rw [upd_ne nab]; exact hb1) (r.mono mg2) .nil⟩
  · rcases o with ⟨d, e, f⟩ | ⟨x, a', bs, e, f, g, k⟩ | ⟨_, _, e, _⟩
    · cases (set_get e).1
    · cases (set_get f).1
      rw [upd_same] at g
      cases map_ref_inj (bs := [b]) (cs := bs) (by injection g with g; injection g)
      rcases List.mem_cons.mp k with k | k
      · exact .inr (k ▸ hn)
      · exact .inr (List.mem_singleton.mp k ▸ hb)
    · cases (set_get e).1
/-- the addresses of a list of lists -/
theorem own_on {i : Nat} {a : Addr} {bs : List Addr} {xss : List (List PL.D)} (h0 : s[i]? = some (.on xss)) (h1 : σ[i]? = some (some (.ref a))) (h2 : H a = some (.lst (bs.map V.ref))) {c : Addr} (hc : c ∈ a :: bs) : Own H σ s i c := .inr (.inl ⟨xss, a, bs, h0, h1, h2, hc⟩)
theorem SS.appn {i : Nat} {a b : Addr} {bs : List Addr} {vs : List V} {xs : List PL.D} {xss : List (List PL.D)} (h : SS p H0 S0 S H σ s) (m : Same H H1) (h0 : s[i]? = some (.on xss)) (h1 : σ[i]? = some (some (.ref a))) (h2 : H a = some (.lst (bs.map V.ref)))
    (hb : H b = none) (hb1 : H1 b = some (.lst vs)) (r : Rs p.K p.FA (gd (fun c => S c ∨ c = b) H1) vs xs) :
    SS p H0 S0 (fun c => S c ∨ c = b) (L2.upd H1 a (.lst ((bs ++ [b]).map V.ref))) σ (s.set i (.on (xss ++ [xs]))) ∧ Same (gd S H) (gd (fun c => S c ∨ c = b) (L2.upd H1 a (.lst ((bs ++ [b]).map V.ref)))) := by
  obtain ⟨a', bs', e1, e2, e3, e4, e5⟩ := h.sr.on i _ h0
  rw [h1] at e1
  cases e1
  rw [h2] at e3
  cases map_ref_inj (by injection e3 with e3; injection e3)
  have nab : b ≠ a := fun z => by rw [z, h2] at hb; cases hb
  have oa : ∀ c ∈ a :: bs, Own H σ s i c := fun c hc => own_on h0 h1 h2 hc
  have mg2 : ∀ S2 : Addr → Prop, S2 a → Same (gd S2 H1) (gd S2 (L2.upd H1 a (.lst ((bs ++ [b]).map V.ref)))) := fun S2 q => gd_upd q
  have mg : Same (gd S H) (gd (fun c => S c ∨ c = b) H1) := fun c u e => by
    obtain ⟨ns, hc⟩ := gd_in e
    exact gd_of (fun z => z.elim ns (ne_of_none hc hb)) (m c u hc)
  have mg3 := mg.trans (mg2 (fun c => S c ∨ c = b) (.inl e2))
  have nd : (a :: (bs ++ [b])).Nodup := by
    obtain ⟨n1, n2⟩ := List.nodup_cons.mp e4
    refine List.nodup_cons.mpr ⟨fun z => ?_, ?_⟩
    · rcases List.mem_append.mp z with z | z
      · exact n1 z
      · exact nab (List.mem_singleton.mp z).symm
    · refine List.nodup_append.mpr ⟨n2, List.nodup_cons.mpr ⟨List.not_mem_nil, List.nodup_nil⟩, fun x hx y hy e => ?_⟩
      rw [List.mem_singleton] at hy
      subst hy
      subst e
      exact h.sr.dom.nn (e5.mem x hx) hb
  refine ⟨h.frame (i := i) (by rw [List.length_set]; exact h.sr.len) (fun j n => get_ne n) (fun _ _ => rfl) (fun c hc => ?_) mg3 (fun c z _ => .inl z) (fun c u z no => by rw [upd_ne fun (q : c = a) => no (q ▸ oa a List.mem_cons_self)]; exact m c u z) (fun c z => .inl (h.sub c z)) (fun d e => ?_) (fun d e => ?_) (fun d e => ?_) fun c o => ?_, mg3⟩
  · by_cases z : c = a
    · exact ⟨_, (congrArg _ z).trans upd_same, rfl⟩
    · rw [upd_ne z]
      rcases hc with q | q
      · exact h.sr.dom.mono m c q
      · exact ⟨_, (congrArg _ q).trans hb1, rfl⟩
  · cases (set_get e).1
  · cases (set_get e).1
  · cases (set_get e).1
    refine ⟨a, bs ++ [b], h1, .inl e2, upd_same, nd, Nst.snoc ?_ (.inr rfl) (by rw [upd_ne nab]; exact hb1) (r.mono (mg2 _ (.inl e2)))⟩
    refine e5.imp (fun c _ q => .inl q) (fun c hc u q => ?_) mg3
    rw [upd_ne fun (z : c = a) => (List.nodup_cons.mp e4).1 (z ▸ hc)]
    exact m c u q
  · rcases o with ⟨d, e, f⟩ | ⟨x, a', bs', e, f, g, k⟩ | ⟨_, _, e, _⟩
    · cases (set_get e).1
    · rw [h1] at f
      cases f
      rw [upd_same] at g
      cases map_ref_inj (bs := bs ++ [b]) (cs := bs') (by injection g with g; injection g)
      rcases List.mem_cons.mp k with k | k
      · exact .inl (oa c (k ▸ List.mem_cons_self))
      · rcases List.mem_append.mp k with k | k
        · exact .inl (oa c (List.mem_cons_of_mem _ k))
        · exact .inr (List.mem_singleton.mp k ▸ hb)
    · cases (set_get e).1
/-- one of the inner lists changes -/
theorem SS.updn {i k : Nat} {a b : Addr} {bs : List Addr} {vs : List V} {xs : List PL.D} {xss : List (List PL.D)} (h : SS p H0 S0 S H σ s) (h0 : s[i]? = some (.on xss)) (h1 : σ[i]? = some (some (.ref a))) (h2 : H a = some (.lst (bs.map V.ref)))
    (hk : bs[k]? = some b) (r : Rs p.K p.FA (gd S H) vs xs) :
    SS p H0 S0 S (L2.upd H b (.lst vs)) σ (s.set i (.on (xss.set k xs))) ∧ Same (gd S H) (gd S (L2.upd H b (.lst vs))) := by
  obtain ⟨a', bs', e1, e2, e3, e4, e5⟩ := h.sr.on i _ h0
  rw [h1] at e1
  cases e1
  rw [h2] at e3
  cases map_ref_inj (by injection e3 with e3; injection e3)
  have hb : b ∈ bs := List.mem_of_getElem? hk
  have nab : a ≠ b := fun z => (List.nodup_cons.mp e4).1 (z ▸ hb)
  have oa : ∀ c ∈ a :: bs, Own H σ s i c := fun c hc => own_on h0 h1 h2 hc
  have mg : Same (gd S H) (gd S (L2.upd H b (.lst vs))) := gd_upd (e5.mem b hb)
  refine ⟨h.frame (i := i) (by rw [List.length_set]; exact h.sr.len) (fun j n => get_ne n) (fun _ _ => rfl) (dom_upd h.sr.dom fun c q => .inl q) mg (fun c z _ => z) (fun c u z no => by rw [upd_ne fun (q : c = b) => no (q ▸ oa b (List.mem_cons_of_mem _ hb))]; exact z) h.sub (fun d e => ?_) (fun d e => ?_) (fun d e => ?_) fun c o => ?_, mg⟩
  · cases (set_get e).1
  · cases (set_get e).1
  · cases (set_get e).1
    exact ⟨a, bs, h1, e2, by rw [upd_ne nab]; exact h2, e4, e5.set k hk (List.nodup_cons.mp e4).2 r mg⟩
  · rcases o with ⟨d, e, f⟩ | ⟨x, a', bs', e, f, g, q⟩ | ⟨_, _, e, _⟩
    · cases (set_get e).1
    · rw [h1] at f
      cases f
      rw [upd_ne nab, h2] at g
      cases map_ref_inj (bs := bs) (cs := bs') (by injection g with g; injection g)
      exact .inl (oa c q)
    · cases (set_get e).1
/-- the last inner list is handed out -/
theorem SS.popn {i : Nat} {a b : Addr} {bs : List Addr} {xs : List PL.D} {xss : List (List PL.D)} (d0 : Dom S0 H0) (h : SS p H0 S0 S H σ s) (h0 : s[i]? = some (.on xss)) (h1 : σ[i]? = some (some (.ref a))) (h2 : H a = some (.lst (bs.map V.ref)))
    (hb : bs[bs.length - 1]? = some b) (hx : xss[xss.length - 1]? = some xs) :
    SS p H0 S0 (fun c => S c ∧ c ≠ b) (L2.upd H a (.lst (bs.map V.ref).dropLast)) σ (s.set i (.on xss.dropLast)) ∧ Same (gd S H) (gd (fun c => S c ∧ c ≠ b) (L2.upd H a (.lst (bs.map V.ref).dropLast))) ∧ R p.K p.FA (gd (fun c => S c ∧ c ≠ b) (L2.upd H a (.lst (bs.map V.ref).dropLast))) (.ref b) (.lst xs) := by
  obtain ⟨a', bs', e1, e2, e3, e4, e5⟩ := h.sr.on i _ h0
  rw [h1] at e1
  cases e1
  rw [h2] at e3
  cases map_ref_inj (by injection e3 with e3; injection e3)
  have hbm : b ∈ bs := List.mem_of_getElem? hb
  obtain ⟨n1, n2⟩ := List.nodup_cons.mp e4
  have nab : b ≠ a := fun z => n1 (z ▸ hbm)
  have oa : ∀ c ∈ a :: bs, Own H σ s i c := fun c hc => own_on h0 h1 h2 hc
  have hl : bs.dropLast ++ [b] = bs := by
    have hne : bs ≠ [] := fun z => by rw [z] at hbm; cases hbm
    have : bs.getLast hne = b := by
      rw [List.getLast_eq_getElem]
      exact (List.getElem?_eq_some_iff.mp hb).2
    rw [← this]
    exact List.dropLast_concat_getLast hne
  have nbl : ∀ c ∈ bs.dropLast, c ≠ b := fun c hc z => by
    rw [← hl] at n2
    exact (List.nodup_append.mp n2).2.2 c hc b (List.mem_singleton.mpr rfl) z
  have mem : ∀ c ∈ bs.dropLast, c ∈ bs := fun c hc => (List.dropLast_sublist bs).subset hc
  have mg : Same (gd S H) (gd (fun c => S c ∧ c ≠ b) (L2.upd H a (.lst (bs.map V.ref).dropLast))) := fun c u e => by
    obtain ⟨ns, hc⟩ := gd_in e
    exact gd_of (fun z => ns z.1) (by rw [upd_ne fun (z : c = a) => ns (z ▸ e2)]; exact hc)
  obtain ⟨b', vs, g1, g2, g3, g4⟩ := e5.get _ hx
  rw [← e5.len, hb] at g1
  cases g1
  refine ⟨h.frame (i := i) (by rw [List.length_set]; exact h.sr.len) (fun j n => get_ne n) (fun _ _ => rfl) (dom_upd h.sr.dom fun c q => .inl q.1) mg (fun c z no => ⟨z, fun q => no (q ▸ oa b (List.mem_cons_of_mem _ hbm))⟩) (fun c u z no => by rw [upd_ne fun (q : c = a) => no (q ▸ oa a List.mem_cons_self)]; exact z) (fun c z => ⟨h.sub c z, fun q => d0.nn z (by rw [q]; exact h.new i b (oa b (List.mem_cons_of_mem _ hbm)))⟩) (fun d e => ?_) (fun d e => ?_) (fun d e => ?_) fun c o => ?_, mg, ?_⟩
  · cases (set_get e).1
  · cases (set_get e).1
  · cases (set_get e).1
    refine ⟨a, bs.dropLast, h1, ⟨e2, fun z => nab z.symm⟩, by rw [upd_same, List.map_dropLast], List.nodup_cons.mpr ⟨fun z => n1 (mem a z), n2.sublist (List.dropLast_sublist bs)⟩, ?_⟩
    refine e5.dropLast.imp (fun c hc q => ⟨q, nbl c hc⟩) (fun c hc u q => ?_) mg
    rw [upd_ne fun (z : c = a) => n1 (z ▸ mem c hc)]
    exact q
  · rcases o with ⟨d, e, f⟩ | ⟨x, a', bs', e, f, g, q⟩ | ⟨_, _, e, _⟩
    · cases (set_get e).1
    · rw [h1] at f
      cases f
      rw [upd_same, ← List.map_dropLast] at g
      cases map_ref_inj (bs := bs.dropLast) (cs := bs') (by injection g with g; injection g)
      rcases List.mem_cons.mp q with q | q
      · exact .inl (oa c (q ▸ List.mem_cons_self))
      · exact .inl (oa c (List.mem_cons_of_mem _ (mem c q)))
    · cases (set_get e).1
  · exact .lst (gd_of (fun z => z.2 rfl) (by rw [upd_ne nab]; exact g3)) (g4.mono mg)
/-! ### the statements -/
theorem good_setn (nd : N.Nodup) {i : Nat} {es : List E} {y : Str} {py q1 pos : Pos} {xs : List Expr} (h1 : nmB N sc i y = true) (hl : es.length ≤ 1) (hf : es.all (fr p.T ·) = true) (hal : es.all (!al ·) = true) (hst : xs.all notStar = true)
    (hg : ∀ e x, es = [e] → xs = [x] → GoodE p n N sc e x) (hlen : es.length = xs.length) : GoodS p n N sc fresh (.setn i es) (.Assign [.Name y py] (.List xs q1) pos) := by
  obtain ⟨hN, hlo⟩ := ba h1
  have hN := of_decide_eq_true hN
  rcases es with _ | ⟨e, _ | ⟨e2, es⟩⟩
  · have : xs = [] := List.length_eq_zero_iff.mp hlen.symm
    subst this
    refine ⟨tAsg (tLst tNil) (gName i), fun X hx => ps_set (by rw [hx.xf.N]; exact nd) (by rw [hx.xf.N]; exact hN) (by rw [hx.xf.sc]; exact loc_of hlo) (pe_lst pa_nil) (swaps_no rfl) (.inl (hx.fn _)), fun s o H0 S0 S H σ D e' d0 hs q => ?_⟩
    unfold ex at e'
    unfold evs at e'
    cases e'
    refine ⟨Nat.zero_le _, fun a ha => ?_⟩
    obtain ⟨k1, k2⟩ := hs.setn0 (i := i) (same_new ha) ha upd_same
    exact q _ _ _ k1 k2
  · rcases xs with _ | ⟨x, _ | ⟨x2, xs⟩⟩
    · cases hlen
    · obtain ⟨te, pe, se⟩ := (hg e x rfl rfl).get (by rw [List.all_cons] at hal; simpa using (ba hal).1)
      rw [List.all_cons] at hst hf
      have c1 := (ba hst).1
      refine ⟨tAsg (tLst (tCons te tNil)) (gName i), fun X hx => ps_set (by rw [hx.xf.N]; exact nd) (by rw [hx.xf.N]; exact hN) (by rw [hx.xf.sc]; exact loc_of hlo) (pe_lst (pa_cons (pe X hx.xf) pa_nil (star_cons c1))) (swaps_no rfl) (.inl (hx.fn _)), fun s o H0 S0 S H σ D e' d0 hs q => ?_⟩
      unfold ex at e'
      obtain ⟨ds, e1, e2⟩ := Option.bind_eq_some_iff.mp e'
      unfold evs at e1
      obtain ⟨d, e3, e4⟩ := Option.bind_eq_some_iff.mp e1
      unfold evs at e4
      cases e4
      cases d <;> first | (cases e2; done) | skip
      rename_i xs
      cases e2
      refine se s _ S H σ _ e3 hs.sr fun v H1 m1 r f => ⟨show (1 : Nat) ≤ sizeLine by decide, fun a ha => ?_⟩
      obtain ⟨b, vs, rfl, hb, hb1, hr⟩ := (f (ba hf).1).1 xs rfl
      obtain ⟨k1, k2⟩ := hs.setn1 (i := i) m1 hb hb1 hr ha
      exact q _ _ _ k1 k2
    · simp at hlen
  · simp at hl
theorem good_appn {i : Nat} {e : E} {y : Str} {py apos cpos pos : Pos} {x : Expr} (hN : N[i]? = some y) (hv : visB sc y = true) (hst : notStar x = true) (he : GoodE p n N sc e x) (ha : al e = false) (hf : fr p.T e = true) (hl : (apos.endLine == cpos.line) = true) :
    GoodS p n N sc fresh (.appn i e) (.Expr (.Call (.Attribute (.Name y py) (Str.ofString "append") apos) [x] [] cpos) pos) := by
  obtain ⟨te, pe, se⟩ := he.get ha
  refine ⟨tDrop (tBM p.K "list" rAppend (tVar i) (tCons te tNil)), fun X hx => ?_, fun s o H0 S0 S H σ D e' d0 hs q => ?_⟩
  · refine ps_expr ?_
    rw [← hx.xf.K]
    exact pe_bm PySem.F.plainAttrs_list PySem.F.slot_list_append PySem.F.type_list_append mt_append (good_name hN hv X hx.xf) (pa_cons (pe X hx.xf) pa_nil (star_cons hst)) rfl (by rw [star_cons hst]; rfl) hl (star_cons hst) rfl
  · unfold ex at e'
    obtain ⟨xss, e1, e'⟩ := Option.bind_eq_some_iff.mp e'
    obtain ⟨sl, e0, e1⟩ := Option.bind_eq_some_iff.mp e1
    obtain ⟨d, e2, e'⟩ := Option.bind_eq_some_iff.mp e'
    cases sl <;> cases e1
    cases d <;> first | (cases e'; done) | skip
    rename_i xs
    have e4 : (if xss.length < sizeLine then some (Out.nx (s.set i (.on (xss ++ [xs])))) else none) = some o := e'
    obtain ⟨a, bs, h1, h2, h3, h4, h5⟩ := hs.sr.on i _ e0
    by_cases hz : xss.length < sizeLine
    · rw [if_pos hz] at e4
      cases e4
      refine ⟨_, h1, Or.inl ⟨rfl, _, Or.inl (Or.inl h3)⟩, se s _ S H σ _ e2 hs.sr fun v H1 m1 r f => ?_⟩
      obtain ⟨b, vs, rfl, hb, hb1, hr⟩ := (f hf).1 xs rfl
      refine ⟨a, bs.map V.ref, _, rfl, rfl, m1 _ _ h3, by rw [List.length_map, h5.len]; exact hz, ?_⟩
      obtain ⟨k1, k2⟩ := hs.appn m1 e0 h1 h3 hb hb1 hr
      rw [List.map_append] at k1 k2
      exact q _ σ _ k1 k2
    · rw [if_neg hz] at e4
      cases e4
theorem atI_nst {bs : List Addr} {xss : List (List PL.D)} {k : Int} {j : Nat} {b : Addr} (h : Nst p.K p.FA S H bs xss) (e : L2.ixN xss.length k = some j) (g : bs[j]? = some b) : atI (bs.map V.ref) k = some (.ref b) := by
  unfold atI
  rw [List.length_map, h.len, e, Option.bind_some, List.getElem?_map, g]
  rfl
theorem good_appat {i : Nat} {k e : E} {y : Str} {py q1 apos cpos pos : Pos} {kx x : Expr} (hN : N[i]? = some y) (hv : visB sc y = true) (hsl : notSlice kx = true) (hk : GoodE p n N sc k kx) (hst : notStar x = true) (he : GoodE p n N sc e x) (ha : al e = false) (hl : (apos.endLine == cpos.line) = true) :
    GoodS p n N sc fresh (.appat i k e) (.Expr (.Call (.Attribute (.Subscript (.Name y py) kx q1) (Str.ofString "append") apos) [x] [] cpos) pos) := by
  obtain ⟨te, pe, se⟩ := he.get ha
  obtain ⟨tk, pk, sk⟩ := hk
  refine ⟨tDrop (tBM p.K "list" rAppend (tOp (rIx p.K) (tVar i) tk) (tCons te tNil)), fun X hx => ?_, fun s o H0 S0 S H σ D e' d0 hs q => ?_⟩
  · refine ps_expr ?_
    rw [← hx.xf.K]
    exact pe_bm PySem.F.plainAttrs_list PySem.F.slot_list_append PySem.F.type_list_append mt_append (pe_ix ix_seq (good_name hN hv X hx.xf) (pk X hx.xf) (plainIx hsl)) (pa_cons (pe X hx.xf) pa_nil (star_cons hst)) rfl (by rw [star_cons hst]; rfl) hl (star_cons hst) rfl
  · unfold ex at e'
    obtain ⟨xss, e1, e'⟩ := Option.bind_eq_some_iff.mp e'
    obtain ⟨sl, e0, e1⟩ := Option.bind_eq_some_iff.mp e1
    obtain ⟨kd, e2, e'⟩ := Option.bind_eq_some_iff.mp e'
    obtain ⟨d, e3, e'⟩ := Option.bind_eq_some_iff.mp e'
    cases sl <;> cases e1
    cases kd <;> first | (cases e'; done) | skip
    rename_i k0
    obtain ⟨j, e4, e'⟩ := Option.bind_eq_some_iff.mp e'
    obtain ⟨xs, e5, e'⟩ := Option.bind_eq_some_iff.mp e'
    have e6 : (if xs.length < sizeLine then some (Out.nx (s.set i (.on (xss.set j (xs ++ [d]))))) else none) = some o := e'
    obtain ⟨a, bs, h1, h2, h3, h4, h5⟩ := hs.sr.on i _ e0
    obtain ⟨b, vs, g1, g2, g3, g4⟩ := h5.get j e5
    by_cases hz : xs.length < sizeLine
    · rw [if_pos hz] at e6
      cases e6
      refine ⟨_, h1, sk s _ S H σ _ e2 hs.sr fun u H1 m1 rk _ _ => ?_⟩
      cases rk.int
      refine .inl ⟨a, bs.map V.ref, _, .ref b, rfl, rfl, SqL.of (m1 _ _ h3), atI_nst h5 e4 g1, Or.inl ⟨rfl, _, Or.inl (Or.inl (m1 _ _ g3))⟩, ?_⟩
      refine se s d S H1 σ _ e3 (hs.sr.mono m1) fun v H2 m2 r _ => ?_
      have m12 := m1.trans m2
      refine ⟨b, vs, v, rfl, rfl, m12 _ _ g3, by rw [g4.length]; exact hz, ?_⟩
      obtain ⟨k1, k2⟩ := (hs.mono m12).updn e0 h1 (m12 _ _ h3) g1 ((g4.mono (gd_mono m12)).append (.cons r .nil))
      exact q S σ _ k1 ((gd_mono m12).trans k2)
    · rw [if_neg hz] at e6
      cases e6
theorem popPE {X : Cx} {y : Str} {py apos cpos : Pos} {to : TE} (ho : PE X (.Name y py) to) (hl : (apos.endLine == cpos.line) = true) : PE X (.Call (.Attribute (.Name y py) (Str.ofString "pop") apos) [] [] cpos) (tBM X.K "list" rPop to tNil) :=
  pe_bm0 PySem.F.plainAttrs_list PySem.F.slot_list_pop PySem.F.type_list_pop mt_pop ho rfl hl
theorem pop_sat {i : Nat} {xs : List PL.D} {xss : List (List PL.D)} {Q : VK} (d0 : Dom S0 H0) (hs : SS p H0 S0 S H σ s) (e0 : s[i]? = some (.on xss)) (hx : xss[xss.length - 1]? = some xs)
    (q : ∀ b S' H1, SS p H0 S0 S' H1 σ (s.set i (.on xss.dropLast)) → Same (gd S H) (gd S' H1) → R p.K p.FA (gd S' H1) (.ref b) (.lst xs) → Q (.ref b) H1) : tBM p.K "list" rPop (tVar i) tNil σ H Q := by
  obtain ⟨a, bs, h1, h2, h3, h4, h5⟩ := hs.sr.on i _ e0
  have hb : ∃ b, bs[bs.length - 1]? = some b := by
    have := h5.len
    have hlt := (List.getElem?_eq_some_iff.mp hx).1
    exact ⟨_, List.getElem?_eq_getElem (by omega)⟩
  obtain ⟨b, hb⟩ := hb
  refine ⟨_, h1, Or.inl ⟨rfl, _, Or.inl (Or.inl h3)⟩, ?_⟩
  refine ⟨a, bs.map V.ref, .ref b, rfl, rfl, h3, by rw [List.length_map, List.getElem?_map, hb]; rfl, ?_⟩
  obtain ⟨k1, k2, k3⟩ := hs.popn d0 e0 h1 h3 hb hx
  exact q b _ _ k1 k2 k3
theorem good_popn (nd : N.Nodup) {j i : Nat} {y z : Str} {py pz apos cpos pos : Pos} (hz : nmB N sc j z = true) (hij : i ≠ j) (hN : N[i]? = some y) (hv : visB sc y = true) (hl : (apos.endLine == cpos.line) = true) :
    GoodS p n N sc fresh (.popn j i) (.Assign [.Name z pz] (.Call (.Attribute (.Name y py) (Str.ofString "pop") apos) [] [] cpos) pos) := by
  obtain ⟨hN', hl'⟩ := ba hz
  have hN' := of_decide_eq_true hN'
  refine ⟨tAsg (tBM p.K "list" rPop (tVar i) tNil) (gName j), fun X hx => ?_, fun s o H0 S0 S H σ D e' d0 hs q => ?_⟩
  · refine ps_set (by rw [hx.xf.N]; exact nd) (by rw [hx.xf.N]; exact hN') (by rw [hx.xf.sc]; exact loc_of hl') ?_ (swaps_no rfl) (.inl (hx.fn _))
    rw [← hx.xf.K]
    exact popPE (good_name hN hv X hx.xf) hl
  · unfold ex at e'
    obtain ⟨xss, e1, e'⟩ := Option.bind_eq_some_iff.mp e'
    obtain ⟨sl, e0, e1⟩ := Option.bind_eq_some_iff.mp e1
    cases sl <;> cases e1
    obtain ⟨xs, e2, rfl⟩ := Option.map_eq_some_iff.mp e'
    exact pop_sat d0 hs e0 e2 fun b S' H1 k1 k2 k3 => q S' _ H1 (k1.set k3) k2
/-- tuple(x.pop()) -/
theorem tpPE (fc : Facts p n) {X : Cx} (hx : XF p n N sc X) {y : Str} {py apos cpos q1 pos : Pos} (hg : gloB sc (biN .tuple_) = true) (hN : N[i]? = some y) (hv : visB sc y = true) (hl : (apos.endLine == cpos.line) = true) :
    PE X (.Call (.Name (biN .tuple_) q1) [.Call (.Attribute (.Name y py) (Str.ofString "pop") apos) [] [] cpos] [] pos) (tCB (biR X.K .tuple_) (tCons (tBM X.K "list" rPop (tVar i) tNil) tNil)) :=
  biPE hx.calm (hu70 hx.room) (hx.gl hg) (by rw [hx.mg]; exact fc.bi .tuple_) (pa_cons (popPE (good_name hN hv X hx) hl) pa_nil (star_cons rfl)) (glo_ok hg).2.2 (glo_ok hg).2.1 rfl
theorem tp_sat {i : Nat} {xs : List PL.D} {xss : List (List PL.D)} {Q : VK} (d0 : Dom S0 H0) (hs : SS p H0 S0 S H σ s) (e0 : s[i]? = some (.on xss)) (hx : xss[xss.length - 1]? = some xs)
    (q : ∀ v S' H1, SS p H0 S0 S' H1 σ (s.set i (.on xss.dropLast)) → Same (gd S H) (gd S' H1) → (∀ c u, H c = some u → ¬ Own H σ s i c → H1 c = some u) → R p.K p.FA (gd S' H1) v (.tup xs) → Q v H1) : tCB (biR p.K .tuple_) (tCons (tBM p.K "list" rPop (tVar i) tNil) tNil) σ H Q := by
  obtain ⟨a, bs, h1, h2, h3, h4, h5⟩ := hs.sr.on i _ e0
  have hb : ∃ b, bs[bs.length - 1]? = some b := by
    have := h5.len
    have hlt := (List.getElem?_eq_some_iff.mp hx).1
    exact ⟨_, List.getElem?_eq_getElem (by omega)⟩
  obtain ⟨b, hb⟩ := hb
  obtain ⟨k1, k2, k3⟩ := hs.popn d0 e0 h1 h3 hb hx
  refine ⟨_, h1, Or.inl ⟨rfl, _, Or.inl (Or.inl h3)⟩, ?_⟩
  refine ⟨a, bs.map V.ref, .ref b, rfl, rfl, h3, by rw [List.length_map, List.getElem?_map, hb]; rfl, ?_⟩
  have z := bi_ok (f := .tuple_) (K := p.K) (FA := p.FA) (vs := [.ref b]) (ds := [.lst xs]) (d := .tup xs) (Q := Q) rfl ⟨.inl k3, trivial⟩ k1.sr.dom fun v H' m r _ => q v _ H' (k1.mono m) (k2.trans (gd_mono m)) (fun c u hc no => m c u (by
    rw [upd_ne fun (e : c = a) => no (e ▸ own_on e0 h1 h3 List.mem_cons_self)]
    exact hc)) r
  exact z
theorem good_popt (fc : Facts p n) (nd : N.Nodup) {j i : Nat} {y z : Str} {py pz q1 q2 apos cpos pos : Pos} (hz : nmB N sc j z = true) (hij : i ≠ j) (hg : gloB sc (biN .tuple_) = true) (hN : N[i]? = some y) (hv : visB sc y = true) (hl : (apos.endLine == cpos.line) = true) :
    GoodS p n N sc fresh (.popt j i) (.Assign [.Name z pz] (.Call (.Name (biN .tuple_) q1) [.Call (.Attribute (.Name y py) (Str.ofString "pop") apos) [] [] cpos] [] q2) pos) := by
  obtain ⟨hN', hl'⟩ := ba hz
  have hN' := of_decide_eq_true hN'
  refine ⟨tAsg (tCB (biR p.K .tuple_) (tCons (tBM p.K "list" rPop (tVar i) tNil) tNil)) (gName j), fun X hx => ?_, fun s o H0 S0 S H σ D e' d0 hs q => ?_⟩
  · refine ps_set (by rw [hx.xf.N]; exact nd) (by rw [hx.xf.N]; exact hN') (by rw [hx.xf.sc]; exact loc_of hl') ?_ (swaps_no rfl) (.inl (hx.fn _))
    rw [← hx.xf.K]
    exact tpPE fc hx.xf hg hN hv hl
  · unfold ex at e'
    obtain ⟨xss, e1, e'⟩ := Option.bind_eq_some_iff.mp e'
    obtain ⟨sl, e0, e1⟩ := Option.bind_eq_some_iff.mp e1
    cases sl <;> cases e1
    obtain ⟨xs, e2, rfl⟩ := Option.map_eq_some_iff.mp e'
    exact tp_sat d0 hs e0 e2 fun v S' H1 k1 k2 _ k3 => q S' _ H1 (k1.set k3) k2
theorem good_apptp (fc : Facts p n) {i j : Nat} {k : E} {y z : Str} {py pz q1 q2 q3 apos apos2 cpos cpos2 pos : Pos} {kx : Expr} (hN : N[i]? = some y) (hv : visB sc y = true) (hsl : notSlice kx = true) (hk : GoodE p n N sc k kx) (hij : i ≠ j) (hg : gloB sc (biN .tuple_) = true)
    (hN2 : N[j]? = some z) (hv2 : visB sc z = true) (hl2 : (apos2.endLine == cpos2.line) = true) (hl : (apos.endLine == cpos.line) = true) :
    GoodS p n N sc fresh (.apptp i k j) (.Expr (.Call (.Attribute (.Subscript (.Name y py) kx q1) (Str.ofString "append") apos) [.Call (.Name (biN .tuple_) q2) [.Call (.Attribute (.Name z pz) (Str.ofString "pop") apos2) [] [] cpos2] [] q3] [] cpos) pos) := by
  obtain ⟨tk, pk, sk⟩ := hk
  refine ⟨tDrop (tBM p.K "list" rAppend (tOp (rIx p.K) (tVar i) tk) (tCons (tCB (biR p.K .tuple_) (tCons (tBM p.K "list" rPop (tVar j) tNil) tNil)) tNil)), fun X hx => ?_, fun s o H0 S0 S H σ D e' d0 hs q => ?_⟩
  · refine ps_expr ?_
    rw [← hx.xf.K]
    exact pe_bm PySem.F.plainAttrs_list PySem.F.slot_list_append PySem.F.type_list_append mt_append (pe_ix ix_seq (good_name hN hv X hx.xf) (pk X hx.xf) (plainIx hsl)) (pa_cons (tpPE fc hx.xf hg hN2 hv2 hl2) pa_nil (star_cons rfl)) rfl rfl hl (star_cons rfl) rfl
  · unfold ex at e'
    obtain ⟨xss, e1, e'⟩ := Option.bind_eq_some_iff.mp e'
    obtain ⟨sl, e0, e1⟩ := Option.bind_eq_some_iff.mp e1
    obtain ⟨kd, e2, e'⟩ := Option.bind_eq_some_iff.mp e'
    obtain ⟨yss, e3, e'⟩ := Option.bind_eq_some_iff.mp e'
    obtain ⟨sl2, f0, e3⟩ := Option.bind_eq_some_iff.mp e3
    obtain ⟨ys, f1, e'⟩ := Option.bind_eq_some_iff.mp e'
    cases sl <;> cases e1
    cases sl2 <;> cases e3
    cases kd <;> first | (cases e'; done) | skip
    obtain ⟨l, e4, e'⟩ := Option.bind_eq_some_iff.mp e'
    obtain ⟨xs, e5, e'⟩ := Option.bind_eq_some_iff.mp e'
    have e6 : (if xs.length < sizeLine then some (Out.nx ((s.set j (.on yss.dropLast)).set i (.on (xss.set l (xs ++ [.tup ys]))))) else none) = some o := e'
    obtain ⟨a, bs, h1, h2, h3, h4, h5⟩ := hs.sr.on i _ e0
    obtain ⟨b, vs, g1, g2, g3, g4⟩ := h5.get l e5
    by_cases hz : xs.length < sizeLine
    · rw [if_pos hz] at e6
      cases e6
      refine ⟨_, h1, sk s _ S H σ _ e2 hs.sr fun u H1 m1 rk _ _ => ?_⟩
      cases rk.int
      refine .inl ⟨a, bs.map V.ref, _, .ref b, rfl, rfl, SqL.of (m1 _ _ h3), atI_nst h5 e4 g1, Or.inl ⟨rfl, _, Or.inl (Or.inl (m1 _ _ g3))⟩, ?_⟩
      have hs1 := hs.mono m1
      have oi : ∀ c ∈ a :: bs, ¬ Own H1 σ s j c := fun c hc => hs1.sr.ap i j c hij (own_on e0 h1 (m1 _ _ h3) hc)
      refine tp_sat d0 hs1 f0 f1 fun v S' H2 k1 k2 kp k3 => ?_
      have e0' : (s.set j (.on yss.dropLast))[i]? = some (.on xss) := (get_ne hij).trans e0
      have mg := (gd_mono m1).trans k2
      refine ⟨b, vs, v, rfl, rfl, kp b _ (m1 _ _ g3) (oi b (List.mem_cons_of_mem _ (List.mem_of_getElem? g1))), by rw [g4.length]; exact hz, ?_⟩
      obtain ⟨r1, r2⟩ := k1.updn e0' h1 (kp a _ (m1 _ _ h3) (oi a List.mem_cons_self)) g1 ((g4.mono mg).append (.cons k3 .nil))
      exact q S' σ _ r1 (mg.trans r2)
    · rw [if_neg hz] at e6
      cases e6
/-! ### dicts of one's own -/
theorem putK_ok {K : PySem.W.Frag} {FA : Nat → Addr} {G : Hp} {k : Str} {v : V} {d : PL.D} (rv : R K FA G v d) {kvs : List (Key × V)} {ks : List Str} {ds : List PL.D} (hk : kvs.map (·.1) = ks.map Sum.inr) (r : Rs K FA G (kvs.map (·.2)) ds) :
    (putK kvs (Sum.inr k) v).map (·.1) = (putL ks ds k d).1.map Sum.inr ∧ Rs K FA G ((putK kvs (Sum.inr k) v).map (·.2)) (putL ks ds k d).2 := by
  have hany : ∀ (kvs : List (Key × V)) (ks : List Str), kvs.map (·.1) = ks.map Sum.inr → ((kvs.any fun kv => decide (kv.1 = Sum.inr k)) = true ↔ k ∈ ks) := by
    intro kvs
    induction kvs with
    | nil => intro ks h; cases ks with
      | nil => simp
      | cons => cases h
    | cons p kvs ih => intro ks h; cases ks with
      | nil => cases h
      | cons x ks =>
        rw [List.map_cons, List.map_cons] at h
        injection h with h1 h2
        rw [List.any_cons, Bool.or_eq_true, decide_eq_true_eq, h1, List.mem_cons, ih ks h2]
        constructor
        · rintro (e | e)
          · exact .inl (Sum.inr.inj e).symm
          · exact .inr e
        · rintro (e | e)
          · exact .inl (by rw [e])
          · exact .inr e
  unfold putK putL
  by_cases hm : k ∈ ks
  · rw [if_pos ((hany kvs ks hk).mpr hm), if_pos hm]
    clear hm
    induction kvs generalizing ks ds with
    | nil => cases ks with
      | nil => cases r; exact ⟨rfl, .nil⟩
      | cons => cases hk
    | cons p kvs ih => cases ks with
      | nil => cases hk
      | cons x ks =>
        rw [List.map_cons] at r
        cases r with
        | @cons _ _ d0 ds0 r1 r2 =>
          rw [List.map_cons, List.map_cons] at hk
          injection hk with h1 h2
          obtain ⟨i1, i2⟩ := ih h2 r2
          rw [List.map_cons, List.map_cons, List.map_cons, List.zipWith_cons_cons]
          by_cases e : x = k
          · have e' : p.1 = Sum.inr k := by rw [h1, e]
            rw [if_pos e', if_pos e]
            refine ⟨?_, .cons rv i2⟩
            rw [i1]
            exact congrArg (· :: ks.map Sum.inr) h1
          · have e' : ¬ p.1 = Sum.inr k := by rw [h1]; exact fun z => e (Sum.inr.inj z)
            rw [if_neg e', if_neg e]
            refine ⟨?_, .cons r1 i2⟩
            rw [i1]
            exact congrArg (· :: ks.map Sum.inr) h1
  · rw [if_neg (fun z => hm ((hany kvs ks hk).mp z)), if_neg hm]
    refine ⟨?_, ?_⟩
    · rw [List.map_append, hk, List.map_append]
      rfl
    · rw [List.map_append]
      exact r.append (.cons rv .nil)
theorem good_newd (nd : N.Nodup) {i : Nat} {y : Str} {py q1 pos : Pos} (h1 : nmB N sc i y = true) : GoodS p n N sc fresh (.newd i) (.Assign [.Name y py] (.Dict [] [] q1) pos) := by
  obtain ⟨hN, hlo⟩ := ba h1
  have hN := of_decide_eq_true hN
  refine ⟨tAsg tDNewK (gName i), fun X hx => ps_set (by rw [hx.xf.N]; exact nd) (by rw [hx.xf.N]; exact hN) (by rw [hx.xf.sc]; exact loc_of hlo) pe_dnewK (swaps_no rfl) (.inl (hx.fn _)), fun s o H0 S0 S H σ D e' d0 hs q => ?_⟩
  unfold ex at e'
  cases e'
  intro a hn
  have mg : Same (gd S H) (gd (fun b => S b ∨ b = a) (L2.upd H a (.dK []))) := fun b u e => by
    obtain ⟨ns, hb⟩ := gd_in e
    have nb := ne_of_none hb hn
    exact gd_of (fun z => z.elim ns nb) (by rw [upd_ne nb]; exact hb)
  refine q (fun b => S b ∨ b = a) _ _ (hs.frame (i := i) (by rw [List.length_set, List.length_set]; exact hs.sr.len) (fun j n => get_ne n) (fun j n => get_ne n) (fun b hb => ?_) mg (fun b z _ => .inl z) (fun b u z _ => by rw [upd_ne (ne_of_none z hn)]; exact z) (fun b z => .inl (hs.sub b z)) (fun d e => by cases (set_get e).1) (fun d e => by cases (set_get e).1) (fun d e => by cases (set_get e).1) (fun b o => ?_) (fun ks ds e => ?_)) mg
  · by_cases z : b = a
    · exact ⟨_, (congrArg _ z).trans upd_same, rfl⟩
    · rw [upd_ne z]
      exact hs.sr.dom b (hb.resolve_right z)
  · rcases o with ⟨d, e, f⟩ | ⟨x, _, _, e, _⟩ | ⟨_, _, e, f⟩
    · cases (set_get e).1
    · cases (set_get e).1
    · cases (set_get f).1
      exact .inr hn
  · obtain ⟨z1, z2⟩ := set_get e
    cases z1
    exact ⟨a, [], get_set (by rw [← hs.sr.len]; exact z2), .inr rfl, upd_same, rfl, .nil⟩
theorem good_putd {i : Nat} {k e : E} {y : Str} {py q1 pos : Pos} {kx x : Expr} (hN : N[i]? = some y) (hv : visB sc y = true) (hsl : notSlice kx = true) (hk : GoodE p n N sc k kx) (he : GoodE p n N sc e x) (ha : al e = false) (hc : isComp x = false) :
    GoodS p n N sc fresh (.putd i k e) (.Assign [.Subscript (.Name y py) kx q1] x pos) := by
  obtain ⟨te, pe, se⟩ := he.get ha
  obtain ⟨tk, pk, sk⟩ := hk
  refine ⟨sDPut (tVar i) tk te, fun X hx => ps_dput (by have := hx.xf.room.un; omega) (good_name hN hv X hx.xf) (pk X hx.xf) (pe X hx.xf) (swaps_no hc), fun s o H0 S0 S H σ D e' d0 hs q => ?_⟩
  unfold ex at e'
  obtain ⟨dd, e1, e'⟩ := Option.bind_eq_some_iff.mp e'
  obtain ⟨sl, e0, e1⟩ := Option.bind_eq_some_iff.mp e1
  rcases sl with _ | d | d | d | ⟨ks, ds⟩ <;> first | (cases e1; done) | skip
  cases e1
  obtain ⟨d, e2, e'⟩ := Option.bind_eq_some_iff.mp e'
  obtain ⟨kd, e3, e'⟩ := Option.bind_eq_some_iff.mp e'
  cases kd <;> first | (cases e'; done) | skip
  rename_i k0
  have e6 : (if ks.length < sizeLine then some (Out.nx (s.set i (.od (putL ks ds k0 d).1 (putL ks ds k0 d).2))) else none) = some o := e'
  by_cases hz : ks.length < sizeLine
  · rw [if_pos hz] at e6
    cases e6
    obtain ⟨a, kvs, h1, h2, h3, h4, h5⟩ := hs.sr.od i _ _ e0
    refine se s d S H σ _ e2 hs.sr fun v H1 m1 r _ => ⟨_, h1, ?_⟩
    refine sk s _ S H1 σ _ e3 (hs.sr.mono m1) fun u H2 m2 ru _ _ => ?_
    cases ru.str
    have m12 := m1.trans m2
    have hs2 := hs.mono m12
    have hl : kvs.length < sizeLine := by
      have := congrArg List.length h4
      rw [List.length_map, List.length_map] at this
      rw [this]
      exact hz
    obtain ⟨p1, p2⟩ := putK_ok (k := k0) (r.mono (gd_mono m2)) h4 (h5.mono (gd_mono m12))
    have oa : Own H2 σ s i a := .inr (.inr ⟨_, _, e0, h1⟩)
    have mg : Same (gd S H2) (gd S (L2.upd H2 a (.dK (putK kvs (Sum.inr k0) v)))) := gd_upd h2
    refine ⟨a, _, rfl, DPut.k (k := Sum.inr k0) (v := v) (m12 _ _ h3) hl, q S σ _ (hs2.frame (i := i) (by rw [List.length_set]; exact hs.sr.len) (fun j n => get_ne n) (fun _ _ => rfl) (fun b hb => ?_) mg (fun _ z _ => z) (fun b u hb no => by rw [upd_ne fun (z : b = a) => no (z ▸ oa)]; exact hb) hs.sub (fun d e => by cases (set_get e).1) (fun d e => by cases (set_get e).1) (fun d e => by cases (set_get e).1) (fun b o => ?_) (fun ks' ds' e => ?_)) ((gd_mono m12).trans mg)⟩
    · by_cases z : b = a
      · exact ⟨_, (congrArg _ z).trans upd_same, rfl⟩
      · rw [upd_ne z]
        exact hs2.sr.dom b hb
    · rcases o with ⟨d, e, f⟩ | ⟨x, _, _, e, _⟩ | ⟨_, _, e, f⟩
      · cases (set_get e).1
      · cases (set_get e).1
      · rw [h1] at f
        cases f
        exact .inl oa
    · cases (set_get e).1
      exact ⟨a, _, h1, h2, upd_same, p1, p2.mono mg⟩
  · rw [if_neg hz] at e6
    cases e6
end
end PL

/-! PL11: statements as a whole; defs; the program. -/
namespace PL
open PySem PySem.Spec L2
section
variable {p : Pr} {n : Nat} {N : List Str} {sc : Scope} {fresh : Bool} {x : Stmt}
theorem bnot {b : Bool} (h : (!b) = true) : b = false := by simpa using h
def isStar : Expr → Bool
  | .Starred _ _ => true
  | _ => false
theorem assign1 {e : Expr} (h : isStar e = false) (env : PySem.Env) : (assignEach [e] env).map (·.2) = [assign e env] := by
  cases e <;> first | rfl | cases h
theorem tgSt {is : List Nat} {tg : Expr} (h : chkTg N sc is tg = true) : isStar tg = false := by
  cases tg <;> first | rfl | skip
  rcases is with _ | ⟨i, _ | ⟨j, is⟩⟩ <;> (unfold chkTg at h; cases h)
theorem chk_set {i : Nat} {e : E} (h : chkS p.t N sc fresh (.set i e) x = true) : ∃ y py v pos, x = .Assign [.Name y py] v pos ∧ nmB N sc i y = true ∧ chkE p.t N sc e v = true ∧ al e = false ∧ ((!isComp v && !isLc e) || (isLc e && swB sc y py v)) = true := by
  cases x <;> first | (unfold chkS at h; cases h; done) | skip
  rename_i ts v pos
  rcases ts with _ | ⟨t, _ | ⟨t2, ts⟩⟩ <;> first
    | (unfold chkS at h; cases h; done)
    | (cases t <;> first | (unfold chkS at h; cases h; done) | skip)
  unfold chkS at h
  obtain ⟨h1, h⟩ := ba h
  obtain ⟨h2, h⟩ := ba h
  obtain ⟨h3, h4⟩ := ba h
  exact ⟨_, _, _, _, rfl, h1, h2, bnot h3, h4⟩
theorem chk_seto {i : Nat} {e : E} (h : chkS p.t N sc fresh (.seto i e) x = true) : ∃ y py v pos, x = .Assign [.Name y py] v pos ∧ nmB N sc i y = true ∧ chkE p.t N sc e v = true ∧ fr p.T e = true ∧ al e = false ∧ ((!isComp v && !isLc e) || (isLc e && swB sc y py v)) = true := by
  cases x <;> first | (unfold chkS at h; cases h; done) | skip
  rename_i ts v pos
  rcases ts with _ | ⟨t, _ | ⟨t2, ts⟩⟩ <;> first
    | (unfold chkS at h; cases h; done)
    | (cases t <;> first | (unfold chkS at h; cases h; done) | skip)
  unfold chkS at h
  obtain ⟨h1, h⟩ := ba h
  obtain ⟨h2, h⟩ := ba h
  obtain ⟨h3, h⟩ := ba h
  obtain ⟨h4, h5⟩ := ba h
  exact ⟨_, _, _, _, rfl, h1, h2, h3, bnot h4, h5⟩
theorem chk_unp {is : List Nat} {e : E} (h : chkS p.t N sc fresh (.unp is e) x = true) : ∃ tg v pos, x = .Assign [tg] v pos ∧ chkTg N sc is tg = true ∧ isComp v = false ∧ isTup v = false ∧ chkE p.t N sc e v = true ∧ al e = false := by
  cases x <;> first | (unfold chkS at h; cases h; done) | skip
  rename_i ts v pos
  rcases ts with _ | ⟨t, _ | ⟨t2, ts⟩⟩ <;> first
    | (unfold chkS at h; cases h; done)
    | skip
  · unfold chkS at h
    obtain ⟨h0, h⟩ := ba h
    obtain ⟨h1, h⟩ := ba h
    obtain ⟨h2, h⟩ := ba h
    obtain ⟨h3, h⟩ := ba h
    obtain ⟨h4, h5⟩ := ba h
    exact ⟨_, _, _, rfl, h1, bnot h2, bnot h3, h4, bnot h5⟩
theorem chk_aug {i : Nat} {o : B1} {e : E} (h : chkS p.t N sc fresh (.aug i o e) x = true) : ∃ y py op v pos, x = .AugAssign (.Name y py) op v pos ∧ nmB N sc i y = true ∧ augB o = true ∧ opEq (pyOp o) op = true ∧ chkE p.t N sc e v = true := by
  cases x <;> first | (unfold chkS at h; cases h; done) | skip
  rename_i t op v pos
  cases t <;> first | (unfold chkS at h; cases h; done) | skip
  unfold chkS at h
  obtain ⟨h1, h⟩ := ba h
  obtain ⟨h2, h⟩ := ba h
  obtain ⟨h3, h4⟩ := ba h
  exact ⟨_, _, _, _, _, rfl, h1, h2, h3, h4⟩
theorem chk_expr {e : E} (h : chkS p.t N sc fresh (.expr e) x = true) : ∃ v pos, x = .Expr v pos ∧ chkE p.t N sc e v = true ∧ isComp v = false := by
  cases x <;> first | (unfold chkS at h; cases h; done) | skip
  unfold chkS at h
  exact ⟨_, _, rfl, (ba h).1, bnot (ba h).2⟩
theorem chk_app {i : Nat} {e : E} (h : chkS p.t N sc fresh (.app i e) x = true) : ∃ y py apos v cpos pos, x = .Expr (.Call (.Attribute (.Name y py) (Str.ofString "append") apos) [v] [] cpos) pos ∧ N[i]? = some y ∧ visB sc y = true ∧ notStar v = true ∧ chkE p.t N sc e v = true ∧ al e = false ∧ (apos.endLine == cpos.line) = true := by
  cases x <;> first | (unfold chkS at h; cases h; done) | skip
  rename_i c pos
  cases c <;> first | (unfold chkS at h; cases h; done) | skip
  rename_i f as ks cpos
  cases f <;> first | (unfold chkS at h; cases h; done) | skip
  rename_i o m apos
  cases o <;> first | (unfold chkS at h; cases h; done) | skip
  rcases as with _ | ⟨v, _ | ⟨v2, as⟩⟩ <;> first | (unfold chkS at h; cases h; done) | skip
  cases ks <;> first | (unfold chkS at h; cases h; done) | skip
  unfold chkS at h
  obtain ⟨h1, k1⟩ := ba h
  obtain ⟨h2, k2⟩ := ba k1
  obtain ⟨h3, k3⟩ := ba k2
  obtain ⟨h4, k4⟩ := ba k3
  obtain ⟨h5, k5⟩ := ba k4
  obtain ⟨h6, h7⟩ := ba k5
  have e := of_decide_eq_true h3
  clear h k1 k2 h3
  subst e
  exact ⟨_, _, _, _, _, _, rfl, of_decide_eq_true h1, h2, h4, h5, bnot h6, h7⟩
theorem chk_mthB {i : Nat} {m : OM} {es : List E} {v : Expr} (h : mthB p.t N sc i m es v = true) : ∃ y py apos xs cpos, v = .Call (.Attribute (.Name y py) (omN m) apos) xs [] cpos ∧ N[i]? = some y ∧ visB sc y = true ∧ omOk m xs.length = true ∧ chkEs p.t N sc es xs = true ∧ es.all (!al ·) = true ∧ (apos.endLine == cpos.line) = true := by
  unfold mthB at h
  split at h
  · obtain ⟨h1, k1⟩ := ba h
    obtain ⟨h2, k2⟩ := ba k1
    obtain ⟨h3, k3⟩ := ba k2
    obtain ⟨h4, k4⟩ := ba k3
    obtain ⟨h5, k5⟩ := ba k4
    obtain ⟨h6, h7⟩ := ba k5
    cases of_decide_eq_true h3
    exact ⟨_, _, _, _, _, rfl, of_decide_eq_true h1, h2, h4, h5, h6, h7⟩
  · cases h
theorem chk_popB {i : Nat} {v : Expr} (h : popB N sc i v = true) : ∃ y py apos cpos, v = .Call (.Attribute (.Name y py) (Str.ofString "pop") apos) [] [] cpos ∧ N[i]? = some y ∧ visB sc y = true ∧ (apos.endLine == cpos.line) = true := by
  unfold popB at h
  split at h
  · obtain ⟨h1, k1⟩ := ba h
    obtain ⟨h2, k2⟩ := ba k1
    obtain ⟨h3, h4⟩ := ba k2
    cases of_decide_eq_true h3
    exact ⟨_, _, _, _, rfl, of_decide_eq_true h1, h2, h4⟩
  · cases h
theorem chk_tpB {i : Nat} {v : Expr} (h : tpB N sc i v = true) : ∃ q1 y py apos cpos q2, v = .Call (.Name (biN .tuple_) q1) [.Call (.Attribute (.Name y py) (Str.ofString "pop") apos) [] [] cpos] [] q2 ∧ gloB sc (biN .tuple_) = true ∧ N[i]? = some y ∧ visB sc y = true ∧ (apos.endLine == cpos.line) = true := by
  unfold tpB at h
  split at h
  · obtain ⟨h1, k1⟩ := ba h
    obtain ⟨h2, h3⟩ := ba k1
    cases of_decide_eq_true h1
    obtain ⟨y, py, apos, cpos, rfl, r⟩ := chk_popB h3
    exact ⟨_, _, _, _, _, _, rfl, h2, r⟩
  · cases h
theorem chk_setnB {es : List E} {v : Expr} (h : setnB p.t N sc es v = true) : ∃ xs q, v = .List xs q ∧ chkEs p.t N sc es xs = true ∧ es.length ≤ 1 ∧ es.all (fr p.T ·) = true ∧ es.all (!al ·) = true := by
  unfold setnB at h
  split at h
  · obtain ⟨h1, k1⟩ := ba h
    obtain ⟨h2, h3⟩ := ba k1
    exact ⟨_, _, rfl, h1, of_decide_eq_true h2, ba h3⟩
  · cases h
theorem chk_appnB {i : Nat} {e : E} {v : Expr} (h : appnB p.t N sc i e v = true) : ∃ y py apos w cpos, v = .Call (.Attribute (.Name y py) (Str.ofString "append") apos) [w] [] cpos ∧ N[i]? = some y ∧ visB sc y = true ∧ notStar w = true ∧ chkE p.t N sc e w = true ∧ al e = false ∧ fr p.T e = true ∧ (apos.endLine == cpos.line) = true := by
  unfold appnB at h
  split at h
  · obtain ⟨h1, k1⟩ := ba h
    obtain ⟨h2, k2⟩ := ba k1
    obtain ⟨h3, k3⟩ := ba k2
    obtain ⟨h4, k4⟩ := ba k3
    obtain ⟨h5, k5⟩ := ba k4
    obtain ⟨h6, h7⟩ := ba k5
    cases of_decide_eq_true h3
    exact ⟨_, _, _, _, _, rfl, of_decide_eq_true h1, h2, h4, h5, bnot h6, ba h7⟩
  · cases h
theorem chk_appatB {i : Nat} {k e : E} {v : Expr} (h : appatB p.t N sc i k e v = true) : ∃ y py kx q1 apos w cpos, v = .Call (.Attribute (.Subscript (.Name y py) kx q1) (Str.ofString "append") apos) [w] [] cpos ∧ N[i]? = some y ∧ visB sc y = true ∧ notSlice kx = true ∧ chkE p.t N sc k kx = true ∧ notStar w = true ∧ chkE p.t N sc e w = true ∧ al e = false ∧ (apos.endLine == cpos.line) = true := by
  unfold appatB at h
  split at h
  · obtain ⟨h1, k1⟩ := ba h
    obtain ⟨h2, k2⟩ := ba k1
    obtain ⟨h3, k3⟩ := ba k2
    obtain ⟨h4, k4⟩ := ba k3
    obtain ⟨h5, k5⟩ := ba k4
    obtain ⟨h6, k6⟩ := ba k5
    obtain ⟨h7, k7⟩ := ba k6
    cases of_decide_eq_true h5
    exact ⟨_, _, _, _, _, _, _, rfl, of_decide_eq_true h1, h2, h3, h4, h6, h7, bnot (ba k7).1, (ba k7).2⟩
  · cases h
theorem chk_apptpB {i j : Nat} {k : E} {v : Expr} (h : apptpB p.t N sc i k j v = true) : ∃ y py kx q1 apos w cpos, v = .Call (.Attribute (.Subscript (.Name y py) kx q1) (Str.ofString "append") apos) [w] [] cpos ∧ N[i]? = some y ∧ visB sc y = true ∧ notSlice kx = true ∧ chkE p.t N sc k kx = true ∧ i ≠ j ∧ tpB N sc j w = true ∧ (apos.endLine == cpos.line) = true := by
  unfold apptpB at h
  split at h
  · obtain ⟨h1, k1⟩ := ba h
    obtain ⟨h2, k2⟩ := ba k1
    obtain ⟨h3, k3⟩ := ba k2
    obtain ⟨h4, k4⟩ := ba k3
    obtain ⟨h5, k5⟩ := ba k4
    obtain ⟨h6, k6⟩ := ba k5
    cases of_decide_eq_true h5
    exact ⟨_, _, _, _, _, _, _, rfl, of_decide_eq_true h1, h2, h3, h4, of_decide_eq_true h6, ba k6⟩
  · cases h
theorem chk_appn {i : Nat} {e : E} (h : chkS p.t N sc fresh (.appn i e) x = true) : ∃ v pos, x = .Expr v pos ∧ appnB p.t N sc i e v = true := by
  cases x <;> first | (unfold chkS at h; cases h; done) | (unfold chkS at h; exact ⟨_, _, rfl, h⟩)
theorem chk_appat {i : Nat} {k e : E} (h : chkS p.t N sc fresh (.appat i k e) x = true) : ∃ v pos, x = .Expr v pos ∧ appatB p.t N sc i k e v = true := by
  cases x <;> first | (unfold chkS at h; cases h; done) | (unfold chkS at h; exact ⟨_, _, rfl, h⟩)
theorem chk_apptp {i j : Nat} {k : E} (h : chkS p.t N sc fresh (.apptp i k j) x = true) : ∃ v pos, x = .Expr v pos ∧ apptpB p.t N sc i k j v = true := by
  cases x <;> first | (unfold chkS at h; cases h; done) | (unfold chkS at h; exact ⟨_, _, rfl, h⟩)
theorem chk_newdB {v : Expr} (h : newdB v = true) : ∃ q, v = .Dict [] [] q := by
  unfold newdB at h
  split at h
  · exact ⟨_, rfl⟩
  · cases h
theorem chk_newd {i : Nat} (h : chkS p.t N sc fresh (.newd i) x = true) : ∃ y py q pos, x = .Assign [.Name y py] (.Dict [] [] q) pos ∧ nmB N sc i y = true := by
  cases x <;> first | (unfold chkS at h; cases h; done) | skip
  rename_i ts v pos
  rcases ts with _ | ⟨t, _ | ⟨t2, ts⟩⟩ <;> first
    | (unfold chkS at h; cases h; done)
    | (cases t <;> first | (unfold chkS at h; cases h; done) | skip)
  unfold chkS at h
  obtain ⟨q, rfl⟩ := chk_newdB (ba h).2
  exact ⟨_, _, _, _, rfl, (ba h).1⟩
theorem chk_putd {i : Nat} {k e : E} (h : chkS p.t N sc fresh (.putd i k e) x = true) : ∃ y py kx q v pos, x = .Assign [.Subscript (.Name y py) kx q] v pos ∧ N[i]? = some y ∧ visB sc y = true ∧ notSlice kx = true ∧ chkE p.t N sc k kx = true ∧ chkE p.t N sc e v = true ∧ al e = false ∧ isComp v = false := by
  cases x <;> first | (unfold chkS at h; cases h; done) | skip
  rename_i ts v pos
  rcases ts with _ | ⟨t, _ | ⟨t2, ts⟩⟩ <;> first
    | (unfold chkS at h; cases h; done)
    | (cases t <;> first | (unfold chkS at h; cases h; done) | skip)
  · rename_i o kx q
    cases o <;> first | (unfold chkS at h; cases h; done) | skip
    unfold chkS at h
    obtain ⟨h1, h⟩ := ba h
    obtain ⟨h2, h⟩ := ba h
    obtain ⟨h3, h⟩ := ba h
    obtain ⟨h4, h⟩ := ba h
    obtain ⟨h5, h⟩ := ba h
    obtain ⟨h6, h7⟩ := ba h
    exact ⟨_, _, _, _, _, _, rfl, of_decide_eq_true h1, h2, h3, h4, h5, bnot h6, bnot h7⟩
  all_goals (rename_i o kx q; cases o <;> (unfold chkS at h; cases h))
theorem chk_setn {i : Nat} {es : List E} (h : chkS p.t N sc fresh (.setn i es) x = true) : ∃ y py v pos, x = .Assign [.Name y py] v pos ∧ nmB N sc i y = true ∧ setnB p.t N sc es v = true := by
  cases x <;> first | (unfold chkS at h; cases h; done) | skip
  rename_i ts v pos
  rcases ts with _ | ⟨t, _ | ⟨t2, ts⟩⟩ <;> first
    | (unfold chkS at h; cases h; done)
    | (cases t <;> first | (unfold chkS at h; cases h; done) | skip)
  unfold chkS at h
  exact ⟨_, _, _, _, rfl, ba h⟩
theorem chk_popn {j i : Nat} (h : chkS p.t N sc fresh (.popn j i) x = true) : ∃ z pz v pos, x = .Assign [.Name z pz] v pos ∧ nmB N sc j z = true ∧ i ≠ j ∧ popB N sc i v = true := by
  cases x <;> first | (unfold chkS at h; cases h; done) | skip
  rename_i ts v pos
  rcases ts with _ | ⟨t, _ | ⟨t2, ts⟩⟩ <;> first
    | (unfold chkS at h; cases h; done)
    | (cases t <;> first | (unfold chkS at h; cases h; done) | skip)
  unfold chkS at h
  exact ⟨_, _, _, _, rfl, (ba h).1, of_decide_eq_true (ba (ba h).2).1, (ba (ba h).2).2⟩
theorem chk_popt {j i : Nat} (h : chkS p.t N sc fresh (.popt j i) x = true) : ∃ z pz v pos, x = .Assign [.Name z pz] v pos ∧ nmB N sc j z = true ∧ i ≠ j ∧ tpB N sc i v = true := by
  cases x <;> first | (unfold chkS at h; cases h; done) | skip
  rename_i ts v pos
  rcases ts with _ | ⟨t, _ | ⟨t2, ts⟩⟩ <;> first
    | (unfold chkS at h; cases h; done)
    | (cases t <;> first | (unfold chkS at h; cases h; done) | skip)
  unfold chkS at h
  exact ⟨_, _, _, _, rfl, (ba h).1, of_decide_eq_true (ba (ba h).2).1, (ba (ba h).2).2⟩
theorem chkEs_len {es : List E} : ∀ {xs : List Expr}, chkEs p.t N sc es xs = true → es.length = xs.length := by
  induction es with
  | nil => intro xs h; cases xs with
    | nil => rfl
    | cons => unfold chkEs at h; cases h
  | cons e es ih => intro xs h; cases xs with
    | nil => unfold chkEs at h; cases h
    | cons x xs =>
      unfold chkEs at h
      rw [List.length_cons, List.length_cons, ih (ba (ba h).2).2]
theorem chk_mth {i : Nat} {m : OM} {es : List E} (h : chkS p.t N sc fresh (.mth i m es) x = true) : ∃ v pos, x = .Expr v pos ∧ mthB p.t N sc i m es v = true := by
  cases x <;> first | (unfold chkS at h; cases h; done) | skip
  unfold chkS at h
  exact ⟨_, _, rfl, h⟩
theorem chk_mthx {j i : Nat} {m : OM} {es : List E} (h : chkS p.t N sc fresh (.mthx j i m es) x = true) : ∃ z pz v pos, x = .Assign [.Name z pz] v pos ∧ nmB N sc j z = true ∧ i ≠ j ∧ mthB p.t N sc i m es v = true := by
  cases x <;> first | (unfold chkS at h; cases h; done) | skip
  rename_i ts v pos
  rcases ts with _ | ⟨t, _ | ⟨t2, ts⟩⟩ <;> first
    | (unfold chkS at h; cases h; done)
    | (cases t <;> first | (unfold chkS at h; cases h; done) | skip)
  unfold chkS at h
  obtain ⟨h1, h⟩ := ba h
  obtain ⟨h2, h3⟩ := ba h
  exact ⟨_, _, _, _, rfl, h1, of_decide_eq_true h2, h3⟩
theorem chk_sets {i : Nat} {k e : E} (h : chkS p.t N sc fresh (.sets i k e) x = true) : ∃ y py kx q v pos, x = .Assign [.Subscript (.Name y py) kx q] v pos ∧ N[i]? = some y ∧ visB sc y = true ∧ notSlice kx = true ∧ chkE p.t N sc k kx = true ∧ chkE p.t N sc e v = true ∧ al e = false ∧ isComp v = false := by
  cases x <;> first | (unfold chkS at h; cases h; done) | skip
  rename_i ts v pos
  rcases ts with _ | ⟨t, _ | ⟨t2, ts⟩⟩ <;> first
    | (unfold chkS at h; cases h; done)
    | (cases t <;> first | (unfold chkS at h; cases h; done) | skip)
  · rename_i o kx q
    cases o <;> first | (unfold chkS at h; cases h; done) | skip
    unfold chkS at h
    obtain ⟨h1, h⟩ := ba h
    obtain ⟨h2, h⟩ := ba h
    obtain ⟨h3, h⟩ := ba h
    obtain ⟨h4, h⟩ := ba h
    obtain ⟨h5, h⟩ := ba h
    obtain ⟨h6, h7⟩ := ba h
    exact ⟨_, _, _, _, _, _, rfl, of_decide_eq_true h1, h2, h3, h4, h5, bnot h6, bnot h7⟩
  all_goals (rename_i o kx q; cases o <;> (unfold chkS at h; cases h))
theorem chk_ret {e : E} (h : chkS p.t N sc fresh (.ret e) x = true) : ∃ v pos, x = .Return (some v) pos ∧ chkE p.t N sc e v = true ∧ al e = false ∧ (!fresh || fr p.T e) = true := by
  cases x <;> first | (unfold chkS at h; cases h; done) | skip
  rename_i v pos
  cases v <;> first | (unfold chkS at h; cases h; done) | skip
  unfold chkS at h
  exact ⟨_, _, rfl, (ba h).1, bnot (ba (ba h).2).1, (ba (ba h).2).2⟩
theorem chk_reto {i : Nat} (h : chkS p.t N sc fresh (.reto i) x = true) : ∃ y py pos, x = .Return (some (.Name y py)) pos ∧ N[i]? = some y ∧ visB sc y = true := by
  cases x <;> first | (unfold chkS at h; cases h; done) | skip
  rename_i v pos
  cases v <;> first | (unfold chkS at h; cases h; done) | skip
  rename_i v
  cases v <;> first | (unfold chkS at h; cases h; done) | skip
  unfold chkS at h
  exact ⟨_, _, _, rfl, of_decide_eq_true (ba h).1, (ba h).2⟩
theorem chk_retn (h : chkS p.t N sc fresh .retn x = true) : ∃ pos, x = .Return none pos := by
  cases x <;> first | (unfold chkS at h; cases h; done) | skip
  rename_i v pos
  cases v <;> first | (unfold chkS at h; cases h; done) | skip
  exact ⟨_, rfl⟩
theorem chk_iff {c : E} {a b : List PL.S} (h : chkS p.t N sc fresh (.iff c a b) x = true) : ∃ v xs ys pos, x = .If v xs ys pos ∧ tst c = true ∧ chkE p.t N sc c v = true ∧ chkSs p.t N sc fresh a xs = true ∧ chkSs p.t N sc fresh b ys = true := by
  cases x <;> first | (unfold chkS at h; cases h; done) | skip
  unfold chkS at h
  exact ⟨_, _, _, _, rfl, (ba h).1, (ba (ba h).2).1, ba (ba (ba h).2).2⟩
theorem chk_whl {c : E} {b : List PL.S} (h : chkS p.t N sc fresh (.whl c b) x = true) : ∃ v xs pos, x = .While v xs [] pos ∧ tst c = true ∧ chkE p.t N sc c v = true ∧ chkSs p.t N sc fresh b xs = true := by
  cases x <;> first | (unfold chkS at h; cases h; done) | skip
  rename_i v xs ys pos
  cases ys <;> first | (unfold chkS at h; cases h; done) | skip
  unfold chkS at h
  exact ⟨_, _, _, rfl, (ba h).1, ba (ba h).2⟩
theorem chk_for {is : List Nat} {it : E} {b : List PL.S} (h : chkS p.t N sc fresh (.for_ is it b) x = true) : ∃ tg v xs pos, x = .For tg v xs [] pos ∧ chkTg N sc is tg = true ∧ notSet v = true ∧ chkE p.t N sc it v = true ∧ al it = false ∧ chkSs p.t N sc fresh b xs = true := by
  cases x <;> first | (unfold chkS at h; cases h; done) | skip
  rename_i tg v xs ys pos
  cases ys <;> first | (unfold chkS at h; cases h; done) | skip
  unfold chkS at h
  obtain ⟨h1, h⟩ := ba h
  obtain ⟨h2, h⟩ := ba h
  obtain ⟨h3, h⟩ := ba h
  obtain ⟨h4, h5⟩ := ba h
  exact ⟨_, _, _, _, rfl, h1, h2, h3, bnot h4, h5⟩
theorem chk_forv {is : List Nat} {it : E} {b : List PL.S} (h : chkS p.t N sc fresh (.forv is it b) x = true) : ∃ tg q y q2 xs pos, x = .For tg (.Call (.Name (Str.ofString "reversed") q) [y] [] q2) xs [] pos ∧ chkTg N sc is tg = true ∧ gloB sc (Str.ofString "reversed") = true ∧ notStar y = true ∧ chkE p.t N sc it y = true ∧ al it = false ∧ chkSs p.t N sc fresh b xs = true := by
  cases x <;> first | (unfold chkS at h; cases h; done) | skip
  rename_i tg v xs zs pos
  cases v <;> first | (unfold chkS at h; cases h; done) | skip
  rename_i f ys ks q2
  cases f <;> first | (unfold chkS at h; cases h; done) | skip
  rcases ys with _ | ⟨y, _ | ⟨y2, ys⟩⟩ <;> first | (unfold chkS at h; cases h; done) | skip
  cases ks <;> first | (unfold chkS at h; cases h; done) | skip
  cases zs <;> first | (unfold chkS at h; cases h; done) | skip
  unfold chkS at h
  obtain ⟨h1, k1⟩ := ba h
  obtain ⟨h2, k2⟩ := ba k1
  obtain ⟨h3, k3⟩ := ba k2
  obtain ⟨h4, k4⟩ := ba k3
  obtain ⟨h5, k5⟩ := ba k4
  obtain ⟨h6, h7⟩ := ba k5
  have e := of_decide_eq_true h2
  clear h k1 h2
  subst e
  exact ⟨_, _, _, _, _, _, rfl, h1, h3, h4, h5, bnot h6, h7⟩
theorem chk_forr {i : Nat} {es : List E} {b : List PL.S} (h : chkS p.t N sc fresh (.forr i es b) x = true) : ∃ tg q ys q2 xs pos, x = .For tg (.Call (.Name (Str.ofString "range") q) ys [] q2) xs [] pos ∧ chkTg N sc [i] tg = true ∧ gloB sc (Str.ofString "range") = true ∧ chkEs p.t N sc es ys = true ∧ (ys.length = 1 ∨ ys.length = 2) ∧ chkSs p.t N sc fresh b xs = true := by
  cases x <;> first | (unfold chkS at h; cases h; done) | skip
  rename_i tg v xs zs pos
  cases v <;> first | (unfold chkS at h; cases h; done) | skip
  rename_i f ys ks q2
  cases f <;> first | (unfold chkS at h; cases h; done) | skip
  cases ks <;> first | (unfold chkS at h; cases h; done) | skip
  cases zs <;> first | (unfold chkS at h; cases h; done) | skip
  unfold chkS at h
  obtain ⟨h1, k1⟩ := ba h
  obtain ⟨h2, k2⟩ := ba k1
  obtain ⟨h3, k3⟩ := ba k2
  obtain ⟨h4, k4⟩ := ba k3
  obtain ⟨h5, h6⟩ := ba k4
  have e := of_decide_eq_true h2
  clear h k1 h2
  subst e
  refine ⟨_, _, _, _, _, _, rfl, h1, h3, h4, ?_, h6⟩
  rcases Bool.or_eq_true_iff.mp h5 with z | z
  · exact .inl (of_decide_eq_true z)
  · exact .inr (of_decide_eq_true z)
theorem good_brk {pos : Pos} : GoodS p n N sc fresh .brk (.Break pos) := ⟨_, fun X _ => ps_break, fun s o H0 S0 S H σ D e' d0 hs q => by
  unfold ex at e'
  cases e'
  exact q S σ H hs (Same.refl _)⟩
theorem good_cnt {pos : Pos} : GoodS p n N sc fresh .cnt (.Continue pos) := ⟨_, fun X _ => ps_continue, fun s o H0 S0 S H σ D e' d0 hs q => by
  unfold ex at e'
  cases e'
  exact q S σ H hs (Same.refl _)⟩
theorem good_pass {pos : Pos} : GoodS p n N sc fresh .pass (.Pass pos) := ⟨_, fun X _ => ps_pass, fun s o H0 S0 S H σ D e' d0 hs q => by
  unfold ex at e'
  cases e'
  exact q S σ H hs (Same.refl _)⟩
theorem good_never : GoodS p n N sc fresh .never x := ⟨_, fun X _ => ps_never, fun s o H0 S0 S H σ D e' d0 hs q => by
  unfold ex at e'
  cases e'⟩
theorem chkSs_nil {xs : List Stmt} (h : chkSs p.t N sc fresh [] xs = true) : xs = [] := by
  cases xs with
  | nil => rfl
  | cons => unfold chkSs at h; cases h
theorem chkSs_cons {s : PL.S} {ss : List PL.S} {xs : List Stmt} (hs : ∀ i, s ≠ .share i) (h : chkSs p.t N sc fresh (s :: ss) xs = true) : ∃ y ys, xs = y :: ys ∧ chkS p.t N sc fresh s y = true ∧ chkSs p.t N sc fresh ss ys = true := by
  unfold chkSs at h
  split at h
  · exact absurd rfl (hs _)
  · cases xs with
    | nil => cases h
    | cons y ys => exact ⟨y, ys, rfl, ba h⟩
mutual
theorem ex_ok (fc : Facts p n) (nd : N.Nodup) : ∀ (s : PL.S) (x : Stmt), (∀ i, s ≠ .share i) → chkS p.t N sc fresh s x = true → GoodS p n N sc fresh s x
  | .set i e, x, _, h => by
    obtain ⟨y, py, v, pos, rfl, h1, h2, h3, h4⟩ := chk_set h
    exact good_set (good_v fc nd h1 h2 h3 h4)
  | .seto i e, x, _, h => by
    obtain ⟨y, py, v, pos, rfl, h1, h2, h3, h4, h5⟩ := chk_seto h
    exact good_seto h3 (good_v fc nd h1 h2 h4 h5)
  | .unp is e, x, _, h => by
    obtain ⟨tg, v, pos, rfl, h1, h2, h3, h4, h5⟩ := chk_unp h
    exact good_unp nd h1 h2 h3 (ev_ok fc nd e sc v h4).1 h5 (assign1 (tgSt h1))
  | .par i j a b, x, _, h => by
    unfold chkS at h
    cases h
  | .aug i o e, x, _, h => by
    obtain ⟨y, py, op, v, pos, rfl, h1, h2, h3, h4⟩ := chk_aug h
    exact good_aug nd h1 h2 h3 (ev_ok fc nd e sc v h4).1
  | .expr e, x, _, h => by
    obtain ⟨v, pos, rfl, h1, h2⟩ := chk_expr h
    exact good_expr h2 (ev_ok fc nd e sc v h1).1
  | .app i e, x, _, h => by
    obtain ⟨y, py, apos, v, cpos, pos, rfl, h1, h2, h3, h4, h5, h6⟩ := chk_app h
    exact good_app h1 h2 h3 (ev_ok fc nd e sc v h4).1 h5 h6
  | .newd i, x, _, h => by
    obtain ⟨y, py, q, pos, rfl, h1⟩ := chk_newd h
    exact good_newd nd h1
  | .putd i k e, x, _, h => by
    obtain ⟨y, py, kx, q, v, pos, rfl, h1, h2, h3, h4, h5, h6, h7⟩ := chk_putd h
    exact good_putd h1 h2 h3 (ev_ok fc nd k sc kx h4).1 (ev_ok fc nd e sc v h5).1 h6 h7
  | .setn i es, x, _, h => by
    obtain ⟨y, py, v, pos, rfl, h1, h⟩ := chk_setn h
    obtain ⟨xs, q1, rfl, h2, h3, h4, h5⟩ := chk_setnB h
    refine good_setn nd h1 h3 h4 h5 (notStars h2).1 (fun e x he hx => ?_) (chkEs_len h2)
    subst he hx
    unfold chkEs at h2
    exact (ev_ok fc nd e sc x (ba (ba h2).2).1).1
  | .appn i e, x, _, h => by
    obtain ⟨v, pos, rfl, h⟩ := chk_appn h
    obtain ⟨y, py, apos, w, cpos, rfl, h1, h2, h3, h4, h5, h6, h7⟩ := chk_appnB h
    exact good_appn h1 h2 h3 (ev_ok fc nd e sc w h4).1 h5 h6 h7
  | .appat i k e, x, _, h => by
    obtain ⟨v, pos, rfl, h⟩ := chk_appat h
    obtain ⟨y, py, kx, q1, apos, w, cpos, rfl, h1, h2, h3, h4, h5, h6, h7, h8⟩ := chk_appatB h
    exact good_appat h1 h2 h3 (ev_ok fc nd k sc kx h4).1 h5 (ev_ok fc nd e sc w h6).1 h7 h8
  | .popn j i, x, _, h => by
    obtain ⟨z, pz, v, pos, rfl, h1, h2, h⟩ := chk_popn h
    obtain ⟨y, py, apos, cpos, rfl, h3, h4, h5⟩ := chk_popB h
    exact good_popn nd h1 h2 h3 h4 h5
  | .popt j i, x, _, h => by
    obtain ⟨z, pz, v, pos, rfl, h1, h2, h⟩ := chk_popt h
    obtain ⟨q1, y, py, apos, cpos, q2, rfl, h3, h4, h5, h6⟩ := chk_tpB h
    exact good_popt fc nd h1 h2 h3 h4 h5 h6
  | .apptp i k j, x, _, h => by
    obtain ⟨v, pos, rfl, h⟩ := chk_apptp h
    obtain ⟨y, py, kx, q1, apos, w, cpos, rfl, h1, h2, h3, h4, h5, h6, h7⟩ := chk_apptpB h
    obtain ⟨q2, z, pz, apos2, cpos2, q3, rfl, g1, g2, g3, g4⟩ := chk_tpB h6
    exact good_apptp fc h1 h2 h3 (ev_ok fc nd k sc kx h4).1 h5 g1 g2 g3 g4 h7
  | .mth i m es, x, _, h => by
    obtain ⟨v, pos, rfl, h⟩ := chk_mth h
    obtain ⟨y, py, apos, xs, cpos, rfl, h1, h2, h3, h4, h5, h6⟩ := chk_mthB h
    exact good_mth h1 h2 h3 (notStars h4).1 (evs_ok fc nd es sc xs h4) (mth_nil h4) h5 h6
  | .mthx j i m es, x, _, h => by
    obtain ⟨z, pz, v, pos, rfl, h0, h0', h⟩ := chk_mthx h
    obtain ⟨y, py, apos, xs, cpos, rfl, h1, h2, h3, h4, h5, h6⟩ := chk_mthB h
    exact good_mthx nd h0 h0' h1 h2 h3 (notStars h4).1 (evs_ok fc nd es sc xs h4) (mth_nil h4) h5 h6
  | .sets i k e, x, _, h => by
    obtain ⟨y, py, kx, q, v, pos, rfl, h1, h2, h3, h4, h5, h6, h7⟩ := chk_sets h
    exact good_sets h1 h2 h3 (ev_ok fc nd k sc kx h4).1 (ev_ok fc nd e sc v h5).1 h6 h7
  | .ret e, x, _, h => by
    obtain ⟨v, pos, rfl, h1, h2, h3⟩ := chk_ret h
    exact good_ret (ev_ok fc nd e sc v h1).1 h2 h3
  | .reto i, x, _, h => by
    obtain ⟨y, py, pos, rfl, h1, h2⟩ := chk_reto h
    exact good_reto h1 h2
  | .retn, x, _, h => by
    obtain ⟨pos, rfl⟩ := chk_retn h
    exact good_retn
  | .iff c a b, x, _, h => by
    obtain ⟨v, xs, ys, pos, rfl, h1, h2, h3, h4⟩ := chk_iff h
    exact good_iff ((ev_ok fc nd c sc v h2).2 h1) (exs_ok fc nd a xs h3) (exs_ok fc nd b ys h4)
  | .whl c b, x, _, h => by
    obtain ⟨v, xs, pos, rfl, h1, h2, h3⟩ := chk_whl h
    exact good_whl ((ev_ok fc nd c sc v h2).2 h1) (exs_ok fc nd b xs h3)
  | .for_ is it b, x, _, h => by
    obtain ⟨tg, v, xs, pos, rfl, h1, h2, h3, h4, h5⟩ := chk_for h
    have gi := goodI_e (tg := tg) (ev_ok fc nd it sc v h3).1
    rw [h4] at gi
    refine good_forAny nd h1 h2 gi (exs_ok fc nd b xs h5) fun s o e => ?_
    unfold ex at e
    obtain ⟨l, e1, e⟩ := Option.bind_eq_some_iff.mp e
    obtain ⟨ds, e2, e3⟩ := Option.bind_eq_some_iff.mp e
    exact ⟨ds, by rw [e1]; exact e2, e3⟩
  | .forv is it b, x, _, h => by
    obtain ⟨tg, q, y, q2, xs, pos, rfl, h1, h2, h3, h4, h5, h6⟩ := chk_forv h
    refine good_forAny nd h1 rfl (goodI_v fc h2 h3 h5 (ev_ok fc nd it sc y h4).1) (exs_ok fc nd b xs h6) fun s o e => ?_
    unfold ex at e
    obtain ⟨l, e1, e⟩ := Option.bind_eq_some_iff.mp e
    obtain ⟨ds, e2, e3⟩ := Option.bind_eq_some_iff.mp e
    exact ⟨ds, by rw [e1]; exact e2, e3⟩
  | .forr i es b, x, _, h => by
    obtain ⟨tg, q, ys, q2, xs, pos, rfl, h1, h2, h3, h4, h5⟩ := chk_forr h
    refine good_forAny nd h1 rfl (goodI_r fc h2 h4 (notStars h3).2 (notStars h3).1 (evs_ok fc nd es sc ys h3)) (exs_ok fc nd b xs h5) fun s o e => ?_
    unfold ex at e
    obtain ⟨l, e1, e⟩ := Option.bind_eq_some_iff.mp e
    obtain ⟨ds, e2, e3⟩ := Option.bind_eq_some_iff.mp e
    exact ⟨ds, by rw [e1]; exact e2, e3⟩
  | .brk, x, _, h => by
    cases x <;> first | (unfold chkS at h; cases h; done) | exact good_brk
  | .cnt, x, _, h => by
    cases x <;> first | (unfold chkS at h; cases h; done) | exact good_cnt
  | .pass, x, _, h => by
    cases x <;> first | (unfold chkS at h; cases h; done) | exact good_pass
  | .share i, x, hs, _ => absurd rfl (hs i)
  | .never, x, _, _ => good_never
theorem exs_ok (fc : Facts p n) (nd : N.Nodup) : ∀ (ss : List PL.S) (xs : List Stmt), chkSs p.t N sc fresh ss xs = true → GoodSs p n N sc fresh ss xs
  | [], xs, h => by
    cases chkSs_nil h
    exact good_snil
  | s :: ss, xs, h => by
    by_cases hs : ∃ i, s = .share i
    · obtain ⟨i, rfl⟩ := hs
      refine good_share (exs_ok fc nd ss xs ?_)
      unfold chkSs at h
      exact h
    · obtain ⟨y, ys, rfl, h1, h2⟩ := chkSs_cons (fun i z => hs ⟨i, z⟩) h
      exact good_seq (ex_ok fc nd s y (fun i z => hs ⟨i, z⟩) h1) (exs_ok fc nd ss ys h2)
end
end
end PL

/-! PL12: defs, the program, the head. -/
namespace PL
open PySem PySem.Spec L2
/-! ### how arguments bind -/
theorem lookup_zip {x : Str} : ∀ {ps : List Str} {us : List Value}, us.length = ps.length → x ∈ ps → ∃ v, (ps.zip us).lookup x = some v
  | p :: ps, u :: us, hl, hx => by
    rw [List.zip_cons_cons, List.lookup_cons]
    by_cases e : x = p
    · subst e
      exact ⟨u, by simp⟩
    · have e' : (x == p) = false := by simpa using e
      rw [e']
      exact lookup_zip (by simpa using hl) ((List.mem_cons.mp hx).resolve_left e)
  | [], _, _, hx => by cases hx
  | _ :: _, [], hl, _ => by cases hl
theorem fm_zip : ∀ {ps : List Str} {us : List Value} {qs : List (Str × Value)}, us.length = ps.length → ps.Nodup → (∀ q ∈ qs, q.1 ∉ ps) → (ps.filterMap fun n => ((qs ++ ps.zip us).lookup n).map (n, ·)) = ps.zip us
  | [], us, qs, _, _, _ => rfl
  | p :: ps, u :: us, qs, hl, nd, hq => by
    have nl : ∀ (qs : List (Str × Value)) (r : List (Str × Value)), (∀ q ∈ qs, q.1 ≠ p) → (qs ++ (p, u) :: r).lookup p = some u := by
      intro qs
      induction qs with
      | nil => intro r _; simp
      | cons q qs ih =>
        intro r h
        have hne : p ≠ q.1 := (h q List.mem_cons_self).symm
        obtain ⟨q1, q2⟩ := q
        rw [List.cons_append, List.lookup_cons, show (p == q1) = false by simpa using hne]
        exact ih r fun z hz => h z (List.mem_cons_of_mem _ hz)
    rw [List.zip_cons_cons, List.filterMap_cons, nl qs _ fun q hz e => hq q hz (by rw [e]; exact List.mem_cons_self)]
    have ih := fm_zip (ps := ps) (us := us) (qs := qs ++ [(p, u)]) (by simpa using hl) (List.nodup_cons.mp nd).2 fun q hz => by
      rcases List.mem_append.mp hz with hz | hz
      · exact fun z => hq q hz (List.mem_cons_of_mem _ z)
      · have := List.mem_singleton.mp hz
        subst this
        exact (List.nodup_cons.mp nd).1
    rw [List.append_assoc] at ih
    exact congrArg ((p, u) :: ·) ih
  | _ :: _, [], _, hl, _, _ => by cases hl
def plainArgs (as : List Arg) : Arguments := { posonlyargs := [], args := as, vararg := none, kwonlyargs := [], kw_defaults := [], kwarg := none, defaults := [] }
theorem bind_plain {x qual : Str} {as : List Arg} {body : List Stmt} {scope : Scope} {kV doc pm : Value} {an : Option Addr} {cdv ct : Value} {us : List Value} (nd : (as.map (·.arg)).Nodup) (hl : us.length = (as.map (·.arg)).length) :
    bindArgs (PySem.W.fnOf x qual (plainArgs as) body scope .none kV doc pm an cdv ct) ⟨us, []⟩ = pure ((as.map (·.arg)).zip us) := by
  have h1 := fm_zip (qs := []) hl nd (by simp)
  have hm : (List.filter (fun n => (List.lookup n ((as.map (·.arg)).zip us)).isNone) (as.map (·.arg))) = [] := by
    rw [List.filter_eq_nil_iff]
    intro n hn
    obtain ⟨v, e⟩ := lookup_zip hl hn
    rw [e]
    simp
  have pb : ∀ {α β : Type} (a : α) (f : α → Sem β), (pure a >>= f) = f a := fun a f => rfl
  have si : seqItems? (.none : Value) = pure none := rfl
  have h1' : (as.map (·.arg)).filterMap (fun n => ((((as.map (·.arg)).zip us).lookup n).map fun x => (n, x))) = (as.map (·.arg)).zip us := h1
  have hng : ¬ (us.length > (as.map (·.arg)).length) := by omega
  unfold bindArgs
  simp only [PySem.W.fnOf, plainArgs, List.forIn_nil, pb, si, List.map_nil, List.nil_append, List.append_nil, Option.getD_none, List.length_nil, Nat.zero_sub, List.drop_nil, Nat.sub_zero, List.take_length, hm, List.isEmpty_nil, List.zip_nil_right, h1', Bool.not_true, Bool.false_eq_true, if_false, Option.isNone_none, Bool.and_true, decide_eq_true_eq, hng]
/-! one keyword-only parameter with a default -/
def kwArgs1 (a k : Arg) (kd : Option Expr) : Arguments := { posonlyargs := [], args := [a], vararg := none, kwonlyargs := [k], kw_defaults := [kd], kwarg := none, defaults := [] }
theorem bind_kw1 {x qual : Str} {a k : Arg} {kd : Option Expr} {body : List Stmt} {scope : Scope} {doc pm : Value} {an : Option Addr} {cdv ct u v : Value} {D : Addr} (ne : k.arg ≠ a.arg) :
    KwChain D [(k.arg, v)] (bindArgs (PySem.W.fnOf x qual (kwArgs1 a k kd) body scope .none (.ref D) doc pm an cdv ct) ⟨[u], []⟩) [(a.arg, u), (k.arg, v)] := by
  have h1 : (k.arg == a.arg) = false := by simpa using ne
  have h2 : (a.arg == a.arg) = true := by simp
  have h3 : (k.arg == k.arg) = true := by simp
  have h4 : (a.arg == k.arg) = false := by simpa using fun e => ne e.symm
  have pb : ∀ {α β : Type} (a : α) (f : α → Sem β), (pure a >>= f) = f a := fun a f => rfl
  have si : seqItems? (.none : Value) = pure none := rfl
  unfold bindArgs
  simp only [PySem.W.fnOf, kwArgs1, List.forIn_nil, List.forIn_cons, pb, si, List.map_nil, List.map_cons, List.nil_append, List.append_nil, List.cons_append, Option.getD_none, List.length_nil, List.length_cons, Nat.zero_add, Nat.sub_zero, Nat.sub_self, List.drop_nil, List.take_length, List.zip_cons_cons, List.zip_nil_right, List.lookup_cons, List.lookup_nil, h1, h2, h3, h4, Option.isNone_none, Option.isNone_some, if_true, if_false, Bool.false_eq_true, gt_iff_lt, Nat.lt_irrefl, decide_false, Bool.false_and, List.take_succ_cons, List.take_zero, List.filter_cons, List.filter_nil, List.isEmpty_nil, Bool.not_true]
  refine ⟨_, _, _, _, _, _, rfl, rfl, ?_⟩
  show (pure _ >>= _) = pure _
  simp only [pb, List.isEmpty_nil, Bool.not_true, Bool.false_eq_true, if_false, List.filterMap_cons, List.filterMap_nil, List.lookup_cons, h1, h2, h3, h4, Option.map_some]
/-! ### a def -/
/-- the names of a def at their slots -/
def scB (fi : Fn) (sc : Scope) : Bool := (match sc.kind with
  | .function => true
  | _ => false) && (!sc.isCoroutine && (!sc.isGenerator && (decide fi.names.Nodup && (decide (fi.ps ≤ fi.names.length) && ((fi.names.take fi.ps).all (locB sc) && sc.names.all fun y => match y.2 with
    | .free => false
    | _ => true)))))
theorem scB_ok {fi : Fn} {sc : Scope} (h : scB fi sc = true) : FnScope fi.names (fi.names.take fi.ps) sc ∧ fi.ps ≤ fi.names.length := by
  unfold scB at h
  obtain ⟨h1, h⟩ := ba h
  obtain ⟨h2, h⟩ := ba h
  obtain ⟨h3, h⟩ := ba h
  obtain ⟨h4, h⟩ := ba h
  obtain ⟨h5, h⟩ := ba h
  obtain ⟨h6, h7⟩ := ba h
  have hp := of_decide_eq_true h5
  refine ⟨⟨?_, bnot h2, bnot h3, of_decide_eq_true h4, by rw [List.length_take, Nat.min_eq_left hp], fun x hx => ?_, fun y hy e => ?_⟩, hp⟩
  · split at h1
    · assumption
    · cases h1
  · exact loc_of (List.all_eq_true.mp h6 x hx)
  · have := List.all_eq_true.mp h7 y hy
    rw [e] at this
    cases this
theorem start_len {N : List Str} {vs : List V} (h : vs.length ≤ N.length) : (L2.start N vs).length = N.length := by
  unfold L2.start
  rw [List.length_append, List.length_map, List.length_replicate]
  omega
theorem fn_ok {p : Pr} {n : Nat} {f : Nat} {fi : Fn} {qual : Str} {params : Arguments} {body : List Stmt} {sc : Scope} {dvs : List V} {kws : List (Str × V)} {fd : FuncData} (fc : Facts p n) (hT : p.T f = some fi)
    (F : FunD p.K fi.name qual params body sc dvs kws (p.FA f) fd) (hs : scB fi sc = true) (c : chkSs p.t fi.names sc fi.fresh fi.body body = true) :
    FnOk p.P p.w p.K p.mg p.base CX0 (n + 1) (p.FA f) fd (fi.names.take fi.ps) (spF p (n + 1) fi f) := by
  obtain ⟨hsc, hps⟩ := scB_ok hs
  have hpl : (fi.names.take fi.ps).length = fi.ps := by rw [List.length_take, Nat.min_eq_left hps]
  refine F.ok hsc (fun vs H Q E h => by rw [hpl]; exact h.1) fun cdv A outer s H vs Q E hr h => ?_
  obtain ⟨t, pt, st⟩ := exs_ok (sc := sc) (fresh := fi.fresh) fc hsc.nd fi.body body c
  obtain ⟨hl, S, xs, d, dm, rs, hc, hQ⟩ := h
  have hcl := call_len hc hT
  refine ⟨t, PSs.nox (pt _ ⟨⟨rfl, rfl, rfl, rfl, rfl, rfl, rfl, rfl, hr, rfl⟩, fun _ => rfl, hsc.kind⟩), ?_⟩
  unfold call at hc
  rw [hT, Option.bind_some, if_pos hcl] at hc
  have hle : vs.length ≤ fi.names.length := by rw [hl]; exact hps
  have h0 : SS p H S S H (L2.start fi.names vs) (fi.start (xs ++ fi.dfl)) := by
    have el : (fi.start (xs ++ fi.dfl)).length = fi.names.length := by
      unfold Fn.start
      rw [List.length_append, List.length_map, List.length_replicate, hcl]
      omega
    have noow : ∀ (i : Nat) (y : Sl), (∀ d, y ≠ .sh d) → y ≠ .un → (fi.start (xs ++ fi.dfl))[i]? ≠ some y := fun i y ny nu e => by
      unfold Fn.start at e
      by_cases hi : i < ((xs ++ fi.dfl).map Sl.sh).length
      · rw [List.getElem?_append_left hi, List.getElem?_map] at e
        cases q : (xs ++ fi.dfl)[i]? with
        | none => rw [q] at e; cases e
        | some z => rw [q] at e; exact ny z (by injection e with e; exact e.symm)
      · rw [List.getElem?_append_right (by omega), List.getElem?_replicate] at e
        split at e
        · exact nu (by injection e with e; exact e.symm)
        · cases e
    have noOw : ∀ (i : Nat) d, (fi.start (xs ++ fi.dfl))[i]? ≠ some (.ow d) := fun i d => noow i _ (fun _ z => by cases z) fun z => by cases z
    have noOn : ∀ (i : Nat) d, (fi.start (xs ++ fi.dfl))[i]? ≠ some (.on d) := fun i d => noow i _ (fun _ z => by cases z) fun z => by cases z
    have noOd : ∀ (i : Nat) ks ds, (fi.start (xs ++ fi.dfl))[i]? ≠ some (.od ks ds) := fun i ks ds => noow i _ (fun _ z => by cases z) fun z => by cases z
    have no : ∀ i b, ¬ Own H (L2.start fi.names vs) (fi.start (xs ++ fi.dfl)) i b := fun i b o => o.elim (fun ⟨d, e, _⟩ => noOw i d e) fun h => h.elim (fun ⟨d, _, _, e, _⟩ => noOn i d e) fun ⟨_, _, e, _⟩ => noOd i _ _ e
    refine ⟨⟨by rw [el, start_len hle], dm, fun i d e => ?_, fun i d e => absurd e (noOw i d), fun i d e => absurd e (noOn i d), fun i ks ds e => absurd e (noOd i ks ds), fun i j b _ q _ => no i b q⟩, Same.refl _, fun _ h => h, fun i a o => absurd o (no i a)⟩
    unfold Fn.start at e
    by_cases hi : i < ((xs ++ fi.dfl).map Sl.sh).length
    · rw [List.getElem?_append_left hi, List.getElem?_map] at e
      cases q : (xs ++ fi.dfl)[i]? with
      | none => rw [q] at e; cases e
      | some z =>
        rw [q] at e
        cases e
        obtain ⟨v, h1, h2⟩ := rs.get q
        refine ⟨v, ?_, h2⟩
        unfold L2.start
        have hv : i < (vs.map some).length := by
          rw [List.length_map]
          exact (List.getElem?_eq_some_iff.mp h1).1
        rw [List.getElem?_append_left hv, List.getElem?_map, h1]
        rfl
    · rw [List.getElem?_append_right (by omega), List.getElem?_replicate] at e
      split at e <;> cases e
  cases ho : exs (call p.T p.G n) p.G fi.body (fi.start (xs ++ fi.dfl)) with
  | none => rw [ho] at hc; cases hc
  | some o =>
    rw [ho] at hc
    refine st _ o H S S H _ _ ho dm h0 ?_
    cases o with
    | nx s' =>
      cases hc
      exact fun S' σ' H' h m => hQ .non H' h.same .non fun _ => Fr.no fun _ e => by cases e
    | rt d' s' =>
      cases hc
      exact fun v H' m r fv => hQ v H' m r fv
    | bk s' => cases hc
    | ct s' => cases hc
/-! ### the program -/
/-- a def as it stands behind the top, with what is checked of it -/
structure DefOk (p : Pr) (f : Nat) (fi : Fn) : Prop where
  ex : ∃ (qual : Str) (params : Arguments) (body : List Stmt) (sc : Scope) (dvs : List V) (kws : List (Str × V)) (fd : FuncData) (ds : List Value), p.mg fi.name = some (.ref (p.FA f)) ∧ FunD p.K fi.name qual params body sc dvs kws (p.FA f) fd ∧ scB fi sc = true ∧
    chkSs p.t fi.names sc fi.fresh fi.body body = true ∧ Binds p.K fd (fi.names.take fi.ps) ds ∧ Vals (fi.dfl.map dV) ds ∧ fi.dfl.all isDfl = true ∧
    (fi.dfl = [] → ∀ (s : Shared) (us : List Value), us.length = (fi.names.take fi.ps).length → BindsTo s fd ⟨us, []⟩ ((fi.names.take fi.ps).zip us))
structure Base (p : Pr) : Prop where
  bi : ∀ f : BI, p.mg (biN f) = none
  rng : p.mg "range" = none
  rev : p.mg "reversed" = none
  bool : p.mg "bool" = none
  dict : p.mg "dict" = none
  gl : ∀ x d, (p.G x).bind glD = some d → ∃ u v, p.mg (p.t.GN x) = some u ∧ RelV v u ∧ ∀ H, R p.K p.FA H v d
  gdT : ∀ x kvs, p.G x = some (.dct kvs) → isTk (p.G x) = true → ∃ a, p.mg (p.t.GN x) = some (.ref a) ∧ DKT p.P p.w p.K p.FA a kvs
  gdS : ∀ x kvs, p.G x = some (.dct kvs) → isSk (p.G x) = true → ∃ a, p.mg (p.t.GN x) = some (.ref a) ∧ DKS p.w p.K p.FA a kvs
  gt : ∀ x ds, p.G x = some (.tup ds) → ∃ a o, p.mg (p.t.GN x) = some (.ref a) ∧ (∃ vs, (∀ H, SqT p.K H a vs) ∧ ∀ H, Rs p.K p.FA H vs ds) ∧ p.K.lookup a = some o ∧ o.cls = .type "tuple" ∧ o.dict = none
  fn : ∀ f fi, p.T f = some fi → DefOk p f fi
theorem facts0 {p : Pr} (b : Base p) : ∀ f fi, p.T f = some fi → ∃ fd ds, p.mg fi.name = some (.ref (p.FA f)) ∧ PySem.W.keepIn p.K (.ref (p.FA f)) = true ∧ Binds p.K fd (fi.names.take fi.ps) ds ∧ Vals (fi.dfl.map dV) ds ∧ fi.dfl.all isDfl = true ∧
    FnOk p.P p.w p.K p.mg p.base CX0 0 (p.FA f) fd (fi.names.take fi.ps) (spF p 0 fi f) := fun f fi h => by
  obtain ⟨qual, params, body, sc, dvs, kws, fd, ds, h1, F, h3, h4, h5, h6, h7, _⟩ := (b.fn f fi h).ex
  obtain ⟨hsc, hps⟩ := scB_ok h3
  refine ⟨fd, ds, h1, F.kp, h5, h6, h7, ⟨fun vs H Q E h => ?_, fun A outer s H args us vs Q E hr he hb hv h => ?_⟩⟩
  · rw [List.length_take, Nat.min_eq_left hps]
    exact h.1
  · obtain ⟨_, S, xs, d, _, _, hc, _⟩ := h
    unfold call at hc
    cases hc
theorem facts {p : Pr} (b : Base p) (n : Nat) : Facts p n := by
  induction n with
  | zero => exact ⟨b.bi, b.rng, b.rev, b.bool, b.dict, facts0 b, b.gl, b.gdT, b.gdS, b.gt⟩
  | succ n ih =>
    refine ⟨b.bi, b.rng, b.rev, b.bool, b.dict, fun f fi h => ?_, b.gl, b.gdT, b.gdS, b.gt⟩
    obtain ⟨qual, params, body, sc, dvs, kws, fd, ds, h1, F, h3, h4, h5, h6, h7, _⟩ := (b.fn f fi h).ex
    exact ⟨fd, ds, h1, F.kp, h5, h6, h7, fn_ok ih h F h3 h4⟩
/-! ### the head -/
/-- a constant of the module, read -/
def rdB (K : PySem.W.Frag) (FA : Nat → Addr) : Nat → Value → D → Bool
  | 0, _, _ => false
  | _ + 1, .none, .non => true
  | _ + 1, .bool b, .bl c => b == c
  | _ + 1, .int i _, .int j => decide (i = j)
  | _ + 1, .str x _, .str y => decide (x = y)
  | n + 1, .ref a, .tup ds => (match K.lookup a with
    | some ⟨.type c, none, .seq its _, _⟩ => decide (c = "tuple") && (decide (its.size ≤ sizeLine) && (decide (its.toList.length = ds.length) && ((its.toList.zip ds).all fun q => rdB K FA n q.1 q.2)))
    | _ => false)
  | _ + 1, .ref a, .fn f => decide (a = FA f) && decide (FA f ≠ 0)
  | _, _, _ => false
theorem rdB_ok {K : PySem.W.Frag} {FA : Nat → Addr} : ∀ {n : Nat} {u : Value} {d : D}, rdB K FA n u d = true → ∃ v, RelV v u ∧ ∀ H, R K FA H v d
  | 0, _, _, h => by unfold rdB at h; cases h
  | n + 1, u, d, h => by
    unfold rdB at h
    split at h
    · rename_i q; cases q
    · exact ⟨.non, rfl, fun _ => .non⟩
    · cases eq_of_beq h
      exact ⟨.bl _, rfl, fun _ => .bl _⟩
    · cases of_decide_eq_true h
      exact ⟨.int _, ⟨_, rfl⟩, fun _ => .int _⟩
    · cases of_decide_eq_true h
      exact ⟨.str _, ⟨_, rfl⟩, fun _ => .str _⟩
    · rename_i m a ds hm
      cases hm
      split at h
      · rename_i o c its k sl hk
        obtain ⟨h1, h⟩ := ba h
        obtain ⟨h2, h⟩ := ba h
        obtain ⟨h3, h4⟩ := ba h
        cases of_decide_eq_true h1
        have key : ∀ (us : List Value) (ds : List D), us.length = ds.length → ((us.zip ds).all fun q => rdB K FA n q.1 q.2) = true → ∃ vs, Vals vs us ∧ ∀ H, Rs K FA H vs ds := by
          intro us
          induction us with
          | nil =>
            intro ds hl _
            cases ds with
            | nil => exact ⟨[], .nil, fun _ => .nil⟩
            | cons => cases hl
          | cons u us ih =>
            intro ds hl h
            cases ds with
            | nil => cases hl
            | cons d ds =>
              rw [List.zip_cons_cons, List.all_cons] at h
              obtain ⟨q1, q2⟩ := ba h
              obtain ⟨v, r1, r2⟩ := rdB_ok q1
              obtain ⟨vs, r3, r4⟩ := ih ds (by simpa using hl) q2
              exact ⟨v :: vs, .cons r1 r3, fun H => .cons (r2 H) (r4 H)⟩
        obtain ⟨vs, r1, r2⟩ := key _ _ (of_decide_eq_true h3) h4
        exact ⟨.ref a, rfl, fun H => .tup (.inr ⟨_, its, k, hk, rfl, rfl, of_decide_eq_true h2, r1⟩) (r2 H)⟩
      · cases h
    · obtain ⟨g1, g2⟩ := ba h
      cases of_decide_eq_true g1
      exact ⟨.ref _, rfl, fun _ => .fn _ (of_decide_eq_true g2)⟩
    · cases h
theorem rdBs_ok {K : PySem.W.Frag} {FA : Nat → Addr} {n : Nat} : ∀ (us : List Value) (ds : List D), us.length = ds.length → ((us.zip ds).all fun q => rdB K FA n q.1 q.2) = true → ∃ vs, Vals vs us ∧ ∀ H, Rs K FA H vs ds := by
  intro us
  induction us with
  | nil =>
    intro ds hl _
    cases ds with
    | nil => exact ⟨[], .nil, fun _ => .nil⟩
    | cons => cases hl
  | cons u us ih =>
    intro ds hl h
    cases ds with
    | nil => cases hl
    | cons d ds =>
      rw [List.zip_cons_cons, List.all_cons] at h
      obtain ⟨q1, q2⟩ := ba h
      obtain ⟨v, r1, r2⟩ := rdB_ok q1
      obtain ⟨vs, r3, r4⟩ := ih ds (by simpa using hl) q2
      exact ⟨v :: vs, .cons r1 r3, fun H => .cons (r2 H) (r4 H)⟩
theorem rdB_tup {K : PySem.W.Frag} {FA : Nat → Addr} {n : Nat} {u : Value} {ds : List D} (h : rdB K FA n u (.tup ds) = true) : ∃ a o, u = .ref a ∧ (∃ vs, (∀ H, SqT K H a vs) ∧ ∀ H, Rs K FA H vs ds) ∧ K.lookup a = some o ∧ o.cls = .type "tuple" ∧ o.dict = none := by
  cases n with
  | zero => unfold rdB at h; cases h
  | succ n =>
    cases u <;> first | (unfold rdB at h; cases h; done) | skip
    unfold rdB at h
    split at h
    · rename_i o c its k sl hk
      obtain ⟨h1, h⟩ := ba h
      obtain ⟨h2, h⟩ := ba h
      obtain ⟨h3, h4⟩ := ba h
      cases of_decide_eq_true h1
      obtain ⟨vs, r1, r2⟩ := rdBs_ok _ _ (of_decide_eq_true h3) h4
      exact ⟨_, _, rfl, ⟨vs, fun H => .inr ⟨_, its, k, hk, rfl, rfl, of_decide_eq_true h2, r1⟩, r2⟩, hk, rfl, rfl⟩
    · cases h
/-- the texts among values -/
def strsV : List Value → Option (List Str)
  | [] => some []
  | .str x _ :: r => (strsV r).map (x :: ·)
  | _ => none
theorem strsV_ok {P : Program} {w : World} : ∀ {us : List Value} {ks : List Str}, strsV us = some ks → ItemsAre (PySem.strKind P w) ks us
  | [], ks, e => by cases e; exact .nil
  | u :: us, ks, e => by
    cases u <;> first | (cases e; done) | skip
    rename_i x t
    obtain ⟨r, e1, rfl⟩ := Option.map_eq_some_iff.mp (show (strsV us).map (x :: ·) = some ks from e)
    exact .cons (by show Value.isStrOf x (.str x t) = true; simp [Value.isStrOf]) (strsV_ok e1)
/-- an entry of a constant dict, but for its hash -/
def entB (K : PySem.W.Frag) (FA : Nat → Addr) (e : DictEntry) (p : D × D) : Bool := (match e.key with
  | .str k _ => (match keyS p.1 with
    | some j => decide (j = k)
    | none => false)
  | .ref a => (match K.lookup a with
    | some ⟨.type c, _, .seq its _, _⟩ => decide (c = "tuple") && (match keyT p.1 with
      | some ks => (match strsV its.toList with
        | some js => decide (js = ks)
        | none => false)
      | none => false)
    | _ => false)
  | _ => false) && rdB K FA 8 e.val p.2
/-- a constant dict -/
def dctB (K : PySem.W.Frag) (FA : Nat → Addr) (kvs : List (D × D)) : Option (Option Value) → Bool
  | some (some (.ref d)) => (match K.lookup d with
    | some ⟨.type c, none, .dict es _, sl⟩ => decide (c = "dict") && (decide (sl.size = 0) && (!(d == sysModules) && (decide (es.toList.length = kvs.length) && ((es.toList.zip kvs).all fun q => entB K FA q.1 q.2))))
    | _ => false)
  | _ => false
def hashL (K : PySem.W.Frag) : Option (Option Value) → List Int
  | some (some (.ref d)) => (match K.lookup d with
    | some ⟨_, _, .dict es _, _⟩ => es.toList.map (·.hash)
    | _ => [])
  | _ => []
/-- the hash that a key has -/
def hashW (w : World) (d : D) : Int := match keyS d with
  | some k => hashStr w k
  | none => match keyT d with
    | some k => kh w k
    | none => 0
theorem paired_of {α β : Type} {r : α → β → Prop} : ∀ {xs : List α} {ys : List β}, xs.length = ys.length → (∀ (i : Nat) x y, xs[i]? = some x → ys[i]? = some y → r x y) → Paired r xs ys
  | [], [], _, _ => .nil
  | x :: xs, y :: ys, hl, h => .cons (h 0 x y rfl rfl) (paired_of (by simpa using hl) fun i a b h1 h2 => h (i + 1) a b h1 h2)
  | [], _ :: _, hl, _ => by cases hl
  | _ :: _, [], hl, _ => by cases hl
theorem zip_all {α β : Type} {f : α × β → Bool} {xs : List α} {ys : List β} (h : (xs.zip ys).all f = true) {i : Nat} {x : α} {y : β} (h1 : xs[i]? = some x) (h2 : ys[i]? = some y) : f (x, y) = true :=
  List.all_eq_true.mp h _ (List.mem_of_getElem? (i := i) (by rw [List.getElem?_zip_eq_some]; exact ⟨h1, h2⟩))
theorem hash_at {es : List DictEntry} {kvs : List (D × D)} {w : World} (h : es.map (·.hash) = kvs.map fun p => hashW w p.1) {i : Nat} {e : DictEntry} {p : D × D} (h1 : es[i]? = some e) (h2 : kvs[i]? = some p) : e.hash = hashW w p.1 := by
  have z := congrArg (fun l => l[i]?) h
  rw [List.getElem?_map, List.getElem?_map, h1, h2] at z
  exact Option.some.inj z
theorem dct_parts {K : PySem.W.Frag} {FA : Nat → Addr} {kvs : List (D × D)} {o : Option (Option Value)} {w : World} (h : dctB K FA kvs o = true) (hh : hashL K o = kvs.map fun p => hashW w p.1) : ∃ d, o = some (some (.ref d)) ∧ (d == sysModules) = false ∧ ∃ ob es ep, K.lookup d = some ob ∧ ob.ExactDict ∧ ob.data = .dict es ep ∧ es.toList.length = kvs.length ∧
    ∀ (i : Nat) e p, es.toList[i]? = some e → kvs[i]? = some p → entB K FA e p = true ∧ e.hash = hashW w p.1 := by
  unfold dctB at h
  split at h
  · rename_i d
    split at h
    · rename_i o' c es ep sl hk
      obtain ⟨h1, h⟩ := ba h
      obtain ⟨h2, h⟩ := ba h
      obtain ⟨h3, h⟩ := ba h
      obtain ⟨h4, h5⟩ := ba h
      cases of_decide_eq_true h1
      have e0 : sl = #[] := Array.eq_empty_of_size_eq_zero (of_decide_eq_true h2)
      subst e0
      unfold hashL at hh
      dsimp only at hh
      rw [hk] at hh
      exact ⟨d, rfl, bnot h3, _, es, ep, hk, ⟨rfl, rfl, rfl⟩, rfl, of_decide_eq_true h4, fun i e p a b => ⟨zip_all h5 a b, hash_at hh a b⟩⟩
    · cases h
  · cases h
theorem dct_S {K : PySem.W.Frag} {FA : Nat → Addr} {kvs : List (D × D)} {o : Option (Option Value)} {w : World} (h : dctB K FA kvs o = true) (hh : hashL K o = kvs.map fun p => hashW w p.1) (hk : (kvs.all fun q => (keyS q.1).isSome) = true) (nd : (kvs.map fun p => keyS p.1).Nodup) :
    ∃ d, o = some (some (.ref d)) ∧ DKS w K FA d kvs := by
  obtain ⟨d, rfl, ns, ob, es, ep, k1, k2, k3, hl, he⟩ := dct_parts h hh
  refine ⟨d, rfl, ⟨⟨ob, es, ep, k1, k2, k3, paired_of hl fun i e p a b => ?_⟩, nd, ns⟩⟩
  obtain ⟨h1, h2⟩ := he i e p a b
  obtain ⟨k, hk⟩ := Option.isSome_iff_exists.mp (List.all_eq_true.mp hk p (List.mem_of_getElem? b))
  unfold entB at h1
  obtain ⟨h3, h4⟩ := ba h1
  obtain ⟨v, r1, r2⟩ := rdB_ok h4
  have hw : hashW w p.1 = hashStr w k := by unfold hashW; rw [hk]
  split at h3
  · rename_i j t ej
    rw [hk] at h3
    cases of_decide_eq_true h3
    exact ⟨_, t, ej, h2.trans hw, hk, v, r1, r2⟩
  · rename_i ar ej
    exfalso
    split at h3
    · have hT : keyT p.1 = none := by
        cases hp : p.1 <;> first | rfl | (rw [hp] at hk; cases hk)
      rw [hT] at h3
      have h3 := (ba h3).2
      cases h3
    · cases h3
  · cases h3
theorem dct_T {P : Program} {K : PySem.W.Frag} {FA : Nat → Addr} {kvs : List (D × D)} {o : Option (Option Value)} {w : World} (h : dctB K FA kvs o = true) (hh : hashL K o = kvs.map fun p => hashW w p.1) (hk : (kvs.all fun q => (keyT q.1).isSome) = true) (nd : (kvs.map fun p => keyT p.1).Nodup) :
    ∃ d, o = some (some (.ref d)) ∧ DKT P w K FA d kvs := by
  obtain ⟨d, rfl, ns, ob, es, ep, k1, k2, k3, hl, he⟩ := dct_parts h hh
  refine ⟨d, rfl, ⟨⟨ob, es, ep, k1, k2, k3, paired_of hl fun i e p a b => ?_⟩, nd, ns⟩⟩
  obtain ⟨h1, h2⟩ := he i e p a b
  obtain ⟨k, hk⟩ := Option.isSome_iff_exists.mp (List.all_eq_true.mp hk p (List.mem_of_getElem? b))
  have hS : keyS p.1 = none := by
    cases hp : p.1 <;> first | rfl | (rw [hp] at hk; cases hk)
  unfold entB at h1
  obtain ⟨h3, h4⟩ := ba h1
  obtain ⟨v, r1, r2⟩ := rdB_ok h4
  have hw : hashW w p.1 = kh w k := by unfold hashW; rw [hS, hk]
  split at h3
  · rw [hS] at h3
    cases h3
  · rename_i ar ej
    split at h3
    · rename_i o' c dd its n sl hl2
      obtain ⟨h5, h6⟩ := ba h3
      cases of_decide_eq_true h5
      rw [hk] at h6
      dsimp only at h6
      split at h6
      · rename_i js hj
        cases of_decide_eq_true h6
        exact ⟨_, ar, _, its, n, ej, h2.trans hw, hk, hl2, rfl, rfl, strsV_ok hj, v, r1, r2⟩
      · cases h6
    · cases h3
  · cases h3
end PL

/-! PL13: the head's facts, the law. -/
namespace PL
open PySem PySem.Spec L2
/-- a law's program: its defs with their statements, its constants -/
structure Src where
  fns : List Fn
  sts : List Stmt
  gls : List (Str × D)
def Src.tb (s : Src) : Tb := ⟨fun i => s.fns[i]?, fun i => (s.gls[i]?).map (·.2), fun i => match s.gls[i]? with
  | some q => q.1
  | none => Str.ofString ""⟩
def Src.FA (s : Src) (K : PySem.W.Frag) (i : Nat) : Addr := match s.fns[i]? with
  | some fi => He.ga K fi.name
  | none => 0
def Src.cst (s : Src) (K : PySem.W.Frag) : Bool := s.gls.all fun q => match q.2 with
  | .dct kvs => dctB K (s.FA K) kvs (PySem.W.nsIn K mainGlobals q.1)
  | d => (match PySem.W.nsIn K mainGlobals q.1 with
    | some (some u) => rdB K (s.FA K) 8 u d
    | _ => false)
/-- the hashes of the constant dicts' keys, in their order -/
def Src.hs (s : Src) (K : PySem.W.Frag) : List (List Int) := s.gls.map fun q => match q.2 with
  | .dct _ => hashL K (PySem.W.nsIn K mainGlobals q.1)
  | _ => []
def Src.hsW (s : Src) (w : World) : List (List Int) := s.gls.map fun q => match q.2 with
  | .dct kvs => kvs.map fun p => hashW w p.1
  | _ => []
def glNd : D → Bool
  | .dct kvs => decide ((kvs.map fun p => keyS p.1).Nodup) || decide ((kvs.map fun p => keyT p.1).Nodup)
  | _ => true
def glK : D → Bool
  | .dct kvs => (!(kvs.all fun q => (keyS q.1).isSome) || decide ((kvs.map fun p => keyS p.1).Nodup)) && (!(kvs.all fun q => (keyT q.1).isSome) || decide ((kvs.map fun p => keyT p.1).Nodup))
  | _ => true
def dfV : D → He.Dv
  | .bl b => .bl b
  | .int i => .int i
  | .str x => .str x
  | _ => .non
/-- how the defaults stand: keyword-only ones, in their order -/
def kwOf (fi : Fn) (st : Stmt) : List (Str × He.Dv) := ((defArgs st).kwonlyargs.map (·.arg)).zip (fi.dfl.map dfV)
def defD (fi : Fn) (st : Stmt) : He.DefD := ⟨(fi.name, none), fi.name, fi.name, defArgs st, defBody st, defScope st, [], kwOf fi st⟩
def Src.fn (s : Src) : List He.DefD := (s.fns.zip s.sts).map fun q => defD q.1 q.2
def freeNames : List Str := ["len", "abs", "int", "str", "tuple", "list", "all", "any", "sum", "max", "min", "sorted", "isinstance", "range", "bool", "reversed", "dict"]
def Src.fa (s : Src) : List He.Fa := freeNames.map He.Fa.free ++ s.fns.map fun f => He.Fa.glo f.name
/-- the arguments are plain, or keyword-only ones stand behind that have defaults -/
def argB (fi : Fn) (a : Arguments) : Bool := match a with
  | ⟨[], as, none, [], [], none, []⟩ => decide (as.map (·.arg) = fi.names.take fi.ps) && fi.dfl.isEmpty
  | ⟨[], [a], none, [k], [_], none, []⟩ => decide ([a.arg, k.arg] = fi.names.take fi.ps) && decide (fi.dfl.length = 1)
  | _ => false
def fnB (t : Tb) (fi : Fn) (st : Stmt) : Bool := scB fi (defScope st) && (chkSs t fi.names (defScope st) fi.fresh fi.body (defBody st) && (fi.dfl.all isDfl && argB fi (defArgs st)))
def Src.ok (s : Src) : Bool := decide (s.fns.length = s.sts.length) && (((s.fns.zip s.sts).all fun q => fnB s.tb q.1 q.2) && s.gls.all fun q => glK q.2)
/-- the keys of the dicts among the objects -/
def keysG (g : Addr → Option Obj) (as : List Addr) : List Addr := as.flatMap fun a => match g a with
  | some ⟨_, _, .dict es _, _⟩ => es.toList.flatMap fun e => He.refV e.key
  | _ => []
def Src.as (s : Src) (n : Nat) (g : Addr → Option Obj) : List Addr := match s.gls.any fun q => match q.2 with
  | .dct _ => true
  | _ => false with
  | true => He.asD g n ++ keysG g (He.asD g n)
  | false => He.asD g n
abbrev AlP : Type := He.AlD × (Bool × List (List Int))
def Src.obsG (s : Src) (n : Nat) (g : Addr → Option Obj) : AlP := (He.obsD s.fa s.fn (He.frG g (s.as n g)), (s.cst (He.frG g (s.as n g)), s.hs (He.frG g (s.as n g))))
def Src.hook (s : Src) (n : Nat) : PySem.W.Hook where
  α := AlP
  obs := fun x => s.obsG n x.heap.get?
  val := fun w => (He.valD s.fn, (true, s.hsW w))
  says := fun w h => ∃ K : PySem.W.Frag, K.In h ∧ He.SaysD s.fa s.fn K ∧ (s.cst K = true ∧ s.hs K = s.hsW w)
  of := fun _ _ e => ⟨_, He.frG_in, congrArg (fun z : AlP => z.1) e, congrArg (fun z : AlP => z.2.1) e, congrArg (fun z : AlP => z.2.2) e⟩
  keeps := fun _ _ _ ⟨K, hK, c⟩ k => ⟨K, PySem.W.Frag.In.keeps hK k, c⟩
def Src.ob (s : Src) (n : Nat) (x : PySem.W.SharedT) : AlP := s.obsG n (HandSHeadRun.getT x)
theorem Src.ob_eq (s : Src) (n : Nat) (x : PySem.W.SharedT) : s.ob n x = (s.hook n).obs x.abs := by
  have e : HandSHeadRun.getT x = x.abs.heap.get? := funext (HandSHeadRun.getT_eq x)
  unfold Src.ob
  rw [e]
  rfl
theorem argB_ok {fi : Fn} {a : Arguments} (h : argB fi a = true) : (∃ as, a = plainArgs as ∧ as.map (·.arg) = fi.names.take fi.ps ∧ fi.dfl = []) ∨ ∃ p k kd, a = kwArgs1 p k kd ∧ [p.arg, k.arg] = fi.names.take fi.ps ∧ fi.dfl.length = 1 := by
  unfold argB at h
  split at h
  · obtain ⟨h1, h2⟩ := ba h
    exact .inl ⟨_, rfl, of_decide_eq_true h1, by simpa using h2⟩
  · obtain ⟨h1, h2⟩ := ba h
    exact .inr ⟨_, _, _, rfl, of_decide_eq_true h1, of_decide_eq_true h2⟩
  · cases h
theorem dfV_v {K : PySem.W.Frag} {d : D} (h : isDfl d = true) : (dfV d).v K = dV d := by
  cases d <;> first | rfl | cases h
theorem fa_free {s : Src} {K : PySem.W.Frag} {h : Heap} {mg : Str → Option Value} (X : K.In h) (G : h.Ns mainGlobals mg) (c : He.SaysD s.fa s.fn K) {x : Str} (hx : x ∈ freeNames) : mg x = none := by
  obtain ⟨i, hi, e⟩ := List.getElem_of_mem hx
  have e2 : s.fa[i]? = some (.free x) := by
    unfold Src.fa
    rw [List.getElem?_append_left (by rw [List.length_map]; exact hi), List.getElem?_map, List.getElem?_eq_getElem hi, e]
    rfl
  exact He.free_ok X G (c.fact i e2)
theorem src_base {s : Src} {P : Program} {w : World} {K : PySem.W.Frag} {h base : Heap} {mg : Str → Option Value} (X : K.In h) (G : h.Ns mainGlobals mg) (c : He.SaysD s.fa s.fn K) (cc : s.cst K = true) (ch : s.hs K = s.hsW w) (ok : s.ok = true) : Base ⟨P, w, K, mg, base, s.FA K, s.tb⟩ := by
  obtain ⟨o1, o2⟩ := ba ok
  obtain ⟨o2, o3⟩ := ba o2
  have gk : ∀ (x : Nat) q, s.gls[x]? = some q → s.tb.G x = some q.2 ∧ s.tb.GN x = q.1 := fun x q e => ⟨by
    show (s.gls[x]?).map (·.2) = some q.2
    rw [e]
    rfl, by
    show (match s.gls[x]? with
      | some q => q.1
      | none => Str.ofString "") = q.1
    rw [e]⟩
  have gq : ∀ (x : Nat) d, s.tb.G x = some d → ∃ q, s.gls[x]? = some q ∧ q.2 = d := fun x d e => by
    have e' : (s.gls[x]?).map (·.2) = some d := e
    obtain ⟨q, e1, e2⟩ := Option.map_eq_some_iff.mp e'
    exact ⟨q, e1, e2⟩
  have hsx : ∀ (x : Nat) (nm : Str) kvs, s.gls[x]? = some (nm, .dct kvs) → dctB K (s.FA K) kvs (PySem.W.nsIn K mainGlobals nm) = true ∧ hashL K (PySem.W.nsIn K mainGlobals nm) = kvs.map (fun p => hashW w p.1) ∧ glK (.dct kvs) = true := fun x nm kvs e => by
    refine ⟨List.all_eq_true.mp cc _ (List.mem_of_getElem? e), ?_, List.all_eq_true.mp o3 _ (List.mem_of_getElem? e)⟩
    have z := congrArg (fun l => l[x]?) ch
    unfold Src.hs Src.hsW at z
    rw [List.getElem?_map, List.getElem?_map, e] at z
    exact Option.some.inj z
  have hl := of_decide_eq_true o1
  refine ⟨fun f => ?_, fa_free X G c (by decide +kernel), fa_free X G c (by decide +kernel), fa_free X G c (by decide +kernel), fa_free X G c (by decide +kernel), fun x d e => ?_, fun x kvs e ht => ?_, fun x kvs e ht => ?_, fun x ds e => ?_, fun f fi e => ?_⟩
  · refine fa_free X G c ?_
    cases f <;> decide +kernel
  · obtain ⟨d', e0, e⟩ := Option.bind_eq_some_iff.mp e
    obtain ⟨⟨nm, d''⟩, e1, rfl⟩ := gq x d' e0
    have h1 := List.all_eq_true.mp cc _ (List.mem_of_getElem? e1)
    have en : s.tb.GN x = nm := (gk x _ e1).2
    show ∃ u v, mg (s.tb.GN x) = some u ∧ _
    rw [en]
    cases d'' <;> first | (cases e; done) | skip
    all_goals
      cases e
      have h1 : (match PySem.W.nsIn K mainGlobals nm with
        | some (some u) => rdB K (s.FA K) 8 u _
        | _ => false) = true := h1
      split at h1
      · rename_i u hu
        obtain ⟨v, r1, r2⟩ := rdB_ok h1
        exact ⟨u, v, PySem.W.mg_of X G hu, r1, r2⟩
      · cases h1
  · obtain ⟨⟨nm, d''⟩, e1, e2⟩ := gq x _ e
    dsimp only at e2
    subst e2
    obtain ⟨h1, h2, h3⟩ := hsx x nm kvs e1
    have en : s.tb.GN x = nm := (gk x _ e1).2
    have ht : isTk (s.tb.G x) = true := ht
    have hG : s.tb.G x = some (.dct kvs) := e
    rw [hG] at ht
    obtain ⟨_, ht⟩ := ba ht
    obtain ⟨_, h3⟩ := ba h3
    rw [ht] at h3
    obtain ⟨d, e3, e4⟩ := dct_T (P := P) h1 h2 ht (of_decide_eq_true (by simpa using h3))
    exact ⟨d, by
      show mg (s.tb.GN x) = _
      rw [en]
      exact PySem.W.mg_of X G e3, e4⟩
  · obtain ⟨⟨nm, d''⟩, e1, e2⟩ := gq x _ e
    dsimp only at e2
    subst e2
    obtain ⟨h1, h2, h3⟩ := hsx x nm kvs e1
    have en : s.tb.GN x = nm := (gk x _ e1).2
    have ht : isSk (s.tb.G x) = true := ht
    have hG : s.tb.G x = some (.dct kvs) := e
    rw [hG] at ht
    obtain ⟨_, ht⟩ := ba ht
    obtain ⟨h3, _⟩ := ba h3
    rw [ht] at h3
    obtain ⟨d, e3, e4⟩ := dct_S h1 h2 ht (of_decide_eq_true (by simpa using h3))
    exact ⟨d, by
      show mg (s.tb.GN x) = _
      rw [en]
      exact PySem.W.mg_of X G e3, e4⟩
  · obtain ⟨⟨nm, d''⟩, e1, e2⟩ := gq x _ e
    dsimp only at e2
    subst e2
    have h1 := List.all_eq_true.mp cc _ (List.mem_of_getElem? e1)
    have en : s.tb.GN x = nm := (gk x _ e1).2
    have h1 : (match PySem.W.nsIn K mainGlobals nm with
      | some (some u) => rdB K (s.FA K) 8 u (.tup ds)
      | _ => false) = true := h1
    split at h1
    · rename_i u hu
      obtain ⟨a, o, rfl, r1, r2, r3, r4⟩ := rdB_tup h1
      exact ⟨a, o, by
        show mg (s.tb.GN x) = _
        rw [en]
        exact PySem.W.mg_of X G hu, r1, r2, r3, r4⟩
    · cases h1
  · have e' : s.fns[f]? = some fi := e
    obtain ⟨hf, ef⟩ := List.getElem?_eq_some_iff.mp e'
    have hs : f < s.sts.length := by rw [← hl]; exact hf
    have hz : (s.fns.zip s.sts)[f]? = some (fi, s.sts[f]) := by
      rw [List.getElem?_zip_eq_some]
      exact ⟨e', List.getElem?_eq_getElem hs⟩
    have hb : fnB s.tb fi s.sts[f] = true := List.all_eq_true.mp o2 _ (List.mem_of_getElem? hz)
    obtain ⟨b1, b⟩ := ba hb
    obtain ⟨b2, b⟩ := ba b
    obtain ⟨b3, b4⟩ := ba b
    obtain ⟨fd, F⟩ := c.def_ f (d := defD fi s.sts[f]) (by
      unfold Src.fn
      rw [List.getElem?_map, hz]
      rfl)
    have hga : s.FA K f = He.ga K fi.name := by
      show (match s.fns[f]? with
        | some fi => He.ga K fi.name
        | none => 0) = _
      rw [e']
    have hmg : mg fi.name = some (.ref (s.FA K f)) := by
      rw [hga]
      refine He.glo_ok X G (c.fact (freeNames.length + f) ?_)
      unfold Src.fa
      rw [List.getElem?_append_right (by rw [List.length_map]; omega), List.length_map, Nat.add_sub_cancel_left, List.getElem?_map, e']
      rfl
    have F' : FunD K fi.name fi.name (defArgs s.sts[f]) (defBody s.sts[f]) (defScope s.sts[f]) [] ((kwOf fi s.sts[f]).map fun q => (q.1, q.2.v K)) (He.ga K fi.name) fd := F
    rcases argB_ok b4 with ⟨as, a1, a2, a3⟩ | ⟨a, k, kd, a1, a2, a3⟩
    · have hkw : kwOf fi s.sts[f] = [] := by
        unfold kwOf
        rw [a3]
        simp
      have F2 : FunD K fi.name fi.name (defArgs s.sts[f]) (defBody s.sts[f]) (defScope s.sts[f]) [] [] (s.FA K f) fd := by
        rw [hkw] at F'
        rw [hga]
        exact F'
      refine ⟨⟨fi.name, defArgs s.sts[f], defBody s.sts[f], defScope s.sts[f], [], [], fd, [], hmg, F2, b1, b2, ?_, ?_, b3, ?_⟩⟩
      · have nd : (as.map (·.arg)).Nodup := by
          rw [a2]
          exact (scB_ok b1).1.nd.sublist (List.take_sublist _ _)
        have F3 := F2
        rw [a1] at F3
        show Binds K fd (fi.names.take fi.ps) []
        rw [← a2]
        exact F3.bindsN fun kV doc pm an cdv ct us hl => bind_plain nd hl
      · rw [a3]
        exact .nil
      · intro _ s0 us hus
        have nd : (as.map (·.arg)).Nodup := by
          rw [a2]
          exact (scB_ok b1).1.nd.sublist (List.take_sublist _ _)
        have F3 := F2
        rw [a1] at F3
        rw [← a2] at hus ⊢
        exact F3.bindsA (fun kV doc pm an cdv ct us hl => bind_plain nd hl) s0 us hus
    · have hd : ∃ d, fi.dfl = [d] := by
        match hq : fi.dfl, a3 with
        | [d], _ => exact ⟨d, rfl⟩
      obtain ⟨d, hd⟩ := hd
      have hkw : kwOf fi s.sts[f] = [(k.arg, dfV d)] := by
        unfold kwOf
        rw [hd, a1]
        rfl
      have F2 : FunD K fi.name fi.name (defArgs s.sts[f]) (defBody s.sts[f]) (defScope s.sts[f]) [] [(k.arg, (dfV d).v K)] (s.FA K f) fd := by
        rw [hkw] at F'
        rw [hga]
        exact F'
      have nd : [a.arg, k.arg].Nodup := by
        rw [a2]
        exact (scB_ok b1).1.nd.sublist (List.take_sublist _ _)
      have ne : k.arg ≠ a.arg := fun e => by
        rw [e] at nd
        simp at nd
      have F3 := F2
      rw [a1] at F3
      obtain ⟨ds, r1, r2⟩ := F3.binds0 (ps := fi.names.take fi.ps) 1 (by simp) (by rw [← a2]; rfl) (fun D doc pm an cdv ct us ks l1 l2 => by
        match us, ks, l1, l2 with
        | [u], [v], _, _ =>
          rw [← a2]
          exact bind_kw1 ne)
      have b3' := b3
      rw [hd, List.all_cons] at b3'
      refine ⟨⟨fi.name, defArgs s.sts[f], defBody s.sts[f], defScope s.sts[f], [], _, fd, ds, hmg, F2, b1, b2, r2, ?_, b3, fun e => ?_⟩⟩
      · rw [hd]
        have e1 := dfV_v (K := K) (ba b3').1
        show Vals [dV d] ds
        rw [← e1]
        exact r1
      · rw [hd] at e
        cases e
/-- the law's walk: what is left is the law as the small language computes it -/
theorem src_walk {s : Src} {l : PySem.W.OpenLaw} {n k i d : Nat} {q : Program} {loose : List Str} {XP : (Str → Option Value) → Heap → Prop} {dr : DefRec} {fi : Fn} {x : Str} (ok : s.ok = true) (hn : l.most = some n) (hn2 : n ≤ sizeLine) (hdf : dr.params.defaults = []) (hr : Room k callerA)
    (hf : s.fns[i]? = some fi) (hname : dr.name = fi.name) (hps : fi.ps = 1) (hnm : fi.names.take 1 = [x]) (hdl : fi.dfl = []) (main : ∀ ns : List Int, ns.length ≤ n → call s.tb.T s.tb.G k i [.fls (ns.map D.int)] = some (.bl true, [])) :
    PySem.W.WalkO q loose XP (s.hook d).says l.row.toRowW dr [] (fun f vs => PySem.call f vs) := by
  refine L2.walk_ofE (l := l) (n := n) (k := k) (x := x) (CX := L2.CX0) hn hn2 hdf hr ?_ (fun _ _ _ _ z => z)
  intro w mg fa h Y G hmg
  obtain ⟨K, KX, c, cc, ch⟩ := Y
  have B : ∀ base, Base ⟨l.prog, w, K, mg, base, s.FA K, s.tb⟩ := fun base => src_base (P := l.prog) (w := w) (base := base) KX G c cc ch ok
  obtain ⟨qual, params, body, sc, dvs, kws, fd, ds, h1, F, h3, h4, h5, h6, h7, hA⟩ := ((B h).fn i fi hf).ex
  have efa : fa = s.FA K i := by
    have e := hmg.symm.trans ((congrArg mg hname).trans h1)
    cases e
    rfl
  subst efa
  have hpl : fi.names.take fi.ps = [x] := by rw [hps]; exact hnm
  cases k with
  | zero =>
    have := main [] (Nat.zero_le _)
    unfold call at this
    cases this
  | succ k =>
    refine ⟨K, fd, spF ⟨l.prog, w, K, mg, h, s.FA K, s.tb⟩ (k + 1) fi i, KX, fun s0 u => ?_, fun H a ns hlen hO hS => ?_, fun base hK hG => ?_⟩
    · have z := hA hdl s0 [u] (by rw [hpl]; rfl)
      rw [hpl] at z
      exact z
    · refine ⟨hps.symm, fun _ => False, [.fls (ns.map D.int)], .bl true, fun a z => z.elim, ?_, main ns hlen, fun v H' _ r _ => ?_⟩
      · rw [hdl, List.append_nil]
        refine .cons (.fls (sqL_mono (fun b o e => gd_of (fun z => z) e) hS) ?_) .nil
        clear hlen hS
        induction ns with
        | nil => exact .nil
        | cons a ns ih => exact .cons (.int _) ih
      · cases r
        rfl
    · have z := fn_ok (p := ⟨l.prog, w, K, mg, base, s.FA K, s.tb⟩) (f := i) (facts (B base) k) hf F h3 h4
      rw [hpl] at z
      exact z
end PL

/-! PM: rewriting the small language's meaning (plain Lean). -/
namespace PL
open PySem
variable {F : Fc} {G : Nat → Option D} {s : Env} {α β : Type}
/-- the kernel is to use these by their proofs, not by unfolding -/
@[simp high] theorem bindS (a : α) (f : α → Option β) : (some a).bind f = f a := by rw [Option.bind_some]
@[simp high] theorem mapS (a : α) (f : α → β) : (some a).map f = some (f a) := by rw [Option.map_some]
@[simp high] theorem bindN (f : α → Option β) : (none : Option α).bind f = none := by rw [Option.bind_none]
@[simp high] theorem mapN (f : α → β) : (none : Option α).map f = none := by rw [Option.map_none]
def ifD (d : D) (x y : Option α) : Option α := match d with
  | .bl true => x
  | .bl false => y
  | _ => none
@[simp] theorem ifD_bl (k : Bool) (x y : Option α) : ifD (.bl k) x y = if k = true then x else y := by cases k <;> rfl
@[simp] theorem bind_ite' (c : Prop) [Decidable c] (x y : Option α) (f : α → Option β) : (if c then x else y).bind f = if c then x.bind f else y.bind f := by split <;> rfl
@[simp] theorem map_ite' (c : Prop) [Decidable c] (x y : Option α) (f : α → β) : (if c then x else y).map f = if c then x.map f else y.map f := by split <;> rfl
/-! expressions -/
@[simp] theorem ev_c (d : D) : ev F G (.c d) s = some d := by simp only [ev]
@[simp] theorem ev_var (i : Nat) : ev F G (.var i) s = (s[i]?).bind Sl.shd := by simp only [ev]
@[simp] theorem ev_rd (i : Nat) : ev F G (.rd i) s = (s[i]?).bind Sl.rdv := by simp only [ev]
@[simp] theorem glD_non : glD .non = some .non := rfl
@[simp] theorem glD_bl (b : Bool) : glD (.bl b) = some (.bl b) := rfl
@[simp] theorem glD_int (b : Int) : glD (.int b) = some (.int b) := rfl
@[simp] theorem glD_str (b : Str) : glD (.str b) = some (.str b) := rfl
@[simp] theorem glD_tup (b : List D) : glD (.tup b) = some (.tup b) := rfl
@[simp] theorem ev_gl (i : Nat) : ev F G (.gl i) s = (G i).bind glD := by simp only [ev]
@[simp] theorem ev_dgT (x : Nat) (e : E) : ev F G (.dgT x e) s = (ev F G e s).bind fun k => (G x).bind fun g => getT g k := by simp only [ev]
@[simp] theorem ev_dix (x : Nat) (e : E) : ev F G (.dix x e) s = (ev F G e s).bind fun k => (G x).bind fun g => getS g k := by simp only [ev]
@[simp] theorem ev_tix (x : Nat) (e : E) : ev F G (.tix x e) s = (ev F G e s).bind fun k => (G x).bind fun g => getI g k := by simp only [ev]
@[simp] theorem getT_two (kvs : List (D × D)) (a b : Str) : getT (.dct kvs) (.tup [.str a, .str b]) = some (lookT kvs [a, b]) := rfl
@[simp] theorem getS_str (kvs : List (D × D)) (a : Str) : getS (.dct kvs) (.str a) = lookS kvs a := rfl
@[simp] theorem ev_tup (es : List E) : ev F G (.tup es) s = (evs F G es s).bind fun xs => if xs.length ≤ sizeLine then some (.tup xs) else none := by simp only [ev]
@[simp] theorem ev_lst (es : List E) : ev F G (.lst es) s = (evs F G es s).bind fun xs => if xs.length ≤ sizeLine then some (.lst xs) else none := by simp only [ev]
@[simp] theorem ev_bin (o : B1) (a b : E) : ev F G (.bin o a b) s = (ev F G a s).bind fun x => (ev F G b s).bind fun y => binD o x y := by simp only [ev]
def dspD (ks : List Str) (vs : List D) : Option D := if ks.Nodup ∧ ks.length = vs.length ∧ ks.length ≤ 15 then some (.dcs ks vs) else none
theorem dspD_one (k : Str) (v : D) : dspD [k] [v] = some (.dcs [k] [v]) := if_pos ⟨List.nodup_cons.mpr ⟨by simp, List.nodup_nil⟩, rfl, by simp⟩
@[simp] theorem ev_dsp (ks : List Str) (es : List E) : ev F G (.dsp ks es) s = (evs F G es s).bind (dspD ks) := by
  simp only [ev]
  rfl
def dgetD (p : List Str × List D) (kk dd : D) : Option D := match kk with
  | .str x => if flatD dd && p.2.all flatD then some ((findD p.1 p.2 x).getD dd) else none
  | _ => none
theorem dgetD_str (ks : List Str) (vs : List D) (x : Str) (dd : D) (h1 : flatD dd = true) (h2 : vs.all flatD = true) : dgetD (ks, vs) (.str x) dd = some ((findD ks vs x).getD dd) := if_pos (by rw [h1, h2]; rfl)
@[simp] theorem ev_dget (i : Nat) (k e : E) : ev F G (.dget i k e) s = ((s[i]?).bind Sl.dic).bind fun p => (ev F G k s).bind fun kk => (ev F G e s).bind fun dd => dgetD p kk dd := by
  simp only [ev]
  rfl
def mindD : D → Option D
  | .lst xs => (strsD xs).map mnS
  | _ => none
theorem strsD_map : ∀ ys : List Str, strsD (ys.map D.str) = some ys
  | [] => rfl
  | y :: ys => by rw [List.map_cons, strsD, strsD_map ys]; rfl
theorem mindD_strs (ys : List Str) : mindD (.lst (ys.map D.str)) = some (mnS ys) := by rw [mindD, strsD_map]; rfl
@[simp] theorem ev_mind (a : E) : ev F G (.mind a) s = (ev F G a s).bind mindD := by
  simp only [ev]
  rfl
@[simp] theorem keyD_dcs (ks : List Str) (vs : List D) : keyD (.dcs ks vs) = some (ks.map .str) := rfl
def negD : D → Option D
  | .int i => some (.int (-i))
  | _ => none
@[simp] theorem negD_int (i : Int) : negD (.int i) = some (.int (-i)) := rfl
@[simp] theorem ev_neg (a : E) : ev F G (.neg a) s = (ev F G a s).bind negD := by
  simp only [ev]
  rfl
def notD : D → Option D
  | .bl b => some (.bl (!b))
  | _ => none
@[simp] theorem notD_bl (b : Bool) : notD (.bl b) = some (.bl (!b)) := rfl
@[simp] theorem ev_nt (a : E) : ev F G (.nt a) s = (ev F G a s).bind notD := by
  simp only [ev]
  rfl
@[simp] theorem ev_cmp (o : CO) (a b : E) : ev F G (.cmp o a b) s = (ev F G a s).bind fun x => (ev F G b s).bind fun y => (cmpD o x y).map .bl := by simp only [ev]
@[simp] theorem ev_chain (o1 o2 : CO) (a b c : E) : ev F G (.chain o1 o2 a b c) s = (ev F G a s).bind fun x => (ev F G b s).bind fun y => (cmpD o1 x y).bind fun k =>
      if k = true then (ev F G c s).bind fun z => (cmpD o2 y z).map .bl else some (.bl false) := by simp only [ev]
@[simp] theorem ev_an (a b : E) : ev F G (.an a b) s = (ev F G a s).bind fun k => ifD k (ev F G b s) (some (.bl false)) := by
  simp only [ev]
  rfl
@[simp] theorem ev_orr (a b : E) : ev F G (.orr a b) s = (ev F G a s).bind fun k => ifD k (some (.bl true)) (ev F G b s) := by
  simp only [ev]
  rfl
@[simp] theorem ev_ife (c a b : E) : ev F G (.ife c a b) s = (ev F G c s).bind fun k => ifD k (ev F G a s) (ev F G b s) := by
  simp only [ev]
  rfl
@[simp] theorem ev_ix (a b : E) : ev F G (.ix a b) s = (ev F G a s).bind fun x => (ev F G b s).bind fun y => ixD x y := by simp only [ev]
@[simp] theorem ev_sl (a lo hi : E) : ev F G (.sl a lo hi) s = (ev F G a s).bind fun x => (if lo.isNo then some none else (ev F G lo s).bind endD).bind fun l => (if hi.isNo then some none else (ev F G hi s).bind endD).bind fun h => slD x l h := by simp only [ev]
@[simp] theorem isNo_nohi : E.nohi.isNo = true := rfl
@[simp] theorem isNo_c (d : D) : (E.c d).isNo = false := rfl
@[simp] theorem isNo_var (i : Nat) : (E.var i).isNo = false := rfl
@[simp] theorem isNo_bin (o : B1) (a b : E) : (E.bin o a b).isNo = false := rfl
@[simp] theorem isNo_neg (a : E) : (E.neg a).isNo = false := rfl
@[simp] theorem isNo_bi (f : BI) (es : List E) : (E.bi f es).isNo = false := rfl
@[simp] theorem isNo_ix (a b : E) : (E.ix a b).isNo = false := rfl
@[simp] theorem isNo_call (f : Nat) (es : List E) : (E.call f es).isNo = false := rfl
@[simp] theorem isNo_me (m : MI) (o : E) (es : List E) : (E.me m o es).isNo = false := rfl
@[simp] theorem endD_int (i : Int) : endD (.int i) = some (some i) := rfl
/-- a call's answer, with no list handed back -/
def noIo (r : D × List D) : Option D := match r.2 with
  | [] => some r.1
  | _ => none
@[simp] theorem noIo_nil (d : D) : noIo (d, []) = some d := rfl
@[simp] theorem ev_call (f : Nat) (es : List E) : ev F G (.call f es) s = (evs F G es s).bind fun xs => (F f xs).bind noIo := by
  simp only [ev]
  rfl
def clocD (F : Fc) (xs : List D) : Sl → Option D
  | .sh (.fn f) => (F f xs).bind noIo
  | _ => none
@[simp] theorem clocD_fn (xs : List D) (f : Nat) : clocD F xs (.sh (.fn f)) = (F f xs).bind noIo := rfl
@[simp] theorem ev_cloc (i : Nat) (es : List E) : ev F G (.cloc i es) s = (s[i]?).bind fun o => (evs F G es s).bind fun xs => clocD F xs o := by
  simp only [ev]
  rfl
def noIoL (r : D × List D) : Option D := match r.2 with
  | [] => if noL r.1 then some r.1 else none
  | _ => none
@[simp] theorem noIoL_nil (d : D) : noIoL (d, []) = if noL d = true then some d else none := rfl
@[simp] theorem ev_callb (f : Nat) (es : List E) : ev F G (.callb f es) s = (evs F G es s).bind fun xs => (F f xs).bind noIoL := by
  simp only [ev]
  rfl
@[simp] theorem ev_bi (f : BI) (es : List E) : ev F G (.bi f es) s = (evs F G es s).bind fun xs => biD f xs := by simp only [ev]
/-- a comprehension's turn -/
def lcT (F : Fc) (G : Nat → Option D) (is : List Nat) (c e : E) (s : Env) (x : D) : Option (Option D) := (tgD is x (wipeE s is)).bind fun s2 => (ev F G c s2).bind fun k => ifD k ((ev F G e s2).map some) (some none)
theorem lcT_eq (is : List Nat) (c e : E) (s : Env) : (fun x => (tgD is x (wipeE s is)).bind fun s2 => (ev F G c s2).bind fun k => match k with
        | .bl true => (ev F G e s2).map some
        | .bl false => some none
        | _ => none) = lcT F G is c e s := by
  rfl
@[simp] theorem ev_lc (is : List Nat) (it c e : E) : ev F G (.lc is it c e) s = (ev F G it s).bind fun l => (itD l).bind fun xs => (lcD (lcT F G is c e s) xs).bind fun r => if r.length ≤ sizeLine then some (.lst r) else none := by
  simp only [ev]
  rfl
@[simp] theorem ev_lcd (is : List Nat) (i : Nat) (c e : E) : ev F G (.lcd is i c e) s = (((s[i]?).bind Sl.shd).bind keyD).bind fun xs => (lcD (lcT F G is c e s) xs).bind fun r => if r.length ≤ sizeLine then some (.lst r) else none := by
  simp only [ev]
  rfl
@[simp] theorem ev_lcr (i : Nat) (es : List E) (c e : E) : ev F G (.lcr i es c e) s = (evs F G es s).bind fun l => (rngD l).bind fun xs => (lcD (lcT F G [i] c e s) xs).bind fun r => if r.length ≤ sizeLine then some (.lst r) else none := by
  simp only [ev]
  rfl
/-! lists of own lists -/
@[simp] theorem nst_on (x : List (List D)) : Sl.nst (.on x) = some x := rfl
def rdnD (xss : List (List D)) : D → Option D
  | .int j => (L2.atI xss j).map .lst
  | _ => none
@[simp] theorem rdnD_int (xss : List (List D)) (j : Int) : rdnD xss (.int j) = (L2.atI xss j).map .lst := rfl
@[simp] theorem ev_rdn (i : Nat) (k : E) : ev F G (.rdn i k) s = ((s[i]?).bind Sl.nst).bind fun xss => (ev F G k s).bind (rdnD xss) := by
  simp only [ev]
  rfl
@[simp] theorem ev_lenn (i : Nat) : ev F G (.lenn i) s = ((s[i]?).bind Sl.nst).map fun xss => .int xss.length := by simp only [ev]
def revlD : D → Option D
  | .lst xs => some (.lst xs.reverse)
  | _ => none
@[simp] theorem revlD_lst (xs : List D) : revlD (.lst xs) = some (.lst xs.reverse) := rfl
@[simp] theorem ev_revl (a : E) : ev F G (.revl a) s = (ev F G a s).bind revlD := by
  simp only [ev]
  rfl
def lrgD : D → Option D
  | .int n => if 0 ≤ n ∧ n ≤ 16777216 then some (.lst ((List.range n.toNat).map fun (k : Nat) => D.int (k : Int))) else none
  | _ => none
theorem lrgD_int (n : Int) (h : 0 ≤ n ∧ n ≤ 16777216) : lrgD (.int n) = some (.lst ((List.range n.toNat).map fun (k : Nat) => D.int (k : Int))) := if_pos h
@[simp] theorem ev_lrg (a : E) : ev F G (.lrg a) s = (ev F G a s).bind lrgD := by
  simp only [ev]
  rfl
@[simp] theorem dic_od (ks : List Str) (vs : List D) : Sl.dic (.od ks vs) = some (ks, vs) := rfl
@[simp] theorem ev_tvals (i : Nat) : ev F G (.tvals i) s = ((s[i]?).bind Sl.dic).map fun d => .tup d.2 := by simp only [ev]
@[simp] theorem evs_nil : evs F G [] s = some [] := by simp only [evs]
@[simp] theorem evs_cons (e : E) (es : List E) : evs F G (e :: es) s = (ev F G e s).bind fun x => (evs F G es s).map (x :: ·) := by simp only [evs]
/-! values -/
@[simp] theorem shd_sh (d : D) : Sl.shd (.sh d) = some d := rfl
@[simp] theorem own_ow (d : D) : Sl.own (.ow d) = some d := rfl
@[simp] theorem rdv_ow (d : D) : Sl.rdv (.ow d) = some d := rfl
@[simp] theorem rdv_od (ks : List Str) (vs : List D) : Sl.rdv (.od ks vs) = some (.dcs ks vs) := rfl
@[simp] theorem add_int (a b : Int) : binD .add (.int a) (.int b) = some (.int (a + b)) := rfl
@[simp] theorem sub_int (a b : Int) : binD .sub (.int a) (.int b) = some (.int (a - b)) := rfl
theorem mul_r (a b : Int) (h1 : -18446744073709551616 < b) (h2 : b < 18446744073709551616) : binD .mul (.int a) (.int b) = some (.int (a * b)) := by
  show (if (-(2 ^ 64) < a ∧ a < 2 ^ 64) ∨ (-(2 ^ 64) < b ∧ b < 2 ^ 64) then some (D.int (a * b)) else none) = _
  rw [if_pos (Or.inr (by omega))]
theorem mul_l (a b : Int) (h1 : -18446744073709551616 < a) (h2 : a < 18446744073709551616) : binD .mul (.int a) (.int b) = some (.int (a * b)) := by
  show (if (-(2 ^ 64) < a ∧ a < 2 ^ 64) ∨ (-(2 ^ 64) < b ∧ b < 2 ^ 64) then some (D.int (a * b)) else none) = _
  rw [if_pos (Or.inl (by omega))]
@[simp] theorem mod_pos (a b : Int) (h : 0 < b) : binD .mod (.int a) (.int b) = some (.int (a % b)) := by
  show (if b ≠ 0 then some (D.int (a.fmod b)) else none) = _
  rw [if_pos (by omega), Int.fmod_eq_emod_of_nonneg a (by omega)]
@[simp] theorem fdiv_pos (a b : Int) (h : 0 < b) (h2 : b < 1073741824) : binD .fdiv (.int a) (.int b) = some (.int (a / b)) := by
  show (if b ≠ 0 ∧ b.natAbs < 1073741824 then some (D.int (a.fdiv b)) else none) = _
  rw [if_pos (by omega), Int.fdiv_eq_ediv_of_nonneg a (by omega)]
theorem fdiv_ne (a b : Int) (h : b ≠ 0) (h1 : -1073741824 < b) (h2 : b < 1073741824) : binD .fdiv (.int a) (.int b) = some (.int (a.fdiv b)) := by
  show (if b ≠ 0 ∧ b.natAbs < 1073741824 then some (D.int (a.fdiv b)) else none) = _
  rw [if_pos (by omega)]
theorem add_str (a b : Str) (h : a.length + b.length ≤ sizeLine) : binD .add (.str a) (.str b) = some (.str (a ++ b)) := by
  show (if a.length + b.length ≤ sizeLine then some (D.str (a ++ b)) else none) = _
  rw [if_pos h]
@[simp] theorem lt_int (a b : Int) : cmpD .lt (.int a) (.int b) = some (decide (a < b)) := rfl
@[simp] theorem le_int (a b : Int) : cmpD .le (.int a) (.int b) = some (decide (a ≤ b)) := rfl
@[simp] theorem gt_int (a b : Int) : cmpD .gt (.int a) (.int b) = some (decide (b < a)) := rfl
@[simp] theorem ge_int (a b : Int) : cmpD .ge (.int a) (.int b) = some (decide (b ≤ a)) := rfl
@[simp] theorem lt_str (a b : Str) : cmpD .lt (.str a) (.str b) = some (decide (a.cps.toList < b.cps.toList)) := rfl
@[simp] theorem le_str (a b : Str) : cmpD .le (.str a) (.str b) = some (!decide (b.cps.toList < a.cps.toList)) := rfl
@[simp] theorem gt_str (a b : Str) : cmpD .gt (.str a) (.str b) = some (decide (b.cps.toList < a.cps.toList)) := rfl
@[simp] theorem ge_str (a b : Str) : cmpD .ge (.str a) (.str b) = some (!decide (a.cps.toList < b.cps.toList)) := rfl
theorem add_tup (a b : List D) (h : a.length + b.length ≤ 16777216) : binD .add (.tup a) (.tup b) = some (.tup (a ++ b)) := if_pos h
theorem add_lst (a b : List D) (h : a.length + b.length ≤ 16777216) : binD .add (.lst a) (.lst b) = some (.lst (a ++ b)) := if_pos h
theorem add_tup1 (a : List D) (x : D) (h : a.length < 16777216) : binD .add (.tup a) (.tup [x]) = some (.tup (a ++ [x])) := add_tup a [x] h
theorem add_tupl (a : List D) (x : D) (h : a.length < 16777216) : binD .add (.tup [x]) (.tup a) = some (.tup (x :: a)) := add_tup [x] a (by rw [List.length_cons, List.length_nil]; omega)
theorem add_lst1 (a : List D) (x : D) (h : a.length < 16777216) : binD .add (.lst a) (.lst [x]) = some (.lst (a ++ [x])) := add_lst a [x] h
theorem mul_tup (a : List D) (k : Int) (h : a.length ≤ 1000) (h1 : -1000 ≤ k) (h2 : k ≤ 1000) : binD .mul (.tup a) (.int k) = some (.tup (List.replicate k.toNat a).flatten) := if_pos ⟨h, h1, h2⟩
@[simp] theorem is_non_non : cmpD .is_ .non .non = some true := rfl
@[simp] theorem is_bl_bl (a b : Bool) : cmpD .is_ (.bl a) (.bl b) = some (a == b) := rfl
@[simp] theorem is_int_non (i : Int) : cmpD .is_ (.int i) .non = some false := rfl
@[simp] theorem is_str_non (i : Str) : cmpD .is_ (.str i) .non = some false := rfl
@[simp] theorem is_tup_non (i : List D) : cmpD .is_ (.tup i) .non = some false := rfl
@[simp] theorem is_lst_non (i : List D) : cmpD .is_ (.lst i) .non = some false := rfl
@[simp] theorem is_bl_non (i : Bool) : cmpD .is_ (.bl i) .non = some false := rfl
@[simp] theorem isnot_bl_bl (a b : Bool) : cmpD .isnot (.bl a) (.bl b) = some (!(a == b)) := rfl
@[simp] theorem isnot_non_non : cmpD .isnot .non .non = some false := rfl
@[simp] theorem isnot_int_non (i : Int) : cmpD .isnot (.int i) .non = some true := rfl
@[simp] theorem isnot_str_non (i : Str) : cmpD .isnot (.str i) .non = some true := rfl
@[simp] theorem isnot_tup_non (i : List D) : cmpD .isnot (.tup i) .non = some true := rfl
@[simp] theorem isnot_lst_non (i : List D) : cmpD .isnot (.lst i) .non = some true := rfl
@[simp] theorem isnot_bl_non (i : Bool) : cmpD .isnot (.bl i) .non = some true := rfl
@[simp] theorem cmp_eq (a b : D) : cmpD .eq a b = eqD a b := by cases a <;> rfl
@[simp] theorem cmp_ne (a b : D) : cmpD .ne a b = (eqD a b).map (!·) := by cases a <;> rfl
/-- flat data are compared -/
@[simp] theorem eq_int (a b : Int) : eqD (.int a) (.int b) = some (decide (a = b)) := by
  show some (a == b) = _
  rw [Bool.beq_eq_decide_eq]
@[simp] theorem eq_str (a b : Str) : eqD (.str a) (.str b) = some (decide (a = b)) := by
  show some (a == b) = _
  rw [Bool.beq_eq_decide_eq]
@[simp] theorem eq_bl (a b : Bool) : eqD (.bl a) (.bl b) = some (a == b) := rfl
@[simp] theorem eq_non : eqD .non .non = some true := rfl
@[simp] theorem eq_int_str (a : Int) (b : Str) : eqD (.int a) (.str b) = some false := rfl
@[simp] theorem eq_str_int (a : Int) (b : Str) : eqD (.str b) (.int a) = some false := rfl
@[simp] theorem eq_non_str (b : Str) : eqD .non (.str b) = some false := rfl
@[simp] theorem eq_str_non (b : Str) : eqD (.str b) .non = some false := rfl
@[simp] theorem eq_non_int (b : Int) : eqD .non (.int b) = some false := rfl
@[simp] theorem eq_int_non (b : Int) : eqD (.int b) .non = some false := rfl
/-- rows of texts are compared -/
theorem pds_strs : ∀ a : List Str, PyData.depthAll (D.pds (a.map D.str)) = 0
  | [] => by rw [List.map_nil, D.pds, PyData.depthAll]
  | x :: a => by rw [List.map_cons, D.pds, D.pd, PyData.depthAll, PyData.depth, pds_strs a]; rfl
@[simp] theorem len_tup (xs : List D) : biD .len [.tup xs] = some (.int xs.length) := rfl
@[simp] theorem len_lst (xs : List D) : biD .len [.lst xs] = some (.int xs.length) := rfl
@[simp] theorem len_fls (xs : List D) : biD .len [.fls xs] = some (.int xs.length) := rfl
theorem len_str (z : Str) (h : z.length ≤ sizeLine) : biD .len [.str z] = some (.int z.length) := if_pos h
@[simp] theorem abs_int (i : Int) : biD .abs [.int i] = some (.int i.natAbs) := by
  show some (D.int (if i < 0 then -i else i)) = _
  congr 2
  split <;> omega
@[simp] theorem int_int (i : Int) : biD .int_ [.int i] = some (.int i) := rfl
@[simp] theorem int_bl (k : Bool) : biD .int_ [.bl k] = some (.int (if k then 1 else 0)) := rfl
@[simp] theorem tuple_lst (xs : List D) : biD .tuple_ [.lst xs] = some (.tup xs) := rfl
@[simp] theorem tuple_tup (xs : List D) : biD .tuple_ [.tup xs] = some (.tup xs) := rfl
@[simp] theorem list_lst (xs : List D) : biD .list_ [.lst xs] = some (.lst xs) := rfl
@[simp] theorem list_tup (xs : List D) : biD .list_ [.tup xs] = some (.lst xs) := rfl
@[simp] theorem max_int (i j : Int) : biD .max_ [.int i, .int j] = some (.int (max i j)) := by
  show some (D.int (if j > i then j else i)) = _
  congr 2
  split <;> omega
@[simp] theorem min_int (i j : Int) : biD .min_ [.int i, .int j] = some (.int (min i j)) := by
  show some (D.int (if j < i then j else i)) = _
  congr 2
  split <;> omega
@[simp] theorem list_dcs (ks : List Str) (xs : List D) : biD .list_ [.dcs ks xs] = some (.lst (ks.map .str)) := rfl
@[simp] theorem isdct_dcs (ks : List Str) (xs : List D) : biD .isdct [.dcs ks xs] = some (.bl true) := rfl
@[simp] theorem isint_int (i : Int) : biD .isint [.int i] = some (.bl true) := rfl
@[simp] theorem isint_bl (i : Bool) : biD .isint [.bl i] = some (.bl true) := rfl
@[simp] theorem isint_str (i : Str) : biD .isint [.str i] = some (.bl false) := rfl
@[simp] theorem isint_tup (i : List D) : biD .isint [.tup i] = some (.bl false) := rfl
@[simp] theorem isint_lst (i : List D) : biD .isint [.lst i] = some (.bl false) := rfl
@[simp] theorem isint_non : biD .isint [.non] = some (.bl false) := rfl
@[simp] theorem isbool_int (i : Int) : biD .isbool [.int i] = some (.bl false) := rfl
@[simp] theorem isbool_bl (i : Bool) : biD .isbool [.bl i] = some (.bl true) := rfl
@[simp] theorem isbool_str (i : Str) : biD .isbool [.str i] = some (.bl false) := rfl
@[simp] theorem isbool_tup (i : List D) : biD .isbool [.tup i] = some (.bl false) := rfl
@[simp] theorem isbool_lst (i : List D) : biD .isbool [.lst i] = some (.bl false) := rfl
@[simp] theorem isbool_non : biD .isbool [.non] = some (.bl false) := rfl
@[simp] theorem isstr_int (i : Int) : biD .isstr [.int i] = some (.bl false) := rfl
@[simp] theorem isstr_bl (i : Bool) : biD .isstr [.bl i] = some (.bl false) := rfl
@[simp] theorem isstr_str (i : Str) : biD .isstr [.str i] = some (.bl true) := rfl
@[simp] theorem isstr_tup (i : List D) : biD .isstr [.tup i] = some (.bl false) := rfl
@[simp] theorem isstr_lst (i : List D) : biD .isstr [.lst i] = some (.bl false) := rfl
@[simp] theorem isstr_non : biD .isstr [.non] = some (.bl false) := rfl
@[simp] theorem istuple_int (i : Int) : biD .istuple [.int i] = some (.bl false) := rfl
@[simp] theorem istuple_bl (i : Bool) : biD .istuple [.bl i] = some (.bl false) := rfl
@[simp] theorem istuple_str (i : Str) : biD .istuple [.str i] = some (.bl false) := rfl
@[simp] theorem istuple_tup (i : List D) : biD .istuple [.tup i] = some (.bl true) := rfl
@[simp] theorem istuple_lst (i : List D) : biD .istuple [.lst i] = some (.bl false) := rfl
@[simp] theorem istuple_non : biD .istuple [.non] = some (.bl false) := rfl
@[simp] theorem islist_int (i : Int) : biD .islist [.int i] = some (.bl false) := rfl
@[simp] theorem islist_bl (i : Bool) : biD .islist [.bl i] = some (.bl false) := rfl
@[simp] theorem islist_str (i : Str) : biD .islist [.str i] = some (.bl false) := rfl
@[simp] theorem islist_tup (i : List D) : biD .islist [.tup i] = some (.bl false) := rfl
@[simp] theorem islist_lst (i : List D) : biD .islist [.lst i] = some (.bl true) := rfl
@[simp] theorem islist_non : biD .islist [.non] = some (.bl false) := rfl
theorem str_int (i : Int) (h : i.natAbs.log2 < 1920) : biD .str_ [.int i] = some (.str (toString i)) := if_pos h
/-! subscripts -/
@[simp] theorem ix_dcs (ks : List Str) (vs : List D) (k : Str) : ixD (.dcs ks vs) (.str k) = findD ks vs k := rfl
@[simp] theorem in_dcs (ks : List Str) (vs : List D) (k : Str) : inD (.str k) (.dcs ks vs) = some (findD ks vs k).isSome := rfl
theorem atI_nat' {α : Type} (xs : List α) (j : Nat) : L2.atI xs (j : Int) = xs[j]? := by
  unfold L2.atI L2.ixN
  rw [if_pos (by omega)]
  by_cases h : j < xs.length
  · rw [if_pos (by omega)]
    simp
  · rw [if_neg (by omega)]
    simp [Nat.le_of_not_lt h]
@[simp] theorem ix_tup (xs : List D) (i : Int) : ixD (.tup xs) (.int i) = L2.atI xs i := rfl
theorem ix_lst (xs : List D) (i : Int) : ixD (.lst xs) (.int i) = L2.atI xs i := rfl
@[simp] theorem ix_lsts (x : D) (xs : List D) (i : Int) : ixD (.lst (x :: xs)) (.int i) = L2.atI (x :: xs) i := rfl
@[simp] theorem atI_0 {α : Type} (xs : List α) : L2.atI xs 0 = xs[0]? := atI_nat' xs 0
@[simp] theorem atI_1 {α : Type} (xs : List α) : L2.atI xs 1 = xs[1]? := atI_nat' xs 1
@[simp] theorem atI_2 {α : Type} (xs : List α) : L2.atI xs 2 = xs[2]? := atI_nat' xs 2
@[simp] theorem atI_3 {α : Type} (xs : List α) : L2.atI xs 3 = xs[3]? := atI_nat' xs 3
@[simp] theorem atI_4 {α : Type} (xs : List α) : L2.atI xs 4 = xs[4]? := atI_nat' xs 4
@[simp] theorem atI_5 {α : Type} (xs : List α) : L2.atI xs 5 = xs[5]? := atI_nat' xs 5
@[simp] theorem atI_6 {α : Type} (xs : List α) : L2.atI xs 6 = xs[6]? := atI_nat' xs 6
@[simp] theorem atI_7 {α : Type} (xs : List α) : L2.atI xs 7 = xs[7]? := atI_nat' xs 7
@[simp] theorem atI_8 {α : Type} (xs : List α) : L2.atI xs 8 = xs[8]? := atI_nat' xs 8
@[simp] theorem atI_9 {α : Type} (xs : List α) : L2.atI xs 9 = xs[9]? := atI_nat' xs 9
@[simp] theorem atI_10 {α : Type} (xs : List α) : L2.atI xs 10 = xs[10]? := atI_nat' xs 10
@[simp] theorem atI_11 {α : Type} (xs : List α) : L2.atI xs 11 = xs[11]? := atI_nat' xs 11
@[simp] theorem atI_12 {α : Type} (xs : List α) : L2.atI xs 12 = xs[12]? := atI_nat' xs 12
theorem atI_in {α : Type} (xs : List α) (j : Int) (h : 0 ≤ j) (h2 : j < xs.length) : ∃ x ∈ xs, L2.atI xs j = some x := by
  obtain ⟨k, rfl⟩ := Int.eq_ofNat_of_zero_le h
  have hk : k < xs.length := by omega
  rw [atI_nat', List.getElem?_eq_getElem hk]
  exact ⟨_, List.getElem_mem hk, rfl⟩
@[simp] theorem ix_fls (xs : List D) (i : Int) : ixD (.fls xs) (.int i) = L2.atI xs i := rfl
theorem ix_str (z : Str) (i : Int) (h : z.length ≤ sizeLine) : ixD (.str z) (.int i) = (L2.atI z.cps.toList i).map fun c => .str ⟨#[c]⟩ := by
  exact if_pos h
/-- whole numbers in a list -/
theorem ix_ints (xs : List Int) (j : Int) (h : 0 ≤ j) (h2 : j < xs.length) : ixD (.lst (xs.map .int)) (.int j) = some (.int (xs.getD j.toNat 0)) := by
  obtain ⟨k, rfl⟩ := Int.eq_ofNat_of_zero_le h
  have hk : k < xs.length := by omega
  rw [ix_lst, atI_nat', List.getElem?_map, Int.toNat_natCast, List.getD_eq_getElem?_getD, List.getElem?_eq_getElem hk]
  rfl
theorem ix_sign (z : Str) (j : Int) (h : 0 ≤ j) (h2 : j < z.length) (hz : z.length ≤ sizeLine) : ∃ c : Str, ixD (.str z) (.int j) = some (.str c) ∧ c.length = 1 := by
  obtain ⟨k, rfl⟩ := Int.eq_ofNat_of_zero_le h
  have hk : k < z.cps.toList.length := by
    have : k < z.length := by omega
    rwa [Array.length_toList]
  rw [ix_str z _ hz, atI_nat', List.getElem?_eq_getElem hk]
  exact ⟨_, rfl, rfl⟩
@[simp] theorem ev_me (m : MI) (o : E) (es : List E) : ev F G (.me m o es) s = (ev F G o s).bind fun x => (evs F G es s).bind fun xs => meD m x xs := by simp only [ev]
theorem sl_str (z : Str) (lo hi : Option Int) (h : z.length ≤ sizeLine) : slD (.str z) lo hi = some (.str (L2.cutS z lo hi)) := by
  exact if_pos h
@[simp] theorem sl_lst (z : List D) (lo hi : Option Int) : slD (.lst z) lo hi = some (.lst (cutL z lo hi)) := rfl
@[simp] theorem sl_tup (z : List D) (lo hi : Option Int) : slD (.tup z) lo hi = some (.tup (cutL z lo hi)) := rfl
@[simp] theorem cmp_isin (a b : D) : cmpD .isin a b = inD a b := by cases a <;> cases b <;> rfl
@[simp] theorem cmp_notin (a b : D) : cmpD .notin a b = (inD a b).map (!·) := by cases a <;> cases b <;> rfl
@[simp] theorem flat_str (z : Str) : flatD (.str z) = true := rfl
@[simp] theorem flat_int (z : Int) : flatD (.int z) = true := rfl
@[simp] theorem flat_bl (z : Bool) : flatD (.bl z) = true := rfl
@[simp] theorem flat_non : flatD .non = true := rfl
@[simp] theorem eqF_str (a b : Str) : eqF (.str a) (.str b) = decide (a = b) := by
  show (a == b) = _
  rw [Bool.beq_eq_decide_eq]
@[simp] theorem in_tup (x : D) (ys : List D) : inD x (.tup ys) = if (flatD x && ys.all flatD) = true then some (ys.any fun y => eqF y x) else none := by cases x <;> rfl
theorem q_eq (s t : String) : (Str.ofString s = Str.ofString t) = (s = t) := by
  refine propext ⟨fun h => ?_, fun h => by rw [h]⟩
  have e := congrArg (fun z : Str => z.cps.toList) h
  rw [show (Str.ofString s).cps.toList = s.toList.map Char.toNat from TL.tl_ofString s, show (Str.ofString t).cps.toList = t.toList.map Char.toNat from TL.tl_ofString t] at e
  have inj : ∀ (a b : List Char), a.map Char.toNat = b.map Char.toNat → a = b := by
    intro a
    induction a with
    | nil => intro b h; cases b with
      | nil => rfl
      | cons c r => cases h
    | cons c r ih => intro b h; cases b with
      | nil => cases h
      | cons d r2 =>
        rw [List.map_cons, List.map_cons] at h
        injection h with h1 h2
        rw [ih r2 h2, Char.ext (UInt32.toNat_inj.mp h1)]
  exact String.toList_inj.mp (inj _ _ e)
/-! statements -/
def seqO (r : Env → Option Out) : Out → Option Out
  | .nx s => r s
  | o => some o
@[simp] theorem seqO_nx (r : Env → Option Out) (s : Env) : seqO r (.nx s) = r s := rfl
@[simp] theorem seqO_rt (r : Env → Option Out) (d : D) (s : Env) : seqO r (.rt d s) = some (.rt d s) := rfl
@[simp] theorem seqO_bk (r : Env → Option Out) (s : Env) : seqO r (.bk s) = some (.bk s) := rfl
@[simp] theorem seqO_ct (r : Env → Option Out) (s : Env) : seqO r (.ct s) = some (.ct s) := rfl
@[simp] theorem exs_nil : exs F G [] s = some (.nx s) := by simp only [exs]
@[simp] theorem exs_cons (a : S) (r : List S) : exs F G (a :: r) s = (ex F G a s).bind (seqO (exs F G r)) := by
  simp only [exs]
  rfl
@[simp] theorem ex_set (i : Nat) (e : E) : ex F G (.set i e) s = (ev F G e s).map fun d => .nx (s.set i (.sh d)) := by simp only [ex]
def setoD (i : Nat) (s : Env) : D → Option Out
  | .lst xs => some (.nx (s.set i (.ow (.lst xs))))
  | .dcs ks vs => some (.nx (s.set i (.od ks vs)))
  | _ => none
@[simp] theorem setoD_dcs (i : Nat) (ks : List Str) (vs : List D) : setoD i s (.dcs ks vs) = some (.nx (s.set i (.od ks vs))) := rfl
@[simp] theorem setoD_lst (i : Nat) (xs : List D) : setoD i s (.lst xs) = some (.nx (s.set i (.ow (.lst xs)))) := rfl
@[simp] theorem ex_seto (i : Nat) (e : E) : ex F G (.seto i e) s = (ev F G e s).bind (setoD i s) := by
  simp only [ex]
  rfl
@[simp] theorem ex_unp (is : List Nat) (e : E) : ex F G (.unp is e) s = (ev F G e s).bind fun d => (tgD is d s).map .nx := by simp only [ex]
def augD (i : Nat) (o : B1) (s : Env) : D → D → Option Out
  | .int a, .int b => (binD o (.int a) (.int b)).map fun z => .nx (s.set i (.sh z))
  | _, _ => none
@[simp] theorem augD_int (i : Nat) (o : B1) (a b : Int) : augD i o s (.int a) (.int b) = (binD o (.int a) (.int b)).map fun z => .nx (s.set i (.sh z)) := rfl
@[simp] theorem ex_aug (i : Nat) (o : B1) (e : E) : ex F G (.aug i o e) s = ((s[i]?).bind Sl.shd).bind fun x => (ev F G e s).bind fun y => augD i o s x y := by
  simp only [ex]
  rfl
@[simp] theorem ex_expr (e : E) : ex F G (.expr e) s = (ev F G e s).map fun _ => .nx s := by simp only [ex]
def appD (i : Nat) (s : Env) : D → D → Option Out
  | .lst xs, d => if xs.length < sizeLine then some (.nx (s.set i (.ow (.lst (xs ++ [d]))))) else none
  | _, _ => none
@[simp] theorem appD_lst (i : Nat) (xs : List D) (d : D) : appD i s (.lst xs) d = if xs.length < sizeLine then some (.nx (s.set i (.ow (.lst (xs ++ [d]))))) else none := rfl
@[simp] theorem ex_app (i : Nat) (e : E) : ex F G (.app i e) s = ((s[i]?).bind Sl.own).bind fun x => (ev F G e s).bind fun d => appD i s x d := by
  simp only [ex]
  congr 1
  funext x
  cases x <;> rfl
def mthD (i : Nat) (s : Env) (m : OM) (xs : List D) : D → Option Out
  | .lst ds => (omD m ds xs).map fun r => .nx (s.set i (.ow (.lst r.1)))
  | _ => none
@[simp] theorem mthD_lst (i : Nat) (m : OM) (xs ds : List D) : mthD i s m xs (.lst ds) = (omD m ds xs).map fun r => .nx (s.set i (.ow (.lst r.1))) := rfl
@[simp] theorem ex_mth (i : Nat) (m : OM) (es : List E) : ex F G (.mth i m es) s = ((s[i]?).bind Sl.own).bind fun x => (evs F G es s).bind fun xs => mthD i s m xs x := by
  simp only [ex]
  rfl
def mthxD (j i : Nat) (s : Env) (m : OM) (xs : List D) : D → Option Out
  | .lst ds => (omD m ds xs).map fun r => .nx ((s.set i (.ow (.lst r.1))).set j (.sh r.2))
  | _ => none
@[simp] theorem mthxD_lst (j i : Nat) (m : OM) (xs ds : List D) : mthxD j i s m xs (.lst ds) = (omD m ds xs).map fun r => .nx ((s.set i (.ow (.lst r.1))).set j (.sh r.2)) := rfl
@[simp] theorem ex_mthx (j i : Nat) (m : OM) (es : List E) : ex F G (.mthx j i m es) s = ((s[i]?).bind Sl.own).bind fun x => (evs F G es s).bind fun xs => mthxD j i s m xs x := by
  simp only [ex]
  rfl
@[simp] theorem om_clear (ds : List D) : omD .clear ds [] = some ([], .non) := rfl
@[simp] theorem om_pop (ds : List D) : omD .pop ds [] = (ds[ds.length - 1]?).map fun d => (ds.dropLast, d) := rfl
@[simp] theorem om_reverse (ds : List D) : omD .reverse ds [] = some (ds.reverse, .non) := rfl
theorem om_insert (ds : List D) (i : Int) (d : D) (h : ds.length < 16777216) (h0 : 0 ≤ i) (h1 : i < 4611686018427387904) : omD .insert ds [.int i, d] = some (ds.take i.toNat ++ [d] ++ ds.drop i.toNat, .non) := if_pos ⟨h, h0, h1⟩
theorem om_extend (ds es : List D) (h : ds.length + es.length ≤ 16777216) : omD .extend ds [.lst es] = some (ds ++ es, .non) := if_pos h
def setsD (i : Nat) (s : Env) : D → D → D → Option Out
  | .lst xs, d, .int k => (L2.ixN xs.length k).map fun j => .nx (s.set i (.ow (.lst (xs.set j d))))
  | _, _, _ => none
@[simp] theorem setsD_lst (i : Nat) (xs : List D) (d : D) (k : Int) : setsD i s (.lst xs) d (.int k) = (L2.ixN xs.length k).map fun j => .nx (s.set i (.ow (.lst (xs.set j d)))) := rfl
@[simp] theorem ex_sets (i : Nat) (k e : E) : ex F G (.sets i k e) s = ((s[i]?).bind Sl.own).bind fun x => (ev F G e s).bind fun d => (ev F G k s).bind fun k => setsD i s x d k := by
  simp only [ex]
  congr 1
  funext x
  congr 1
  funext d
  congr 1
  funext z
  cases x <;> cases z <;> rfl
theorem om_extendT (ds es : List D) (h : ds.length + es.length ≤ 16777216) : omD .extend ds [.tup es] = some (ds ++ es, .non) := if_pos h
def setnD (i : Nat) (s : Env) : List D → Option Out
  | [] => some (.nx (s.set i (.on [])))
  | [.lst xs] => some (.nx (s.set i (.on [xs])))
  | _ => none
@[simp] theorem setnD_nil (i : Nat) : setnD i s [] = some (.nx (s.set i (.on []))) := rfl
@[simp] theorem setnD_one (i : Nat) (xs : List D) : setnD i s [.lst xs] = some (.nx (s.set i (.on [xs]))) := rfl
@[simp] theorem ex_newd (i : Nat) : ex F G (.newd i) s = some (.nx (s.set i (.od [] []))) := by simp only [ex]
def putdD (i : Nat) (s : Env) (d : List Str × List D) (v : D) : D → Option Out
  | .str k => if d.1.length < 16777216 then some (.nx (s.set i (.od (putL d.1 d.2 k v).1 (putL d.1 d.2 k v).2))) else none
  | _ => none
@[simp] theorem putdD_str (i : Nat) (ks : List Str) (vs : List D) (v : D) (k : Str) : putdD i s (ks, vs) v (.str k) = if ks.length < 16777216 then some (.nx (s.set i (.od (putL ks vs k v).1 (putL ks vs k v).2))) else none := rfl
@[simp] theorem ex_putd (i : Nat) (k e : E) : ex F G (.putd i k e) s = ((s[i]?).bind Sl.dic).bind fun d => (ev F G e s).bind fun v => (ev F G k s).bind (putdD i s d v) := by
  simp only [ex]
  rfl
@[simp] theorem ex_setn (i : Nat) (es : List E) : ex F G (.setn i es) s = (evs F G es s).bind (setnD i s) := by
  simp only [ex]
  rfl
def appnD (i : Nat) (s : Env) (xss : List (List D)) : D → Option Out
  | .lst xs => if xss.length < 16777216 then some (.nx (s.set i (.on (xss ++ [xs])))) else none
  | _ => none
@[simp] theorem appnD_lst (i : Nat) (xss : List (List D)) (xs : List D) : appnD i s xss (.lst xs) = if xss.length < 16777216 then some (.nx (s.set i (.on (xss ++ [xs])))) else none := rfl
@[simp] theorem ex_appn (i : Nat) (e : E) : ex F G (.appn i e) s = ((s[i]?).bind Sl.nst).bind fun xss => (ev F G e s).bind (appnD i s xss) := by
  simp only [ex]
  rfl
def appatD (i : Nat) (s : Env) (xss : List (List D)) (d : D) : D → Option Out
  | .int k => (L2.ixN xss.length k).bind fun j => (xss[j]?).bind fun xs => if xs.length < 16777216 then some (.nx (s.set i (.on (xss.set j (xs ++ [d]))))) else none
  | _ => none
@[simp] theorem appatD_int (i : Nat) (xss : List (List D)) (d : D) (k : Int) : appatD i s xss d (.int k) = (L2.ixN xss.length k).bind fun j => (xss[j]?).bind fun xs => if xs.length < 16777216 then some (.nx (s.set i (.on (xss.set j (xs ++ [d]))))) else none := rfl
@[simp] theorem ex_appat (i : Nat) (k e : E) : ex F G (.appat i k e) s = ((s[i]?).bind Sl.nst).bind fun xss => (ev F G k s).bind fun k => (ev F G e s).bind fun d => appatD i s xss d k := by
  simp only [ex]
  rfl
@[simp] theorem ex_popn (j i : Nat) : ex F G (.popn j i) s = ((s[i]?).bind Sl.nst).bind fun xss => (xss[xss.length - 1]?).map fun xs => .nx ((s.set i (.on xss.dropLast)).set j (.sh (.lst xs))) := by simp only [ex]
@[simp] theorem ex_popt (j i : Nat) : ex F G (.popt j i) s = ((s[i]?).bind Sl.nst).bind fun xss => (xss[xss.length - 1]?).map fun xs => .nx ((s.set i (.on xss.dropLast)).set j (.sh (.tup xs))) := by simp only [ex]
def apptpD (i j : Nat) (s : Env) (xss yss : List (List D)) (ys : List D) : D → Option Out
  | .int k => (L2.ixN xss.length k).bind fun l => (xss[l]?).bind fun xs => if xs.length < 16777216 then some (.nx ((s.set j (.on yss.dropLast)).set i (.on (xss.set l (xs ++ [.tup ys]))))) else none
  | _ => none
@[simp] theorem apptpD_int (i j : Nat) (xss yss : List (List D)) (ys : List D) (k : Int) : apptpD i j s xss yss ys (.int k) = (L2.ixN xss.length k).bind fun l => (xss[l]?).bind fun xs => if xs.length < 16777216 then some (.nx ((s.set j (.on yss.dropLast)).set i (.on (xss.set l (xs ++ [.tup ys]))))) else none := rfl
@[simp] theorem ex_apptp (i : Nat) (k : E) (j : Nat) : ex F G (.apptp i k j) s = ((s[i]?).bind Sl.nst).bind fun xss => (ev F G k s).bind fun k => ((s[j]?).bind Sl.nst).bind fun yss => (yss[yss.length - 1]?).bind fun ys => apptpD i j s xss yss ys k := by
  simp only [ex]
  rfl
@[simp] theorem ex_ret (e : E) : ex F G (.ret e) s = (ev F G e s).map fun d => .rt d s := by simp only [ex]
@[simp] theorem ex_reto (i : Nat) : ex F G (.reto i) s = ((s[i]?).bind Sl.rdv).map fun d => .rt d s := by simp only [ex]
@[simp] theorem ex_retn : ex F G .retn s = some (.rt .non s) := by simp only [ex]
@[simp] theorem ex_iff (c : E) (a b : List S) : ex F G (.iff c a b) s = (ev F G c s).bind fun k => ifD k (exs F G a s) (exs F G b s) := by
  simp only [ex]
  rfl
@[simp] theorem ex_whl (c : E) (b : List S) : ex F G (.whl c b) s = whlD (ev F G c) (exs F G b) fuel s := by simp only [ex]
@[simp] theorem ex_for (is : List Nat) (it : E) (b : List S) : ex F G (.for_ is it b) s = (ev F G it s).bind fun l => (itD l).bind fun xs => forD (tgD is) (exs F G b) xs s := by simp only [ex]
@[simp] theorem revD_lst (xs : List D) : revD (.lst xs) = some xs.reverse := rfl
@[simp] theorem ex_forv (is : List Nat) (it : E) (b : List S) : ex F G (.forv is it b) s = (ev F G it s).bind fun l => (revD l).bind fun xs => forD (tgD is) (exs F G b) xs s := by simp only [ex]
@[simp] theorem ex_forr (i : Nat) (es : List E) (b : List S) : ex F G (.forr i es b) s = (evs F G es s).bind fun l => (rngD l).bind fun xs => forD (tgD [i]) (exs F G b) xs s := by simp only [ex]
@[simp] theorem ex_brk : ex F G .brk s = some (.bk s) := by simp only [ex]
@[simp] theorem ex_cnt : ex F G .cnt s = some (.ct s) := by simp only [ex]
@[simp] theorem ex_pass : ex F G .pass s = some (.nx s) := by simp only [ex]
@[simp] theorem ex_share (i : Nat) : ex F G (.share i) s = ((s[i]?).bind Sl.rdv).map fun d => .nx (s.set i (.sh d)) := by simp only [ex]
@[simp] theorem it_tup (xs : List D) : itD (.tup xs) = some xs := rfl
@[simp] theorem it_lst (xs : List D) : itD (.lst xs) = some xs := rfl
@[simp] theorem it_str (z : Str) : itD (.str z) = some (z.cps.toList.map fun c => .str ⟨#[c]⟩) := rfl
@[simp] theorem it_fls (xs : List D) : itD (.fls xs) = some xs := rfl
@[simp] theorem tg_one (i : Nat) (d : D) : tgD [i] d s = some (s.set i (.sh d)) := rfl
@[simp] theorem wipe_one (i : Nat) : wipeE s [i] = s.set i .un := rfl
/-! loops -/
def nxO (k : Env → Option Out) : Out → Option Out
  | .nx s => k s
  | .ct s => k s
  | .bk s => some (.nx s)
  | .rt d s => some (.rt d s)
@[simp] theorem nxO_nx (k : Env → Option Out) (s : Env) : nxO k (.nx s) = k s := rfl
@[simp] theorem nxO_ct (k : Env → Option Out) (s : Env) : nxO k (.ct s) = k s := rfl
@[simp] theorem nxO_bk (k : Env → Option Out) (s : Env) : nxO k (.bk s) = some (.nx s) := rfl
@[simp] theorem nxO_rt (k : Env → Option Out) (d : D) (s : Env) : nxO k (.rt d s) = some (.rt d s) := rfl
@[simp] theorem forD_nil (t : D → Env → Option Env) (b : Env → Option Out) : forD t b [] s = some (.nx s) := rfl
theorem forD_cons (t : D → Env → Option Env) (b : Env → Option Out) (x : D) (xs : List D) : forD t b (x :: xs) s = (t x s).bind fun s1 => (b s1).bind (nxO (forD t b xs)) := by
  rfl
@[simp] theorem lcD_nil (f : D → Option (Option D)) : lcD f [] = some [] := rfl
def consO : Option D → List D → List D
  | some y, r => y :: r
  | none, r => r
@[simp] theorem lcD_cons (f : D → Option (Option D)) (x : D) (xs : List D) : lcD f (x :: xs) = (f x).bind fun y => (lcD f xs).map (consO y) := by
  rfl
@[simp] theorem consO_some (d : D) (r : List D) : consO (some d) r = d :: r := rfl
@[simp] theorem consO_none (r : List D) : consO none r = r := rfl
/-! calls -/
def ansO : Option Out → Option (D × List D)
  | some (.nx _) => some (.non, [])
  | some (.rt d _) => some (d, [])
  | _ => none
@[simp] theorem ansO_nx (s : Env) : ansO (some (.nx s)) = some (.non, []) := rfl
@[simp] theorem ansO_rt (d : D) (s : Env) : ansO (some (.rt d s)) = some (d, []) := rfl
@[simp] theorem ansO_ite (c : Prop) [Decidable c] (x y : Option Out) : ansO (if c then x else y) = if c then ansO x else ansO y := by split <;> rfl
theorem call_of {T : Tab} {n f : Nat} {fi : Fn} {xs : List D} (h : T f = some fi) (hl : (xs ++ fi.dfl).length = fi.ps) : call T G (n + 1) f xs = ansO (exs (call T G n) G fi.body (fi.start (xs ++ fi.dfl))) := by
  show (T f).bind _ = _
  rw [h, Option.bind_some, if_pos hl]
  cases exs (call T G n) G fi.body (fi.start (xs ++ fi.dfl)) with
  | none => rfl
  | some o => cases o <;> rfl
@[simp] theorem sizeLine_lit : sizeLine = 16777216 := by decide
@[simp] theorem pow_lit (a b : Int) (h1 : 0 ≤ b) (h2 : b ≤ 1000000) (h3 : -18446744073709551616 < a) (h4 : a < 18446744073709551616) : binD .pow (.int a) (.int b) = some (.int (a ^ b.toNat)) := by
  simp only [binD]
  split
  · rfl
  · rename_i h
    omega
theorem rng_lit (m : Int) (h : 0 ≤ m) (h2 : m < 1000000) : rngD [.int m] = some ((List.range m.toNat).map fun (k : Nat) => D.int (k : Int)) := by
  simp only [rngD]
  split
  · rfl
  · rename_i h
    omega
theorem rng_nat (m : Nat) (h : m < 1000000) : rngD [.int (m : Int)] = some ((List.range m).map fun (k : Nat) => D.int (k : Int)) := by
  rw [rng_lit _ (by omega) (by omega), Int.toNat_natCast]
theorem forD_inv {t : D → PL.Env → Option PL.Env} {b : PL.Env → Option Out} (P : Nat → PL.Env → Prop) : ∀ (xs : List D) (k : Nat) (s : PL.Env), P k s →
    (∀ i s x, i < xs.length → xs[i]? = some x → P (k + i) s → ∃ s1 s2, t x s = some s1 ∧ (b s1 = some (.nx s2) ∨ b s1 = some (.ct s2)) ∧ P (k + i + 1) s2) → ∃ s', forD t b xs s = some (.nx s') ∧ P (k + xs.length) s'
  | [], k, s, h, _ => ⟨s, rfl, h⟩
  | x :: xs, k, s, h, hs => by
    obtain ⟨s1, s2, h1, h2, h3⟩ := hs 0 s x (Nat.succ_pos _) rfl h
    obtain ⟨s', e, p⟩ := forD_inv P xs (k + 1) s2 h3 fun i s y hi hy q => by
      have := hs (i + 1) s y (Nat.succ_lt_succ hi) (by simpa using hy) (by rw [← Nat.add_assoc, Nat.add_right_comm]; exact q)
      rw [show k + 1 + i + 1 = k + (i + 1) + 1 by omega]
      exact this
    refine ⟨s', ?_, by rw [List.length_cons, show k + (xs.length + 1) = k + 1 + xs.length by omega]; exact p⟩
    rw [forD_cons, h1]
    rcases h2 with h2 | h2 <;> simp [h2, e]
/-- going on -/
def toNx (P : Env → Prop) : Option Out → Prop
  | some (.nx s) => P s
  | some (.ct s) => P s
  | _ => False
@[simp] theorem toNx_nx (P : Env → Prop) (s : Env) : toNx P (some (.nx s)) = P s := rfl
@[simp] theorem toNx_ct (P : Env → Prop) (s : Env) : toNx P (some (.ct s)) = P s := rfl
@[simp] theorem toNx_ite (P : Env → Prop) (c : Prop) [Decidable c] (x y : Option Out) : toNx P (if c then x else y) = if c then toNx P x else toNx P y := by split <;> rfl
theorem for_inv {t : D → PL.Env → Option PL.Env} {b : PL.Env → Option Out} (P : Nat → PL.Env → Prop) (xs : List D) (s : PL.Env) (h : P 0 s)
    (hs : ∀ i s x, i < xs.length → xs[i]? = some x → P i s → toNx (P (i + 1)) ((t x s).bind b)) : ∃ s', forD t b xs s = some (.nx s') ∧ P xs.length s' := by
  have := forD_inv (t := t) (b := b) P xs 0 s h fun i s x hi hx hp => by
    rw [Nat.zero_add] at *
    have r := hs i s x hi hx hp
    cases ht : t x s with
    | none =>
      rw [ht] at r
      exact r.elim
    | some s1 =>
      rw [ht, Option.bind_some] at r
      cases hb : b s1 with
      | none =>
        rw [hb] at r
        exact r.elim
      | some o =>
        rw [hb] at r
        cases o with
        | nx s2 => exact ⟨s1, s2, rfl, Or.inl hb, r⟩
        | ct s2 => exact ⟨s1, s2, rfl, Or.inr hb, r⟩
        | bk s2 => exact r.elim
        | rt d s2 => exact r.elim
  rwa [Nat.zero_add] at this
/-- a loop of numbers -/
theorem for_rng {t : D → PL.Env → Option PL.Env} {b : PL.Env → Option Out} (P : Nat → PL.Env → Prop) (m : Nat) (s : PL.Env) (h : P 0 s)
    (hs : ∀ i s, i < m → P i s → toNx (P (i + 1)) ((t (.int (i : Int)) s).bind b)) : ∃ s', forD t b ((List.range m).map fun (k : Nat) => D.int (k : Int)) s = some (.nx s') ∧ P m s' := by
  have := for_inv (t := t) (b := b) P ((List.range m).map fun (k : Nat) => D.int (k : Int)) s h fun i s x hi hx hp => by
    rw [List.length_map, List.length_range] at hi
    rw [List.getElem?_map, List.getElem?_range hi] at hx
    have hx := Option.some.inj hx
    subst hx
    exact hs i s hi hp
  rwa [List.length_map, List.length_range] at this
/-- a loop over written data -/
theorem for_all {t : D → PL.Env → Option PL.Env} {b : PL.Env → Option Out} (P : PL.Env → Prop) (xs : List D) (s : PL.Env) (h : P s)
    (hs : ∀ s x, x ∈ xs → P s → toNx P ((t x s).bind b)) : ∃ s', forD t b xs s = some (.nx s') ∧ P s' :=
  for_inv (fun _ => P) xs s h fun _ s x _ hx hp => hs s x (List.mem_of_getElem? hx) hp
/-- a call answers -/
def toA (P : D → Prop) : Option (D × List D) → Prop
  | some (d, []) => P d
  | _ => False
@[simp] theorem toA_some (P : D → Prop) (d : D) : toA P (some (d, [])) = P d := rfl
@[simp] theorem toA_ite (P : D → Prop) (c : Prop) [Decidable c] (x y : Option (D × List D)) : toA P (if c then x else y) = if c then toA P x else toA P y := by split <;> rfl
theorem toA_get {P : D → Prop} {r : Option (D × List D)} (h : toA P r) : ∃ d, r = some (d, []) ∧ P d := by
  unfold toA at h
  split at h
  · exact ⟨_, rfl, h⟩
  · exact h.elim
end PL

namespace LW
open PySem PL
abbrev q (s : String) : Str := Str.ofString s
abbrev k_touched : Nat := 0
abbrev k_least_meeting : Nat := 1
abbrev k_meeting : Nat := 2
abbrev k_law_cell : Nat := 3
abbrev k_law_draws : Nat := 4
abbrev k_law_names : Nat := 5
abbrev k_law_touch : Nat := 6
abbrev k_law_touches : Nat := 7
abbrev k_law_things : Nat := 8
abbrev k_law_due : Nat := 9
abbrev k_law_right : Nat := 10
abbrev k_law : Nat := 11
def b_touched_0 : List S := [.putd 1 (.ix (.var 2) (.c (.int 0))) (.orr (.cmp .eq (.ix (.var 2) (.c (.int 2))) (.c (.str (q "change")))) (.dget 1 (.ix (.var 2) (.c (.int 0))) (.c (.bl false))))]
/-- touched -/
def f_touched : Fn := ⟨(q "touched"), [(q "touches"), (q "things"), (q "touch")], 1, [], true, [
    .newd 1,
    .for_ [2] (.var 0) b_touched_0,
    .reto 1]⟩
/-- least_meeting -/
def f_least_meeting : Fn := ⟨(q "least_meeting"), [(q "first"), (q "second"), (q "things"), (q "thing")], 2, [], true, [
    .set 2 (.lcd [3] 0 (.an (.cmp .isin (.var 3) (.var 1)) (.orr (.ix (.var 0) (.var 3)) (.ix (.var 1) (.var 3)))) (.var 3)),
    .ret (.mind (.var 2))]⟩
/-- meeting -/
def f_meeting : Fn := ⟨(q "meeting"), [(q "first"), (q "second")], 2, [], true, [
    .ret (.call k_least_meeting [(.call k_touched [(.var 0)]), (.call k_touched [(.var 1)])])]⟩
/-- _law_cell -/
def f_law_cell : Fn := ⟨(q "_law_cell"), [(q "_law_script"), (q "_law_k")], 2, [], false, [
    .iff (.cmp .lt (.var 1) (.bi .len [(.var 0)])) [.ret (.ix (.var 0) (.var 1))] [],
    .ret (.c (.int 0))]⟩
def b_law_draws_0 : List S := [.iff (.an (.var 4) (.cmp .gt (.var 3) (.c (.int 0)))) [.app 2 (.bin .mod (.bi .int_ [(.var 3)]) (.c (.int 1000))), .set 3 (.bin .fdiv (.var 3) (.c (.int 1000)))] [.set 6 (.bin .mod (.bi .int_ [(.bin .add (.bin .add (.bi .abs [(.var 0)]) (.bin .mul (.c (.int 7919)) (.var 5))) (.c (.int 13)))]) (.c (.int 2147483647))), .set 6 (.bin .mod (.bi .int_ [(.bin .mul (.var 6) (.bin .add (.var 6) (.c (.int 48271))))]) (.c (.int 2147483629))), .set 6 (.bin .mod (.bi .int_ [(.bin .add (.bin .mul (.var 6) (.bin .add (.var 6) (.c (.int 69621)))) (.bin .mul (.c (.int 31)) (.var 5)))]) (.c (.int 2147483647))), .app 2 (.bin .mod (.bi .int_ [(.bin .fdiv (.var 6) (.c (.int 9)))]) (.c (.int 1000)))]]
/-- _law_draws -/
def f_law_draws : Fn := ⟨(q "_law_draws"), [(q "_law_cell_here"), (q "_law_many"), (q "_law_drawn"), (q "_law_rest"), (q "_law_digits"), (q "_law_k"), (q "_law_mixed")], 2, [], true, [
    .seto 2 (.lst []),
    .set 3 (.bi .abs [(.var 0)]),
    .set 4 (.cmp .ge (.var 3) (.bin .pow (.c (.int 10)) (.c (.int 18)))),
    .forr 5 [(.var 1)] b_law_draws_0,
    .reto 2]⟩
/-- _law_names -/
def f_law_names : Fn := ⟨(q "_law_names"), [(q "_law_draw"), (q "_law_other"), (q "_law_pool"), (q "_law_steps"), (q "_law_step"), (q "_law_k")], 2, [], true, [
    .set 2 (.lst [(.c (.str (q "a"))), (.c (.str (q "a1"))), (.c (.str (q "b2"))), (.c (.str (q "bob"))), (.c (.str (q "a10"))), (.c (.str (q "a9"))), (.c (.str (q "door"))), (.c (.str (q "e"))), (.c (.str (q "fox"))), (.c (.str (q "g7"))), (.c (.str (q "hill"))), (.c (.str (q "ivy"))), (.c (.str (q "jam"))), (.c (.str (q "key"))), (.c (.str (q "lake"))), (.c (.str (q "moon"))), (.c (.str (q "nut"))), (.c (.str (q "oak"))), (.c (.str (q "pear"))), (.c (.str (q "quay"))), (.c (.str (q "rose"))), (.c (.str (q "sun"))), (.c (.str (q "tree"))), (.c (.str (q "urn"))), (.c (.str (q "vine"))), (.c (.str (q "well"))), (.c (.str (q "x"))), (.c (.str (q "yew"))), (.c (.str (q "zoe"))), (.c (.str (q "twelvesigns1")))]),
    .set 3 (.lst [(.c (.int 1)), (.c (.int 7)), (.c (.int 11)), (.c (.int 13)), (.c (.int 17)), (.c (.int 19)), (.c (.int 23)), (.c (.int 29))]),
    .set 4 (.ix (.var 3) (.bin .mod (.bi .int_ [(.var 1)]) (.c (.int 8)))),
    .ret (.lcr 5 [(.c (.int 30))] (.c (.bl true)) (.ix (.var 2) (.bin .mod (.bi .int_ [(.bin .add (.var 0) (.bin .mul (.var 4) (.var 5)))]) (.c (.int 30)))))]⟩
/-- _law_touch -/
def f_law_touch : Fn := ⟨(q "_law_touch"), [(q "_law_thing"), (q "_law_number"), (q "_law_changes"), (q "_law_draw"), (q "_law_kind"), (q "_law_worth"), (q "_law_menu"), (q "_law_deeds")], 5, [], true, [
    .set 5 (.bin .mod (.bi .int_ [(.var 3)]) (.c (.int 50))),
    .set 6 (.dsp [(q "value"), (q "stand"), (q "line"), (q "store"), (q "gate"), (q "wheel")] [(.lst [(.tup [(.c (.str (q "look"))), (.tup []), (.var 5)]), (.tup [(.c (.str (q "set"))), (.tup [(.var 5)]), (.c (.non))]), (.tup [(.c (.str (q "set"))), (.tup [(.var 5)]), (.c (.non))])]), (.lst [(.tup [(.c (.str (q "stand"))), (.tup []), (.c (.int 2))]), (.tup [(.c (.str (q "wake"))), (.tup [(.c (.int 0)), (.c (.int 0))]), (.c (.int 0))]), (.tup [(.c (.str (q "wake"))), (.tup [(.c (.int 0)), (.c (.int 0))]), (.c (.int 1))])]), (.lst [(.tup [(.c (.str (q "first"))), (.tup []), (.var 5)]), (.tup [(.c (.str (q "length"))), (.tup []), (.c (.int 2))]), (.tup [(.c (.str (q "put"))), (.tup [(.var 5)]), (.c (.int 1))])]), (.lst [(.tup [(.c (.str (q "waiting"))), (.tup []), (.c (.int 0))]), (.tup [(.c (.str (q "spare"))), (.tup []), (.c (.int 1))]), (.tup [(.c (.str (q "seize"))), (.tup [(.c (.int 1))]), (.c (.int 1))])]), (.lst [(.tup [(.c (.str (q "isopen"))), (.tup []), (.c (.int 1))]), (.tup [(.c (.str (q "waiting"))), (.tup []), (.c (.int 0))]), (.tup [(.c (.str (q "shut"))), (.tup []), (.c (.non))])]), (.lst [(.tup [(.c (.str (q "take"))), (.tup []), (.c (.int 0))]), (.tup [(.c (.str (q "take"))), (.tup []), (.c (.int 0))]), (.tup [(.c (.str (q "take"))), (.tup []), (.c (.int 0))])])]),
    .set 7 (.ix (.var 6) (.var 4)),
    .iff (.var 2) [.ret (.bin .add (.tup [(.var 0), (.var 1), (.c (.str (q "change")))]) (.ix (.var 7) (.c (.int 2))))] [],
    .ret (.bin .add (.tup [(.var 0), (.var 1), (.c (.str (q "look")))]) (.ix (.var 7) (.bin .mod (.bi .int_ [(.bin .fdiv (.var 3) (.c (.int 50)))]) (.c (.int 2)))))]⟩
def b_law_touches_0 : List S := [.set 8 (.bin .mod (.bi .int_ [(.ix (.var 2) (.bin .mul (.c (.int 2)) (.var 7)))]) (.bi .len [(.var 0)])), .set 9 (.cmp .lt (.bin .mod (.bi .int_ [(.ix (.var 2) (.bin .add (.bin .mul (.c (.int 2)) (.var 7)) (.c (.int 1))))]) (.c (.int 4))) (.var 4)), .sets 5 (.var 8) (.bin .add (.ix (.rd 5) (.var 8)) (.bi .int_ [(.var 9)])), .app 6 (.call k_law_touch [(.ix (.ix (.var 0) (.var 8)) (.c (.int 0))), (.ix (.rd 5) (.var 8)), (.var 9), (.bin .fdiv (.ix (.var 2) (.bin .add (.bin .mul (.c (.int 2)) (.var 7)) (.c (.int 1)))) (.c (.int 4))), (.ix (.ix (.var 0) (.var 8)) (.c (.int 1)))])]
/-- _law_touches -/
def f_law_touches : Fn := ⟨(q "_law_touches"), [(q "_law_things_here"), (q "_law_counts"), (q "_law_draws_here"), (q "_law_many"), (q "_law_share"), (q "_law_numbers"), (q "_law_touches_here"), (q "_law_k"), (q "_law_at"), (q "_law_changes")], 5, [], true, [
    .seto 5 (.bi .list_ [(.var 1)]),
    .seto 6 (.lst []),
    .forr 7 [(.var 3)] b_law_touches_0,
    .ret (.bi .tuple_ [(.rd 6)])]⟩
/-- _law_things -/
def f_law_things : Fn := ⟨(q "_law_things"), [(q "_law_n"), (q "_law_turn"), (q "_law_some"), (q "_law_things_here")], 3, [], true, [
    .set 3 (.lst [(.lst [(.ix (.var 0) (.c (.int 0))), (.c (.str (q "value")))]), (.lst [(.ix (.var 0) (.c (.int 1))), (.c (.str (q "stand")))]), (.lst [(.bin .add (.bin .add (.ix (.var 0) (.c (.int 1))) (.c (.str (q ":")))) (.ix (.var 0) (.c (.int 2)))), (.c (.str (q "value")))]), (.lst [(.ix (.var 0) (.c (.int 8))), (.c (.str (q "line")))]), (.lst [(.bin .add (.ix (.var 0) (.c (.int 1))) (.c (.str (q ".1")))), (.c (.str (q "stand")))]), (.lst [(.ix (.var 0) (.c (.int 3))), (.c (.str (q "value")))]), (.lst [(.ix (.var 0) (.c (.int 9))), (.c (.str (q "store")))]), (.lst [(.bin .add (.bin .add (.ix (.var 0) (.c (.int 1))) (.c (.str (q ".1:")))) (.ix (.var 0) (.c (.int 2)))), (.c (.str (q "value")))]), (.lst [(.ix (.var 0) (.c (.int 4))), (.c (.str (q "stand")))]), (.lst [(.ix (.var 0) (.c (.int 10))), (.c (.str (q "gate")))]), (.lst [(.ix (.var 0) (.c (.int 5))), (.c (.str (q "value")))]), (.lst [(.bin .add (.bin .add (.ix (.var 0) (.c (.int 4))) (.c (.str (q ":")))) (.ix (.var 0) (.c (.int 6)))), (.c (.str (q "value")))]), (.lst [(.ix (.var 0) (.c (.int 11))), (.c (.str (q "wheel")))]), (.lst [(.bin .add (.ix (.var 0) (.c (.int 1))) (.c (.str (q ".1.2")))), (.c (.str (q "stand")))]), (.lst [(.ix (.var 0) (.c (.int 7))), (.c (.str (q "value")))]), (.lst [(.bin .add (.bin .add (.ix (.var 0) (.c (.int 4))) (.c (.str (q ":")))) (.ix (.var 0) (.c (.int 2)))), (.c (.str (q "value")))])]),
    .ret (.sl (.bin .add (.sl (.var 3) (.var 1) .nohi) (.sl (.var 3) .nohi (.var 1))) .nohi (.var 2))]⟩
def b_law_due_0 : List S := [.set 3 (.lc [5] (.var 1) (.cmp .eq (.ix (.var 5) (.c (.int 0))) (.var 2)) (.var 5)), .set 4 (.bin .add (.var 3) (.lc [5] (.var 0) (.cmp .eq (.ix (.var 5) (.c (.int 0))) (.var 2)) (.var 5))), .iff (.an (.cmp .gt (.bi .len [(.var 3)]) (.c (.int 0))) (.cmp .gt (.bi .len [(.lc [5] (.var 4) (.cmp .eq (.ix (.var 5) (.c (.int 2))) (.c (.str (q "change")))) (.var 5))]) (.c (.int 0)))) [.ret (.var 2)] []]
/-- _law_due -/
def f_law_due : Fn := ⟨(q "_law_due"), [(q "_law_first"), (q "_law_second"), (q "_law_thing"), (q "_law_there"), (q "_law_both"), (q "_law_touch_here")], 2, [], false, [
    .for_ [2] (.bi .sorted_ [(.lc [5] (.var 0) (.c (.bl true)) (.ix (.var 5) (.c (.int 0))))]) b_law_due_0,
    .ret (.c (.non))]⟩
/-- _law_right -/
def f_law_right : Fn := ⟨(q "_law_right"), [(q "_law_first"), (q "_law_second"), (q "_law_told"), (q "_law_due_here")], 2, [], true, [
    .set 2 (.call k_meeting [(.var 0), (.var 1)]),
    .set 3 (.call k_law_due [(.var 0), (.var 1)]),
    .iff (.cmp .is_ (.var 3) (.c (.non))) [.ret (.cmp .is_ (.var 2) (.c (.non)))] [],
    .ret (.an (.bi .isstr [(.var 2)]) (.cmp .eq (.var 2) (.var 3)))]⟩
def b_law_0 : List S := [.iff (.nt (.call k_law_right [(.var 11), (.var 12)])) [.ret (.c (.bl false))] []]
/-- law -/
def f_law : Fn := ⟨(q "law"), [(q "_law_script"), (q "_law_draws_here"), (q "_law_n"), (q "_law_things_here"), (q "_law_counts"), (q "_law_many"), (q "_law_share"), (q "_law_first"), (q "_law_second"), (q "_law_half"), (q "_law_pairs"), (q "_law_one"), (q "_law_other"), (q "_law_k")], 1, [], true, [
    .set 1 (.call k_law_draws [(.call k_law_cell [(.var 0), (.c (.int 0))]), (.c (.int 22))]),
    .set 2 (.call k_law_names [(.ix (.var 1) (.c (.int 0))), (.ix (.var 1) (.c (.int 1)))]),
    .set 3 (.call k_law_things [(.var 2), (.bin .mod (.bi .int_ [(.ix (.var 1) (.c (.int 2)))]) (.c (.int 16))), (.bin .add (.c (.int 2)) (.bin .mod (.bi .int_ [(.ix (.var 1) (.c (.int 3)))]) (.c (.int 15))))]),
    .set 4 (.lcr 13 [(.c (.int 16))] (.c (.bl true)) (.bin .mod (.bi .int_ [(.ix (.var 1) (.bin .add (.c (.int 6)) (.var 13)))]) (.c (.int 3)))),
    .set 5 (.bin .add (.bin .mod (.bi .int_ [(.ix (.var 1) (.c (.int 4)))]) (.c (.int 9))) (.bin .mul (.c (.int 32)) (.bi .int_ [(.cmp .eq (.bin .mod (.bi .int_ [(.bin .fdiv (.ix (.var 1) (.c (.int 4))) (.c (.int 9)))]) (.c (.int 4))) (.c (.int 1)))]))),
    .set 6 (.ix (.lst [(.c (.int 0)), (.c (.int 1)), (.c (.int 2)), (.c (.int 4))]) (.bin .mod (.bi .int_ [(.bin .fdiv (.ix (.var 1) (.c (.int 4))) (.c (.int 36)))]) (.c (.int 4)))),
    .set 7 (.call k_law_touches [(.var 3), (.var 4), (.call k_law_draws [(.call k_law_cell [(.var 0), (.c (.int 1))]), (.c (.int 80))]), (.var 5), (.var 6)]),
    .set 5 (.bin .add (.bin .mod (.bi .int_ [(.ix (.var 1) (.c (.int 5)))]) (.c (.int 9))) (.bin .mul (.c (.int 32)) (.bi .int_ [(.cmp .eq (.bin .mod (.bi .int_ [(.bin .fdiv (.ix (.var 1) (.c (.int 5))) (.c (.int 9)))]) (.c (.int 4))) (.c (.int 1)))]))),
    .set 6 (.ix (.lst [(.c (.int 0)), (.c (.int 1)), (.c (.int 2)), (.c (.int 4))]) (.bin .mod (.bi .int_ [(.bin .fdiv (.ix (.var 1) (.c (.int 5))) (.c (.int 36)))]) (.c (.int 4)))),
    .set 8 (.call k_law_touches [(.var 3), (.var 4), (.call k_law_draws [(.call k_law_cell [(.var 0), (.c (.int 2))]), (.c (.int 80))]), (.var 5), (.var 6)]),
    .set 9 (.bin .fdiv (.bi .len [(.var 7)]) (.c (.int 2))),
    .set 10 (.lst [(.tup [(.var 7), (.var 8)]), (.tup [(.var 8), (.var 7)]), (.tup [(.var 7), (.var 7)]), (.tup [(.var 8), (.var 8)]), (.tup [(.var 7), (.tup [])]), (.tup [(.tup []), (.var 8)]), (.tup [(.tup []), (.tup [])]), (.tup [(.sl (.var 7) .nohi (.var 9)), (.var 8)]), (.tup [(.var 8), (.sl (.var 7) (.var 9) .nohi)]), (.tup [(.sl (.var 7) (.var 9) .nohi), (.sl (.var 7) .nohi (.var 9))]), (.tup [(.var 7), (.var 8)]), (.tup [(.var 8), (.var 7)])]),
    .for_ [11, 12] (.var 10) b_law_0,
    .ret (.c (.bl true))]⟩
def fns : List Fn := [f_touched, f_least_meeting, f_meeting, f_law_cell, f_law_draws, f_law_names, f_law_touch, f_law_touches, f_law_things, f_law_due, f_law_right, f_law]
def gls : List (Str × D) := []
def T : Tab := fun i => fns[i]?
def G : Nat → Option D := fun i => (gls[i]?).map (·.2)
theorem T_touched : T k_touched = some f_touched := rfl
theorem T_least_meeting : T k_least_meeting = some f_least_meeting := rfl
theorem T_meeting : T k_meeting = some f_meeting := rfl
theorem T_law_cell : T k_law_cell = some f_law_cell := rfl
theorem T_law_draws : T k_law_draws = some f_law_draws := rfl
theorem T_law_names : T k_law_names = some f_law_names := rfl
theorem T_law_touch : T k_law_touch = some f_law_touch := rfl
theorem T_law_touches : T k_law_touches = some f_law_touches := rfl
theorem T_law_things : T k_law_things = some f_law_things := rfl
theorem T_law_due : T k_law_due = some f_law_due := rfl
theorem T_law_right : T k_law_right = some f_law_right := rfl
theorem T_law : T k_law = some f_law := rfl

end LW

namespace LW
open PySem PL
theorem c_cell (n : Nat) (ns : List Int) (k : Nat) : call T G (n + 1) k_law_cell [.fls (ns.map .int), .int k] = some (.int (ns.getD k 0), []) := by
  rw [call_of T_law_cell rfl]
  simp -implicitDefEqProofs only [bindS, mapS, bindN, mapN, ifD_bl, bind_ite', map_ite', ev_c, ev_var, ev_rd, glD_non, glD_bl, glD_int, glD_str, glD_tup, ev_gl, ev_dgT, ev_dix, ev_tix, getT_two, getS_str, ev_tup, ev_lst, ev_bin, ev_dsp, ev_dget, ev_mind, keyD_dcs, negD_int, ev_neg, notD_bl, ev_nt, ev_cmp, ev_chain, ev_an, ev_orr, ev_ife, ev_ix, ev_sl, isNo_nohi, isNo_c, isNo_var, isNo_bin, isNo_neg, isNo_bi, isNo_ix, isNo_call, isNo_me, endD_int, noIo_nil, ev_call, clocD_fn, ev_cloc, noIoL_nil, ev_callb, ev_bi, ev_lc, ev_lcd, ev_lcr, nst_on, rdnD_int, ev_rdn, ev_lenn, revlD_lst, ev_revl, ev_lrg, dic_od, ev_tvals, evs_nil, evs_cons, shd_sh, own_ow, rdv_ow, rdv_od, add_int, sub_int, mod_pos, fdiv_pos, lt_int, le_int, gt_int, ge_int, lt_str, le_str, gt_str, ge_str, is_non_non, is_bl_bl, is_int_non, is_str_non, is_tup_non, is_lst_non, is_bl_non, isnot_bl_bl, isnot_non_non, isnot_int_non, isnot_str_non, isnot_tup_non, isnot_lst_non, isnot_bl_non, cmp_eq, cmp_ne, eq_int, eq_str, eq_bl, eq_non, eq_int_str, eq_str_int, eq_non_str, eq_str_non, eq_non_int, eq_int_non, len_tup, len_lst, len_fls, abs_int, int_int, int_bl, tuple_lst, tuple_tup, list_lst, list_tup, max_int, min_int, list_dcs, isdct_dcs, isint_int, isint_bl, isint_str, isint_tup, isint_lst, isint_non, isbool_int, isbool_bl, isbool_str, isbool_tup, isbool_lst, isbool_non, isstr_int, isstr_bl, isstr_str, isstr_tup, isstr_lst, isstr_non, istuple_int, istuple_bl, istuple_str, istuple_tup, istuple_lst, istuple_non, islist_int, islist_bl, islist_str, islist_tup, islist_lst, islist_non, ix_dcs, in_dcs, ix_tup, ix_lsts, atI_0, atI_1, atI_2, atI_3, atI_4, atI_5, atI_6, atI_7, atI_8, atI_9, atI_10, atI_11, atI_12, ix_fls, ev_me, sl_lst, sl_tup, cmp_isin, cmp_notin, flat_str, flat_int, flat_bl, flat_non, eqF_str, in_tup, seqO_nx, seqO_rt, seqO_bk, seqO_ct, exs_nil, exs_cons, ex_set, setoD_dcs, setoD_lst, ex_seto, ex_unp, augD_int, ex_aug, ex_expr, appD_lst, ex_app, mthD_lst, ex_mth, mthxD_lst, ex_mthx, om_clear, om_pop, om_reverse, setsD_lst, ex_sets, setnD_nil, setnD_one, ex_newd, putdD_str, ex_putd, ex_setn, appnD_lst, ex_appn, appatD_int, ex_appat, ex_popn, ex_popt, apptpD_int, ex_apptp, ex_ret, ex_reto, ex_retn, ex_iff, ex_whl, ex_for, revD_lst, ex_forv, ex_forr, ex_brk, ex_cnt, ex_pass, ex_share, it_tup, it_lst, it_str, it_fls, tg_one, wipe_one, nxO_nx, nxO_ct, nxO_bk, nxO_rt, forD_nil, lcD_nil, lcD_cons, consO_some, consO_none, ansO_nx, ansO_rt, ansO_ite, sizeLine_lit, pow_lit, toNx_nx, toNx_ct, toNx_ite, toA_some, toA_ite, List.getElem?_cons_zero, List.getElem?_cons_succ, List.getElem?_nil, List.set_cons_zero, List.set_cons_succ, List.set_nil, List.length_cons, List.length_nil, List.length_map, List.length_append, List.length_range, List.length_replicate, List.map_cons, List.map_nil, List.cons_append, List.nil_append, List.append_nil, List.replicate_succ, List.replicate_zero, Nat.reduceAdd, Nat.reduceSub, Nat.reduceMul, Nat.reduceLT, Nat.reduceLeDiff, Nat.reduceEqDiff, Nat.reduceMod, Nat.reduceDiv, Nat.reducePow, Int.reduceAdd, Int.reduceSub, Int.reduceMul, Int.reduceNeg, Int.reduceLT, Int.reduceLE, Int.reduceGT, Int.reduceGE, Int.reduceEq, Int.reduceNe, Int.reduceMod, Int.reduceDiv, Int.reducePow, Int.reduceToNat, Nat.add_zero, Nat.zero_add, Nat.sub_zero, Nat.zero_le, Nat.lt_irrefl, ite_true, ite_false, Bool.not_true, Bool.not_false, Bool.true_and, Bool.false_and, Bool.and_true, Bool.and_false, Bool.true_or, Bool.false_or, Bool.or_true, Bool.or_false, Bool.false_eq_true, Bool.true_eq_false, decide_true, decide_false, decide_eq_true_eq, Bool.not_eq_true', Bool.not_eq_false', decide_eq_false_iff_not, decide_not, not_true_eq_false, not_false_eq_true, and_true, true_and, and_false, false_and, or_true, true_or, or_false, false_or, and_self, or_self, if_true, if_false, reduceCtorEq, Fn.start, Int.cast_ofNat_Int, List.all_cons, List.all_nil, List.any_cons, List.any_nil, f_law_cell, atI_nat', List.getElem?_map]
  by_cases h : k < ns.length
  · rw [if_pos (by omega)]
    simp -implicitDefEqProofs only [bindS, mapS, bindN, mapN, ifD_bl, bind_ite', map_ite', ev_c, ev_var, ev_rd, glD_non, glD_bl, glD_int, glD_str, glD_tup, ev_gl, ev_dgT, ev_dix, ev_tix, getT_two, getS_str, ev_tup, ev_lst, ev_bin, ev_dsp, ev_dget, ev_mind, keyD_dcs, negD_int, ev_neg, notD_bl, ev_nt, ev_cmp, ev_chain, ev_an, ev_orr, ev_ife, ev_ix, ev_sl, isNo_nohi, isNo_c, isNo_var, isNo_bin, isNo_neg, isNo_bi, isNo_ix, isNo_call, isNo_me, endD_int, noIo_nil, ev_call, clocD_fn, ev_cloc, noIoL_nil, ev_callb, ev_bi, ev_lc, ev_lcd, ev_lcr, nst_on, rdnD_int, ev_rdn, ev_lenn, revlD_lst, ev_revl, ev_lrg, dic_od, ev_tvals, evs_nil, evs_cons, shd_sh, own_ow, rdv_ow, rdv_od, add_int, sub_int, mod_pos, fdiv_pos, lt_int, le_int, gt_int, ge_int, lt_str, le_str, gt_str, ge_str, is_non_non, is_bl_bl, is_int_non, is_str_non, is_tup_non, is_lst_non, is_bl_non, isnot_bl_bl, isnot_non_non, isnot_int_non, isnot_str_non, isnot_tup_non, isnot_lst_non, isnot_bl_non, cmp_eq, cmp_ne, eq_int, eq_str, eq_bl, eq_non, eq_int_str, eq_str_int, eq_non_str, eq_str_non, eq_non_int, eq_int_non, len_tup, len_lst, len_fls, abs_int, int_int, int_bl, tuple_lst, tuple_tup, list_lst, list_tup, max_int, min_int, list_dcs, isdct_dcs, isint_int, isint_bl, isint_str, isint_tup, isint_lst, isint_non, isbool_int, isbool_bl, isbool_str, isbool_tup, isbool_lst, isbool_non, isstr_int, isstr_bl, isstr_str, isstr_tup, isstr_lst, isstr_non, istuple_int, istuple_bl, istuple_str, istuple_tup, istuple_lst, istuple_non, islist_int, islist_bl, islist_str, islist_tup, islist_lst, islist_non, ix_dcs, in_dcs, ix_tup, ix_lsts, atI_0, atI_1, atI_2, atI_3, atI_4, atI_5, atI_6, atI_7, atI_8, atI_9, atI_10, atI_11, atI_12, ix_fls, ev_me, sl_lst, sl_tup, cmp_isin, cmp_notin, flat_str, flat_int, flat_bl, flat_non, eqF_str, in_tup, seqO_nx, seqO_rt, seqO_bk, seqO_ct, exs_nil, exs_cons, ex_set, setoD_dcs, setoD_lst, ex_seto, ex_unp, augD_int, ex_aug, ex_expr, appD_lst, ex_app, mthD_lst, ex_mth, mthxD_lst, ex_mthx, om_clear, om_pop, om_reverse, setsD_lst, ex_sets, setnD_nil, setnD_one, ex_newd, putdD_str, ex_putd, ex_setn, appnD_lst, ex_appn, appatD_int, ex_appat, ex_popn, ex_popt, apptpD_int, ex_apptp, ex_ret, ex_reto, ex_retn, ex_iff, ex_whl, ex_for, revD_lst, ex_forv, ex_forr, ex_brk, ex_cnt, ex_pass, ex_share, it_tup, it_lst, it_str, it_fls, tg_one, wipe_one, nxO_nx, nxO_ct, nxO_bk, nxO_rt, forD_nil, lcD_nil, lcD_cons, consO_some, consO_none, ansO_nx, ansO_rt, ansO_ite, sizeLine_lit, pow_lit, toNx_nx, toNx_ct, toNx_ite, toA_some, toA_ite, List.getElem?_cons_zero, List.getElem?_cons_succ, List.getElem?_nil, List.set_cons_zero, List.set_cons_succ, List.set_nil, List.length_cons, List.length_nil, List.length_map, List.length_append, List.length_range, List.length_replicate, List.map_cons, List.map_nil, List.cons_append, List.nil_append, List.append_nil, List.replicate_succ, List.replicate_zero, Nat.reduceAdd, Nat.reduceSub, Nat.reduceMul, Nat.reduceLT, Nat.reduceLeDiff, Nat.reduceEqDiff, Nat.reduceMod, Nat.reduceDiv, Nat.reducePow, Int.reduceAdd, Int.reduceSub, Int.reduceMul, Int.reduceNeg, Int.reduceLT, Int.reduceLE, Int.reduceGT, Int.reduceGE, Int.reduceEq, Int.reduceNe, Int.reduceMod, Int.reduceDiv, Int.reducePow, Int.reduceToNat, Nat.add_zero, Nat.zero_add, Nat.sub_zero, Nat.zero_le, Nat.lt_irrefl, ite_true, ite_false, Bool.not_true, Bool.not_false, Bool.true_and, Bool.false_and, Bool.and_true, Bool.and_false, Bool.true_or, Bool.false_or, Bool.or_true, Bool.or_false, Bool.false_eq_true, Bool.true_eq_false, decide_true, decide_false, decide_eq_true_eq, Bool.not_eq_true', Bool.not_eq_false', decide_eq_false_iff_not, decide_not, not_true_eq_false, not_false_eq_true, and_true, true_and, and_false, false_and, or_true, true_or, or_false, false_or, and_self, or_self, if_true, if_false, reduceCtorEq, Fn.start, Int.cast_ofNat_Int, List.all_cons, List.all_nil, List.any_cons, List.any_nil, List.getElem?_eq_getElem h, List.getD_eq_getElem?_getD, Option.getD_some]
  · rw [if_neg (by omega)]
    simp -implicitDefEqProofs only [bindS, mapS, bindN, mapN, ifD_bl, bind_ite', map_ite', ev_c, ev_var, ev_rd, glD_non, glD_bl, glD_int, glD_str, glD_tup, ev_gl, ev_dgT, ev_dix, ev_tix, getT_two, getS_str, ev_tup, ev_lst, ev_bin, ev_dsp, ev_dget, ev_mind, keyD_dcs, negD_int, ev_neg, notD_bl, ev_nt, ev_cmp, ev_chain, ev_an, ev_orr, ev_ife, ev_ix, ev_sl, isNo_nohi, isNo_c, isNo_var, isNo_bin, isNo_neg, isNo_bi, isNo_ix, isNo_call, isNo_me, endD_int, noIo_nil, ev_call, clocD_fn, ev_cloc, noIoL_nil, ev_callb, ev_bi, ev_lc, ev_lcd, ev_lcr, nst_on, rdnD_int, ev_rdn, ev_lenn, revlD_lst, ev_revl, ev_lrg, dic_od, ev_tvals, evs_nil, evs_cons, shd_sh, own_ow, rdv_ow, rdv_od, add_int, sub_int, mod_pos, fdiv_pos, lt_int, le_int, gt_int, ge_int, lt_str, le_str, gt_str, ge_str, is_non_non, is_bl_bl, is_int_non, is_str_non, is_tup_non, is_lst_non, is_bl_non, isnot_bl_bl, isnot_non_non, isnot_int_non, isnot_str_non, isnot_tup_non, isnot_lst_non, isnot_bl_non, cmp_eq, cmp_ne, eq_int, eq_str, eq_bl, eq_non, eq_int_str, eq_str_int, eq_non_str, eq_str_non, eq_non_int, eq_int_non, len_tup, len_lst, len_fls, abs_int, int_int, int_bl, tuple_lst, tuple_tup, list_lst, list_tup, max_int, min_int, list_dcs, isdct_dcs, isint_int, isint_bl, isint_str, isint_tup, isint_lst, isint_non, isbool_int, isbool_bl, isbool_str, isbool_tup, isbool_lst, isbool_non, isstr_int, isstr_bl, isstr_str, isstr_tup, isstr_lst, isstr_non, istuple_int, istuple_bl, istuple_str, istuple_tup, istuple_lst, istuple_non, islist_int, islist_bl, islist_str, islist_tup, islist_lst, islist_non, ix_dcs, in_dcs, ix_tup, ix_lsts, atI_0, atI_1, atI_2, atI_3, atI_4, atI_5, atI_6, atI_7, atI_8, atI_9, atI_10, atI_11, atI_12, ix_fls, ev_me, sl_lst, sl_tup, cmp_isin, cmp_notin, flat_str, flat_int, flat_bl, flat_non, eqF_str, in_tup, seqO_nx, seqO_rt, seqO_bk, seqO_ct, exs_nil, exs_cons, ex_set, setoD_dcs, setoD_lst, ex_seto, ex_unp, augD_int, ex_aug, ex_expr, appD_lst, ex_app, mthD_lst, ex_mth, mthxD_lst, ex_mthx, om_clear, om_pop, om_reverse, setsD_lst, ex_sets, setnD_nil, setnD_one, ex_newd, putdD_str, ex_putd, ex_setn, appnD_lst, ex_appn, appatD_int, ex_appat, ex_popn, ex_popt, apptpD_int, ex_apptp, ex_ret, ex_reto, ex_retn, ex_iff, ex_whl, ex_for, revD_lst, ex_forv, ex_forr, ex_brk, ex_cnt, ex_pass, ex_share, it_tup, it_lst, it_str, it_fls, tg_one, wipe_one, nxO_nx, nxO_ct, nxO_bk, nxO_rt, forD_nil, lcD_nil, lcD_cons, consO_some, consO_none, ansO_nx, ansO_rt, ansO_ite, sizeLine_lit, pow_lit, toNx_nx, toNx_ct, toNx_ite, toA_some, toA_ite, List.getElem?_cons_zero, List.getElem?_cons_succ, List.getElem?_nil, List.set_cons_zero, List.set_cons_succ, List.set_nil, List.length_cons, List.length_nil, List.length_map, List.length_append, List.length_range, List.length_replicate, List.map_cons, List.map_nil, List.cons_append, List.nil_append, List.append_nil, List.replicate_succ, List.replicate_zero, Nat.reduceAdd, Nat.reduceSub, Nat.reduceMul, Nat.reduceLT, Nat.reduceLeDiff, Nat.reduceEqDiff, Nat.reduceMod, Nat.reduceDiv, Nat.reducePow, Int.reduceAdd, Int.reduceSub, Int.reduceMul, Int.reduceNeg, Int.reduceLT, Int.reduceLE, Int.reduceGT, Int.reduceGE, Int.reduceEq, Int.reduceNe, Int.reduceMod, Int.reduceDiv, Int.reducePow, Int.reduceToNat, Nat.add_zero, Nat.zero_add, Nat.sub_zero, Nat.zero_le, Nat.lt_irrefl, ite_true, ite_false, Bool.not_true, Bool.not_false, Bool.true_and, Bool.false_and, Bool.and_true, Bool.and_false, Bool.true_or, Bool.false_or, Bool.or_true, Bool.or_false, Bool.false_eq_true, Bool.true_eq_false, decide_true, decide_false, decide_eq_true_eq, Bool.not_eq_true', Bool.not_eq_false', decide_eq_false_iff_not, decide_not, not_true_eq_false, not_false_eq_true, and_true, true_and, and_false, false_and, or_true, true_or, or_false, false_or, and_self, or_self, if_true, if_false, reduceCtorEq, Fn.start, Int.cast_ofNat_Int, List.all_cons, List.all_nil, List.any_cons, List.any_nil, List.getElem?_eq_none (Nat.le_of_not_lt h), List.getD_eq_getElem?_getD, Option.getD_none]
def PD (c : Int) (m : Nat) (k : Nat) (s : PL.Env) : Prop := ∃ ds : List Int, ∃ r : Int, ∃ b : Bool, ∃ x5 x6 : Sl, s = [.sh (.int c), .sh (.int m), .ow (.lst (ds.map .int)), .sh (.int r), .sh (.bl b), x5, x6] ∧ ds.length = k ∧ ∀ x ∈ ds, 0 ≤ x ∧ x < 1000
theorem pd_next {c : Int} {m i : Nat} {ds : List Int} (el : ds.length = i) (hd : ∀ x ∈ ds, 0 ≤ x ∧ x < 1000) (d : Int) (r' : Int) (b : Bool) (x5 x6 : Sl) (h0 : 0 ≤ d) (h1 : d < 1000) : PD c m (i + 1) [Sl.sh (D.int c), .sh (.int m), .ow (.lst (ds.map .int ++ [D.int d])), .sh (.int r'), .sh (.bl b), x5, x6] := by
  refine ⟨ds ++ [d], r', b, _, _, by rw [List.map_append]; rfl, by simp [el], fun x hx => ?_⟩
  rcases List.mem_append.mp hx with h | h
  · exact hd x h
  · rw [List.mem_singleton] at h
    subst h
    exact ⟨h0, h1⟩
theorem d_step (n : Nat) (c : Int) (m i : Nat) (hm : m < 1000) (s : PL.Env) (hi : i < m) (h : PD c m i s) : toNx (PD c m (i + 1)) ((tgD [5] (.int (i : Int)) s).bind (exs (PL.call T G n) G b_law_draws_0)) := by
  obtain ⟨ds, r, b, x5, x6, es, el, hd⟩ := h
  subst es
  have hl : ds.length < 16777216 := by omega
  simp -implicitDefEqProofs (disch := omega) only [bindS, mapS, bindN, mapN, ifD_bl, bind_ite', map_ite', ev_c, ev_var, ev_rd, glD_non, glD_bl, glD_int, glD_str, glD_tup, ev_gl, ev_dgT, ev_dix, ev_tix, getT_two, getS_str, ev_tup, ev_lst, ev_bin, ev_dsp, ev_dget, ev_mind, keyD_dcs, negD_int, ev_neg, notD_bl, ev_nt, ev_cmp, ev_chain, ev_an, ev_orr, ev_ife, ev_ix, ev_sl, isNo_nohi, isNo_c, isNo_var, isNo_bin, isNo_neg, isNo_bi, isNo_ix, isNo_call, isNo_me, endD_int, noIo_nil, ev_call, clocD_fn, ev_cloc, noIoL_nil, ev_callb, ev_bi, ev_lc, ev_lcd, ev_lcr, nst_on, rdnD_int, ev_rdn, ev_lenn, revlD_lst, ev_revl, ev_lrg, dic_od, ev_tvals, evs_nil, evs_cons, shd_sh, own_ow, rdv_ow, rdv_od, add_int, sub_int, mod_pos, fdiv_pos, lt_int, le_int, gt_int, ge_int, lt_str, le_str, gt_str, ge_str, is_non_non, is_bl_bl, is_int_non, is_str_non, is_tup_non, is_lst_non, is_bl_non, isnot_bl_bl, isnot_non_non, isnot_int_non, isnot_str_non, isnot_tup_non, isnot_lst_non, isnot_bl_non, cmp_eq, cmp_ne, eq_int, eq_str, eq_bl, eq_non, eq_int_str, eq_str_int, eq_non_str, eq_str_non, eq_non_int, eq_int_non, len_tup, len_lst, len_fls, abs_int, int_int, int_bl, tuple_lst, tuple_tup, list_lst, list_tup, max_int, min_int, list_dcs, isdct_dcs, isint_int, isint_bl, isint_str, isint_tup, isint_lst, isint_non, isbool_int, isbool_bl, isbool_str, isbool_tup, isbool_lst, isbool_non, isstr_int, isstr_bl, isstr_str, isstr_tup, isstr_lst, isstr_non, istuple_int, istuple_bl, istuple_str, istuple_tup, istuple_lst, istuple_non, islist_int, islist_bl, islist_str, islist_tup, islist_lst, islist_non, ix_dcs, in_dcs, ix_tup, ix_lsts, atI_0, atI_1, atI_2, atI_3, atI_4, atI_5, atI_6, atI_7, atI_8, atI_9, atI_10, atI_11, atI_12, ix_fls, ev_me, sl_lst, sl_tup, cmp_isin, cmp_notin, flat_str, flat_int, flat_bl, flat_non, eqF_str, in_tup, seqO_nx, seqO_rt, seqO_bk, seqO_ct, exs_nil, exs_cons, ex_set, setoD_dcs, setoD_lst, ex_seto, ex_unp, augD_int, ex_aug, ex_expr, appD_lst, ex_app, mthD_lst, ex_mth, mthxD_lst, ex_mthx, om_clear, om_pop, om_reverse, setsD_lst, ex_sets, setnD_nil, setnD_one, ex_newd, putdD_str, ex_putd, ex_setn, appnD_lst, ex_appn, appatD_int, ex_appat, ex_popn, ex_popt, apptpD_int, ex_apptp, ex_ret, ex_reto, ex_retn, ex_iff, ex_whl, ex_for, revD_lst, ex_forv, ex_forr, ex_brk, ex_cnt, ex_pass, ex_share, it_tup, it_lst, it_str, it_fls, tg_one, wipe_one, nxO_nx, nxO_ct, nxO_bk, nxO_rt, forD_nil, lcD_nil, lcD_cons, consO_some, consO_none, ansO_nx, ansO_rt, ansO_ite, sizeLine_lit, pow_lit, toNx_nx, toNx_ct, toNx_ite, toA_some, toA_ite, List.getElem?_cons_zero, List.getElem?_cons_succ, List.getElem?_nil, List.set_cons_zero, List.set_cons_succ, List.set_nil, List.length_cons, List.length_nil, List.length_map, List.length_append, List.length_range, List.length_replicate, List.map_cons, List.map_nil, List.cons_append, List.nil_append, List.append_nil, List.replicate_succ, List.replicate_zero, Nat.reduceAdd, Nat.reduceSub, Nat.reduceMul, Nat.reduceLT, Nat.reduceLeDiff, Nat.reduceEqDiff, Nat.reduceMod, Nat.reduceDiv, Nat.reducePow, Int.reduceAdd, Int.reduceSub, Int.reduceMul, Int.reduceNeg, Int.reduceLT, Int.reduceLE, Int.reduceGT, Int.reduceGE, Int.reduceEq, Int.reduceNe, Int.reduceMod, Int.reduceDiv, Int.reducePow, Int.reduceToNat, Nat.add_zero, Nat.zero_add, Nat.sub_zero, Nat.zero_le, Nat.lt_irrefl, ite_true, ite_false, Bool.not_true, Bool.not_false, Bool.true_and, Bool.false_and, Bool.and_true, Bool.and_false, Bool.true_or, Bool.false_or, Bool.or_true, Bool.or_false, Bool.false_eq_true, Bool.true_eq_false, decide_true, decide_false, decide_eq_true_eq, Bool.not_eq_true', Bool.not_eq_false', decide_eq_false_iff_not, decide_not, not_true_eq_false, not_false_eq_true, and_true, true_and, and_false, false_and, or_true, true_or, or_false, false_or, and_self, or_self, if_true, if_false, reduceCtorEq, Fn.start, Int.cast_ofNat_Int, List.all_cons, List.all_nil, List.any_cons, List.any_nil, b_law_draws_0, mul_l, List.length_map, hl]
  repeat' split
  all_goals exact pd_next el hd _ _ _ _ _ (Int.emod_nonneg _ (by decide)) (Int.emod_lt_of_pos _ (by decide))
theorem c_draws (n : Nat) (c : Int) (m : Nat) (hm : m < 1000) : ∃ ds : List Int, call T G (n + 1) k_law_draws [.int c, .int m] = some (.lst (ds.map .int), []) ∧ ds.length = m ∧ ∀ x ∈ ds, 0 ≤ x ∧ x < 1000 := by
  rw [call_of T_law_draws rfl]
  simp -implicitDefEqProofs only [bindS, mapS, bindN, mapN, ifD_bl, bind_ite', map_ite', ev_c, ev_var, ev_rd, glD_non, glD_bl, glD_int, glD_str, glD_tup, ev_gl, ev_dgT, ev_dix, ev_tix, getT_two, getS_str, ev_tup, ev_lst, ev_bin, ev_dsp, ev_dget, ev_mind, keyD_dcs, negD_int, ev_neg, notD_bl, ev_nt, ev_cmp, ev_chain, ev_an, ev_orr, ev_ife, ev_ix, ev_sl, isNo_nohi, isNo_c, isNo_var, isNo_bin, isNo_neg, isNo_bi, isNo_ix, isNo_call, isNo_me, endD_int, noIo_nil, ev_call, clocD_fn, ev_cloc, noIoL_nil, ev_callb, ev_bi, ev_lc, ev_lcd, ev_lcr, nst_on, rdnD_int, ev_rdn, ev_lenn, revlD_lst, ev_revl, ev_lrg, dic_od, ev_tvals, evs_nil, evs_cons, shd_sh, own_ow, rdv_ow, rdv_od, add_int, sub_int, mod_pos, fdiv_pos, lt_int, le_int, gt_int, ge_int, lt_str, le_str, gt_str, ge_str, is_non_non, is_bl_bl, is_int_non, is_str_non, is_tup_non, is_lst_non, is_bl_non, isnot_bl_bl, isnot_non_non, isnot_int_non, isnot_str_non, isnot_tup_non, isnot_lst_non, isnot_bl_non, cmp_eq, cmp_ne, eq_int, eq_str, eq_bl, eq_non, eq_int_str, eq_str_int, eq_non_str, eq_str_non, eq_non_int, eq_int_non, len_tup, len_lst, len_fls, abs_int, int_int, int_bl, tuple_lst, tuple_tup, list_lst, list_tup, max_int, min_int, list_dcs, isdct_dcs, isint_int, isint_bl, isint_str, isint_tup, isint_lst, isint_non, isbool_int, isbool_bl, isbool_str, isbool_tup, isbool_lst, isbool_non, isstr_int, isstr_bl, isstr_str, isstr_tup, isstr_lst, isstr_non, istuple_int, istuple_bl, istuple_str, istuple_tup, istuple_lst, istuple_non, islist_int, islist_bl, islist_str, islist_tup, islist_lst, islist_non, ix_dcs, in_dcs, ix_tup, ix_lsts, atI_0, atI_1, atI_2, atI_3, atI_4, atI_5, atI_6, atI_7, atI_8, atI_9, atI_10, atI_11, atI_12, ix_fls, ev_me, sl_lst, sl_tup, cmp_isin, cmp_notin, flat_str, flat_int, flat_bl, flat_non, eqF_str, in_tup, seqO_nx, seqO_rt, seqO_bk, seqO_ct, exs_nil, exs_cons, ex_set, setoD_dcs, setoD_lst, ex_seto, ex_unp, augD_int, ex_aug, ex_expr, appD_lst, ex_app, mthD_lst, ex_mth, mthxD_lst, ex_mthx, om_clear, om_pop, om_reverse, setsD_lst, ex_sets, setnD_nil, setnD_one, ex_newd, putdD_str, ex_putd, ex_setn, appnD_lst, ex_appn, appatD_int, ex_appat, ex_popn, ex_popt, apptpD_int, ex_apptp, ex_ret, ex_reto, ex_retn, ex_iff, ex_whl, ex_for, revD_lst, ex_forv, ex_forr, ex_brk, ex_cnt, ex_pass, ex_share, it_tup, it_lst, it_str, it_fls, tg_one, wipe_one, nxO_nx, nxO_ct, nxO_bk, nxO_rt, forD_nil, lcD_nil, lcD_cons, consO_some, consO_none, ansO_nx, ansO_rt, ansO_ite, sizeLine_lit, pow_lit, toNx_nx, toNx_ct, toNx_ite, toA_some, toA_ite, List.getElem?_cons_zero, List.getElem?_cons_succ, List.getElem?_nil, List.set_cons_zero, List.set_cons_succ, List.set_nil, List.length_cons, List.length_nil, List.length_map, List.length_append, List.length_range, List.length_replicate, List.map_cons, List.map_nil, List.cons_append, List.nil_append, List.append_nil, List.replicate_succ, List.replicate_zero, Nat.reduceAdd, Nat.reduceSub, Nat.reduceMul, Nat.reduceLT, Nat.reduceLeDiff, Nat.reduceEqDiff, Nat.reduceMod, Nat.reduceDiv, Nat.reducePow, Int.reduceAdd, Int.reduceSub, Int.reduceMul, Int.reduceNeg, Int.reduceLT, Int.reduceLE, Int.reduceGT, Int.reduceGE, Int.reduceEq, Int.reduceNe, Int.reduceMod, Int.reduceDiv, Int.reducePow, Int.reduceToNat, Nat.add_zero, Nat.zero_add, Nat.sub_zero, Nat.zero_le, Nat.lt_irrefl, ite_true, ite_false, Bool.not_true, Bool.not_false, Bool.true_and, Bool.false_and, Bool.and_true, Bool.and_false, Bool.true_or, Bool.false_or, Bool.or_true, Bool.or_false, Bool.false_eq_true, Bool.true_eq_false, decide_true, decide_false, decide_eq_true_eq, Bool.not_eq_true', Bool.not_eq_false', decide_eq_false_iff_not, decide_not, not_true_eq_false, not_false_eq_true, and_true, true_and, and_false, false_and, or_true, true_or, or_false, false_or, and_self, or_self, if_true, if_false, reduceCtorEq, Fn.start, Int.cast_ofNat_Int, List.all_cons, List.all_nil, List.any_cons, List.any_nil, f_law_draws, rng_nat m (Nat.lt_trans hm (by decide))]
  have st := for_rng (t := tgD [5]) (b := exs (PL.call T G n) G b_law_draws_0) (PD c m) m [.sh (.int c), .sh (.int m), .ow (.lst []), .sh (.int c.natAbs), .sh (.bl (decide (1000000000000000000 ≤ (c.natAbs : Int)))), .un, .un] ⟨[], _, _, _, _, rfl, rfl, by simp⟩ fun i s => d_step n c m i hm s
  obtain ⟨s', e, ds, r, b, x5, x6, es, el, hd⟩ := st
  subst es
  simp -implicitDefEqProofs only [bindS, mapS, bindN, mapN, ifD_bl, bind_ite', map_ite', ev_c, ev_var, ev_rd, glD_non, glD_bl, glD_int, glD_str, glD_tup, ev_gl, ev_dgT, ev_dix, ev_tix, getT_two, getS_str, ev_tup, ev_lst, ev_bin, ev_dsp, ev_dget, ev_mind, keyD_dcs, negD_int, ev_neg, notD_bl, ev_nt, ev_cmp, ev_chain, ev_an, ev_orr, ev_ife, ev_ix, ev_sl, isNo_nohi, isNo_c, isNo_var, isNo_bin, isNo_neg, isNo_bi, isNo_ix, isNo_call, isNo_me, endD_int, noIo_nil, ev_call, clocD_fn, ev_cloc, noIoL_nil, ev_callb, ev_bi, ev_lc, ev_lcd, ev_lcr, nst_on, rdnD_int, ev_rdn, ev_lenn, revlD_lst, ev_revl, ev_lrg, dic_od, ev_tvals, evs_nil, evs_cons, shd_sh, own_ow, rdv_ow, rdv_od, add_int, sub_int, mod_pos, fdiv_pos, lt_int, le_int, gt_int, ge_int, lt_str, le_str, gt_str, ge_str, is_non_non, is_bl_bl, is_int_non, is_str_non, is_tup_non, is_lst_non, is_bl_non, isnot_bl_bl, isnot_non_non, isnot_int_non, isnot_str_non, isnot_tup_non, isnot_lst_non, isnot_bl_non, cmp_eq, cmp_ne, eq_int, eq_str, eq_bl, eq_non, eq_int_str, eq_str_int, eq_non_str, eq_str_non, eq_non_int, eq_int_non, len_tup, len_lst, len_fls, abs_int, int_int, int_bl, tuple_lst, tuple_tup, list_lst, list_tup, max_int, min_int, list_dcs, isdct_dcs, isint_int, isint_bl, isint_str, isint_tup, isint_lst, isint_non, isbool_int, isbool_bl, isbool_str, isbool_tup, isbool_lst, isbool_non, isstr_int, isstr_bl, isstr_str, isstr_tup, isstr_lst, isstr_non, istuple_int, istuple_bl, istuple_str, istuple_tup, istuple_lst, istuple_non, islist_int, islist_bl, islist_str, islist_tup, islist_lst, islist_non, ix_dcs, in_dcs, ix_tup, ix_lsts, atI_0, atI_1, atI_2, atI_3, atI_4, atI_5, atI_6, atI_7, atI_8, atI_9, atI_10, atI_11, atI_12, ix_fls, ev_me, sl_lst, sl_tup, cmp_isin, cmp_notin, flat_str, flat_int, flat_bl, flat_non, eqF_str, in_tup, seqO_nx, seqO_rt, seqO_bk, seqO_ct, exs_nil, exs_cons, ex_set, setoD_dcs, setoD_lst, ex_seto, ex_unp, augD_int, ex_aug, ex_expr, appD_lst, ex_app, mthD_lst, ex_mth, mthxD_lst, ex_mthx, om_clear, om_pop, om_reverse, setsD_lst, ex_sets, setnD_nil, setnD_one, ex_newd, putdD_str, ex_putd, ex_setn, appnD_lst, ex_appn, appatD_int, ex_appat, ex_popn, ex_popt, apptpD_int, ex_apptp, ex_ret, ex_reto, ex_retn, ex_iff, ex_whl, ex_for, revD_lst, ex_forv, ex_forr, ex_brk, ex_cnt, ex_pass, ex_share, it_tup, it_lst, it_str, it_fls, tg_one, wipe_one, nxO_nx, nxO_ct, nxO_bk, nxO_rt, forD_nil, lcD_nil, lcD_cons, consO_some, consO_none, ansO_nx, ansO_rt, ansO_ite, sizeLine_lit, pow_lit, toNx_nx, toNx_ct, toNx_ite, toA_some, toA_ite, List.getElem?_cons_zero, List.getElem?_cons_succ, List.getElem?_nil, List.set_cons_zero, List.set_cons_succ, List.set_nil, List.length_cons, List.length_nil, List.length_map, List.length_append, List.length_range, List.length_replicate, List.map_cons, List.map_nil, List.cons_append, List.nil_append, List.append_nil, List.replicate_succ, List.replicate_zero, Nat.reduceAdd, Nat.reduceSub, Nat.reduceMul, Nat.reduceLT, Nat.reduceLeDiff, Nat.reduceEqDiff, Nat.reduceMod, Nat.reduceDiv, Nat.reducePow, Int.reduceAdd, Int.reduceSub, Int.reduceMul, Int.reduceNeg, Int.reduceLT, Int.reduceLE, Int.reduceGT, Int.reduceGE, Int.reduceEq, Int.reduceNe, Int.reduceMod, Int.reduceDiv, Int.reducePow, Int.reduceToNat, Nat.add_zero, Nat.zero_add, Nat.sub_zero, Nat.zero_le, Nat.lt_irrefl, ite_true, ite_false, Bool.not_true, Bool.not_false, Bool.true_and, Bool.false_and, Bool.and_true, Bool.and_false, Bool.true_or, Bool.false_or, Bool.or_true, Bool.or_false, Bool.false_eq_true, Bool.true_eq_false, decide_true, decide_false, decide_eq_true_eq, Bool.not_eq_true', Bool.not_eq_false', decide_eq_false_iff_not, decide_not, not_true_eq_false, not_false_eq_true, and_true, true_and, and_false, false_and, or_true, true_or, or_false, false_or, and_self, or_self, if_true, if_false, reduceCtorEq, Fn.start, Int.cast_ofNat_Int, List.all_cons, List.all_nil, List.any_cons, List.any_nil, e]
  exact ⟨ds, rfl, by simpa using el, hd⟩
theorem nth_in {ds : List Int} (hd : ∀ x ∈ ds, 0 ≤ x ∧ x < 1000) (k : Nat) : 0 ≤ ds.getD k 0 ∧ ds.getD k 0 < 1000 := by
  rw [List.getD_eq_getElem?_getD]
  cases h : ds[k]? with
  | none => simp
  | some x => exact hd x (List.mem_of_getElem? h)
theorem len_app (a b : Str) : (a ++ b).length = a.length + b.length := Array.size_append
end LW

namespace LW
open PySem PL TL
/-! token_list over lists of codes -/
def st (l : List Nat) : Str := ⟨l.toArray⟩
theorem st_tl (l : List Nat) : (st l).cps.toList = l := rfl
theorem st_len (l : List Nat) : (st l).length = l.length := List.size_toArray
theorem st_inj (a b : List Nat) : (st a = st b) = (a = b) := propext ⟨fun h => by have := congrArg (fun z : Str => z.cps.toList) h; exact this, fun h => by rw [h]⟩
theorem st_app (a b : List Nat) : st a ++ st b = st (a ++ b) := ext_tl (by rw [tl_append]; rfl)
theorem st_of (z : Str) : z = st z.cps.toList := ext_tl rfl
theorem ix_st (cs : List Nat) (i : Nat) (c : Nat) (h : cs[i]? = some c) (hl : cs.length ≤ 16777216) : ixD (.str (st cs)) (.int (i : Int)) = some (.str (st [c])) := by
  rw [ix_str _ _ (by rw [st_len, sizeLine_lit]; exact hl), atI_nat', st_tl, h]
  rfl
theorem len_st (cs : List Nat) (hl : cs.length ≤ 16777216) : biD .len [.str (st cs)] = some (.int (cs.length : Int)) := by
  rw [len_str _ (by rw [st_len, sizeLine_lit]; exact hl), st_len]
theorem in_st (a : List Nat) (c : Nat) : inD (.str (st [c])) (.str (st a)) = some (decide (c ∈ a)) := by
  show some (!(Builtin.Str.occurrences (st a) (st [c]) 0 (st a).length 1).isEmpty) = _
  rw [show st [c] = ⟨#[c]⟩ from rfl, StrLaws.found_one (st a) c]
  rfl
theorem in_strs (x : Str) (L : List Str) : inD (.str x) (.tup (L.map D.str)) = some (decide (x ∈ L)) := by
  rw [in_tup, if_pos (by rw [Bool.and_eq_true]; exact ⟨rfl, List.all_eq_true.mpr fun d hd => by obtain ⟨z, _, rfl⟩ := List.mem_map.mp hd; rfl⟩)]
  congr 1
  rw [List.any_map, Bool.eq_iff_iff, List.any_eq_true, decide_eq_true_eq]
  constructor
  · rintro ⟨y, hy, e⟩
    have e : eqF (.str y) (.str x) = true := e
    rw [eqF_str, decide_eq_true_eq] at e
    exact e ▸ hy
  · intro h
    exact ⟨x, h, by show eqF (.str x) (.str x) = true; rw [eqF_str, decide_eq_true_eq]⟩
theorem sl_st (cs : List Nat) (lo hi : Option Int) (hl : cs.length ≤ 16777216) : slD (.str (st cs)) lo hi = some (.str (st ((cs.drop (HT.sIx cs.length 0 lo)).take (HT.sIx cs.length cs.length hi - HT.sIx cs.length 0 lo)))) := by
  rw [sl_str _ _ _ (by rw [st_len, sizeLine_lit]; exact hl)]
  show some (D.str ⟨((cs.drop _).take _).toArray⟩) = _
  rw [st_len]
  rfl
theorem sIx_nat (n d j : Nat) : HT.sIx n d (some (j : Int)) = min j n := by
  simp only [HT.sIx]
  split <;> omega
end LW

namespace LW
open PySem PL TL
/-! names out of the pool -/
def cd (s : String) : List Nat := s.toList.map Char.toNat
theorem q_st (s : String) : q s = st (cd s) := ext_tl (tl_ofString s)
def poolS : List String := ["a", "a1", "b2", "bob", "a10", "a9", "door", "e", "fox", "g7", "hill", "ivy", "jam", "key", "lake", "moon", "nut", "oak", "pear", "quay", "rose", "sun", "tree", "urn", "vine", "well", "x", "yew", "zoe", "twelvesigns1"]
/-- one of a list of texts -/
theorem at_strs (L : List String) (j : Int) (h0 : 0 ≤ j) (h1 : j < L.length) : ∃ s, s ∈ L ∧ L2.atI (L.map fun s => D.str (q s)) j = some (.str (q s)) := by
  obtain ⟨k, rfl⟩ := Int.eq_ofNat_of_zero_le h0
  have hk : k < L.length := by omega
  rw [atI_nat', List.getElem?_map, List.getElem?_eq_getElem hk]
  exact ⟨_, List.getElem_mem hk, rfl⟩
theorem lc_strs (f : D → Option (Option D)) (Q : String → Prop) : ∀ (m a : Nat), (∀ k, a ≤ k → k < a + m → ∃ s, Q s ∧ f (.int (k : Int)) = some (some (.str (q s)))) → ∃ L : List String, lcD f ((List.range' a m).map fun (k : Nat) => D.int (k : Int)) = some (L.map fun s => D.str (q s)) ∧ L.length = m ∧ ∀ s ∈ L, Q s
  | 0, a, _ => ⟨[], rfl, rfl, fun c hc => by cases hc⟩
  | m + 1, a, h => by
    obtain ⟨s, h1, h2⟩ := h a (Nat.le_refl _) (by omega)
    obtain ⟨L, e1, e2, e3⟩ := lc_strs f Q m (a + 1) fun k k1 k2 => h k (by omega) (by omega)
    refine ⟨s :: L, ?_, by rw [List.length_cons, e2], fun d hd => ?_⟩
    · rw [List.range'_succ, List.map_cons, lcD_cons, h2, bindS, e1]
      rfl
    · rcases List.mem_cons.mp hd with rfl | hd
      · exact h1
      · exact e3 d hd
def poolD : List D := poolS.map fun s => D.str (q s)
theorem names_step (n : Nat) (a b t : Int) (ht : 0 ≤ t ∧ t < 30) (x : D) (k : Nat) (hk : k < 30) : ∃ s, s ∈ poolS ∧ lcT (call T G n) G [5] (.c (.bl true)) (.ix (.var 2) (.bin .mod (.bi .int_ [(.bin .add (.var 0) (.bin .mul (.var 4) (.var 5)))]) (.c (.int 30)))) [.sh (.int a), .sh (.int b), .sh (.lst poolD), .sh x, .sh (.int t), .un] (.int (k : Int)) = some (some (.str (q s))) := by
  have m0 := Int.emod_nonneg (a + t * (k : Int)) (show (30 : Int) ≠ 0 by decide)
  have m1 := Int.emod_lt_of_pos (a + t * (k : Int)) (show (0 : Int) < 30 by decide)
  obtain ⟨s, hs, e⟩ := at_strs poolS _ m0 (by show _ < (30 : Int); exact m1)
  refine ⟨s, hs, ?_⟩
  have e' : ixD (.lst poolD) (.int ((a + t * (k : Int)) % 30)) = some (.str (q s)) := e
  unfold lcT
  simp -implicitDefEqProofs (disch := omega) only [bindS, mapS, bindN, mapN, ifD_bl, bind_ite', map_ite', ev_c, ev_var, ev_rd, glD_non, glD_bl, glD_int, glD_str, glD_tup, ev_gl, ev_dgT, ev_dix, ev_tix, getT_two, getS_str, ev_tup, ev_lst, ev_bin, ev_dsp, ev_dget, ev_mind, keyD_dcs, negD_int, ev_neg, notD_bl, ev_nt, ev_cmp, ev_chain, ev_an, ev_orr, ev_ife, ev_ix, ev_sl, isNo_nohi, isNo_c, isNo_var, isNo_bin, isNo_neg, isNo_bi, isNo_ix, isNo_call, isNo_me, endD_int, noIo_nil, ev_call, clocD_fn, ev_cloc, noIoL_nil, ev_callb, ev_bi, ev_lc, ev_lcd, ev_lcr, nst_on, rdnD_int, ev_rdn, ev_lenn, revlD_lst, ev_revl, ev_lrg, dic_od, ev_tvals, evs_nil, evs_cons, shd_sh, own_ow, rdv_ow, rdv_od, add_int, sub_int, mod_pos, fdiv_pos, lt_int, le_int, gt_int, ge_int, lt_str, le_str, gt_str, ge_str, is_non_non, is_bl_bl, is_int_non, is_str_non, is_tup_non, is_lst_non, is_bl_non, isnot_bl_bl, isnot_non_non, isnot_int_non, isnot_str_non, isnot_tup_non, isnot_lst_non, isnot_bl_non, cmp_eq, cmp_ne, eq_int, eq_str, eq_bl, eq_non, eq_int_str, eq_str_int, eq_non_str, eq_str_non, eq_non_int, eq_int_non, len_tup, len_lst, len_fls, abs_int, int_int, int_bl, tuple_lst, tuple_tup, list_lst, list_tup, max_int, min_int, list_dcs, isdct_dcs, isint_int, isint_bl, isint_str, isint_tup, isint_lst, isint_non, isbool_int, isbool_bl, isbool_str, isbool_tup, isbool_lst, isbool_non, isstr_int, isstr_bl, isstr_str, isstr_tup, isstr_lst, isstr_non, istuple_int, istuple_bl, istuple_str, istuple_tup, istuple_lst, istuple_non, islist_int, islist_bl, islist_str, islist_tup, islist_lst, islist_non, ix_dcs, in_dcs, ix_tup, ix_lsts, atI_0, atI_1, atI_2, atI_3, atI_4, atI_5, atI_6, atI_7, atI_8, atI_9, atI_10, atI_11, atI_12, ix_fls, ev_me, sl_lst, sl_tup, cmp_isin, cmp_notin, flat_str, flat_int, flat_bl, flat_non, eqF_str, in_tup, seqO_nx, seqO_rt, seqO_bk, seqO_ct, exs_nil, exs_cons, ex_set, setoD_dcs, setoD_lst, ex_seto, ex_unp, augD_int, ex_aug, ex_expr, appD_lst, ex_app, mthD_lst, ex_mth, mthxD_lst, ex_mthx, om_clear, om_pop, om_reverse, setsD_lst, ex_sets, setnD_nil, setnD_one, ex_newd, putdD_str, ex_putd, ex_setn, appnD_lst, ex_appn, appatD_int, ex_appat, ex_popn, ex_popt, apptpD_int, ex_apptp, ex_ret, ex_reto, ex_retn, ex_iff, ex_whl, ex_for, revD_lst, ex_forv, ex_forr, ex_brk, ex_cnt, ex_pass, ex_share, it_tup, it_lst, it_str, it_fls, tg_one, wipe_one, nxO_nx, nxO_ct, nxO_bk, nxO_rt, forD_nil, lcD_nil, lcD_cons, consO_some, consO_none, ansO_nx, ansO_rt, ansO_ite, sizeLine_lit, pow_lit, toNx_nx, toNx_ct, toNx_ite, toA_some, toA_ite, List.getElem?_cons_zero, List.getElem?_cons_succ, List.getElem?_nil, List.set_cons_zero, List.set_cons_succ, List.set_nil, List.length_cons, List.length_nil, List.length_map, List.length_append, List.length_range, List.length_replicate, List.map_cons, List.map_nil, List.cons_append, List.nil_append, List.append_nil, List.replicate_succ, List.replicate_zero, Nat.reduceAdd, Nat.reduceSub, Nat.reduceMul, Nat.reduceLT, Nat.reduceLeDiff, Nat.reduceEqDiff, Nat.reduceMod, Nat.reduceDiv, Nat.reducePow, Int.reduceAdd, Int.reduceSub, Int.reduceMul, Int.reduceNeg, Int.reduceLT, Int.reduceLE, Int.reduceGT, Int.reduceGE, Int.reduceEq, Int.reduceNe, Int.reduceMod, Int.reduceDiv, Int.reducePow, Int.reduceToNat, Nat.add_zero, Nat.zero_add, Nat.sub_zero, Nat.zero_le, Nat.lt_irrefl, ite_true, ite_false, Bool.not_true, Bool.not_false, Bool.true_and, Bool.false_and, Bool.and_true, Bool.and_false, Bool.true_or, Bool.false_or, Bool.or_true, Bool.or_false, Bool.false_eq_true, Bool.true_eq_false, decide_true, decide_false, decide_eq_true_eq, Bool.not_eq_true', Bool.not_eq_false', decide_eq_false_iff_not, decide_not, not_true_eq_false, not_false_eq_true, and_true, true_and, and_false, false_and, or_true, true_or, or_false, false_or, and_self, or_self, if_true, if_false, reduceCtorEq, Fn.start, Int.cast_ofNat_Int, List.all_cons, List.all_nil, List.any_cons, List.any_nil, mul_r, e']
theorem c_names (n : Nat) (a b : Int) : ∃ L : List String, call T G (n + 1) k_law_names [.int a, .int b] = some (.lst (L.map fun s => D.str (q s)), []) ∧ L.length = 30 ∧ ∀ s ∈ L, s ∈ poolS := by
  rw [call_of T_law_names rfl]
  have m0 := Int.emod_nonneg b (show (8 : Int) ≠ 0 by decide)
  have m1 := Int.emod_lt_of_pos b (show (0 : Int) < 8 by decide)
  obtain ⟨t, ht, hx⟩ : ∃ t : Int, (0 ≤ t ∧ t < 30) ∧ L2.atI [D.int 1, .int 7, .int 11, .int 13, .int 17, .int 19, .int 23, .int 29] (b % 8) = some (.int t) := by
    obtain ⟨y, hy, ey⟩ := atI_in [D.int 1, .int 7, .int 11, .int 13, .int 17, .int 19, .int 23, .int 29] (b % 8) m0 (by simp only [List.length_cons, List.length_nil]; omega)
    simp only [List.mem_cons, List.not_mem_nil, or_false] at hy
    rcases hy with rfl | rfl | rfl | rfl | rfl | rfl | rfl | rfl <;> exact ⟨_, by decide, ey⟩
  obtain ⟨L, e1, e2, e3⟩ := lc_strs _ (fun s => s ∈ poolS) 30 0 fun k _ hk => names_step n a b t ht (.lst [D.int 1, .int 7, .int 11, .int 13, .int 17, .int 19, .int 23, .int 29]) k (by omega)
  rw [← List.range_eq_range'] at e1
  refine ⟨L, ?_, e2, e3⟩
  have r30 : rngD [.int 30] = some ((List.range 30).map fun (k : Nat) => D.int (k : Int)) := rng_nat 30 (by decide)
  have hl : (L.map fun s => D.str (q s)).length ≤ 16777216 := by rw [List.length_map, e2]; decide
  unfold poolD poolS at e1
  rw [List.map_cons, List.map_cons, List.map_cons, List.map_cons, List.map_cons, List.map_cons, List.map_cons, List.map_cons, List.map_cons, List.map_cons, List.map_cons, List.map_cons, List.map_cons, List.map_cons, List.map_cons, List.map_cons, List.map_cons, List.map_cons, List.map_cons, List.map_cons, List.map_cons, List.map_cons, List.map_cons, List.map_cons, List.map_cons, List.map_cons, List.map_cons, List.map_cons, List.map_cons, List.map_cons, List.map_nil] at e1
  simp -implicitDefEqProofs only [bindS, mapS, bindN, mapN, ifD_bl, bind_ite', map_ite', ev_c, ev_var, ev_rd, glD_non, glD_bl, glD_int, glD_str, glD_tup, ev_gl, ev_dgT, ev_dix, ev_tix, getT_two, getS_str, ev_tup, ev_lst, ev_bin, ev_dsp, ev_dget, ev_mind, keyD_dcs, negD_int, ev_neg, notD_bl, ev_nt, ev_cmp, ev_chain, ev_an, ev_orr, ev_ife, ev_ix, ev_sl, isNo_nohi, isNo_c, isNo_var, isNo_bin, isNo_neg, isNo_bi, isNo_ix, isNo_call, isNo_me, endD_int, noIo_nil, ev_call, clocD_fn, ev_cloc, noIoL_nil, ev_callb, ev_bi, ev_lc, ev_lcd, ev_lcr, nst_on, rdnD_int, ev_rdn, ev_lenn, revlD_lst, ev_revl, ev_lrg, dic_od, ev_tvals, evs_nil, evs_cons, shd_sh, own_ow, rdv_ow, rdv_od, add_int, sub_int, mod_pos, fdiv_pos, lt_int, le_int, gt_int, ge_int, lt_str, le_str, gt_str, ge_str, is_non_non, is_bl_bl, is_int_non, is_str_non, is_tup_non, is_lst_non, is_bl_non, isnot_bl_bl, isnot_non_non, isnot_int_non, isnot_str_non, isnot_tup_non, isnot_lst_non, isnot_bl_non, cmp_eq, cmp_ne, eq_int, eq_str, eq_bl, eq_non, eq_int_str, eq_str_int, eq_non_str, eq_str_non, eq_non_int, eq_int_non, len_tup, len_lst, len_fls, abs_int, int_int, int_bl, tuple_lst, tuple_tup, list_lst, list_tup, max_int, min_int, list_dcs, isdct_dcs, isint_int, isint_bl, isint_str, isint_tup, isint_lst, isint_non, isbool_int, isbool_bl, isbool_str, isbool_tup, isbool_lst, isbool_non, isstr_int, isstr_bl, isstr_str, isstr_tup, isstr_lst, isstr_non, istuple_int, istuple_bl, istuple_str, istuple_tup, istuple_lst, istuple_non, islist_int, islist_bl, islist_str, islist_tup, islist_lst, islist_non, ix_dcs, in_dcs, ix_tup, ix_lsts, atI_0, atI_1, atI_2, atI_3, atI_4, atI_5, atI_6, atI_7, atI_8, atI_9, atI_10, atI_11, atI_12, ix_fls, ev_me, sl_lst, sl_tup, cmp_isin, cmp_notin, flat_str, flat_int, flat_bl, flat_non, eqF_str, in_tup, seqO_nx, seqO_rt, seqO_bk, seqO_ct, exs_nil, exs_cons, ex_set, setoD_dcs, setoD_lst, ex_seto, ex_unp, augD_int, ex_aug, ex_expr, appD_lst, ex_app, mthD_lst, ex_mth, mthxD_lst, ex_mthx, om_clear, om_pop, om_reverse, setsD_lst, ex_sets, setnD_nil, setnD_one, ex_newd, putdD_str, ex_putd, ex_setn, appnD_lst, ex_appn, appatD_int, ex_appat, ex_popn, ex_popt, apptpD_int, ex_apptp, ex_ret, ex_reto, ex_retn, ex_iff, ex_whl, ex_for, revD_lst, ex_forv, ex_forr, ex_brk, ex_cnt, ex_pass, ex_share, it_tup, it_lst, it_str, it_fls, tg_one, wipe_one, nxO_nx, nxO_ct, nxO_bk, nxO_rt, forD_nil, lcD_nil, lcD_cons, consO_some, consO_none, ansO_nx, ansO_rt, ansO_ite, sizeLine_lit, pow_lit, toNx_nx, toNx_ct, toNx_ite, toA_some, toA_ite, List.getElem?_cons_zero, List.getElem?_cons_succ, List.getElem?_nil, List.set_cons_zero, List.set_cons_succ, List.set_nil, List.length_cons, List.length_nil, List.length_map, List.length_append, List.length_range, List.length_replicate, List.map_cons, List.map_nil, List.cons_append, List.nil_append, List.append_nil, List.replicate_succ, List.replicate_zero, Nat.reduceAdd, Nat.reduceSub, Nat.reduceMul, Nat.reduceLT, Nat.reduceLeDiff, Nat.reduceEqDiff, Nat.reduceMod, Nat.reduceDiv, Nat.reducePow, Int.reduceAdd, Int.reduceSub, Int.reduceMul, Int.reduceNeg, Int.reduceLT, Int.reduceLE, Int.reduceGT, Int.reduceGE, Int.reduceEq, Int.reduceNe, Int.reduceMod, Int.reduceDiv, Int.reducePow, Int.reduceToNat, Nat.add_zero, Nat.zero_add, Nat.sub_zero, Nat.zero_le, Nat.lt_irrefl, ite_true, ite_false, Bool.not_true, Bool.not_false, Bool.true_and, Bool.false_and, Bool.and_true, Bool.and_false, Bool.true_or, Bool.false_or, Bool.or_true, Bool.or_false, Bool.false_eq_true, Bool.true_eq_false, decide_true, decide_false, decide_eq_true_eq, Bool.not_eq_true', Bool.not_eq_false', decide_eq_false_iff_not, decide_not, not_true_eq_false, not_false_eq_true, and_true, true_and, and_false, false_and, or_true, true_or, or_false, false_or, and_self, or_self, if_true, if_false, reduceCtorEq, Fn.start, Int.cast_ofNat_Int, List.all_cons, List.all_nil, List.any_cons, List.any_nil, f_law_names, hx, r30, e1]
  rw [if_pos (by rw [e2]; decide)]
end LW

namespace LW
open PySem PL TL
/-! own dicts with text keys, plain lists (for any law) -/
def addK (ks : List Str) (k : Str) : List Str := if k ∈ ks then ks else ks ++ [k]
theorem zip_put (k : Str) (v : D) (f : Str → D) : ∀ ks : List Str, List.zipWith (fun x y => if x = k then v else y) ks (ks.map f) = ks.map fun x => if x = k then v else f x
  | [] => rfl
  | x :: ks => by rw [List.map_cons, List.zipWith_cons_cons, zip_put k v f ks, List.map_cons]
theorem putL_map (ks : List Str) (f : Str → D) (k : Str) (v : D) : putL ks (ks.map f) k v = (addK ks k, (addK ks k).map fun x => if x = k then v else f x) := by
  unfold putL addK
  by_cases h : k ∈ ks
  · rw [if_pos h, if_pos h, zip_put]
  · rw [if_neg h, if_neg h, List.map_append, List.map_singleton, if_pos rfl]
    congr 2
    exact List.map_congr_left fun x hx => by rw [if_neg fun z : x = k => h (z ▸ hx)]
theorem addK_mem {ks : List Str} {k x : Str} : x ∈ addK ks k ↔ x ∈ ks ∨ x = k := by
  unfold addK
  by_cases h : k ∈ ks
  · rw [if_pos h]
    exact ⟨.inl, fun z => z.elim id fun e => e ▸ h⟩
  · rw [if_neg h, List.mem_append, List.mem_singleton]
theorem addK_nd {ks : List Str} {k : Str} (h : ks.Nodup) : (addK ks k).Nodup := by
  unfold addK
  by_cases c : k ∈ ks
  · rw [if_pos c]; exact h
  · rw [if_neg c]
    exact List.nodup_append.mpr ⟨h, List.nodup_cons.mpr ⟨List.not_mem_nil, List.nodup_nil⟩, fun a ha b hb e => c (by rw [List.mem_singleton] at hb; exact (e.trans hb) ▸ ha)⟩
theorem addK_len (ks : List Str) (k : Str) : (addK ks k).length ≤ ks.length + 1 := by
  unfold addK
  split
  · omega
  · rw [List.length_append]; exact Nat.le_refl _
theorem findD_map (g : Str → D) (k : Str) : ∀ ks : List Str, findD ks (ks.map g) k = if k ∈ ks then some (g k) else none
  | [] => by simp [findD]
  | x :: ks => by
    rw [List.map_cons, findD, findD_map g k ks]
    by_cases h : x = k
    · subst h
      rw [if_pos rfl, if_pos List.mem_cons_self]
    · rw [if_neg h]
      by_cases h2 : k ∈ ks
      · rw [if_pos h2, if_pos (List.mem_cons_of_mem _ h2)]
      · rw [if_neg h2, if_neg fun z => (List.mem_cons.mp z).elim (fun e => h e.symm) h2]
theorem lcD_filter {α : Type} {f : D → Option (Option D)} (g h : α → D) (P : α → Bool) : ∀ xs : List α, (∀ x ∈ xs, f (g x) = some (if P x = true then some (h x) else none)) → lcD f (xs.map g) = some ((xs.filter P).map h)
  | [], _ => rfl
  | x :: xs, e => by
    rw [List.map_cons, lcD_cons, e x List.mem_cons_self, bindS, lcD_filter g h P xs fun y hy => e y (List.mem_cons_of_mem _ hy), mapS]
    by_cases c : P x = true
    · rw [if_pos c, List.filter_cons_of_pos c, List.map_cons]
      rfl
    · rw [if_neg c, List.filter_cons_of_neg c]
      rfl
theorem lcD_map {α : Type} {f : D → Option (Option D)} (g h : α → D) : ∀ xs : List α, (∀ x ∈ xs, f (g x) = some (some (h x))) → lcD f (xs.map g) = some (xs.map h)
  | [], _ => rfl
  | x :: xs, e => by
    rw [List.map_cons, lcD_cons, e x List.mem_cons_self, bindS, lcD_map g h xs fun y hy => e y (List.mem_cons_of_mem _ hy), mapS]
    rfl
/-! texts in order -/
def leS (a b : Str) : Bool := decide (a.cps.toList ≤ b.cps.toList)
theorem str_ext {a b : Str} (h : a.cps.toList = b.cps.toList) : a = b := by
  cases a; cases b
  exact congrArg _ (Array.toList_inj.mp h)
theorem leS_trans (a b c : Str) (h1 : leS a b = true) (h2 : leS b c = true) : leS a c = true := decide_eq_true (List.le_trans (of_decide_eq_true h1) (of_decide_eq_true h2))
theorem leS_total (a b : Str) : (leS a b || leS b a) = true := by
  rcases List.le_total a.cps.toList b.cps.toList with h | h
  · rw [leS, decide_eq_true h]; rfl
  · rw [Bool.or_eq_true]; exact .inr (decide_eq_true h)
theorem leS_anti {a b : Str} (h1 : leS a b = true) (h2 : leS b a = true) : a = b := str_ext (List.le_antisymm (of_decide_eq_true h1) (of_decide_eq_true h2))
theorem sorted_strs (ys : List Str) : (ys.map D.str).mergeSort (PySem.W.dataLe false D.pd) = (ys.mergeSort leS).map D.str := by
  rw [List.map_mergeSort (r := leS) (s := PySem.W.dataLe false D.pd) (f := D.str)]
  intro a _ b _
  have := congrFun (congrFun (PySem.W.dataLe_str (fun x : Str => x)) a) b
  exact this.symm
theorem alls {α : Type} {l : List α} {p : α → Bool} (h : ∀ x ∈ l, p x = true) : l.all p = true := List.all_eq_true.mpr h
theorem pds_mapU : ∀ xs : List D, D.pds xs = xs.map D.pd
  | [] => rfl
  | x :: xs => by rw [D.pds, pds_mapU xs, List.map_cons]
theorem dpOks_strs : ∀ ys : List Str, dpOks (ys.map D.str) = true
  | [] => rfl
  | y :: ys => by
    rw [List.map_cons, dpOks, dpOks_strs ys]
    rfl
theorem srtOk_strs (ys : List Str) : srtOk (D.pds (ys.map D.str)) = true := by
  have e : ∀ d ∈ D.pds (ys.map D.str), ∃ s, d = .str s := by
    intro d hd
    rw [pds_mapU, List.map_map] at hd
    obtain ⟨s, _, rfl⟩ := List.mem_map.mp hd
    exact ⟨s, rfl⟩
  unfold srtOk
  refine Bool.and_eq_true_iff.mpr ⟨alls fun d hd => ?_, Bool.and_eq_true_iff.mpr ⟨alls fun a ha => alls fun b hb => ?_, (Bool.or_eq_true _ _).mpr (.inr (alls fun d hd => ?_))⟩⟩
  · obtain ⟨s, rfl⟩ := e d hd
    simp [PyData.depth]
  · obtain ⟨s, rfl⟩ := e a ha
    obtain ⟨t, rfl⟩ := e b hb
    simp [PySem.W.alike]
  · obtain ⟨s, rfl⟩ := e d hd
    rfl
theorem biD_sorted_strs (ys : List Str) (h : ys.length ≤ 16777216) : biD .sorted_ [.lst (ys.map D.str)] = some (.lst ((ys.mergeSort leS).map D.str)) := by
  have : biD .sorted_ [.lst (ys.map D.str)] = if dpOks (ys.map D.str) = true ∧ srtOk (D.pds (ys.map D.str)) = true ∧ (ys.map D.str).length ≤ sizeLine then some (.lst ((ys.map D.str).mergeSort (PySem.W.dataLe false D.pd))) else none := rfl
  rw [this, if_pos ⟨dpOks_strs ys, srtOk_strs ys, by rw [List.length_map, sizeLine_lit]; exact h⟩, sorted_strs]
theorem mnS_spec (y : Str) : ∀ ys : List Str, ∃ m ∈ y :: ys, mnS (y :: ys) = .str m ∧ ∀ z ∈ y :: ys, leS m z = true := by
  intro ys
  have key : ∀ (ys : List Str) (a : Str), (ys.foldl (fun a z => if decide (z.cps.toList < a.cps.toList) = true then z else a) a ∈ a :: ys) ∧ ∀ z ∈ a :: ys, leS (ys.foldl (fun a z => if decide (z.cps.toList < a.cps.toList) = true then z else a) a) z = true := by
    intro ys
    induction ys with
    | nil =>
      intro a
      exact ⟨List.mem_cons_self, fun z hz => by rw [List.mem_singleton] at hz; subst hz; exact decide_eq_true (List.le_refl _)⟩
    | cons b ys ih =>
      intro a
      rw [List.foldl_cons]
      by_cases h : b.cps.toList < a.cps.toList
      · rw [if_pos (decide_eq_true h)]
        obtain ⟨h1, h2⟩ := ih b
        refine ⟨List.mem_cons_of_mem _ h1, fun z hz => ?_⟩
        rcases List.mem_cons.mp hz with rfl | hz
        · exact leS_trans _ _ _ (h2 b List.mem_cons_self) (decide_eq_true (List.le_of_lt h))
        · exact h2 z hz
      · rw [if_neg fun z => h (of_decide_eq_true z)]
        obtain ⟨h1, h2⟩ := ih a
        refine ⟨?_, fun z hz => ?_⟩
        · rcases List.mem_cons.mp h1 with e | e
          · rw [e]; exact List.mem_cons_self
          · exact List.mem_cons_of_mem _ (List.mem_cons_of_mem _ e)
        · rcases List.mem_cons.mp hz with rfl | hz
          · exact h2 _ List.mem_cons_self
          · rcases List.mem_cons.mp hz with rfl | hz
            · exact leS_trans _ _ _ (h2 a List.mem_cons_self) (decide_eq_true (List.not_lt.mp h))
            · exact h2 z (List.mem_cons_of_mem _ hz)
  obtain ⟨h1, h2⟩ := key ys y
  exact ⟨_, h1, rfl, h2⟩
/-- the first of the sorted ones that fit is the least one -/
theorem least_first (ks ys : List Str) (P Q : Str → Bool) (hk : ∀ k, k ∈ ks ↔ k ∈ ys) (hp : ∀ k, P k = Q k) :
    mnS (ks.filter P) = match (ys.mergeSort leS).find? Q with
      | some k => .str k
      | none => .non := by
  have hs : (ys.mergeSort leS).Pairwise (fun a b => leS a b = true) := List.pairwise_mergeSort leS_trans leS_total ys
  cases hf : (ys.mergeSort leS).find? Q with
  | none =>
    have e : ks.filter P = [] := by
      rw [List.filter_eq_nil_iff]
      intro k hkk
      have := List.find?_eq_none.mp hf k (List.mem_mergeSort.mpr ((hk k).mp hkk))
      rw [hp]
      exact this
    rw [e]
    rfl
  | some b =>
    obtain ⟨h1, as, bs, e, h2⟩ := List.find?_eq_some_iff_append.mp hf
    have hb : b ∈ ks.filter P := List.mem_filter.mpr ⟨(hk b).mpr (List.mem_mergeSort.mp (by rw [e]; simp)), by rw [hp]; exact h1⟩
    cases hl : ks.filter P with
    | nil => rw [hl] at hb; cases hb
    | cons y r =>
      obtain ⟨m, hm, em, hle⟩ := mnS_spec y r
      rw [em]
      show D.str m = D.str b
      rw [← hl] at hm hle
      obtain ⟨m1, m2⟩ := List.mem_filter.mp hm
      have m3 : m ∈ as ++ b :: bs := e ▸ List.mem_mergeSort.mpr ((hk m).mp m1)
      rw [hp] at m2
      have hbm : leS b m = true := by
        rcases List.mem_append.mp m3 with h | h
        · have := h2 m h
          rw [m2] at this
          cases this
        · rcases List.mem_cons.mp h with rfl | h
          · exact decide_eq_true (List.le_refl _)
          · rw [e] at hs
            exact (List.pairwise_cons.mp (List.pairwise_append.mp hs).2.1).1 m h
      rw [leS_anti hbm (hle b hb)]
end LW

namespace LW
open PySem PL TL
structure Tc where
  t : Str
  n : Int
  ch : Bool
  rest : List D
def mode (b : Bool) : Str := if b = true then q "change" else q "look"
def Tc.d (x : Tc) : D := .tup (.str x.t :: .int x.n :: .str (mode x.ch) :: x.rest)
theorem mode_ch (b : Bool) : decide (mode b = q "change") = b := by cases b <;> decide +kernel
def keysT (ks : List Str) (l : List Tc) : List Str := l.foldl (fun ks x => addK ks x.t) ks
def chg (l : List Tc) (k : Str) : Bool := l.any fun x => decide (x.t = k) && x.ch
def dvB (ks : List Str) (f : Str → Bool) : List D := ks.map fun k => .bl (f k)
theorem dvB_flat (ks : List Str) (f : Str → Bool) : (dvB ks f).all flatD = true := List.all_eq_true.mpr fun d hd => by
  obtain ⟨k, _, rfl⟩ := List.mem_map.mp hd
  rfl
theorem put_dvB (ks : List Str) (f : Str → Bool) (k : Str) (b : Bool) : putL ks (dvB ks f) k (.bl b) = (addK ks k, dvB (addK ks k) fun j => if j = k then b else f j) := by
  unfold dvB
  rw [putL_map]
  congr 1
  exact List.map_congr_left fun j _ => by
    show (if j = k then D.bl b else D.bl (f j)) = D.bl (if j = k then b else f j)
    split <;> rfl
theorem get_dvB (ks : List Str) (f : Str → Bool) (hf : ∀ k, k ∉ ks → f k = false) (k : Str) : (findD ks (dvB ks f) k).getD (.bl false) = .bl (f k) := by
  unfold dvB
  rw [findD_map]
  by_cases h : k ∈ ks
  · rw [if_pos h]; rfl
  · rw [if_neg h, hf k h]; rfl
theorem t_step (F : Fc) (s0 : Sl) (ks : List Str) (f : Str → Bool) (hf : ∀ k, k ∉ ks → f k = false) (hl : ks.length < 1000) (x : Tc) :
    exs F G b_touched_0 [s0, .od ks (dvB ks f), .sh x.d] = some (.nx [s0, .od (addK ks x.t) (dvB (addK ks x.t) fun j => if j = x.t then (x.ch || f j) else f j), .sh x.d]) := by
  have hg := dgetD_str ks (dvB ks f) x.t (.bl false) rfl (dvB_flat ks f)
  rw [get_dvB ks f hf] at hg
  have hp : ∀ b, putL ks (dvB ks f) x.t (.bl b) = (addK ks x.t, dvB (addK ks x.t) fun j => if j = x.t then b else f j) := fun b => put_dvB ks f x.t b
  generalize dvB ks f = DV at *
  have hm := mode_ch x.ch
  have hl2 : ks.length < 16777216 := by omega
  cases hc : x.ch with
  | true =>
    rw [hc] at hm
    simp -implicitDefEqProofs only [bindS, mapS, bindN, mapN, ifD_bl, bind_ite', map_ite', ev_c, ev_var, ev_rd, glD_non, glD_bl, glD_int, glD_str, glD_tup, ev_gl, ev_dgT, ev_dix, ev_tix, getT_two, getS_str, ev_tup, ev_lst, ev_bin, ev_dsp, ev_dget, ev_mind, keyD_dcs, negD_int, ev_neg, notD_bl, ev_nt, ev_cmp, ev_chain, ev_an, ev_orr, ev_ife, ev_ix, ev_sl, isNo_nohi, isNo_c, isNo_var, isNo_bin, isNo_neg, isNo_bi, isNo_ix, isNo_call, isNo_me, endD_int, noIo_nil, ev_call, clocD_fn, ev_cloc, noIoL_nil, ev_callb, ev_bi, ev_lc, ev_lcd, ev_lcr, nst_on, rdnD_int, ev_rdn, ev_lenn, revlD_lst, ev_revl, ev_lrg, dic_od, ev_tvals, evs_nil, evs_cons, shd_sh, own_ow, rdv_ow, rdv_od, add_int, sub_int, mod_pos, fdiv_pos, lt_int, le_int, gt_int, ge_int, lt_str, le_str, gt_str, ge_str, is_non_non, is_bl_bl, is_int_non, is_str_non, is_tup_non, is_lst_non, is_bl_non, isnot_bl_bl, isnot_non_non, isnot_int_non, isnot_str_non, isnot_tup_non, isnot_lst_non, isnot_bl_non, cmp_eq, cmp_ne, eq_int, eq_str, eq_bl, eq_non, eq_int_str, eq_str_int, eq_non_str, eq_str_non, eq_non_int, eq_int_non, len_tup, len_lst, len_fls, abs_int, int_int, int_bl, tuple_lst, tuple_tup, list_lst, list_tup, max_int, min_int, list_dcs, isdct_dcs, isint_int, isint_bl, isint_str, isint_tup, isint_lst, isint_non, isbool_int, isbool_bl, isbool_str, isbool_tup, isbool_lst, isbool_non, isstr_int, isstr_bl, isstr_str, isstr_tup, isstr_lst, isstr_non, istuple_int, istuple_bl, istuple_str, istuple_tup, istuple_lst, istuple_non, islist_int, islist_bl, islist_str, islist_tup, islist_lst, islist_non, ix_dcs, in_dcs, ix_tup, ix_lsts, atI_0, atI_1, atI_2, atI_3, atI_4, atI_5, atI_6, atI_7, atI_8, atI_9, atI_10, atI_11, atI_12, ix_fls, ev_me, sl_lst, sl_tup, cmp_isin, cmp_notin, flat_str, flat_int, flat_bl, flat_non, eqF_str, in_tup, seqO_nx, seqO_rt, seqO_bk, seqO_ct, exs_nil, exs_cons, ex_set, setoD_dcs, setoD_lst, ex_seto, ex_unp, augD_int, ex_aug, ex_expr, appD_lst, ex_app, mthD_lst, ex_mth, mthxD_lst, ex_mthx, om_clear, om_pop, om_reverse, setsD_lst, ex_sets, setnD_nil, setnD_one, ex_newd, putdD_str, ex_putd, ex_setn, appnD_lst, ex_appn, appatD_int, ex_appat, ex_popn, ex_popt, apptpD_int, ex_apptp, ex_ret, ex_reto, ex_retn, ex_iff, ex_whl, ex_for, revD_lst, ex_forv, ex_forr, ex_brk, ex_cnt, ex_pass, ex_share, it_tup, it_lst, it_str, it_fls, tg_one, wipe_one, nxO_nx, nxO_ct, nxO_bk, nxO_rt, forD_nil, lcD_nil, lcD_cons, consO_some, consO_none, ansO_nx, ansO_rt, ansO_ite, sizeLine_lit, pow_lit, toNx_nx, toNx_ct, toNx_ite, toA_some, toA_ite, List.getElem?_cons_zero, List.getElem?_cons_succ, List.getElem?_nil, List.set_cons_zero, List.set_cons_succ, List.set_nil, List.length_cons, List.length_nil, List.length_map, List.length_append, List.length_range, List.length_replicate, List.map_cons, List.map_nil, List.cons_append, List.nil_append, List.append_nil, List.replicate_succ, List.replicate_zero, Nat.reduceAdd, Nat.reduceSub, Nat.reduceMul, Nat.reduceLT, Nat.reduceLeDiff, Nat.reduceEqDiff, Nat.reduceMod, Nat.reduceDiv, Nat.reducePow, Int.reduceAdd, Int.reduceSub, Int.reduceMul, Int.reduceNeg, Int.reduceLT, Int.reduceLE, Int.reduceGT, Int.reduceGE, Int.reduceEq, Int.reduceNe, Int.reduceMod, Int.reduceDiv, Int.reducePow, Int.reduceToNat, Nat.add_zero, Nat.zero_add, Nat.sub_zero, Nat.zero_le, Nat.lt_irrefl, ite_true, ite_false, Bool.not_true, Bool.not_false, Bool.true_and, Bool.false_and, Bool.and_true, Bool.and_false, Bool.true_or, Bool.false_or, Bool.or_true, Bool.or_false, Bool.false_eq_true, Bool.true_eq_false, decide_true, decide_false, Bool.not_eq_true', Bool.not_eq_false', decide_eq_false_iff_not, decide_not, not_true_eq_false, not_false_eq_true, and_true, true_and, and_false, false_and, or_true, true_or, or_false, false_or, and_self, or_self, if_true, if_false, reduceCtorEq, Fn.start, Int.cast_ofNat_Int, List.all_cons, List.all_nil, List.any_cons, List.any_nil, b_touched_0, Tc.d, hc, hm, hg, hp, hl2]
  | false =>
    rw [hc] at hm
    simp -implicitDefEqProofs only [bindS, mapS, bindN, mapN, ifD_bl, bind_ite', map_ite', ev_c, ev_var, ev_rd, glD_non, glD_bl, glD_int, glD_str, glD_tup, ev_gl, ev_dgT, ev_dix, ev_tix, getT_two, getS_str, ev_tup, ev_lst, ev_bin, ev_dsp, ev_dget, ev_mind, keyD_dcs, negD_int, ev_neg, notD_bl, ev_nt, ev_cmp, ev_chain, ev_an, ev_orr, ev_ife, ev_ix, ev_sl, isNo_nohi, isNo_c, isNo_var, isNo_bin, isNo_neg, isNo_bi, isNo_ix, isNo_call, isNo_me, endD_int, noIo_nil, ev_call, clocD_fn, ev_cloc, noIoL_nil, ev_callb, ev_bi, ev_lc, ev_lcd, ev_lcr, nst_on, rdnD_int, ev_rdn, ev_lenn, revlD_lst, ev_revl, ev_lrg, dic_od, ev_tvals, evs_nil, evs_cons, shd_sh, own_ow, rdv_ow, rdv_od, add_int, sub_int, mod_pos, fdiv_pos, lt_int, le_int, gt_int, ge_int, lt_str, le_str, gt_str, ge_str, is_non_non, is_bl_bl, is_int_non, is_str_non, is_tup_non, is_lst_non, is_bl_non, isnot_bl_bl, isnot_non_non, isnot_int_non, isnot_str_non, isnot_tup_non, isnot_lst_non, isnot_bl_non, cmp_eq, cmp_ne, eq_int, eq_str, eq_bl, eq_non, eq_int_str, eq_str_int, eq_non_str, eq_str_non, eq_non_int, eq_int_non, len_tup, len_lst, len_fls, abs_int, int_int, int_bl, tuple_lst, tuple_tup, list_lst, list_tup, max_int, min_int, list_dcs, isdct_dcs, isint_int, isint_bl, isint_str, isint_tup, isint_lst, isint_non, isbool_int, isbool_bl, isbool_str, isbool_tup, isbool_lst, isbool_non, isstr_int, isstr_bl, isstr_str, isstr_tup, isstr_lst, isstr_non, istuple_int, istuple_bl, istuple_str, istuple_tup, istuple_lst, istuple_non, islist_int, islist_bl, islist_str, islist_tup, islist_lst, islist_non, ix_dcs, in_dcs, ix_tup, ix_lsts, atI_0, atI_1, atI_2, atI_3, atI_4, atI_5, atI_6, atI_7, atI_8, atI_9, atI_10, atI_11, atI_12, ix_fls, ev_me, sl_lst, sl_tup, cmp_isin, cmp_notin, flat_str, flat_int, flat_bl, flat_non, eqF_str, in_tup, seqO_nx, seqO_rt, seqO_bk, seqO_ct, exs_nil, exs_cons, ex_set, setoD_dcs, setoD_lst, ex_seto, ex_unp, augD_int, ex_aug, ex_expr, appD_lst, ex_app, mthD_lst, ex_mth, mthxD_lst, ex_mthx, om_clear, om_pop, om_reverse, setsD_lst, ex_sets, setnD_nil, setnD_one, ex_newd, putdD_str, ex_putd, ex_setn, appnD_lst, ex_appn, appatD_int, ex_appat, ex_popn, ex_popt, apptpD_int, ex_apptp, ex_ret, ex_reto, ex_retn, ex_iff, ex_whl, ex_for, revD_lst, ex_forv, ex_forr, ex_brk, ex_cnt, ex_pass, ex_share, it_tup, it_lst, it_str, it_fls, tg_one, wipe_one, nxO_nx, nxO_ct, nxO_bk, nxO_rt, forD_nil, lcD_nil, lcD_cons, consO_some, consO_none, ansO_nx, ansO_rt, ansO_ite, sizeLine_lit, pow_lit, toNx_nx, toNx_ct, toNx_ite, toA_some, toA_ite, List.getElem?_cons_zero, List.getElem?_cons_succ, List.getElem?_nil, List.set_cons_zero, List.set_cons_succ, List.set_nil, List.length_cons, List.length_nil, List.length_map, List.length_append, List.length_range, List.length_replicate, List.map_cons, List.map_nil, List.cons_append, List.nil_append, List.append_nil, List.replicate_succ, List.replicate_zero, Nat.reduceAdd, Nat.reduceSub, Nat.reduceMul, Nat.reduceLT, Nat.reduceLeDiff, Nat.reduceEqDiff, Nat.reduceMod, Nat.reduceDiv, Nat.reducePow, Int.reduceAdd, Int.reduceSub, Int.reduceMul, Int.reduceNeg, Int.reduceLT, Int.reduceLE, Int.reduceGT, Int.reduceGE, Int.reduceEq, Int.reduceNe, Int.reduceMod, Int.reduceDiv, Int.reducePow, Int.reduceToNat, Nat.add_zero, Nat.zero_add, Nat.sub_zero, Nat.zero_le, Nat.lt_irrefl, ite_true, ite_false, Bool.not_true, Bool.not_false, Bool.true_and, Bool.false_and, Bool.and_true, Bool.and_false, Bool.true_or, Bool.false_or, Bool.or_true, Bool.or_false, Bool.false_eq_true, Bool.true_eq_false, decide_true, decide_false, Bool.not_eq_true', Bool.not_eq_false', decide_eq_false_iff_not, decide_not, not_true_eq_false, not_false_eq_true, and_true, true_and, and_false, false_and, or_true, true_or, or_false, false_or, and_self, or_self, if_true, if_false, reduceCtorEq, Fn.start, Int.cast_ofNat_Int, List.all_cons, List.all_nil, List.any_cons, List.any_nil, b_touched_0, Tc.d, hc, hm, hg, hp, hl2]
    congr 5
    refine congrArg (dvB _) (funext fun j => ?_)
    by_cases e : j = x.t
    · rw [if_pos e, if_pos e, e]
    · rw [if_neg e, if_neg e]
theorem t_loop (F : Fc) (s0 : Sl) : ∀ (l : List Tc) (ks : List Str) (f : Str → Bool) (z : Sl), (∀ k, k ∉ ks → f k = false) → ks.length + l.length < 1000 →
    ∃ z', forD (tgD [2]) (exs F G b_touched_0) (l.map Tc.d) [s0, .od ks (dvB ks f), z] = some (.nx [s0, .od (keysT ks l) (dvB (keysT ks l) fun k => f k || chg l k), z'])
  | [], ks, f, z, _, _ => ⟨z, by
    have e : (fun k => f k || chg [] k) = f := funext fun k => by show (f k || false) = f k; cases f k <;> rfl
    rw [e]
    rfl⟩
  | x :: l, ks, f, z, hf, hl => by
    rw [List.length_cons] at hl
    obtain ⟨z', e⟩ := t_loop F s0 l (addK ks x.t) (fun j => if j = x.t then (x.ch || f j) else f j) (.sh x.d) (fun k hk => by
      have h1 : k ∉ ks ∧ k ≠ x.t := ⟨fun h => hk (addK_mem.mpr (.inl h)), fun h => hk (addK_mem.mpr (.inr h))⟩
      rw [if_neg h1.2]
      exact hf k h1.1) (by have := addK_len ks x.t; omega)
    refine ⟨z', ?_⟩
    rw [List.map_cons, forD_cons, tg_one, bindS]
    simp only [List.set_cons_succ, List.set_cons_zero]
    rw [t_step F s0 ks f hf (by omega), bindS, nxO_nx, e]
    have e2 : (fun k => (if k = x.t then (x.ch || f k) else f k) || chg l k) = fun k => f k || chg (x :: l) k := funext fun k => by
      show _ = (f k || ((decide (x.t = k) && x.ch) || chg l k))
      by_cases h : k = x.t
      · rw [if_pos h, decide_eq_true h.symm]
        cases x.ch <;> cases f k <;> rfl
      · rw [if_neg h, decide_eq_false fun z => h z.symm]
        cases f k <;> rfl
    rw [e2]
    rfl
theorem c_touched (n : Nat) (l : List Tc) (hl : l.length < 100) : call T G (n + 1) k_touched [.tup (l.map Tc.d)] = some (.dcs (keysT [] l) (dvB (keysT [] l) (chg l)), []) := by
  rw [call_of T_touched rfl]
  obtain ⟨z', e⟩ := t_loop (call T G n) (.sh (.tup (l.map Tc.d))) l [] (fun _ => false) .un (fun _ _ => rfl) (by rw [List.length_nil]; omega)
  have e1 : dvB [] (fun _ => false) = [] := rfl
  rw [e1] at e
  simp -implicitDefEqProofs only [bindS, mapS, bindN, mapN, ifD_bl, bind_ite', map_ite', ev_c, ev_var, ev_rd, glD_non, glD_bl, glD_int, glD_str, glD_tup, ev_gl, ev_dgT, ev_dix, ev_tix, getT_two, getS_str, ev_tup, ev_lst, ev_bin, ev_dsp, ev_dget, ev_mind, keyD_dcs, negD_int, ev_neg, notD_bl, ev_nt, ev_cmp, ev_chain, ev_an, ev_orr, ev_ife, ev_ix, ev_sl, isNo_nohi, isNo_c, isNo_var, isNo_bin, isNo_neg, isNo_bi, isNo_ix, isNo_call, isNo_me, endD_int, noIo_nil, ev_call, clocD_fn, ev_cloc, noIoL_nil, ev_callb, ev_bi, ev_lc, ev_lcd, ev_lcr, nst_on, rdnD_int, ev_rdn, ev_lenn, revlD_lst, ev_revl, ev_lrg, dic_od, ev_tvals, evs_nil, evs_cons, shd_sh, own_ow, rdv_ow, rdv_od, add_int, sub_int, mod_pos, fdiv_pos, lt_int, le_int, gt_int, ge_int, lt_str, le_str, gt_str, ge_str, is_non_non, is_bl_bl, is_int_non, is_str_non, is_tup_non, is_lst_non, is_bl_non, isnot_bl_bl, isnot_non_non, isnot_int_non, isnot_str_non, isnot_tup_non, isnot_lst_non, isnot_bl_non, cmp_eq, cmp_ne, eq_int, eq_str, eq_bl, eq_non, eq_int_str, eq_str_int, eq_non_str, eq_str_non, eq_non_int, eq_int_non, len_tup, len_lst, len_fls, abs_int, int_int, int_bl, tuple_lst, tuple_tup, list_lst, list_tup, max_int, min_int, list_dcs, isdct_dcs, isint_int, isint_bl, isint_str, isint_tup, isint_lst, isint_non, isbool_int, isbool_bl, isbool_str, isbool_tup, isbool_lst, isbool_non, isstr_int, isstr_bl, isstr_str, isstr_tup, isstr_lst, isstr_non, istuple_int, istuple_bl, istuple_str, istuple_tup, istuple_lst, istuple_non, islist_int, islist_bl, islist_str, islist_tup, islist_lst, islist_non, ix_dcs, in_dcs, ix_tup, ix_lsts, atI_0, atI_1, atI_2, atI_3, atI_4, atI_5, atI_6, atI_7, atI_8, atI_9, atI_10, atI_11, atI_12, ix_fls, ev_me, sl_lst, sl_tup, cmp_isin, cmp_notin, flat_str, flat_int, flat_bl, flat_non, eqF_str, in_tup, seqO_nx, seqO_rt, seqO_bk, seqO_ct, exs_nil, exs_cons, ex_set, setoD_dcs, setoD_lst, ex_seto, ex_unp, augD_int, ex_aug, ex_expr, appD_lst, ex_app, mthD_lst, ex_mth, mthxD_lst, ex_mthx, om_clear, om_pop, om_reverse, setsD_lst, ex_sets, setnD_nil, setnD_one, ex_newd, putdD_str, ex_putd, ex_setn, appnD_lst, ex_appn, appatD_int, ex_appat, ex_popn, ex_popt, apptpD_int, ex_apptp, ex_ret, ex_reto, ex_retn, ex_iff, ex_whl, ex_for, revD_lst, ex_forv, ex_forr, ex_brk, ex_cnt, ex_pass, ex_share, it_tup, it_lst, it_str, it_fls, tg_one, wipe_one, nxO_nx, nxO_ct, nxO_bk, nxO_rt, forD_nil, lcD_nil, lcD_cons, consO_some, consO_none, ansO_nx, ansO_rt, ansO_ite, sizeLine_lit, pow_lit, toNx_nx, toNx_ct, toNx_ite, toA_some, toA_ite, List.getElem?_cons_zero, List.getElem?_cons_succ, List.getElem?_nil, List.set_cons_zero, List.set_cons_succ, List.set_nil, List.length_cons, List.length_nil, List.length_map, List.length_append, List.length_range, List.length_replicate, List.map_cons, List.map_nil, List.cons_append, List.nil_append, List.append_nil, List.replicate_succ, List.replicate_zero, Nat.reduceAdd, Nat.reduceSub, Nat.reduceMul, Nat.reduceLT, Nat.reduceLeDiff, Nat.reduceEqDiff, Nat.reduceMod, Nat.reduceDiv, Nat.reducePow, Int.reduceAdd, Int.reduceSub, Int.reduceMul, Int.reduceNeg, Int.reduceLT, Int.reduceLE, Int.reduceGT, Int.reduceGE, Int.reduceEq, Int.reduceNe, Int.reduceMod, Int.reduceDiv, Int.reducePow, Int.reduceToNat, Nat.add_zero, Nat.zero_add, Nat.sub_zero, Nat.zero_le, Nat.lt_irrefl, ite_true, ite_false, Bool.not_true, Bool.not_false, Bool.true_and, Bool.false_and, Bool.and_true, Bool.and_false, Bool.true_or, Bool.false_or, Bool.or_true, Bool.or_false, Bool.false_eq_true, Bool.true_eq_false, decide_true, decide_false, decide_eq_true_eq, Bool.not_eq_true', Bool.not_eq_false', decide_eq_false_iff_not, decide_not, not_true_eq_false, not_false_eq_true, and_true, true_and, and_false, false_and, or_true, true_or, or_false, false_or, and_self, or_self, if_true, if_false, reduceCtorEq, Fn.start, Int.cast_ofNat_Int, List.all_cons, List.all_nil, List.any_cons, List.any_nil, f_touched, e]
theorem keysT_mem : ∀ (l : List Tc) (ks : List Str) (k : Str), k ∈ keysT ks l ↔ k ∈ ks ∨ k ∈ l.map Tc.t
  | [], ks, k => by simp [keysT]
  | x :: l, ks, k => by
    show k ∈ keysT (addK ks x.t) l ↔ _
    rw [keysT_mem l, addK_mem, List.map_cons, List.mem_cons, or_assoc]
theorem keysT_len : ∀ (l : List Tc) (ks : List Str), (keysT ks l).length ≤ ks.length + l.length
  | [], ks => Nat.le_refl _
  | x :: l, ks => by
    have h1 := keysT_len l (addK ks x.t)
    have h2 := addK_len ks x.t
    rw [List.length_cons]
    show (keysT (addK ks x.t) l).length ≤ _
    omega
def both (k2 : List Str) (f1 f2 : Str → Bool) (k : Str) : Bool := decide (k ∈ k2) && (f1 k || f2 k)
theorem lm_turn (F : Fc) (k1 k2 : List Str) (f1 f2 : Str → Bool) (k : Str) (hk : k ∈ k1) (x : Sl) (y : Sl) :
    lcT F G [3] (.an (.cmp .isin (.var 3) (.var 1)) (.orr (.ix (.var 0) (.var 3)) (.ix (.var 1) (.var 3)))) (.var 3) [.sh (.dcs k1 (dvB k1 f1)), .sh (.dcs k2 (dvB k2 f2)), x, y] (.str k) = some (if both k2 f1 f2 k = true then some (.str k) else none) := by
  have g1 : findD k1 (dvB k1 f1) k = some (.bl (f1 k)) := by unfold dvB; rw [findD_map, if_pos hk]
  have g2 : findD k2 (dvB k2 f2) k = if k ∈ k2 then some (.bl (f2 k)) else none := by unfold dvB; rw [findD_map]
  generalize dvB k1 f1 = D1 at *
  generalize dvB k2 f2 = D2 at *
  unfold lcT both
  by_cases h : k ∈ k2
  · rw [if_pos h] at g2
    have i2 : inD (.str k) (.dcs k2 D2) = some true := by rw [in_dcs, g2]; rfl
    rw [decide_eq_true h]
    cases h1 : f1 k <;> cases h2 : f2 k <;> (rw [h1] at g1; rw [h2] at g2; simp -implicitDefEqProofs only [bindS, mapS, bindN, mapN, ifD_bl, bind_ite', map_ite', ev_c, ev_var, ev_rd, glD_non, glD_bl, glD_int, glD_str, glD_tup, ev_gl, ev_dgT, ev_dix, ev_tix, getT_two, getS_str, ev_tup, ev_lst, ev_bin, ev_dsp, ev_dget, ev_mind, keyD_dcs, negD_int, ev_neg, notD_bl, ev_nt, ev_cmp, ev_chain, ev_an, ev_orr, ev_ife, ev_ix, ev_sl, isNo_nohi, isNo_c, isNo_var, isNo_bin, isNo_neg, isNo_bi, isNo_ix, isNo_call, isNo_me, endD_int, noIo_nil, ev_call, clocD_fn, ev_cloc, noIoL_nil, ev_callb, ev_bi, ev_lc, ev_lcd, ev_lcr, nst_on, rdnD_int, ev_rdn, ev_lenn, revlD_lst, ev_revl, ev_lrg, dic_od, ev_tvals, evs_nil, evs_cons, shd_sh, own_ow, rdv_ow, rdv_od, add_int, sub_int, mod_pos, fdiv_pos, lt_int, le_int, gt_int, ge_int, lt_str, le_str, gt_str, ge_str, is_non_non, is_bl_bl, is_int_non, is_str_non, is_tup_non, is_lst_non, is_bl_non, isnot_bl_bl, isnot_non_non, isnot_int_non, isnot_str_non, isnot_tup_non, isnot_lst_non, isnot_bl_non, cmp_eq, cmp_ne, eq_int, eq_str, eq_bl, eq_non, eq_int_str, eq_str_int, eq_non_str, eq_str_non, eq_non_int, eq_int_non, len_tup, len_lst, len_fls, abs_int, int_int, int_bl, tuple_lst, tuple_tup, list_lst, list_tup, max_int, min_int, list_dcs, isdct_dcs, isint_int, isint_bl, isint_str, isint_tup, isint_lst, isint_non, isbool_int, isbool_bl, isbool_str, isbool_tup, isbool_lst, isbool_non, isstr_int, isstr_bl, isstr_str, isstr_tup, isstr_lst, isstr_non, istuple_int, istuple_bl, istuple_str, istuple_tup, istuple_lst, istuple_non, islist_int, islist_bl, islist_str, islist_tup, islist_lst, islist_non, ix_dcs, in_dcs, ix_tup, ix_lsts, atI_0, atI_1, atI_2, atI_3, atI_4, atI_5, atI_6, atI_7, atI_8, atI_9, atI_10, atI_11, atI_12, ix_fls, ev_me, sl_lst, sl_tup, cmp_isin, cmp_notin, flat_str, flat_int, flat_bl, flat_non, eqF_str, in_tup, seqO_nx, seqO_rt, seqO_bk, seqO_ct, exs_nil, exs_cons, ex_set, setoD_dcs, setoD_lst, ex_seto, ex_unp, augD_int, ex_aug, ex_expr, appD_lst, ex_app, mthD_lst, ex_mth, mthxD_lst, ex_mthx, om_clear, om_pop, om_reverse, setsD_lst, ex_sets, setnD_nil, setnD_one, ex_newd, putdD_str, ex_putd, ex_setn, appnD_lst, ex_appn, appatD_int, ex_appat, ex_popn, ex_popt, apptpD_int, ex_apptp, ex_ret, ex_reto, ex_retn, ex_iff, ex_whl, ex_for, revD_lst, ex_forv, ex_forr, ex_brk, ex_cnt, ex_pass, ex_share, it_tup, it_lst, it_str, it_fls, tg_one, wipe_one, nxO_nx, nxO_ct, nxO_bk, nxO_rt, forD_nil, lcD_nil, lcD_cons, consO_some, consO_none, ansO_nx, ansO_rt, ansO_ite, sizeLine_lit, pow_lit, toNx_nx, toNx_ct, toNx_ite, toA_some, toA_ite, List.getElem?_cons_zero, List.getElem?_cons_succ, List.getElem?_nil, List.set_cons_zero, List.set_cons_succ, List.set_nil, List.length_cons, List.length_nil, List.length_map, List.length_append, List.length_range, List.length_replicate, List.map_cons, List.map_nil, List.cons_append, List.nil_append, List.append_nil, List.replicate_succ, List.replicate_zero, Nat.reduceAdd, Nat.reduceSub, Nat.reduceMul, Nat.reduceLT, Nat.reduceLeDiff, Nat.reduceEqDiff, Nat.reduceMod, Nat.reduceDiv, Nat.reducePow, Int.reduceAdd, Int.reduceSub, Int.reduceMul, Int.reduceNeg, Int.reduceLT, Int.reduceLE, Int.reduceGT, Int.reduceGE, Int.reduceEq, Int.reduceNe, Int.reduceMod, Int.reduceDiv, Int.reducePow, Int.reduceToNat, Nat.add_zero, Nat.zero_add, Nat.sub_zero, Nat.zero_le, Nat.lt_irrefl, ite_true, ite_false, Bool.not_true, Bool.not_false, Bool.true_and, Bool.false_and, Bool.and_true, Bool.and_false, Bool.true_or, Bool.false_or, Bool.or_true, Bool.or_false, Bool.false_eq_true, Bool.true_eq_false, decide_true, decide_false, decide_eq_true_eq, Bool.not_eq_true', Bool.not_eq_false', decide_eq_false_iff_not, decide_not, not_true_eq_false, not_false_eq_true, and_true, true_and, and_false, false_and, or_true, true_or, or_false, false_or, and_self, or_self, if_true, if_false, reduceCtorEq, Fn.start, Int.cast_ofNat_Int, List.all_cons, List.all_nil, List.any_cons, List.any_nil, i2, g1, g2])
  · rw [if_neg h] at g2
    have i2 : inD (.str k) (.dcs k2 D2) = some false := by rw [in_dcs, g2]; rfl
    rw [decide_eq_false h]
    simp -implicitDefEqProofs only [bindS, mapS, bindN, mapN, ifD_bl, bind_ite', map_ite', ev_c, ev_var, ev_rd, glD_non, glD_bl, glD_int, glD_str, glD_tup, ev_gl, ev_dgT, ev_dix, ev_tix, getT_two, getS_str, ev_tup, ev_lst, ev_bin, ev_dsp, ev_dget, ev_mind, keyD_dcs, negD_int, ev_neg, notD_bl, ev_nt, ev_cmp, ev_chain, ev_an, ev_orr, ev_ife, ev_ix, ev_sl, isNo_nohi, isNo_c, isNo_var, isNo_bin, isNo_neg, isNo_bi, isNo_ix, isNo_call, isNo_me, endD_int, noIo_nil, ev_call, clocD_fn, ev_cloc, noIoL_nil, ev_callb, ev_bi, ev_lc, ev_lcd, ev_lcr, nst_on, rdnD_int, ev_rdn, ev_lenn, revlD_lst, ev_revl, ev_lrg, dic_od, ev_tvals, evs_nil, evs_cons, shd_sh, own_ow, rdv_ow, rdv_od, add_int, sub_int, mod_pos, fdiv_pos, lt_int, le_int, gt_int, ge_int, lt_str, le_str, gt_str, ge_str, is_non_non, is_bl_bl, is_int_non, is_str_non, is_tup_non, is_lst_non, is_bl_non, isnot_bl_bl, isnot_non_non, isnot_int_non, isnot_str_non, isnot_tup_non, isnot_lst_non, isnot_bl_non, cmp_eq, cmp_ne, eq_int, eq_str, eq_bl, eq_non, eq_int_str, eq_str_int, eq_non_str, eq_str_non, eq_non_int, eq_int_non, len_tup, len_lst, len_fls, abs_int, int_int, int_bl, tuple_lst, tuple_tup, list_lst, list_tup, max_int, min_int, list_dcs, isdct_dcs, isint_int, isint_bl, isint_str, isint_tup, isint_lst, isint_non, isbool_int, isbool_bl, isbool_str, isbool_tup, isbool_lst, isbool_non, isstr_int, isstr_bl, isstr_str, isstr_tup, isstr_lst, isstr_non, istuple_int, istuple_bl, istuple_str, istuple_tup, istuple_lst, istuple_non, islist_int, islist_bl, islist_str, islist_tup, islist_lst, islist_non, ix_dcs, in_dcs, ix_tup, ix_lsts, atI_0, atI_1, atI_2, atI_3, atI_4, atI_5, atI_6, atI_7, atI_8, atI_9, atI_10, atI_11, atI_12, ix_fls, ev_me, sl_lst, sl_tup, cmp_isin, cmp_notin, flat_str, flat_int, flat_bl, flat_non, eqF_str, in_tup, seqO_nx, seqO_rt, seqO_bk, seqO_ct, exs_nil, exs_cons, ex_set, setoD_dcs, setoD_lst, ex_seto, ex_unp, augD_int, ex_aug, ex_expr, appD_lst, ex_app, mthD_lst, ex_mth, mthxD_lst, ex_mthx, om_clear, om_pop, om_reverse, setsD_lst, ex_sets, setnD_nil, setnD_one, ex_newd, putdD_str, ex_putd, ex_setn, appnD_lst, ex_appn, appatD_int, ex_appat, ex_popn, ex_popt, apptpD_int, ex_apptp, ex_ret, ex_reto, ex_retn, ex_iff, ex_whl, ex_for, revD_lst, ex_forv, ex_forr, ex_brk, ex_cnt, ex_pass, ex_share, it_tup, it_lst, it_str, it_fls, tg_one, wipe_one, nxO_nx, nxO_ct, nxO_bk, nxO_rt, forD_nil, lcD_nil, lcD_cons, consO_some, consO_none, ansO_nx, ansO_rt, ansO_ite, sizeLine_lit, pow_lit, toNx_nx, toNx_ct, toNx_ite, toA_some, toA_ite, List.getElem?_cons_zero, List.getElem?_cons_succ, List.getElem?_nil, List.set_cons_zero, List.set_cons_succ, List.set_nil, List.length_cons, List.length_nil, List.length_map, List.length_append, List.length_range, List.length_replicate, List.map_cons, List.map_nil, List.cons_append, List.nil_append, List.append_nil, List.replicate_succ, List.replicate_zero, Nat.reduceAdd, Nat.reduceSub, Nat.reduceMul, Nat.reduceLT, Nat.reduceLeDiff, Nat.reduceEqDiff, Nat.reduceMod, Nat.reduceDiv, Nat.reducePow, Int.reduceAdd, Int.reduceSub, Int.reduceMul, Int.reduceNeg, Int.reduceLT, Int.reduceLE, Int.reduceGT, Int.reduceGE, Int.reduceEq, Int.reduceNe, Int.reduceMod, Int.reduceDiv, Int.reducePow, Int.reduceToNat, Nat.add_zero, Nat.zero_add, Nat.sub_zero, Nat.zero_le, Nat.lt_irrefl, ite_true, ite_false, Bool.not_true, Bool.not_false, Bool.true_and, Bool.false_and, Bool.and_true, Bool.and_false, Bool.true_or, Bool.false_or, Bool.or_true, Bool.or_false, Bool.false_eq_true, Bool.true_eq_false, decide_true, decide_false, decide_eq_true_eq, Bool.not_eq_true', Bool.not_eq_false', decide_eq_false_iff_not, decide_not, not_true_eq_false, not_false_eq_true, and_true, true_and, and_false, false_and, or_true, true_or, or_false, false_or, and_self, or_self, if_true, if_false, reduceCtorEq, Fn.start, Int.cast_ofNat_Int, List.all_cons, List.all_nil, List.any_cons, List.any_nil, i2]
theorem c_meeting (n : Nat) (l1 l2 : List Tc) (h1 : l1.length < 100) (h2 : l2.length < 100) : call T G (n + 2) k_meeting [.tup (l1.map Tc.d), .tup (l2.map Tc.d)] = some (mnS ((keysT [] l1).filter (both (keysT [] l2) (chg l1) (chg l2))), []) := by
  have e1 := c_touched n l1 h1
  have e2 := c_touched n l2 h2
  have l1' := keysT_len l1 []
  generalize keysT [] l1 = k1 at *
  generalize keysT [] l2 = k2 at *
  have lc := lcD_filter (f := lcT (call T G n) G [3] (.an (.cmp .isin (.var 3) (.var 1)) (.orr (.ix (.var 0) (.var 3)) (.ix (.var 1) (.var 3)))) (.var 3) [.sh (.dcs k1 (dvB k1 (chg l1))), .sh (.dcs k2 (dvB k2 (chg l2))), .un, .un]) D.str D.str (both k2 (chg l1) (chg l2)) k1 fun k hk => lm_turn _ k1 k2 _ _ k hk _ _
  have hz : (k1.filter (both k2 (chg l1) (chg l2))).length ≤ 16777216 := Nat.le_trans (List.length_filter_le _ _) (by rw [List.length_nil] at l1'; omega)
  have md := mindD_strs (k1.filter (both k2 (chg l1) (chg l2)))
  have e3 : call T G (n + 1) k_least_meeting [.dcs k1 (dvB k1 (chg l1)), .dcs k2 (dvB k2 (chg l2))] = some (mnS (k1.filter (both k2 (chg l1) (chg l2))), []) := by
    rw [call_of T_least_meeting rfl]
    generalize dvB k1 (chg l1) = D1 at *
    generalize dvB k2 (chg l2) = D2 at *
    simp -implicitDefEqProofs only [bindS, mapS, bindN, mapN, ifD_bl, bind_ite', map_ite', ev_c, ev_var, ev_rd, glD_non, glD_bl, glD_int, glD_str, glD_tup, ev_gl, ev_dgT, ev_dix, ev_tix, getT_two, getS_str, ev_tup, ev_lst, ev_bin, ev_dsp, ev_dget, ev_mind, keyD_dcs, negD_int, ev_neg, notD_bl, ev_nt, ev_cmp, ev_chain, ev_an, ev_orr, ev_ife, ev_ix, ev_sl, isNo_nohi, isNo_c, isNo_var, isNo_bin, isNo_neg, isNo_bi, isNo_ix, isNo_call, isNo_me, endD_int, noIo_nil, ev_call, clocD_fn, ev_cloc, noIoL_nil, ev_callb, ev_bi, ev_lc, ev_lcd, ev_lcr, nst_on, rdnD_int, ev_rdn, ev_lenn, revlD_lst, ev_revl, ev_lrg, dic_od, ev_tvals, evs_nil, evs_cons, shd_sh, own_ow, rdv_ow, rdv_od, add_int, sub_int, mod_pos, fdiv_pos, lt_int, le_int, gt_int, ge_int, lt_str, le_str, gt_str, ge_str, is_non_non, is_bl_bl, is_int_non, is_str_non, is_tup_non, is_lst_non, is_bl_non, isnot_bl_bl, isnot_non_non, isnot_int_non, isnot_str_non, isnot_tup_non, isnot_lst_non, isnot_bl_non, cmp_eq, cmp_ne, eq_int, eq_str, eq_bl, eq_non, eq_int_str, eq_str_int, eq_non_str, eq_str_non, eq_non_int, eq_int_non, len_tup, len_lst, len_fls, abs_int, int_int, int_bl, tuple_lst, tuple_tup, list_lst, list_tup, max_int, min_int, list_dcs, isdct_dcs, isint_int, isint_bl, isint_str, isint_tup, isint_lst, isint_non, isbool_int, isbool_bl, isbool_str, isbool_tup, isbool_lst, isbool_non, isstr_int, isstr_bl, isstr_str, isstr_tup, isstr_lst, isstr_non, istuple_int, istuple_bl, istuple_str, istuple_tup, istuple_lst, istuple_non, islist_int, islist_bl, islist_str, islist_tup, islist_lst, islist_non, ix_dcs, in_dcs, ix_tup, ix_lsts, atI_0, atI_1, atI_2, atI_3, atI_4, atI_5, atI_6, atI_7, atI_8, atI_9, atI_10, atI_11, atI_12, ix_fls, ev_me, sl_lst, sl_tup, cmp_isin, cmp_notin, flat_str, flat_int, flat_bl, flat_non, eqF_str, in_tup, seqO_nx, seqO_rt, seqO_bk, seqO_ct, exs_nil, exs_cons, ex_set, setoD_dcs, setoD_lst, ex_seto, ex_unp, augD_int, ex_aug, ex_expr, appD_lst, ex_app, mthD_lst, ex_mth, mthxD_lst, ex_mthx, om_clear, om_pop, om_reverse, setsD_lst, ex_sets, setnD_nil, setnD_one, ex_newd, putdD_str, ex_putd, ex_setn, appnD_lst, ex_appn, appatD_int, ex_appat, ex_popn, ex_popt, apptpD_int, ex_apptp, ex_ret, ex_reto, ex_retn, ex_iff, ex_whl, ex_for, revD_lst, ex_forv, ex_forr, ex_brk, ex_cnt, ex_pass, ex_share, it_tup, it_lst, it_str, it_fls, tg_one, wipe_one, nxO_nx, nxO_ct, nxO_bk, nxO_rt, forD_nil, lcD_nil, lcD_cons, consO_some, consO_none, ansO_nx, ansO_rt, ansO_ite, sizeLine_lit, pow_lit, toNx_nx, toNx_ct, toNx_ite, toA_some, toA_ite, List.getElem?_cons_zero, List.getElem?_cons_succ, List.getElem?_nil, List.set_cons_zero, List.set_cons_succ, List.set_nil, List.length_cons, List.length_nil, List.length_map, List.length_append, List.length_range, List.length_replicate, List.map_cons, List.map_nil, List.cons_append, List.nil_append, List.append_nil, List.replicate_succ, List.replicate_zero, Nat.reduceAdd, Nat.reduceSub, Nat.reduceMul, Nat.reduceLT, Nat.reduceLeDiff, Nat.reduceEqDiff, Nat.reduceMod, Nat.reduceDiv, Nat.reducePow, Int.reduceAdd, Int.reduceSub, Int.reduceMul, Int.reduceNeg, Int.reduceLT, Int.reduceLE, Int.reduceGT, Int.reduceGE, Int.reduceEq, Int.reduceNe, Int.reduceMod, Int.reduceDiv, Int.reducePow, Int.reduceToNat, Nat.add_zero, Nat.zero_add, Nat.sub_zero, Nat.zero_le, Nat.lt_irrefl, ite_true, ite_false, Bool.not_true, Bool.not_false, Bool.true_and, Bool.false_and, Bool.and_true, Bool.and_false, Bool.true_or, Bool.false_or, Bool.or_true, Bool.or_false, Bool.false_eq_true, Bool.true_eq_false, decide_true, decide_false, decide_eq_true_eq, Bool.not_eq_true', Bool.not_eq_false', decide_eq_false_iff_not, decide_not, not_true_eq_false, not_false_eq_true, and_true, true_and, and_false, false_and, or_true, true_or, or_false, false_or, and_self, or_self, if_true, if_false, reduceCtorEq, Fn.start, Int.cast_ofNat_Int, List.all_cons, List.all_nil, List.any_cons, List.any_nil, f_least_meeting, lc, hz, md]
  rw [call_of T_meeting rfl]
  generalize dvB k1 (chg l1) = D1 at *
  generalize dvB k2 (chg l2) = D2 at *
  simp -implicitDefEqProofs only [bindS, mapS, bindN, mapN, ifD_bl, bind_ite', map_ite', ev_c, ev_var, ev_rd, glD_non, glD_bl, glD_int, glD_str, glD_tup, ev_gl, ev_dgT, ev_dix, ev_tix, getT_two, getS_str, ev_tup, ev_lst, ev_bin, ev_dsp, ev_dget, ev_mind, keyD_dcs, negD_int, ev_neg, notD_bl, ev_nt, ev_cmp, ev_chain, ev_an, ev_orr, ev_ife, ev_ix, ev_sl, isNo_nohi, isNo_c, isNo_var, isNo_bin, isNo_neg, isNo_bi, isNo_ix, isNo_call, isNo_me, endD_int, noIo_nil, ev_call, clocD_fn, ev_cloc, noIoL_nil, ev_callb, ev_bi, ev_lc, ev_lcd, ev_lcr, nst_on, rdnD_int, ev_rdn, ev_lenn, revlD_lst, ev_revl, ev_lrg, dic_od, ev_tvals, evs_nil, evs_cons, shd_sh, own_ow, rdv_ow, rdv_od, add_int, sub_int, mod_pos, fdiv_pos, lt_int, le_int, gt_int, ge_int, lt_str, le_str, gt_str, ge_str, is_non_non, is_bl_bl, is_int_non, is_str_non, is_tup_non, is_lst_non, is_bl_non, isnot_bl_bl, isnot_non_non, isnot_int_non, isnot_str_non, isnot_tup_non, isnot_lst_non, isnot_bl_non, cmp_eq, cmp_ne, eq_int, eq_str, eq_bl, eq_non, eq_int_str, eq_str_int, eq_non_str, eq_str_non, eq_non_int, eq_int_non, len_tup, len_lst, len_fls, abs_int, int_int, int_bl, tuple_lst, tuple_tup, list_lst, list_tup, max_int, min_int, list_dcs, isdct_dcs, isint_int, isint_bl, isint_str, isint_tup, isint_lst, isint_non, isbool_int, isbool_bl, isbool_str, isbool_tup, isbool_lst, isbool_non, isstr_int, isstr_bl, isstr_str, isstr_tup, isstr_lst, isstr_non, istuple_int, istuple_bl, istuple_str, istuple_tup, istuple_lst, istuple_non, islist_int, islist_bl, islist_str, islist_tup, islist_lst, islist_non, ix_dcs, in_dcs, ix_tup, ix_lsts, atI_0, atI_1, atI_2, atI_3, atI_4, atI_5, atI_6, atI_7, atI_8, atI_9, atI_10, atI_11, atI_12, ix_fls, ev_me, sl_lst, sl_tup, cmp_isin, cmp_notin, flat_str, flat_int, flat_bl, flat_non, eqF_str, in_tup, seqO_nx, seqO_rt, seqO_bk, seqO_ct, exs_nil, exs_cons, ex_set, setoD_dcs, setoD_lst, ex_seto, ex_unp, augD_int, ex_aug, ex_expr, appD_lst, ex_app, mthD_lst, ex_mth, mthxD_lst, ex_mthx, om_clear, om_pop, om_reverse, setsD_lst, ex_sets, setnD_nil, setnD_one, ex_newd, putdD_str, ex_putd, ex_setn, appnD_lst, ex_appn, appatD_int, ex_appat, ex_popn, ex_popt, apptpD_int, ex_apptp, ex_ret, ex_reto, ex_retn, ex_iff, ex_whl, ex_for, revD_lst, ex_forv, ex_forr, ex_brk, ex_cnt, ex_pass, ex_share, it_tup, it_lst, it_str, it_fls, tg_one, wipe_one, nxO_nx, nxO_ct, nxO_bk, nxO_rt, forD_nil, lcD_nil, lcD_cons, consO_some, consO_none, ansO_nx, ansO_rt, ansO_ite, sizeLine_lit, pow_lit, toNx_nx, toNx_ct, toNx_ite, toA_some, toA_ite, List.getElem?_cons_zero, List.getElem?_cons_succ, List.getElem?_nil, List.set_cons_zero, List.set_cons_succ, List.set_nil, List.length_cons, List.length_nil, List.length_map, List.length_append, List.length_range, List.length_replicate, List.map_cons, List.map_nil, List.cons_append, List.nil_append, List.append_nil, List.replicate_succ, List.replicate_zero, Nat.reduceAdd, Nat.reduceSub, Nat.reduceMul, Nat.reduceLT, Nat.reduceLeDiff, Nat.reduceEqDiff, Nat.reduceMod, Nat.reduceDiv, Nat.reducePow, Int.reduceAdd, Int.reduceSub, Int.reduceMul, Int.reduceNeg, Int.reduceLT, Int.reduceLE, Int.reduceGT, Int.reduceGE, Int.reduceEq, Int.reduceNe, Int.reduceMod, Int.reduceDiv, Int.reducePow, Int.reduceToNat, Nat.add_zero, Nat.zero_add, Nat.sub_zero, Nat.zero_le, Nat.lt_irrefl, ite_true, ite_false, Bool.not_true, Bool.not_false, Bool.true_and, Bool.false_and, Bool.and_true, Bool.and_false, Bool.true_or, Bool.false_or, Bool.or_true, Bool.or_false, Bool.false_eq_true, Bool.true_eq_false, decide_true, decide_false, decide_eq_true_eq, Bool.not_eq_true', Bool.not_eq_false', decide_eq_false_iff_not, decide_not, not_true_eq_false, not_false_eq_true, and_true, true_and, and_false, false_and, or_true, true_or, or_false, false_or, and_self, or_self, if_true, if_false, reduceCtorEq, Fn.start, Int.cast_ofNat_Int, List.all_cons, List.all_nil, List.any_cons, List.any_nil, f_meeting, e1, e2, e3]
end LW

namespace LW
open PySem PL TL
def same (k : Str) (x : Tc) : Bool := decide (x.t = k)
theorem turn_same (F : Fc) (k : Str) (x : Tc) (s0 s1 s3 s4 s5 : Sl) : lcT F G [5] (.cmp .eq (.ix (.var 5) (.c (.int 0))) (.var 2)) (.var 5) [s0, s1, .sh (.str k), s3, s4, s5] x.d = some (if same k x = true then some x.d else none) := by
  unfold lcT same
  by_cases h : x.t = k
  · rw [decide_eq_true h]
    simp -implicitDefEqProofs only [bindS, mapS, bindN, mapN, ifD_bl, bind_ite', map_ite', ev_c, ev_var, ev_rd, glD_non, glD_bl, glD_int, glD_str, glD_tup, ev_gl, ev_dgT, ev_dix, ev_tix, getT_two, getS_str, ev_tup, ev_lst, ev_bin, ev_dsp, ev_dget, ev_mind, keyD_dcs, negD_int, ev_neg, notD_bl, ev_nt, ev_cmp, ev_chain, ev_an, ev_orr, ev_ife, ev_ix, ev_sl, isNo_nohi, isNo_c, isNo_var, isNo_bin, isNo_neg, isNo_bi, isNo_ix, isNo_call, isNo_me, endD_int, noIo_nil, ev_call, clocD_fn, ev_cloc, noIoL_nil, ev_callb, ev_bi, ev_lc, ev_lcd, ev_lcr, nst_on, rdnD_int, ev_rdn, ev_lenn, revlD_lst, ev_revl, ev_lrg, dic_od, ev_tvals, evs_nil, evs_cons, shd_sh, own_ow, rdv_ow, rdv_od, add_int, sub_int, mod_pos, fdiv_pos, lt_int, le_int, gt_int, ge_int, lt_str, le_str, gt_str, ge_str, is_non_non, is_bl_bl, is_int_non, is_str_non, is_tup_non, is_lst_non, is_bl_non, isnot_bl_bl, isnot_non_non, isnot_int_non, isnot_str_non, isnot_tup_non, isnot_lst_non, isnot_bl_non, cmp_eq, cmp_ne, eq_int, eq_str, eq_bl, eq_non, eq_int_str, eq_str_int, eq_non_str, eq_str_non, eq_non_int, eq_int_non, len_tup, len_lst, len_fls, abs_int, int_int, int_bl, tuple_lst, tuple_tup, list_lst, list_tup, max_int, min_int, list_dcs, isdct_dcs, isint_int, isint_bl, isint_str, isint_tup, isint_lst, isint_non, isbool_int, isbool_bl, isbool_str, isbool_tup, isbool_lst, isbool_non, isstr_int, isstr_bl, isstr_str, isstr_tup, isstr_lst, isstr_non, istuple_int, istuple_bl, istuple_str, istuple_tup, istuple_lst, istuple_non, islist_int, islist_bl, islist_str, islist_tup, islist_lst, islist_non, ix_dcs, in_dcs, ix_tup, ix_lsts, atI_0, atI_1, atI_2, atI_3, atI_4, atI_5, atI_6, atI_7, atI_8, atI_9, atI_10, atI_11, atI_12, ix_fls, ev_me, sl_lst, sl_tup, cmp_isin, cmp_notin, flat_str, flat_int, flat_bl, flat_non, eqF_str, in_tup, seqO_nx, seqO_rt, seqO_bk, seqO_ct, exs_nil, exs_cons, ex_set, setoD_dcs, setoD_lst, ex_seto, ex_unp, augD_int, ex_aug, ex_expr, appD_lst, ex_app, mthD_lst, ex_mth, mthxD_lst, ex_mthx, om_clear, om_pop, om_reverse, setsD_lst, ex_sets, setnD_nil, setnD_one, ex_newd, putdD_str, ex_putd, ex_setn, appnD_lst, ex_appn, appatD_int, ex_appat, ex_popn, ex_popt, apptpD_int, ex_apptp, ex_ret, ex_reto, ex_retn, ex_iff, ex_whl, ex_for, revD_lst, ex_forv, ex_forr, ex_brk, ex_cnt, ex_pass, ex_share, it_tup, it_lst, it_str, it_fls, tg_one, wipe_one, nxO_nx, nxO_ct, nxO_bk, nxO_rt, forD_nil, lcD_nil, lcD_cons, consO_some, consO_none, ansO_nx, ansO_rt, ansO_ite, sizeLine_lit, pow_lit, toNx_nx, toNx_ct, toNx_ite, toA_some, toA_ite, List.getElem?_cons_zero, List.getElem?_cons_succ, List.getElem?_nil, List.set_cons_zero, List.set_cons_succ, List.set_nil, List.length_cons, List.length_nil, List.length_map, List.length_append, List.length_range, List.length_replicate, List.map_cons, List.map_nil, List.cons_append, List.nil_append, List.append_nil, List.replicate_succ, List.replicate_zero, Nat.reduceAdd, Nat.reduceSub, Nat.reduceMul, Nat.reduceLT, Nat.reduceLeDiff, Nat.reduceEqDiff, Nat.reduceMod, Nat.reduceDiv, Nat.reducePow, Int.reduceAdd, Int.reduceSub, Int.reduceMul, Int.reduceNeg, Int.reduceLT, Int.reduceLE, Int.reduceGT, Int.reduceGE, Int.reduceEq, Int.reduceNe, Int.reduceMod, Int.reduceDiv, Int.reducePow, Int.reduceToNat, Nat.add_zero, Nat.zero_add, Nat.sub_zero, Nat.zero_le, Nat.lt_irrefl, ite_true, ite_false, Bool.not_true, Bool.not_false, Bool.true_and, Bool.false_and, Bool.and_true, Bool.and_false, Bool.true_or, Bool.false_or, Bool.or_true, Bool.or_false, Bool.false_eq_true, Bool.true_eq_false, decide_true, decide_false, Bool.not_eq_true', Bool.not_eq_false', decide_eq_false_iff_not, decide_not, not_true_eq_false, not_false_eq_true, and_true, true_and, and_false, false_and, or_true, true_or, or_false, false_or, and_self, or_self, if_true, if_false, reduceCtorEq, Fn.start, Int.cast_ofNat_Int, List.all_cons, List.all_nil, List.any_cons, List.any_nil, Tc.d, decide_eq_true h]
  · rw [decide_eq_false h]
    simp -implicitDefEqProofs only [bindS, mapS, bindN, mapN, ifD_bl, bind_ite', map_ite', ev_c, ev_var, ev_rd, glD_non, glD_bl, glD_int, glD_str, glD_tup, ev_gl, ev_dgT, ev_dix, ev_tix, getT_two, getS_str, ev_tup, ev_lst, ev_bin, ev_dsp, ev_dget, ev_mind, keyD_dcs, negD_int, ev_neg, notD_bl, ev_nt, ev_cmp, ev_chain, ev_an, ev_orr, ev_ife, ev_ix, ev_sl, isNo_nohi, isNo_c, isNo_var, isNo_bin, isNo_neg, isNo_bi, isNo_ix, isNo_call, isNo_me, endD_int, noIo_nil, ev_call, clocD_fn, ev_cloc, noIoL_nil, ev_callb, ev_bi, ev_lc, ev_lcd, ev_lcr, nst_on, rdnD_int, ev_rdn, ev_lenn, revlD_lst, ev_revl, ev_lrg, dic_od, ev_tvals, evs_nil, evs_cons, shd_sh, own_ow, rdv_ow, rdv_od, add_int, sub_int, mod_pos, fdiv_pos, lt_int, le_int, gt_int, ge_int, lt_str, le_str, gt_str, ge_str, is_non_non, is_bl_bl, is_int_non, is_str_non, is_tup_non, is_lst_non, is_bl_non, isnot_bl_bl, isnot_non_non, isnot_int_non, isnot_str_non, isnot_tup_non, isnot_lst_non, isnot_bl_non, cmp_eq, cmp_ne, eq_int, eq_str, eq_bl, eq_non, eq_int_str, eq_str_int, eq_non_str, eq_str_non, eq_non_int, eq_int_non, len_tup, len_lst, len_fls, abs_int, int_int, int_bl, tuple_lst, tuple_tup, list_lst, list_tup, max_int, min_int, list_dcs, isdct_dcs, isint_int, isint_bl, isint_str, isint_tup, isint_lst, isint_non, isbool_int, isbool_bl, isbool_str, isbool_tup, isbool_lst, isbool_non, isstr_int, isstr_bl, isstr_str, isstr_tup, isstr_lst, isstr_non, istuple_int, istuple_bl, istuple_str, istuple_tup, istuple_lst, istuple_non, islist_int, islist_bl, islist_str, islist_tup, islist_lst, islist_non, ix_dcs, in_dcs, ix_tup, ix_lsts, atI_0, atI_1, atI_2, atI_3, atI_4, atI_5, atI_6, atI_7, atI_8, atI_9, atI_10, atI_11, atI_12, ix_fls, ev_me, sl_lst, sl_tup, cmp_isin, cmp_notin, flat_str, flat_int, flat_bl, flat_non, eqF_str, in_tup, seqO_nx, seqO_rt, seqO_bk, seqO_ct, exs_nil, exs_cons, ex_set, setoD_dcs, setoD_lst, ex_seto, ex_unp, augD_int, ex_aug, ex_expr, appD_lst, ex_app, mthD_lst, ex_mth, mthxD_lst, ex_mthx, om_clear, om_pop, om_reverse, setsD_lst, ex_sets, setnD_nil, setnD_one, ex_newd, putdD_str, ex_putd, ex_setn, appnD_lst, ex_appn, appatD_int, ex_appat, ex_popn, ex_popt, apptpD_int, ex_apptp, ex_ret, ex_reto, ex_retn, ex_iff, ex_whl, ex_for, revD_lst, ex_forv, ex_forr, ex_brk, ex_cnt, ex_pass, ex_share, it_tup, it_lst, it_str, it_fls, tg_one, wipe_one, nxO_nx, nxO_ct, nxO_bk, nxO_rt, forD_nil, lcD_nil, lcD_cons, consO_some, consO_none, ansO_nx, ansO_rt, ansO_ite, sizeLine_lit, pow_lit, toNx_nx, toNx_ct, toNx_ite, toA_some, toA_ite, List.getElem?_cons_zero, List.getElem?_cons_succ, List.getElem?_nil, List.set_cons_zero, List.set_cons_succ, List.set_nil, List.length_cons, List.length_nil, List.length_map, List.length_append, List.length_range, List.length_replicate, List.map_cons, List.map_nil, List.cons_append, List.nil_append, List.append_nil, List.replicate_succ, List.replicate_zero, Nat.reduceAdd, Nat.reduceSub, Nat.reduceMul, Nat.reduceLT, Nat.reduceLeDiff, Nat.reduceEqDiff, Nat.reduceMod, Nat.reduceDiv, Nat.reducePow, Int.reduceAdd, Int.reduceSub, Int.reduceMul, Int.reduceNeg, Int.reduceLT, Int.reduceLE, Int.reduceGT, Int.reduceGE, Int.reduceEq, Int.reduceNe, Int.reduceMod, Int.reduceDiv, Int.reducePow, Int.reduceToNat, Nat.add_zero, Nat.zero_add, Nat.sub_zero, Nat.zero_le, Nat.lt_irrefl, ite_true, ite_false, Bool.not_true, Bool.not_false, Bool.true_and, Bool.false_and, Bool.and_true, Bool.and_false, Bool.true_or, Bool.false_or, Bool.or_true, Bool.or_false, Bool.false_eq_true, Bool.true_eq_false, decide_true, decide_false, Bool.not_eq_true', Bool.not_eq_false', decide_eq_false_iff_not, decide_not, not_true_eq_false, not_false_eq_true, and_true, true_and, and_false, false_and, or_true, true_or, or_false, false_or, and_self, or_self, if_true, if_false, reduceCtorEq, Fn.start, Int.cast_ofNat_Int, List.all_cons, List.all_nil, List.any_cons, List.any_nil, Tc.d, decide_eq_false h]
theorem turn_ch (F : Fc) (x : Tc) (s0 s1 s2 s3 s4 s5 : Sl) : lcT F G [5] (.cmp .eq (.ix (.var 5) (.c (.int 2))) (.c (.str (q "change")))) (.var 5) [s0, s1, s2, s3, s4, s5] x.d = some (if x.ch = true then some x.d else none) := by
  have hm := mode_ch x.ch
  unfold lcT
  cases hc : x.ch with
  | true => rw [hc] at hm; simp -implicitDefEqProofs only [bindS, mapS, bindN, mapN, ifD_bl, bind_ite', map_ite', ev_c, ev_var, ev_rd, glD_non, glD_bl, glD_int, glD_str, glD_tup, ev_gl, ev_dgT, ev_dix, ev_tix, getT_two, getS_str, ev_tup, ev_lst, ev_bin, ev_dsp, ev_dget, ev_mind, keyD_dcs, negD_int, ev_neg, notD_bl, ev_nt, ev_cmp, ev_chain, ev_an, ev_orr, ev_ife, ev_ix, ev_sl, isNo_nohi, isNo_c, isNo_var, isNo_bin, isNo_neg, isNo_bi, isNo_ix, isNo_call, isNo_me, endD_int, noIo_nil, ev_call, clocD_fn, ev_cloc, noIoL_nil, ev_callb, ev_bi, ev_lc, ev_lcd, ev_lcr, nst_on, rdnD_int, ev_rdn, ev_lenn, revlD_lst, ev_revl, ev_lrg, dic_od, ev_tvals, evs_nil, evs_cons, shd_sh, own_ow, rdv_ow, rdv_od, add_int, sub_int, mod_pos, fdiv_pos, lt_int, le_int, gt_int, ge_int, lt_str, le_str, gt_str, ge_str, is_non_non, is_bl_bl, is_int_non, is_str_non, is_tup_non, is_lst_non, is_bl_non, isnot_bl_bl, isnot_non_non, isnot_int_non, isnot_str_non, isnot_tup_non, isnot_lst_non, isnot_bl_non, cmp_eq, cmp_ne, eq_int, eq_str, eq_bl, eq_non, eq_int_str, eq_str_int, eq_non_str, eq_str_non, eq_non_int, eq_int_non, len_tup, len_lst, len_fls, abs_int, int_int, int_bl, tuple_lst, tuple_tup, list_lst, list_tup, max_int, min_int, list_dcs, isdct_dcs, isint_int, isint_bl, isint_str, isint_tup, isint_lst, isint_non, isbool_int, isbool_bl, isbool_str, isbool_tup, isbool_lst, isbool_non, isstr_int, isstr_bl, isstr_str, isstr_tup, isstr_lst, isstr_non, istuple_int, istuple_bl, istuple_str, istuple_tup, istuple_lst, istuple_non, islist_int, islist_bl, islist_str, islist_tup, islist_lst, islist_non, ix_dcs, in_dcs, ix_tup, ix_lsts, atI_0, atI_1, atI_2, atI_3, atI_4, atI_5, atI_6, atI_7, atI_8, atI_9, atI_10, atI_11, atI_12, ix_fls, ev_me, sl_lst, sl_tup, cmp_isin, cmp_notin, flat_str, flat_int, flat_bl, flat_non, eqF_str, in_tup, seqO_nx, seqO_rt, seqO_bk, seqO_ct, exs_nil, exs_cons, ex_set, setoD_dcs, setoD_lst, ex_seto, ex_unp, augD_int, ex_aug, ex_expr, appD_lst, ex_app, mthD_lst, ex_mth, mthxD_lst, ex_mthx, om_clear, om_pop, om_reverse, setsD_lst, ex_sets, setnD_nil, setnD_one, ex_newd, putdD_str, ex_putd, ex_setn, appnD_lst, ex_appn, appatD_int, ex_appat, ex_popn, ex_popt, apptpD_int, ex_apptp, ex_ret, ex_reto, ex_retn, ex_iff, ex_whl, ex_for, revD_lst, ex_forv, ex_forr, ex_brk, ex_cnt, ex_pass, ex_share, it_tup, it_lst, it_str, it_fls, tg_one, wipe_one, nxO_nx, nxO_ct, nxO_bk, nxO_rt, forD_nil, lcD_nil, lcD_cons, consO_some, consO_none, ansO_nx, ansO_rt, ansO_ite, sizeLine_lit, pow_lit, toNx_nx, toNx_ct, toNx_ite, toA_some, toA_ite, List.getElem?_cons_zero, List.getElem?_cons_succ, List.getElem?_nil, List.set_cons_zero, List.set_cons_succ, List.set_nil, List.length_cons, List.length_nil, List.length_map, List.length_append, List.length_range, List.length_replicate, List.map_cons, List.map_nil, List.cons_append, List.nil_append, List.append_nil, List.replicate_succ, List.replicate_zero, Nat.reduceAdd, Nat.reduceSub, Nat.reduceMul, Nat.reduceLT, Nat.reduceLeDiff, Nat.reduceEqDiff, Nat.reduceMod, Nat.reduceDiv, Nat.reducePow, Int.reduceAdd, Int.reduceSub, Int.reduceMul, Int.reduceNeg, Int.reduceLT, Int.reduceLE, Int.reduceGT, Int.reduceGE, Int.reduceEq, Int.reduceNe, Int.reduceMod, Int.reduceDiv, Int.reducePow, Int.reduceToNat, Nat.add_zero, Nat.zero_add, Nat.sub_zero, Nat.zero_le, Nat.lt_irrefl, ite_true, ite_false, Bool.not_true, Bool.not_false, Bool.true_and, Bool.false_and, Bool.and_true, Bool.and_false, Bool.true_or, Bool.false_or, Bool.or_true, Bool.or_false, Bool.false_eq_true, Bool.true_eq_false, decide_true, decide_false, Bool.not_eq_true', Bool.not_eq_false', decide_eq_false_iff_not, decide_not, not_true_eq_false, not_false_eq_true, and_true, true_and, and_false, false_and, or_true, true_or, or_false, false_or, and_self, or_self, if_true, if_false, reduceCtorEq, Fn.start, Int.cast_ofNat_Int, List.all_cons, List.all_nil, List.any_cons, List.any_nil, Tc.d, hc, hm]
  | false => rw [hc] at hm; simp -implicitDefEqProofs only [bindS, mapS, bindN, mapN, ifD_bl, bind_ite', map_ite', ev_c, ev_var, ev_rd, glD_non, glD_bl, glD_int, glD_str, glD_tup, ev_gl, ev_dgT, ev_dix, ev_tix, getT_two, getS_str, ev_tup, ev_lst, ev_bin, ev_dsp, ev_dget, ev_mind, keyD_dcs, negD_int, ev_neg, notD_bl, ev_nt, ev_cmp, ev_chain, ev_an, ev_orr, ev_ife, ev_ix, ev_sl, isNo_nohi, isNo_c, isNo_var, isNo_bin, isNo_neg, isNo_bi, isNo_ix, isNo_call, isNo_me, endD_int, noIo_nil, ev_call, clocD_fn, ev_cloc, noIoL_nil, ev_callb, ev_bi, ev_lc, ev_lcd, ev_lcr, nst_on, rdnD_int, ev_rdn, ev_lenn, revlD_lst, ev_revl, ev_lrg, dic_od, ev_tvals, evs_nil, evs_cons, shd_sh, own_ow, rdv_ow, rdv_od, add_int, sub_int, mod_pos, fdiv_pos, lt_int, le_int, gt_int, ge_int, lt_str, le_str, gt_str, ge_str, is_non_non, is_bl_bl, is_int_non, is_str_non, is_tup_non, is_lst_non, is_bl_non, isnot_bl_bl, isnot_non_non, isnot_int_non, isnot_str_non, isnot_tup_non, isnot_lst_non, isnot_bl_non, cmp_eq, cmp_ne, eq_int, eq_str, eq_bl, eq_non, eq_int_str, eq_str_int, eq_non_str, eq_str_non, eq_non_int, eq_int_non, len_tup, len_lst, len_fls, abs_int, int_int, int_bl, tuple_lst, tuple_tup, list_lst, list_tup, max_int, min_int, list_dcs, isdct_dcs, isint_int, isint_bl, isint_str, isint_tup, isint_lst, isint_non, isbool_int, isbool_bl, isbool_str, isbool_tup, isbool_lst, isbool_non, isstr_int, isstr_bl, isstr_str, isstr_tup, isstr_lst, isstr_non, istuple_int, istuple_bl, istuple_str, istuple_tup, istuple_lst, istuple_non, islist_int, islist_bl, islist_str, islist_tup, islist_lst, islist_non, ix_dcs, in_dcs, ix_tup, ix_lsts, atI_0, atI_1, atI_2, atI_3, atI_4, atI_5, atI_6, atI_7, atI_8, atI_9, atI_10, atI_11, atI_12, ix_fls, ev_me, sl_lst, sl_tup, cmp_isin, cmp_notin, flat_str, flat_int, flat_bl, flat_non, eqF_str, in_tup, seqO_nx, seqO_rt, seqO_bk, seqO_ct, exs_nil, exs_cons, ex_set, setoD_dcs, setoD_lst, ex_seto, ex_unp, augD_int, ex_aug, ex_expr, appD_lst, ex_app, mthD_lst, ex_mth, mthxD_lst, ex_mthx, om_clear, om_pop, om_reverse, setsD_lst, ex_sets, setnD_nil, setnD_one, ex_newd, putdD_str, ex_putd, ex_setn, appnD_lst, ex_appn, appatD_int, ex_appat, ex_popn, ex_popt, apptpD_int, ex_apptp, ex_ret, ex_reto, ex_retn, ex_iff, ex_whl, ex_for, revD_lst, ex_forv, ex_forr, ex_brk, ex_cnt, ex_pass, ex_share, it_tup, it_lst, it_str, it_fls, tg_one, wipe_one, nxO_nx, nxO_ct, nxO_bk, nxO_rt, forD_nil, lcD_nil, lcD_cons, consO_some, consO_none, ansO_nx, ansO_rt, ansO_ite, sizeLine_lit, pow_lit, toNx_nx, toNx_ct, toNx_ite, toA_some, toA_ite, List.getElem?_cons_zero, List.getElem?_cons_succ, List.getElem?_nil, List.set_cons_zero, List.set_cons_succ, List.set_nil, List.length_cons, List.length_nil, List.length_map, List.length_append, List.length_range, List.length_replicate, List.map_cons, List.map_nil, List.cons_append, List.nil_append, List.append_nil, List.replicate_succ, List.replicate_zero, Nat.reduceAdd, Nat.reduceSub, Nat.reduceMul, Nat.reduceLT, Nat.reduceLeDiff, Nat.reduceEqDiff, Nat.reduceMod, Nat.reduceDiv, Nat.reducePow, Int.reduceAdd, Int.reduceSub, Int.reduceMul, Int.reduceNeg, Int.reduceLT, Int.reduceLE, Int.reduceGT, Int.reduceGE, Int.reduceEq, Int.reduceNe, Int.reduceMod, Int.reduceDiv, Int.reducePow, Int.reduceToNat, Nat.add_zero, Nat.zero_add, Nat.sub_zero, Nat.zero_le, Nat.lt_irrefl, ite_true, ite_false, Bool.not_true, Bool.not_false, Bool.true_and, Bool.false_and, Bool.and_true, Bool.and_false, Bool.true_or, Bool.false_or, Bool.or_true, Bool.or_false, Bool.false_eq_true, Bool.true_eq_false, decide_true, decide_false, Bool.not_eq_true', Bool.not_eq_false', decide_eq_false_iff_not, decide_not, not_true_eq_false, not_false_eq_true, and_true, true_and, and_false, false_and, or_true, true_or, or_false, false_or, and_self, or_self, if_true, if_false, reduceCtorEq, Fn.start, Int.cast_ofNat_Int, List.all_cons, List.all_nil, List.any_cons, List.any_nil, Tc.d, hc, hm]
theorem turn_t (F : Fc) (x : Tc) (s0 s1 s2 s3 s4 s5 : Sl) : lcT F G [5] (.c (.bl true)) (.ix (.var 5) (.c (.int 0))) [s0, s1, s2, s3, s4, s5] x.d = some (some (.str x.t)) := by
  unfold lcT
  simp -implicitDefEqProofs only [bindS, mapS, bindN, mapN, ifD_bl, bind_ite', map_ite', ev_c, ev_var, ev_rd, glD_non, glD_bl, glD_int, glD_str, glD_tup, ev_gl, ev_dgT, ev_dix, ev_tix, getT_two, getS_str, ev_tup, ev_lst, ev_bin, ev_dsp, ev_dget, ev_mind, keyD_dcs, negD_int, ev_neg, notD_bl, ev_nt, ev_cmp, ev_chain, ev_an, ev_orr, ev_ife, ev_ix, ev_sl, isNo_nohi, isNo_c, isNo_var, isNo_bin, isNo_neg, isNo_bi, isNo_ix, isNo_call, isNo_me, endD_int, noIo_nil, ev_call, clocD_fn, ev_cloc, noIoL_nil, ev_callb, ev_bi, ev_lc, ev_lcd, ev_lcr, nst_on, rdnD_int, ev_rdn, ev_lenn, revlD_lst, ev_revl, ev_lrg, dic_od, ev_tvals, evs_nil, evs_cons, shd_sh, own_ow, rdv_ow, rdv_od, add_int, sub_int, mod_pos, fdiv_pos, lt_int, le_int, gt_int, ge_int, lt_str, le_str, gt_str, ge_str, is_non_non, is_bl_bl, is_int_non, is_str_non, is_tup_non, is_lst_non, is_bl_non, isnot_bl_bl, isnot_non_non, isnot_int_non, isnot_str_non, isnot_tup_non, isnot_lst_non, isnot_bl_non, cmp_eq, cmp_ne, eq_int, eq_str, eq_bl, eq_non, eq_int_str, eq_str_int, eq_non_str, eq_str_non, eq_non_int, eq_int_non, len_tup, len_lst, len_fls, abs_int, int_int, int_bl, tuple_lst, tuple_tup, list_lst, list_tup, max_int, min_int, list_dcs, isdct_dcs, isint_int, isint_bl, isint_str, isint_tup, isint_lst, isint_non, isbool_int, isbool_bl, isbool_str, isbool_tup, isbool_lst, isbool_non, isstr_int, isstr_bl, isstr_str, isstr_tup, isstr_lst, isstr_non, istuple_int, istuple_bl, istuple_str, istuple_tup, istuple_lst, istuple_non, islist_int, islist_bl, islist_str, islist_tup, islist_lst, islist_non, ix_dcs, in_dcs, ix_tup, ix_lsts, atI_0, atI_1, atI_2, atI_3, atI_4, atI_5, atI_6, atI_7, atI_8, atI_9, atI_10, atI_11, atI_12, ix_fls, ev_me, sl_lst, sl_tup, cmp_isin, cmp_notin, flat_str, flat_int, flat_bl, flat_non, eqF_str, in_tup, seqO_nx, seqO_rt, seqO_bk, seqO_ct, exs_nil, exs_cons, ex_set, setoD_dcs, setoD_lst, ex_seto, ex_unp, augD_int, ex_aug, ex_expr, appD_lst, ex_app, mthD_lst, ex_mth, mthxD_lst, ex_mthx, om_clear, om_pop, om_reverse, setsD_lst, ex_sets, setnD_nil, setnD_one, ex_newd, putdD_str, ex_putd, ex_setn, appnD_lst, ex_appn, appatD_int, ex_appat, ex_popn, ex_popt, apptpD_int, ex_apptp, ex_ret, ex_reto, ex_retn, ex_iff, ex_whl, ex_for, revD_lst, ex_forv, ex_forr, ex_brk, ex_cnt, ex_pass, ex_share, it_tup, it_lst, it_str, it_fls, tg_one, wipe_one, nxO_nx, nxO_ct, nxO_bk, nxO_rt, forD_nil, lcD_nil, lcD_cons, consO_some, consO_none, ansO_nx, ansO_rt, ansO_ite, sizeLine_lit, pow_lit, toNx_nx, toNx_ct, toNx_ite, toA_some, toA_ite, List.getElem?_cons_zero, List.getElem?_cons_succ, List.getElem?_nil, List.set_cons_zero, List.set_cons_succ, List.set_nil, List.length_cons, List.length_nil, List.length_map, List.length_append, List.length_range, List.length_replicate, List.map_cons, List.map_nil, List.cons_append, List.nil_append, List.append_nil, List.replicate_succ, List.replicate_zero, Nat.reduceAdd, Nat.reduceSub, Nat.reduceMul, Nat.reduceLT, Nat.reduceLeDiff, Nat.reduceEqDiff, Nat.reduceMod, Nat.reduceDiv, Nat.reducePow, Int.reduceAdd, Int.reduceSub, Int.reduceMul, Int.reduceNeg, Int.reduceLT, Int.reduceLE, Int.reduceGT, Int.reduceGE, Int.reduceEq, Int.reduceNe, Int.reduceMod, Int.reduceDiv, Int.reducePow, Int.reduceToNat, Nat.add_zero, Nat.zero_add, Nat.sub_zero, Nat.zero_le, Nat.lt_irrefl, ite_true, ite_false, Bool.not_true, Bool.not_false, Bool.true_and, Bool.false_and, Bool.and_true, Bool.and_false, Bool.true_or, Bool.false_or, Bool.or_true, Bool.or_false, Bool.false_eq_true, Bool.true_eq_false, decide_true, decide_false, decide_eq_true_eq, Bool.not_eq_true', Bool.not_eq_false', decide_eq_false_iff_not, decide_not, not_true_eq_false, not_false_eq_true, and_true, true_and, and_false, false_and, or_true, true_or, or_false, false_or, and_self, or_self, if_true, if_false, reduceCtorEq, Fn.start, Int.cast_ofNat_Int, List.all_cons, List.all_nil, List.any_cons, List.any_nil, Tc.d]
def pick (l1 l2 : List Tc) (k : Str) : Bool := decide (0 < (l2.filter (same k)).length) && decide (0 < ((l2.filter (same k) ++ l1.filter (same k)).filter fun x => x.ch).length)
theorem due_step (F : Fc) (l1 l2 : List Tc) (h1 : l1.length < 100) (h2 : l2.length < 100) (k : Str) (s3 s4 s5 : Sl) : ∃ t3 t4 t5, exs F G b_law_due_0 [.sh (.tup (l1.map Tc.d)), .sh (.tup (l2.map Tc.d)), .sh (.str k), s3, s4, s5] =
    some (if pick l1 l2 k = true then .rt (.str k) [.sh (.tup (l1.map Tc.d)), .sh (.tup (l2.map Tc.d)), .sh (.str k), t3, t4, t5] else .nx [.sh (.tup (l1.map Tc.d)), .sh (.tup (l2.map Tc.d)), .sh (.str k), t3, t4, t5]) := by
  have lA := fun s0 s1 s3 s4 s5 => lcD_filter (f := lcT F G [5] (.cmp .eq (.ix (.var 5) (.c (.int 0))) (.var 2)) (.var 5) [s0, s1, .sh (.str k), s3, s4, s5]) Tc.d Tc.d (same k) l2 fun x _ => turn_same F k x s0 s1 s3 s4 s5
  have lB := fun s0 s1 s3 s4 s5 => lcD_filter (f := lcT F G [5] (.cmp .eq (.ix (.var 5) (.c (.int 0))) (.var 2)) (.var 5) [s0, s1, .sh (.str k), s3, s4, s5]) Tc.d Tc.d (same k) l1 fun x _ => turn_same F k x s0 s1 s3 s4 s5
  have lC := fun s0 s1 s2 s3 s4 s5 => lcD_filter (f := lcT F G [5] (.cmp .eq (.ix (.var 5) (.c (.int 2))) (.c (.str (q "change")))) (.var 5) [s0, s1, s2, s3, s4, s5]) Tc.d Tc.d (fun x => x.ch) (l2.filter (same k) ++ l1.filter (same k)) fun x _ => turn_ch F x s0 s1 s2 s3 s4 s5
  have zA : (l2.filter (same k)).length ≤ l2.length := List.length_filter_le _ _
  have zB : (l1.filter (same k)).length ≤ l1.length := List.length_filter_le _ _
  have zC : ((l2.filter (same k) ++ l1.filter (same k)).filter fun x => x.ch).length ≤ (l2.filter (same k) ++ l1.filter (same k)).length := List.length_filter_le _ _
  have eP : pick l1 l2 k = (decide (0 < (l2.filter (same k)).length) && decide (0 < ((l2.filter (same k) ++ l1.filter (same k)).filter fun x => x.ch).length)) := rfl
  rw [List.map_append] at lC
  rw [List.length_append] at zC
  generalize hA : l2.filter (same k) = A at *
  generalize hB : l1.filter (same k) = B at *
  generalize hC : (A ++ B).filter (fun x => x.ch) = C at *
  have q1 : A.length ≤ 16777216 := by omega
  have q2 : B.length ≤ 16777216 := by omega
  have q3 : C.length ≤ 16777216 := by omega
  have q4 : binD .add (.lst (A.map Tc.d)) (.lst (B.map Tc.d)) = some (.lst (A.map Tc.d ++ B.map Tc.d)) := add_lst _ _ (by rw [List.length_map, List.length_map]; omega)
  rw [eP]
  by_cases c1 : 0 < A.length
  · by_cases c2 : 0 < C.length
    · refine ⟨.sh (.lst (A.map Tc.d)), .sh (.lst (A.map Tc.d ++ B.map Tc.d)), s5, ?_⟩
      have d1 : (0 : Int) < A.length := by omega
      have d2 : (0 : Int) < C.length := by omega
      simp -implicitDefEqProofs only [bindS, mapS, bindN, mapN, ifD_bl, bind_ite', map_ite', ev_c, ev_var, ev_rd, glD_non, glD_bl, glD_int, glD_str, glD_tup, ev_gl, ev_dgT, ev_dix, ev_tix, getT_two, getS_str, ev_tup, ev_lst, ev_bin, ev_dsp, ev_dget, ev_mind, keyD_dcs, negD_int, ev_neg, notD_bl, ev_nt, ev_cmp, ev_chain, ev_an, ev_orr, ev_ife, ev_ix, ev_sl, isNo_nohi, isNo_c, isNo_var, isNo_bin, isNo_neg, isNo_bi, isNo_ix, isNo_call, isNo_me, endD_int, noIo_nil, ev_call, clocD_fn, ev_cloc, noIoL_nil, ev_callb, ev_bi, ev_lc, ev_lcd, ev_lcr, nst_on, rdnD_int, ev_rdn, ev_lenn, revlD_lst, ev_revl, ev_lrg, dic_od, ev_tvals, evs_nil, evs_cons, shd_sh, own_ow, rdv_ow, rdv_od, add_int, sub_int, mod_pos, fdiv_pos, lt_int, le_int, gt_int, ge_int, lt_str, le_str, gt_str, ge_str, is_non_non, is_bl_bl, is_int_non, is_str_non, is_tup_non, is_lst_non, is_bl_non, isnot_bl_bl, isnot_non_non, isnot_int_non, isnot_str_non, isnot_tup_non, isnot_lst_non, isnot_bl_non, cmp_eq, cmp_ne, eq_int, eq_str, eq_bl, eq_non, eq_int_str, eq_str_int, eq_non_str, eq_str_non, eq_non_int, eq_int_non, len_tup, len_lst, len_fls, abs_int, int_int, int_bl, tuple_lst, tuple_tup, list_lst, list_tup, max_int, min_int, list_dcs, isdct_dcs, isint_int, isint_bl, isint_str, isint_tup, isint_lst, isint_non, isbool_int, isbool_bl, isbool_str, isbool_tup, isbool_lst, isbool_non, isstr_int, isstr_bl, isstr_str, isstr_tup, isstr_lst, isstr_non, istuple_int, istuple_bl, istuple_str, istuple_tup, istuple_lst, istuple_non, islist_int, islist_bl, islist_str, islist_tup, islist_lst, islist_non, ix_dcs, in_dcs, ix_tup, ix_lsts, atI_0, atI_1, atI_2, atI_3, atI_4, atI_5, atI_6, atI_7, atI_8, atI_9, atI_10, atI_11, atI_12, ix_fls, ev_me, sl_lst, sl_tup, cmp_isin, cmp_notin, flat_str, flat_int, flat_bl, flat_non, eqF_str, in_tup, seqO_nx, seqO_rt, seqO_bk, seqO_ct, exs_nil, exs_cons, ex_set, setoD_dcs, setoD_lst, ex_seto, ex_unp, augD_int, ex_aug, ex_expr, appD_lst, ex_app, mthD_lst, ex_mth, mthxD_lst, ex_mthx, om_clear, om_pop, om_reverse, setsD_lst, ex_sets, setnD_nil, setnD_one, ex_newd, putdD_str, ex_putd, ex_setn, appnD_lst, ex_appn, appatD_int, ex_appat, ex_popn, ex_popt, apptpD_int, ex_apptp, ex_ret, ex_reto, ex_retn, ex_iff, ex_whl, ex_for, revD_lst, ex_forv, ex_forr, ex_brk, ex_cnt, ex_pass, ex_share, it_tup, it_lst, it_str, it_fls, tg_one, wipe_one, nxO_nx, nxO_ct, nxO_bk, nxO_rt, forD_nil, lcD_nil, lcD_cons, consO_some, consO_none, ansO_nx, ansO_rt, ansO_ite, sizeLine_lit, pow_lit, toNx_nx, toNx_ct, toNx_ite, toA_some, toA_ite, List.getElem?_cons_zero, List.getElem?_cons_succ, List.getElem?_nil, List.set_cons_zero, List.set_cons_succ, List.set_nil, List.length_cons, List.length_nil, List.length_map, List.length_append, List.length_range, List.length_replicate, List.map_cons, List.map_nil, List.cons_append, List.nil_append, List.append_nil, List.replicate_succ, List.replicate_zero, Nat.reduceAdd, Nat.reduceSub, Nat.reduceMul, Nat.reduceLT, Nat.reduceLeDiff, Nat.reduceEqDiff, Nat.reduceMod, Nat.reduceDiv, Nat.reducePow, Int.reduceAdd, Int.reduceSub, Int.reduceMul, Int.reduceNeg, Int.reduceLT, Int.reduceLE, Int.reduceGT, Int.reduceGE, Int.reduceEq, Int.reduceNe, Int.reduceMod, Int.reduceDiv, Int.reducePow, Int.reduceToNat, Nat.add_zero, Nat.zero_add, Nat.sub_zero, Nat.zero_le, Nat.lt_irrefl, ite_true, ite_false, Bool.not_true, Bool.not_false, Bool.true_and, Bool.false_and, Bool.and_true, Bool.and_false, Bool.true_or, Bool.false_or, Bool.or_true, Bool.or_false, Bool.false_eq_true, Bool.true_eq_false, decide_true, decide_false, decide_eq_true_eq, Bool.not_eq_true', Bool.not_eq_false', decide_eq_false_iff_not, decide_not, not_true_eq_false, not_false_eq_true, and_true, true_and, and_false, false_and, or_true, true_or, or_false, false_or, and_self, or_self, if_true, if_false, reduceCtorEq, Fn.start, Int.cast_ofNat_Int, List.all_cons, List.all_nil, List.any_cons, List.any_nil, b_law_due_0, lA, lB, lC, q1, q2, q3, q4, d1, d2, c1, c2]
    · refine ⟨.sh (.lst (A.map Tc.d)), .sh (.lst (A.map Tc.d ++ B.map Tc.d)), s5, ?_⟩
      have d1 : (0 : Int) < A.length := by omega
      have d2 : ¬ (0 : Int) < C.length := by omega
      simp -implicitDefEqProofs only [bindS, mapS, bindN, mapN, ifD_bl, bind_ite', map_ite', ev_c, ev_var, ev_rd, glD_non, glD_bl, glD_int, glD_str, glD_tup, ev_gl, ev_dgT, ev_dix, ev_tix, getT_two, getS_str, ev_tup, ev_lst, ev_bin, ev_dsp, ev_dget, ev_mind, keyD_dcs, negD_int, ev_neg, notD_bl, ev_nt, ev_cmp, ev_chain, ev_an, ev_orr, ev_ife, ev_ix, ev_sl, isNo_nohi, isNo_c, isNo_var, isNo_bin, isNo_neg, isNo_bi, isNo_ix, isNo_call, isNo_me, endD_int, noIo_nil, ev_call, clocD_fn, ev_cloc, noIoL_nil, ev_callb, ev_bi, ev_lc, ev_lcd, ev_lcr, nst_on, rdnD_int, ev_rdn, ev_lenn, revlD_lst, ev_revl, ev_lrg, dic_od, ev_tvals, evs_nil, evs_cons, shd_sh, own_ow, rdv_ow, rdv_od, add_int, sub_int, mod_pos, fdiv_pos, lt_int, le_int, gt_int, ge_int, lt_str, le_str, gt_str, ge_str, is_non_non, is_bl_bl, is_int_non, is_str_non, is_tup_non, is_lst_non, is_bl_non, isnot_bl_bl, isnot_non_non, isnot_int_non, isnot_str_non, isnot_tup_non, isnot_lst_non, isnot_bl_non, cmp_eq, cmp_ne, eq_int, eq_str, eq_bl, eq_non, eq_int_str, eq_str_int, eq_non_str, eq_str_non, eq_non_int, eq_int_non, len_tup, len_lst, len_fls, abs_int, int_int, int_bl, tuple_lst, tuple_tup, list_lst, list_tup, max_int, min_int, list_dcs, isdct_dcs, isint_int, isint_bl, isint_str, isint_tup, isint_lst, isint_non, isbool_int, isbool_bl, isbool_str, isbool_tup, isbool_lst, isbool_non, isstr_int, isstr_bl, isstr_str, isstr_tup, isstr_lst, isstr_non, istuple_int, istuple_bl, istuple_str, istuple_tup, istuple_lst, istuple_non, islist_int, islist_bl, islist_str, islist_tup, islist_lst, islist_non, ix_dcs, in_dcs, ix_tup, ix_lsts, atI_0, atI_1, atI_2, atI_3, atI_4, atI_5, atI_6, atI_7, atI_8, atI_9, atI_10, atI_11, atI_12, ix_fls, ev_me, sl_lst, sl_tup, cmp_isin, cmp_notin, flat_str, flat_int, flat_bl, flat_non, eqF_str, in_tup, seqO_nx, seqO_rt, seqO_bk, seqO_ct, exs_nil, exs_cons, ex_set, setoD_dcs, setoD_lst, ex_seto, ex_unp, augD_int, ex_aug, ex_expr, appD_lst, ex_app, mthD_lst, ex_mth, mthxD_lst, ex_mthx, om_clear, om_pop, om_reverse, setsD_lst, ex_sets, setnD_nil, setnD_one, ex_newd, putdD_str, ex_putd, ex_setn, appnD_lst, ex_appn, appatD_int, ex_appat, ex_popn, ex_popt, apptpD_int, ex_apptp, ex_ret, ex_reto, ex_retn, ex_iff, ex_whl, ex_for, revD_lst, ex_forv, ex_forr, ex_brk, ex_cnt, ex_pass, ex_share, it_tup, it_lst, it_str, it_fls, tg_one, wipe_one, nxO_nx, nxO_ct, nxO_bk, nxO_rt, forD_nil, lcD_nil, lcD_cons, consO_some, consO_none, ansO_nx, ansO_rt, ansO_ite, sizeLine_lit, pow_lit, toNx_nx, toNx_ct, toNx_ite, toA_some, toA_ite, List.getElem?_cons_zero, List.getElem?_cons_succ, List.getElem?_nil, List.set_cons_zero, List.set_cons_succ, List.set_nil, List.length_cons, List.length_nil, List.length_map, List.length_append, List.length_range, List.length_replicate, List.map_cons, List.map_nil, List.cons_append, List.nil_append, List.append_nil, List.replicate_succ, List.replicate_zero, Nat.reduceAdd, Nat.reduceSub, Nat.reduceMul, Nat.reduceLT, Nat.reduceLeDiff, Nat.reduceEqDiff, Nat.reduceMod, Nat.reduceDiv, Nat.reducePow, Int.reduceAdd, Int.reduceSub, Int.reduceMul, Int.reduceNeg, Int.reduceLT, Int.reduceLE, Int.reduceGT, Int.reduceGE, Int.reduceEq, Int.reduceNe, Int.reduceMod, Int.reduceDiv, Int.reducePow, Int.reduceToNat, Nat.add_zero, Nat.zero_add, Nat.sub_zero, Nat.zero_le, Nat.lt_irrefl, ite_true, ite_false, Bool.not_true, Bool.not_false, Bool.true_and, Bool.false_and, Bool.and_true, Bool.and_false, Bool.true_or, Bool.false_or, Bool.or_true, Bool.or_false, Bool.false_eq_true, Bool.true_eq_false, decide_true, decide_false, decide_eq_true_eq, Bool.not_eq_true', Bool.not_eq_false', decide_eq_false_iff_not, decide_not, not_true_eq_false, not_false_eq_true, and_true, true_and, and_false, false_and, or_true, true_or, or_false, false_or, and_self, or_self, if_true, if_false, reduceCtorEq, Fn.start, Int.cast_ofNat_Int, List.all_cons, List.all_nil, List.any_cons, List.any_nil, b_law_due_0, lA, lB, lC, q1, q2, q3, q4, d1, d2, c1, c2]
  · refine ⟨.sh (.lst (A.map Tc.d)), .sh (.lst (A.map Tc.d ++ B.map Tc.d)), s5, ?_⟩
    have d1 : ¬ (0 : Int) < A.length := by omega
    simp -implicitDefEqProofs only [bindS, mapS, bindN, mapN, ifD_bl, bind_ite', map_ite', ev_c, ev_var, ev_rd, glD_non, glD_bl, glD_int, glD_str, glD_tup, ev_gl, ev_dgT, ev_dix, ev_tix, getT_two, getS_str, ev_tup, ev_lst, ev_bin, ev_dsp, ev_dget, ev_mind, keyD_dcs, negD_int, ev_neg, notD_bl, ev_nt, ev_cmp, ev_chain, ev_an, ev_orr, ev_ife, ev_ix, ev_sl, isNo_nohi, isNo_c, isNo_var, isNo_bin, isNo_neg, isNo_bi, isNo_ix, isNo_call, isNo_me, endD_int, noIo_nil, ev_call, clocD_fn, ev_cloc, noIoL_nil, ev_callb, ev_bi, ev_lc, ev_lcd, ev_lcr, nst_on, rdnD_int, ev_rdn, ev_lenn, revlD_lst, ev_revl, ev_lrg, dic_od, ev_tvals, evs_nil, evs_cons, shd_sh, own_ow, rdv_ow, rdv_od, add_int, sub_int, mod_pos, fdiv_pos, lt_int, le_int, gt_int, ge_int, lt_str, le_str, gt_str, ge_str, is_non_non, is_bl_bl, is_int_non, is_str_non, is_tup_non, is_lst_non, is_bl_non, isnot_bl_bl, isnot_non_non, isnot_int_non, isnot_str_non, isnot_tup_non, isnot_lst_non, isnot_bl_non, cmp_eq, cmp_ne, eq_int, eq_str, eq_bl, eq_non, eq_int_str, eq_str_int, eq_non_str, eq_str_non, eq_non_int, eq_int_non, len_tup, len_lst, len_fls, abs_int, int_int, int_bl, tuple_lst, tuple_tup, list_lst, list_tup, max_int, min_int, list_dcs, isdct_dcs, isint_int, isint_bl, isint_str, isint_tup, isint_lst, isint_non, isbool_int, isbool_bl, isbool_str, isbool_tup, isbool_lst, isbool_non, isstr_int, isstr_bl, isstr_str, isstr_tup, isstr_lst, isstr_non, istuple_int, istuple_bl, istuple_str, istuple_tup, istuple_lst, istuple_non, islist_int, islist_bl, islist_str, islist_tup, islist_lst, islist_non, ix_dcs, in_dcs, ix_tup, ix_lsts, atI_0, atI_1, atI_2, atI_3, atI_4, atI_5, atI_6, atI_7, atI_8, atI_9, atI_10, atI_11, atI_12, ix_fls, ev_me, sl_lst, sl_tup, cmp_isin, cmp_notin, flat_str, flat_int, flat_bl, flat_non, eqF_str, in_tup, seqO_nx, seqO_rt, seqO_bk, seqO_ct, exs_nil, exs_cons, ex_set, setoD_dcs, setoD_lst, ex_seto, ex_unp, augD_int, ex_aug, ex_expr, appD_lst, ex_app, mthD_lst, ex_mth, mthxD_lst, ex_mthx, om_clear, om_pop, om_reverse, setsD_lst, ex_sets, setnD_nil, setnD_one, ex_newd, putdD_str, ex_putd, ex_setn, appnD_lst, ex_appn, appatD_int, ex_appat, ex_popn, ex_popt, apptpD_int, ex_apptp, ex_ret, ex_reto, ex_retn, ex_iff, ex_whl, ex_for, revD_lst, ex_forv, ex_forr, ex_brk, ex_cnt, ex_pass, ex_share, it_tup, it_lst, it_str, it_fls, tg_one, wipe_one, nxO_nx, nxO_ct, nxO_bk, nxO_rt, forD_nil, lcD_nil, lcD_cons, consO_some, consO_none, ansO_nx, ansO_rt, ansO_ite, sizeLine_lit, pow_lit, toNx_nx, toNx_ct, toNx_ite, toA_some, toA_ite, List.getElem?_cons_zero, List.getElem?_cons_succ, List.getElem?_nil, List.set_cons_zero, List.set_cons_succ, List.set_nil, List.length_cons, List.length_nil, List.length_map, List.length_append, List.length_range, List.length_replicate, List.map_cons, List.map_nil, List.cons_append, List.nil_append, List.append_nil, List.replicate_succ, List.replicate_zero, Nat.reduceAdd, Nat.reduceSub, Nat.reduceMul, Nat.reduceLT, Nat.reduceLeDiff, Nat.reduceEqDiff, Nat.reduceMod, Nat.reduceDiv, Nat.reducePow, Int.reduceAdd, Int.reduceSub, Int.reduceMul, Int.reduceNeg, Int.reduceLT, Int.reduceLE, Int.reduceGT, Int.reduceGE, Int.reduceEq, Int.reduceNe, Int.reduceMod, Int.reduceDiv, Int.reducePow, Int.reduceToNat, Nat.add_zero, Nat.zero_add, Nat.sub_zero, Nat.zero_le, Nat.lt_irrefl, ite_true, ite_false, Bool.not_true, Bool.not_false, Bool.true_and, Bool.false_and, Bool.and_true, Bool.and_false, Bool.true_or, Bool.false_or, Bool.or_true, Bool.or_false, Bool.false_eq_true, Bool.true_eq_false, decide_true, decide_false, decide_eq_true_eq, Bool.not_eq_true', Bool.not_eq_false', decide_eq_false_iff_not, decide_not, not_true_eq_false, not_false_eq_true, and_true, true_and, and_false, false_and, or_true, true_or, or_false, false_or, and_self, or_self, if_true, if_false, reduceCtorEq, Fn.start, Int.cast_ofNat_Int, List.all_cons, List.all_nil, List.any_cons, List.any_nil, b_law_due_0, lA, lB, q1, q2, q3, q4, d1, c1]
theorem due_loop (F : Fc) (l1 l2 : List Tc) (h1 : l1.length < 100) (h2 : l2.length < 100) : ∀ (ys : List Str) (s2 s3 s4 s5 : Sl), ∃ s', forD (tgD [2]) (exs F G b_law_due_0) (ys.map D.str) [.sh (.tup (l1.map Tc.d)), .sh (.tup (l2.map Tc.d)), s2, s3, s4, s5] =
    some (match ys.find? (pick l1 l2) with
      | some k => .rt (.str k) s'
      | none => .nx s')
  | [], s2, s3, s4, s5 => ⟨_, rfl⟩
  | y :: ys, s2, s3, s4, s5 => by
    obtain ⟨t3, t4, t5, e⟩ := due_step F l1 l2 h1 h2 y s3 s4 s5
    obtain ⟨s', e2⟩ := due_loop F l1 l2 h1 h2 ys (.sh (.str y)) t3 t4 t5
    by_cases c : pick l1 l2 y = true
    · refine ⟨[.sh (.tup (l1.map Tc.d)), .sh (.tup (l2.map Tc.d)), .sh (.str y), t3, t4, t5], ?_⟩
      rw [List.map_cons, forD_cons, tg_one, bindS]
      simp only [List.set_cons_succ, List.set_cons_zero]
      rw [e, if_pos c, bindS, nxO_rt, List.find?_cons_of_pos c]
    · refine ⟨s', ?_⟩
      rw [List.map_cons, forD_cons, tg_one, bindS]
      simp only [List.set_cons_succ, List.set_cons_zero]
      rw [e, if_neg c, bindS, nxO_nx, e2, List.find?_cons_of_neg c]
def dueV (l1 l2 : List Tc) : D := match ((l1.map Tc.t).mergeSort leS).find? (pick l1 l2) with
  | some k => .str k
  | none => .non
theorem c_due (n : Nat) (l1 l2 : List Tc) (h1 : l1.length < 100) (h2 : l2.length < 100) : call T G (n + 1) k_law_due [.tup (l1.map Tc.d), .tup (l2.map Tc.d)] = some (dueV l1 l2, []) := by
  rw [call_of T_law_due rfl]
  obtain ⟨s', e⟩ := due_loop (call T G n) l1 l2 h1 h2 ((l1.map Tc.t).mergeSort leS) .un .un .un .un
  have lc := fun s0 s1 s2 s3 s4 s5 => lcD_map (f := lcT (call T G n) G [5] (.c (.bl true)) (.ix (.var 5) (.c (.int 0))) [s0, s1, s2, s3, s4, s5]) Tc.d (fun x => D.str x.t) l1 fun x _ => turn_t (call T G n) x s0 s1 s2 s3 s4 s5
  have em : l1.map (fun x => D.str x.t) = (l1.map Tc.t).map D.str := by rw [List.map_map]; rfl
  rw [em] at lc
  have so := biD_sorted_strs (l1.map Tc.t) (by rw [List.length_map]; omega)
  have hz : (l1.map Tc.t).length ≤ 16777216 := by rw [List.length_map]; omega
  unfold dueV
  generalize (l1.map Tc.t).mergeSort leS = Z at *
  generalize l1.map Tc.t = Y at *
  simp -implicitDefEqProofs only [bindS, mapS, bindN, mapN, ifD_bl, bind_ite', map_ite', ev_c, ev_var, ev_rd, glD_non, glD_bl, glD_int, glD_str, glD_tup, ev_gl, ev_dgT, ev_dix, ev_tix, getT_two, getS_str, ev_tup, ev_lst, ev_bin, ev_dsp, ev_dget, ev_mind, keyD_dcs, negD_int, ev_neg, notD_bl, ev_nt, ev_cmp, ev_chain, ev_an, ev_orr, ev_ife, ev_ix, ev_sl, isNo_nohi, isNo_c, isNo_var, isNo_bin, isNo_neg, isNo_bi, isNo_ix, isNo_call, isNo_me, endD_int, noIo_nil, ev_call, clocD_fn, ev_cloc, noIoL_nil, ev_callb, ev_bi, ev_lc, ev_lcd, ev_lcr, nst_on, rdnD_int, ev_rdn, ev_lenn, revlD_lst, ev_revl, ev_lrg, dic_od, ev_tvals, evs_nil, evs_cons, shd_sh, own_ow, rdv_ow, rdv_od, add_int, sub_int, mod_pos, fdiv_pos, lt_int, le_int, gt_int, ge_int, lt_str, le_str, gt_str, ge_str, is_non_non, is_bl_bl, is_int_non, is_str_non, is_tup_non, is_lst_non, is_bl_non, isnot_bl_bl, isnot_non_non, isnot_int_non, isnot_str_non, isnot_tup_non, isnot_lst_non, isnot_bl_non, cmp_eq, cmp_ne, eq_int, eq_str, eq_bl, eq_non, eq_int_str, eq_str_int, eq_non_str, eq_str_non, eq_non_int, eq_int_non, len_tup, len_lst, len_fls, abs_int, int_int, int_bl, tuple_lst, tuple_tup, list_lst, list_tup, max_int, min_int, list_dcs, isdct_dcs, isint_int, isint_bl, isint_str, isint_tup, isint_lst, isint_non, isbool_int, isbool_bl, isbool_str, isbool_tup, isbool_lst, isbool_non, isstr_int, isstr_bl, isstr_str, isstr_tup, isstr_lst, isstr_non, istuple_int, istuple_bl, istuple_str, istuple_tup, istuple_lst, istuple_non, islist_int, islist_bl, islist_str, islist_tup, islist_lst, islist_non, ix_dcs, in_dcs, ix_tup, ix_lsts, atI_0, atI_1, atI_2, atI_3, atI_4, atI_5, atI_6, atI_7, atI_8, atI_9, atI_10, atI_11, atI_12, ix_fls, ev_me, sl_lst, sl_tup, cmp_isin, cmp_notin, flat_str, flat_int, flat_bl, flat_non, eqF_str, in_tup, seqO_nx, seqO_rt, seqO_bk, seqO_ct, exs_nil, exs_cons, ex_set, setoD_dcs, setoD_lst, ex_seto, ex_unp, augD_int, ex_aug, ex_expr, appD_lst, ex_app, mthD_lst, ex_mth, mthxD_lst, ex_mthx, om_clear, om_pop, om_reverse, setsD_lst, ex_sets, setnD_nil, setnD_one, ex_newd, putdD_str, ex_putd, ex_setn, appnD_lst, ex_appn, appatD_int, ex_appat, ex_popn, ex_popt, apptpD_int, ex_apptp, ex_ret, ex_reto, ex_retn, ex_iff, ex_whl, ex_for, revD_lst, ex_forv, ex_forr, ex_brk, ex_cnt, ex_pass, ex_share, it_tup, it_lst, it_str, it_fls, tg_one, wipe_one, nxO_nx, nxO_ct, nxO_bk, nxO_rt, forD_nil, lcD_nil, lcD_cons, consO_some, consO_none, ansO_nx, ansO_rt, ansO_ite, sizeLine_lit, pow_lit, toNx_nx, toNx_ct, toNx_ite, toA_some, toA_ite, List.getElem?_cons_zero, List.getElem?_cons_succ, List.getElem?_nil, List.set_cons_zero, List.set_cons_succ, List.set_nil, List.length_cons, List.length_nil, List.length_map, List.length_append, List.length_range, List.length_replicate, List.map_cons, List.map_nil, List.cons_append, List.nil_append, List.append_nil, List.replicate_succ, List.replicate_zero, Nat.reduceAdd, Nat.reduceSub, Nat.reduceMul, Nat.reduceLT, Nat.reduceLeDiff, Nat.reduceEqDiff, Nat.reduceMod, Nat.reduceDiv, Nat.reducePow, Int.reduceAdd, Int.reduceSub, Int.reduceMul, Int.reduceNeg, Int.reduceLT, Int.reduceLE, Int.reduceGT, Int.reduceGE, Int.reduceEq, Int.reduceNe, Int.reduceMod, Int.reduceDiv, Int.reducePow, Int.reduceToNat, Nat.add_zero, Nat.zero_add, Nat.sub_zero, Nat.zero_le, Nat.lt_irrefl, ite_true, ite_false, Bool.not_true, Bool.not_false, Bool.true_and, Bool.false_and, Bool.and_true, Bool.and_false, Bool.true_or, Bool.false_or, Bool.or_true, Bool.or_false, Bool.false_eq_true, Bool.true_eq_false, decide_true, decide_false, decide_eq_true_eq, Bool.not_eq_true', Bool.not_eq_false', decide_eq_false_iff_not, decide_not, not_true_eq_false, not_false_eq_true, and_true, true_and, and_false, false_and, or_true, true_or, or_false, false_or, and_self, or_self, if_true, if_false, reduceCtorEq, Fn.start, Int.cast_ofNat_Int, List.all_cons, List.all_nil, List.any_cons, List.any_nil, f_law_due, lc, so, hz, e]
  cases Z.find? (pick l1 l2) with
  | some k => simp -implicitDefEqProofs only [bindS, mapS, bindN, mapN, ifD_bl, bind_ite', map_ite', ev_c, ev_var, ev_rd, glD_non, glD_bl, glD_int, glD_str, glD_tup, ev_gl, ev_dgT, ev_dix, ev_tix, getT_two, getS_str, ev_tup, ev_lst, ev_bin, ev_dsp, ev_dget, ev_mind, keyD_dcs, negD_int, ev_neg, notD_bl, ev_nt, ev_cmp, ev_chain, ev_an, ev_orr, ev_ife, ev_ix, ev_sl, isNo_nohi, isNo_c, isNo_var, isNo_bin, isNo_neg, isNo_bi, isNo_ix, isNo_call, isNo_me, endD_int, noIo_nil, ev_call, clocD_fn, ev_cloc, noIoL_nil, ev_callb, ev_bi, ev_lc, ev_lcd, ev_lcr, nst_on, rdnD_int, ev_rdn, ev_lenn, revlD_lst, ev_revl, ev_lrg, dic_od, ev_tvals, evs_nil, evs_cons, shd_sh, own_ow, rdv_ow, rdv_od, add_int, sub_int, mod_pos, fdiv_pos, lt_int, le_int, gt_int, ge_int, lt_str, le_str, gt_str, ge_str, is_non_non, is_bl_bl, is_int_non, is_str_non, is_tup_non, is_lst_non, is_bl_non, isnot_bl_bl, isnot_non_non, isnot_int_non, isnot_str_non, isnot_tup_non, isnot_lst_non, isnot_bl_non, cmp_eq, cmp_ne, eq_int, eq_str, eq_bl, eq_non, eq_int_str, eq_str_int, eq_non_str, eq_str_non, eq_non_int, eq_int_non, len_tup, len_lst, len_fls, abs_int, int_int, int_bl, tuple_lst, tuple_tup, list_lst, list_tup, max_int, min_int, list_dcs, isdct_dcs, isint_int, isint_bl, isint_str, isint_tup, isint_lst, isint_non, isbool_int, isbool_bl, isbool_str, isbool_tup, isbool_lst, isbool_non, isstr_int, isstr_bl, isstr_str, isstr_tup, isstr_lst, isstr_non, istuple_int, istuple_bl, istuple_str, istuple_tup, istuple_lst, istuple_non, islist_int, islist_bl, islist_str, islist_tup, islist_lst, islist_non, ix_dcs, in_dcs, ix_tup, ix_lsts, atI_0, atI_1, atI_2, atI_3, atI_4, atI_5, atI_6, atI_7, atI_8, atI_9, atI_10, atI_11, atI_12, ix_fls, ev_me, sl_lst, sl_tup, cmp_isin, cmp_notin, flat_str, flat_int, flat_bl, flat_non, eqF_str, in_tup, seqO_nx, seqO_rt, seqO_bk, seqO_ct, exs_nil, exs_cons, ex_set, setoD_dcs, setoD_lst, ex_seto, ex_unp, augD_int, ex_aug, ex_expr, appD_lst, ex_app, mthD_lst, ex_mth, mthxD_lst, ex_mthx, om_clear, om_pop, om_reverse, setsD_lst, ex_sets, setnD_nil, setnD_one, ex_newd, putdD_str, ex_putd, ex_setn, appnD_lst, ex_appn, appatD_int, ex_appat, ex_popn, ex_popt, apptpD_int, ex_apptp, ex_ret, ex_reto, ex_retn, ex_iff, ex_whl, ex_for, revD_lst, ex_forv, ex_forr, ex_brk, ex_cnt, ex_pass, ex_share, it_tup, it_lst, it_str, it_fls, tg_one, wipe_one, nxO_nx, nxO_ct, nxO_bk, nxO_rt, forD_nil, lcD_nil, lcD_cons, consO_some, consO_none, ansO_nx, ansO_rt, ansO_ite, sizeLine_lit, pow_lit, toNx_nx, toNx_ct, toNx_ite, toA_some, toA_ite, List.getElem?_cons_zero, List.getElem?_cons_succ, List.getElem?_nil, List.set_cons_zero, List.set_cons_succ, List.set_nil, List.length_cons, List.length_nil, List.length_map, List.length_append, List.length_range, List.length_replicate, List.map_cons, List.map_nil, List.cons_append, List.nil_append, List.append_nil, List.replicate_succ, List.replicate_zero, Nat.reduceAdd, Nat.reduceSub, Nat.reduceMul, Nat.reduceLT, Nat.reduceLeDiff, Nat.reduceEqDiff, Nat.reduceMod, Nat.reduceDiv, Nat.reducePow, Int.reduceAdd, Int.reduceSub, Int.reduceMul, Int.reduceNeg, Int.reduceLT, Int.reduceLE, Int.reduceGT, Int.reduceGE, Int.reduceEq, Int.reduceNe, Int.reduceMod, Int.reduceDiv, Int.reducePow, Int.reduceToNat, Nat.add_zero, Nat.zero_add, Nat.sub_zero, Nat.zero_le, Nat.lt_irrefl, ite_true, ite_false, Bool.not_true, Bool.not_false, Bool.true_and, Bool.false_and, Bool.and_true, Bool.and_false, Bool.true_or, Bool.false_or, Bool.or_true, Bool.or_false, Bool.false_eq_true, Bool.true_eq_false, decide_true, decide_false, decide_eq_true_eq, Bool.not_eq_true', Bool.not_eq_false', decide_eq_false_iff_not, decide_not, not_true_eq_false, not_false_eq_true, and_true, true_and, and_false, false_and, or_true, true_or, or_false, false_or, and_self, or_self, if_true, if_false, reduceCtorEq, Fn.start, Int.cast_ofNat_Int, List.all_cons, List.all_nil, List.any_cons, List.any_nil, f_law_due]
  | none => simp -implicitDefEqProofs only [bindS, mapS, bindN, mapN, ifD_bl, bind_ite', map_ite', ev_c, ev_var, ev_rd, glD_non, glD_bl, glD_int, glD_str, glD_tup, ev_gl, ev_dgT, ev_dix, ev_tix, getT_two, getS_str, ev_tup, ev_lst, ev_bin, ev_dsp, ev_dget, ev_mind, keyD_dcs, negD_int, ev_neg, notD_bl, ev_nt, ev_cmp, ev_chain, ev_an, ev_orr, ev_ife, ev_ix, ev_sl, isNo_nohi, isNo_c, isNo_var, isNo_bin, isNo_neg, isNo_bi, isNo_ix, isNo_call, isNo_me, endD_int, noIo_nil, ev_call, clocD_fn, ev_cloc, noIoL_nil, ev_callb, ev_bi, ev_lc, ev_lcd, ev_lcr, nst_on, rdnD_int, ev_rdn, ev_lenn, revlD_lst, ev_revl, ev_lrg, dic_od, ev_tvals, evs_nil, evs_cons, shd_sh, own_ow, rdv_ow, rdv_od, add_int, sub_int, mod_pos, fdiv_pos, lt_int, le_int, gt_int, ge_int, lt_str, le_str, gt_str, ge_str, is_non_non, is_bl_bl, is_int_non, is_str_non, is_tup_non, is_lst_non, is_bl_non, isnot_bl_bl, isnot_non_non, isnot_int_non, isnot_str_non, isnot_tup_non, isnot_lst_non, isnot_bl_non, cmp_eq, cmp_ne, eq_int, eq_str, eq_bl, eq_non, eq_int_str, eq_str_int, eq_non_str, eq_str_non, eq_non_int, eq_int_non, len_tup, len_lst, len_fls, abs_int, int_int, int_bl, tuple_lst, tuple_tup, list_lst, list_tup, max_int, min_int, list_dcs, isdct_dcs, isint_int, isint_bl, isint_str, isint_tup, isint_lst, isint_non, isbool_int, isbool_bl, isbool_str, isbool_tup, isbool_lst, isbool_non, isstr_int, isstr_bl, isstr_str, isstr_tup, isstr_lst, isstr_non, istuple_int, istuple_bl, istuple_str, istuple_tup, istuple_lst, istuple_non, islist_int, islist_bl, islist_str, islist_tup, islist_lst, islist_non, ix_dcs, in_dcs, ix_tup, ix_lsts, atI_0, atI_1, atI_2, atI_3, atI_4, atI_5, atI_6, atI_7, atI_8, atI_9, atI_10, atI_11, atI_12, ix_fls, ev_me, sl_lst, sl_tup, cmp_isin, cmp_notin, flat_str, flat_int, flat_bl, flat_non, eqF_str, in_tup, seqO_nx, seqO_rt, seqO_bk, seqO_ct, exs_nil, exs_cons, ex_set, setoD_dcs, setoD_lst, ex_seto, ex_unp, augD_int, ex_aug, ex_expr, appD_lst, ex_app, mthD_lst, ex_mth, mthxD_lst, ex_mthx, om_clear, om_pop, om_reverse, setsD_lst, ex_sets, setnD_nil, setnD_one, ex_newd, putdD_str, ex_putd, ex_setn, appnD_lst, ex_appn, appatD_int, ex_appat, ex_popn, ex_popt, apptpD_int, ex_apptp, ex_ret, ex_reto, ex_retn, ex_iff, ex_whl, ex_for, revD_lst, ex_forv, ex_forr, ex_brk, ex_cnt, ex_pass, ex_share, it_tup, it_lst, it_str, it_fls, tg_one, wipe_one, nxO_nx, nxO_ct, nxO_bk, nxO_rt, forD_nil, lcD_nil, lcD_cons, consO_some, consO_none, ansO_nx, ansO_rt, ansO_ite, sizeLine_lit, pow_lit, toNx_nx, toNx_ct, toNx_ite, toA_some, toA_ite, List.getElem?_cons_zero, List.getElem?_cons_succ, List.getElem?_nil, List.set_cons_zero, List.set_cons_succ, List.set_nil, List.length_cons, List.length_nil, List.length_map, List.length_append, List.length_range, List.length_replicate, List.map_cons, List.map_nil, List.cons_append, List.nil_append, List.append_nil, List.replicate_succ, List.replicate_zero, Nat.reduceAdd, Nat.reduceSub, Nat.reduceMul, Nat.reduceLT, Nat.reduceLeDiff, Nat.reduceEqDiff, Nat.reduceMod, Nat.reduceDiv, Nat.reducePow, Int.reduceAdd, Int.reduceSub, Int.reduceMul, Int.reduceNeg, Int.reduceLT, Int.reduceLE, Int.reduceGT, Int.reduceGE, Int.reduceEq, Int.reduceNe, Int.reduceMod, Int.reduceDiv, Int.reducePow, Int.reduceToNat, Nat.add_zero, Nat.zero_add, Nat.sub_zero, Nat.zero_le, Nat.lt_irrefl, ite_true, ite_false, Bool.not_true, Bool.not_false, Bool.true_and, Bool.false_and, Bool.and_true, Bool.and_false, Bool.true_or, Bool.false_or, Bool.or_true, Bool.or_false, Bool.false_eq_true, Bool.true_eq_false, decide_true, decide_false, decide_eq_true_eq, Bool.not_eq_true', Bool.not_eq_false', decide_eq_false_iff_not, decide_not, not_true_eq_false, not_false_eq_true, and_true, true_and, and_false, false_and, or_true, true_or, or_false, false_or, and_self, or_self, if_true, if_false, reduceCtorEq, Fn.start, Int.cast_ofNat_Int, List.all_cons, List.all_nil, List.any_cons, List.any_nil, f_law_due]
theorem chg_of (l : List Tc) (k : Str) : chg l k = decide (0 < ((l.filter (same k)).filter fun x => x.ch).length) := by
  induction l with
  | nil => rfl
  | cons x l ih =>
    have e : chg (x :: l) k = (same k x && x.ch || chg l k) := rfl
    rw [e, ih]
    cases h : same k x with
    | false => rw [List.filter_cons_of_neg (by rw [h]; exact Bool.false_ne_true)]; rfl
    | true =>
      rw [List.filter_cons_of_pos h]
      cases hc : x.ch with
      | false => rw [List.filter_cons_of_neg (p := fun x : Tc => x.ch) (by rw [hc]; exact Bool.false_ne_true)]; rfl
      | true => rw [List.filter_cons_of_pos (p := fun x : Tc => x.ch) hc, List.length_cons, decide_eq_true (Nat.succ_pos _)]; rfl
theorem in_of (l : List Tc) (k : Str) : decide (k ∈ l.map Tc.t) = decide (0 < (l.filter (same k)).length) := by
  rw [decide_eq_decide]
  constructor
  · intro h
    obtain ⟨x, hx, rfl⟩ := List.mem_map.mp h
    exact List.length_pos_of_mem (List.mem_filter.mpr ⟨hx, decide_eq_true rfl⟩)
  · intro h
    obtain ⟨x, hx⟩ := List.exists_mem_of_length_pos h
    obtain ⟨h1, h2⟩ := List.mem_filter.mp hx
    exact List.mem_map.mpr ⟨x, h1, of_decide_eq_true h2⟩
theorem pick_eq (l1 l2 : List Tc) (k : Str) : both (keysT [] l2) (chg l1) (chg l2) k = pick l1 l2 k := by
  unfold both pick
  have e1 : decide (k ∈ keysT [] l2) = decide (0 < (l2.filter (same k)).length) := by
    rw [← in_of, decide_eq_decide, keysT_mem]
    simp
  rw [e1, chg_of, chg_of, List.filter_append, List.length_append]
  congr 1
  rw [← Bool.decide_or, decide_eq_decide]
  omega
theorem c_right (n : Nat) (l1 l2 : List Tc) (h1 : l1.length < 100) (h2 : l2.length < 100) : call T G (n + 3) k_law_right [.tup (l1.map Tc.d), .tup (l2.map Tc.d)] = some (.bl true, []) := by
  have e1 := c_meeting n l1 l2 h1 h2
  have e2 := c_due (n + 1) l1 l2 h1 h2
  rw [least_first (keysT [] l1) (l1.map Tc.t) _ (pick l1 l2) (fun k => by rw [keysT_mem]; simp) (fun k => pick_eq l1 l2 k)] at e1
  have e3 : call T G (n + 2) k_meeting [.tup (l1.map Tc.d), .tup (l2.map Tc.d)] = some (dueV l1 l2, []) := e1
  rw [call_of T_law_right rfl]
  have hd : dueV l1 l2 = .non ∨ ∃ k, dueV l1 l2 = .str k := by
    unfold dueV
    split
    · exact .inr ⟨_, rfl⟩
    · exact .inl rfl
  rcases hd with hd | ⟨k, hd⟩
  · rw [hd] at e2 e3
    simp -implicitDefEqProofs only [bindS, mapS, bindN, mapN, ifD_bl, bind_ite', map_ite', ev_c, ev_var, ev_rd, glD_non, glD_bl, glD_int, glD_str, glD_tup, ev_gl, ev_dgT, ev_dix, ev_tix, getT_two, getS_str, ev_tup, ev_lst, ev_bin, ev_dsp, ev_dget, ev_mind, keyD_dcs, negD_int, ev_neg, notD_bl, ev_nt, ev_cmp, ev_chain, ev_an, ev_orr, ev_ife, ev_ix, ev_sl, isNo_nohi, isNo_c, isNo_var, isNo_bin, isNo_neg, isNo_bi, isNo_ix, isNo_call, isNo_me, endD_int, noIo_nil, ev_call, clocD_fn, ev_cloc, noIoL_nil, ev_callb, ev_bi, ev_lc, ev_lcd, ev_lcr, nst_on, rdnD_int, ev_rdn, ev_lenn, revlD_lst, ev_revl, ev_lrg, dic_od, ev_tvals, evs_nil, evs_cons, shd_sh, own_ow, rdv_ow, rdv_od, add_int, sub_int, mod_pos, fdiv_pos, lt_int, le_int, gt_int, ge_int, lt_str, le_str, gt_str, ge_str, is_non_non, is_bl_bl, is_int_non, is_str_non, is_tup_non, is_lst_non, is_bl_non, isnot_bl_bl, isnot_non_non, isnot_int_non, isnot_str_non, isnot_tup_non, isnot_lst_non, isnot_bl_non, cmp_eq, cmp_ne, eq_int, eq_str, eq_bl, eq_non, eq_int_str, eq_str_int, eq_non_str, eq_str_non, eq_non_int, eq_int_non, len_tup, len_lst, len_fls, abs_int, int_int, int_bl, tuple_lst, tuple_tup, list_lst, list_tup, max_int, min_int, list_dcs, isdct_dcs, isint_int, isint_bl, isint_str, isint_tup, isint_lst, isint_non, isbool_int, isbool_bl, isbool_str, isbool_tup, isbool_lst, isbool_non, isstr_int, isstr_bl, isstr_str, isstr_tup, isstr_lst, isstr_non, istuple_int, istuple_bl, istuple_str, istuple_tup, istuple_lst, istuple_non, islist_int, islist_bl, islist_str, islist_tup, islist_lst, islist_non, ix_dcs, in_dcs, ix_tup, ix_lsts, atI_0, atI_1, atI_2, atI_3, atI_4, atI_5, atI_6, atI_7, atI_8, atI_9, atI_10, atI_11, atI_12, ix_fls, ev_me, sl_lst, sl_tup, cmp_isin, cmp_notin, flat_str, flat_int, flat_bl, flat_non, eqF_str, in_tup, seqO_nx, seqO_rt, seqO_bk, seqO_ct, exs_nil, exs_cons, ex_set, setoD_dcs, setoD_lst, ex_seto, ex_unp, augD_int, ex_aug, ex_expr, appD_lst, ex_app, mthD_lst, ex_mth, mthxD_lst, ex_mthx, om_clear, om_pop, om_reverse, setsD_lst, ex_sets, setnD_nil, setnD_one, ex_newd, putdD_str, ex_putd, ex_setn, appnD_lst, ex_appn, appatD_int, ex_appat, ex_popn, ex_popt, apptpD_int, ex_apptp, ex_ret, ex_reto, ex_retn, ex_iff, ex_whl, ex_for, revD_lst, ex_forv, ex_forr, ex_brk, ex_cnt, ex_pass, ex_share, it_tup, it_lst, it_str, it_fls, tg_one, wipe_one, nxO_nx, nxO_ct, nxO_bk, nxO_rt, forD_nil, lcD_nil, lcD_cons, consO_some, consO_none, ansO_nx, ansO_rt, ansO_ite, sizeLine_lit, pow_lit, toNx_nx, toNx_ct, toNx_ite, toA_some, toA_ite, List.getElem?_cons_zero, List.getElem?_cons_succ, List.getElem?_nil, List.set_cons_zero, List.set_cons_succ, List.set_nil, List.length_cons, List.length_nil, List.length_map, List.length_append, List.length_range, List.length_replicate, List.map_cons, List.map_nil, List.cons_append, List.nil_append, List.append_nil, List.replicate_succ, List.replicate_zero, Nat.reduceAdd, Nat.reduceSub, Nat.reduceMul, Nat.reduceLT, Nat.reduceLeDiff, Nat.reduceEqDiff, Nat.reduceMod, Nat.reduceDiv, Nat.reducePow, Int.reduceAdd, Int.reduceSub, Int.reduceMul, Int.reduceNeg, Int.reduceLT, Int.reduceLE, Int.reduceGT, Int.reduceGE, Int.reduceEq, Int.reduceNe, Int.reduceMod, Int.reduceDiv, Int.reducePow, Int.reduceToNat, Nat.add_zero, Nat.zero_add, Nat.sub_zero, Nat.zero_le, Nat.lt_irrefl, ite_true, ite_false, Bool.not_true, Bool.not_false, Bool.true_and, Bool.false_and, Bool.and_true, Bool.and_false, Bool.true_or, Bool.false_or, Bool.or_true, Bool.or_false, Bool.false_eq_true, Bool.true_eq_false, decide_true, decide_false, decide_eq_true_eq, Bool.not_eq_true', Bool.not_eq_false', decide_eq_false_iff_not, decide_not, not_true_eq_false, not_false_eq_true, and_true, true_and, and_false, false_and, or_true, true_or, or_false, false_or, and_self, or_self, if_true, if_false, reduceCtorEq, Fn.start, Int.cast_ofNat_Int, List.all_cons, List.all_nil, List.any_cons, List.any_nil, f_law_right, e2, e3]
  · rw [hd] at e2 e3
    simp -implicitDefEqProofs only [bindS, mapS, bindN, mapN, ifD_bl, bind_ite', map_ite', ev_c, ev_var, ev_rd, glD_non, glD_bl, glD_int, glD_str, glD_tup, ev_gl, ev_dgT, ev_dix, ev_tix, getT_two, getS_str, ev_tup, ev_lst, ev_bin, ev_dsp, ev_dget, ev_mind, keyD_dcs, negD_int, ev_neg, notD_bl, ev_nt, ev_cmp, ev_chain, ev_an, ev_orr, ev_ife, ev_ix, ev_sl, isNo_nohi, isNo_c, isNo_var, isNo_bin, isNo_neg, isNo_bi, isNo_ix, isNo_call, isNo_me, endD_int, noIo_nil, ev_call, clocD_fn, ev_cloc, noIoL_nil, ev_callb, ev_bi, ev_lc, ev_lcd, ev_lcr, nst_on, rdnD_int, ev_rdn, ev_lenn, revlD_lst, ev_revl, ev_lrg, dic_od, ev_tvals, evs_nil, evs_cons, shd_sh, own_ow, rdv_ow, rdv_od, add_int, sub_int, mod_pos, fdiv_pos, lt_int, le_int, gt_int, ge_int, lt_str, le_str, gt_str, ge_str, is_non_non, is_bl_bl, is_int_non, is_str_non, is_tup_non, is_lst_non, is_bl_non, isnot_bl_bl, isnot_non_non, isnot_int_non, isnot_str_non, isnot_tup_non, isnot_lst_non, isnot_bl_non, cmp_eq, cmp_ne, eq_int, eq_str, eq_bl, eq_non, eq_int_str, eq_str_int, eq_non_str, eq_str_non, eq_non_int, eq_int_non, len_tup, len_lst, len_fls, abs_int, int_int, int_bl, tuple_lst, tuple_tup, list_lst, list_tup, max_int, min_int, list_dcs, isdct_dcs, isint_int, isint_bl, isint_str, isint_tup, isint_lst, isint_non, isbool_int, isbool_bl, isbool_str, isbool_tup, isbool_lst, isbool_non, isstr_int, isstr_bl, isstr_str, isstr_tup, isstr_lst, isstr_non, istuple_int, istuple_bl, istuple_str, istuple_tup, istuple_lst, istuple_non, islist_int, islist_bl, islist_str, islist_tup, islist_lst, islist_non, ix_dcs, in_dcs, ix_tup, ix_lsts, atI_0, atI_1, atI_2, atI_3, atI_4, atI_5, atI_6, atI_7, atI_8, atI_9, atI_10, atI_11, atI_12, ix_fls, ev_me, sl_lst, sl_tup, cmp_isin, cmp_notin, flat_str, flat_int, flat_bl, flat_non, eqF_str, in_tup, seqO_nx, seqO_rt, seqO_bk, seqO_ct, exs_nil, exs_cons, ex_set, setoD_dcs, setoD_lst, ex_seto, ex_unp, augD_int, ex_aug, ex_expr, appD_lst, ex_app, mthD_lst, ex_mth, mthxD_lst, ex_mthx, om_clear, om_pop, om_reverse, setsD_lst, ex_sets, setnD_nil, setnD_one, ex_newd, putdD_str, ex_putd, ex_setn, appnD_lst, ex_appn, appatD_int, ex_appat, ex_popn, ex_popt, apptpD_int, ex_apptp, ex_ret, ex_reto, ex_retn, ex_iff, ex_whl, ex_for, revD_lst, ex_forv, ex_forr, ex_brk, ex_cnt, ex_pass, ex_share, it_tup, it_lst, it_str, it_fls, tg_one, wipe_one, nxO_nx, nxO_ct, nxO_bk, nxO_rt, forD_nil, lcD_nil, lcD_cons, consO_some, consO_none, ansO_nx, ansO_rt, ansO_ite, sizeLine_lit, pow_lit, toNx_nx, toNx_ct, toNx_ite, toA_some, toA_ite, List.getElem?_cons_zero, List.getElem?_cons_succ, List.getElem?_nil, List.set_cons_zero, List.set_cons_succ, List.set_nil, List.length_cons, List.length_nil, List.length_map, List.length_append, List.length_range, List.length_replicate, List.map_cons, List.map_nil, List.cons_append, List.nil_append, List.append_nil, List.replicate_succ, List.replicate_zero, Nat.reduceAdd, Nat.reduceSub, Nat.reduceMul, Nat.reduceLT, Nat.reduceLeDiff, Nat.reduceEqDiff, Nat.reduceMod, Nat.reduceDiv, Nat.reducePow, Int.reduceAdd, Int.reduceSub, Int.reduceMul, Int.reduceNeg, Int.reduceLT, Int.reduceLE, Int.reduceGT, Int.reduceGE, Int.reduceEq, Int.reduceNe, Int.reduceMod, Int.reduceDiv, Int.reducePow, Int.reduceToNat, Nat.add_zero, Nat.zero_add, Nat.sub_zero, Nat.zero_le, Nat.lt_irrefl, ite_true, ite_false, Bool.not_true, Bool.not_false, Bool.true_and, Bool.false_and, Bool.and_true, Bool.and_false, Bool.true_or, Bool.false_or, Bool.or_true, Bool.or_false, Bool.false_eq_true, Bool.true_eq_false, decide_true, decide_false, decide_eq_true_eq, Bool.not_eq_true', Bool.not_eq_false', decide_eq_false_iff_not, decide_not, not_true_eq_false, not_false_eq_true, and_true, true_and, and_false, false_and, or_true, true_or, or_false, false_or, and_self, or_self, if_true, if_false, reduceCtorEq, Fn.start, Int.cast_ofNat_Int, List.all_cons, List.all_nil, List.any_cons, List.any_nil, f_law_right, e2, e3]
end LW

namespace LW
open PySem PL TL
/-! what the law builds -/
def KS : List Str := [q "value", q "stand", q "line", q "store", q "gate", q "wheel"]
theorem dsp6 (v0 v1 v2 v3 v4 v5 : D) : dspD [q "value", q "stand", q "line", q "store", q "gate", q "wheel"] [v0, v1, v2, v3, v4, v5] = some (.dcs KS [v0, v1, v2, v3, v4, v5]) := if_pos ⟨by decide +kernel, rfl, by decide⟩
theorem fd (v0 v1 v2 v3 v4 v5 : D) : findD KS [v0, v1, v2, v3, v4, v5] (q "value") = some v0 ∧ findD KS [v0, v1, v2, v3, v4, v5] (q "stand") = some v1 ∧ findD KS [v0, v1, v2, v3, v4, v5] (q "line") = some v2 ∧
    findD KS [v0, v1, v2, v3, v4, v5] (q "store") = some v3 ∧ findD KS [v0, v1, v2, v3, v4, v5] (q "gate") = some v4 ∧ findD KS [v0, v1, v2, v3, v4, v5] (q "wheel") = some v5 := by
  unfold KS
  have n : ∀ a b : String, a ≠ b → ¬ q a = q b := fun a b h => by rw [q_eq]; exact h
  refine ⟨?_, ?_, ?_, ?_, ?_, ?_⟩ <;> simp only [findD, q_eq] <;> rfl
theorem add33 (a b c d e f : D) : binD .add (.tup [a, b, c]) (.tup [d, e, f]) = some (.tup [a, b, c, d, e, f]) := add_tup [a, b, c] [d, e, f] (by simp)
theorem c_touch (n : Nat) (t : Str) (m : Int) (c : Bool) (d : Int) (k : Str) (hk : k ∈ KS) : ∃ x : Tc, call T G (n + 1) k_law_touch [.str t, .int m, .bl c, .int d, .str k] = some (x.d, []) := by
  rw [call_of T_law_touch rfl]
  have h01 : d / 50 % 2 = 0 ∨ d / 50 % 2 = 1 := by omega
  have fin : ∀ (a0 b0 c0 a1 b1 c1 a2 b2 c2 : D), (∀ i, findD KS [.lst [.tup [.str (q "look"), .tup [], .int (d % 50)], .tup [.str (q "set"), .tup [.int (d % 50)], .non], .tup [.str (q "set"), .tup [.int (d % 50)], .non]],
      .lst [.tup [.str (q "stand"), .tup [], .int 2], .tup [.str (q "wake"), .tup [.int 0, .int 0], .int 0], .tup [.str (q "wake"), .tup [.int 0, .int 0], .int 1]],
      .lst [.tup [.str (q "first"), .tup [], .int (d % 50)], .tup [.str (q "length"), .tup [], .int 2], .tup [.str (q "put"), .tup [.int (d % 50)], .int 1]],
      .lst [.tup [.str (q "waiting"), .tup [], .int 0], .tup [.str (q "spare"), .tup [], .int 1], .tup [.str (q "seize"), .tup [.int 1], .int 1]],
      .lst [.tup [.str (q "isopen"), .tup [], .int 1], .tup [.str (q "waiting"), .tup [], .int 0], .tup [.str (q "shut"), .tup [], .non]],
      .lst [.tup [.str (q "take"), .tup [], .int 0], .tup [.str (q "take"), .tup [], .int 0], .tup [.str (q "take"), .tup [], .int 0]]] k = some i → i = .lst [.tup [a0, b0, c0], .tup [a1, b1, c1], .tup [a2, b2, c2]]) →
      (∃ i, findD KS [.lst [.tup [.str (q "look"), .tup [], .int (d % 50)], .tup [.str (q "set"), .tup [.int (d % 50)], .non], .tup [.str (q "set"), .tup [.int (d % 50)], .non]],
      .lst [.tup [.str (q "stand"), .tup [], .int 2], .tup [.str (q "wake"), .tup [.int 0, .int 0], .int 0], .tup [.str (q "wake"), .tup [.int 0, .int 0], .int 1]],
      .lst [.tup [.str (q "first"), .tup [], .int (d % 50)], .tup [.str (q "length"), .tup [], .int 2], .tup [.str (q "put"), .tup [.int (d % 50)], .int 1]],
      .lst [.tup [.str (q "waiting"), .tup [], .int 0], .tup [.str (q "spare"), .tup [], .int 1], .tup [.str (q "seize"), .tup [.int 1], .int 1]],
      .lst [.tup [.str (q "isopen"), .tup [], .int 1], .tup [.str (q "waiting"), .tup [], .int 0], .tup [.str (q "shut"), .tup [], .non]],
      .lst [.tup [.str (q "take"), .tup [], .int 0], .tup [.str (q "take"), .tup [], .int 0], .tup [.str (q "take"), .tup [], .int 0]]] k = some i) →
      ∃ x : Tc, ansO (exs (call T G n) G f_law_touch.body (f_law_touch.start ([.str t, .int m, .bl c, .int d, .str k] ++ f_law_touch.dfl))) = some (x.d, []) := by
    intro a0 b0 c0 a1 b1 c1 a2 b2 c2 h ⟨i, hi⟩
    have e := h i hi
    subst e
    cases c with
    | true =>
      refine ⟨⟨t, m, true, [a2, b2, c2]⟩, ?_⟩
      simp -implicitDefEqProofs (disch := omega) only [bindS, mapS, bindN, mapN, ifD_bl, bind_ite', map_ite', ev_c, ev_var, ev_rd, glD_non, glD_bl, glD_int, glD_str, glD_tup, ev_gl, ev_dgT, ev_dix, ev_tix, getT_two, getS_str, ev_tup, ev_lst, ev_bin, ev_dsp, ev_dget, ev_mind, keyD_dcs, negD_int, ev_neg, notD_bl, ev_nt, ev_cmp, ev_chain, ev_an, ev_orr, ev_ife, ev_ix, ev_sl, isNo_nohi, isNo_c, isNo_var, isNo_bin, isNo_neg, isNo_bi, isNo_ix, isNo_call, isNo_me, endD_int, noIo_nil, ev_call, clocD_fn, ev_cloc, noIoL_nil, ev_callb, ev_bi, ev_lc, ev_lcd, ev_lcr, nst_on, rdnD_int, ev_rdn, ev_lenn, revlD_lst, ev_revl, ev_lrg, dic_od, ev_tvals, evs_nil, evs_cons, shd_sh, own_ow, rdv_ow, rdv_od, add_int, sub_int, mod_pos, fdiv_pos, lt_int, le_int, gt_int, ge_int, lt_str, le_str, gt_str, ge_str, is_non_non, is_bl_bl, is_int_non, is_str_non, is_tup_non, is_lst_non, is_bl_non, isnot_bl_bl, isnot_non_non, isnot_int_non, isnot_str_non, isnot_tup_non, isnot_lst_non, isnot_bl_non, cmp_eq, cmp_ne, eq_int, eq_str, eq_bl, eq_non, eq_int_str, eq_str_int, eq_non_str, eq_str_non, eq_non_int, eq_int_non, len_tup, len_lst, len_fls, abs_int, int_int, int_bl, tuple_lst, tuple_tup, list_lst, list_tup, max_int, min_int, list_dcs, isdct_dcs, isint_int, isint_bl, isint_str, isint_tup, isint_lst, isint_non, isbool_int, isbool_bl, isbool_str, isbool_tup, isbool_lst, isbool_non, isstr_int, isstr_bl, isstr_str, isstr_tup, isstr_lst, isstr_non, istuple_int, istuple_bl, istuple_str, istuple_tup, istuple_lst, istuple_non, islist_int, islist_bl, islist_str, islist_tup, islist_lst, islist_non, ix_dcs, in_dcs, ix_tup, ix_lsts, atI_0, atI_1, atI_2, atI_3, atI_4, atI_5, atI_6, atI_7, atI_8, atI_9, atI_10, atI_11, atI_12, ix_fls, ev_me, sl_lst, sl_tup, cmp_isin, cmp_notin, flat_str, flat_int, flat_bl, flat_non, eqF_str, in_tup, seqO_nx, seqO_rt, seqO_bk, seqO_ct, exs_nil, exs_cons, ex_set, setoD_dcs, setoD_lst, ex_seto, ex_unp, augD_int, ex_aug, ex_expr, appD_lst, ex_app, mthD_lst, ex_mth, mthxD_lst, ex_mthx, om_clear, om_pop, om_reverse, setsD_lst, ex_sets, setnD_nil, setnD_one, ex_newd, putdD_str, ex_putd, ex_setn, appnD_lst, ex_appn, appatD_int, ex_appat, ex_popn, ex_popt, apptpD_int, ex_apptp, ex_ret, ex_reto, ex_retn, ex_iff, ex_whl, ex_for, revD_lst, ex_forv, ex_forr, ex_brk, ex_cnt, ex_pass, ex_share, it_tup, it_lst, it_str, it_fls, tg_one, wipe_one, nxO_nx, nxO_ct, nxO_bk, nxO_rt, forD_nil, lcD_nil, lcD_cons, consO_some, consO_none, ansO_nx, ansO_rt, ansO_ite, sizeLine_lit, pow_lit, toNx_nx, toNx_ct, toNx_ite, toA_some, toA_ite, List.getElem?_cons_zero, List.getElem?_cons_succ, List.getElem?_nil, List.set_cons_zero, List.set_cons_succ, List.set_nil, List.length_cons, List.length_nil, List.length_map, List.length_append, List.length_range, List.length_replicate, List.map_cons, List.map_nil, List.cons_append, List.nil_append, List.append_nil, List.replicate_succ, List.replicate_zero, Nat.reduceAdd, Nat.reduceSub, Nat.reduceMul, Nat.reduceLT, Nat.reduceLeDiff, Nat.reduceEqDiff, Nat.reduceMod, Nat.reduceDiv, Nat.reducePow, Int.reduceAdd, Int.reduceSub, Int.reduceMul, Int.reduceNeg, Int.reduceLT, Int.reduceLE, Int.reduceGT, Int.reduceGE, Int.reduceEq, Int.reduceNe, Int.reduceMod, Int.reduceDiv, Int.reducePow, Int.reduceToNat, Nat.add_zero, Nat.zero_add, Nat.sub_zero, Nat.zero_le, Nat.lt_irrefl, ite_true, ite_false, Bool.not_true, Bool.not_false, Bool.true_and, Bool.false_and, Bool.and_true, Bool.and_false, Bool.true_or, Bool.false_or, Bool.or_true, Bool.or_false, Bool.false_eq_true, Bool.true_eq_false, decide_true, decide_false, decide_eq_true_eq, Bool.not_eq_true', Bool.not_eq_false', decide_eq_false_iff_not, decide_not, not_true_eq_false, not_false_eq_true, and_true, true_and, and_false, false_and, or_true, true_or, or_false, false_or, and_self, or_self, if_true, if_false, reduceCtorEq, Fn.start, Int.cast_ofNat_Int, List.all_cons, List.all_nil, List.any_cons, List.any_nil, f_law_touch, dsp6, hi, add33, Tc.d, mode]
    | false =>
      rcases h01 with h0 | h0
      · refine ⟨⟨t, m, false, [a0, b0, c0]⟩, ?_⟩
        simp -implicitDefEqProofs (disch := omega) only [bindS, mapS, bindN, mapN, ifD_bl, bind_ite', map_ite', ev_c, ev_var, ev_rd, glD_non, glD_bl, glD_int, glD_str, glD_tup, ev_gl, ev_dgT, ev_dix, ev_tix, getT_two, getS_str, ev_tup, ev_lst, ev_bin, ev_dsp, ev_dget, ev_mind, keyD_dcs, negD_int, ev_neg, notD_bl, ev_nt, ev_cmp, ev_chain, ev_an, ev_orr, ev_ife, ev_ix, ev_sl, isNo_nohi, isNo_c, isNo_var, isNo_bin, isNo_neg, isNo_bi, isNo_ix, isNo_call, isNo_me, endD_int, noIo_nil, ev_call, clocD_fn, ev_cloc, noIoL_nil, ev_callb, ev_bi, ev_lc, ev_lcd, ev_lcr, nst_on, rdnD_int, ev_rdn, ev_lenn, revlD_lst, ev_revl, ev_lrg, dic_od, ev_tvals, evs_nil, evs_cons, shd_sh, own_ow, rdv_ow, rdv_od, add_int, sub_int, mod_pos, fdiv_pos, lt_int, le_int, gt_int, ge_int, lt_str, le_str, gt_str, ge_str, is_non_non, is_bl_bl, is_int_non, is_str_non, is_tup_non, is_lst_non, is_bl_non, isnot_bl_bl, isnot_non_non, isnot_int_non, isnot_str_non, isnot_tup_non, isnot_lst_non, isnot_bl_non, cmp_eq, cmp_ne, eq_int, eq_str, eq_bl, eq_non, eq_int_str, eq_str_int, eq_non_str, eq_str_non, eq_non_int, eq_int_non, len_tup, len_lst, len_fls, abs_int, int_int, int_bl, tuple_lst, tuple_tup, list_lst, list_tup, max_int, min_int, list_dcs, isdct_dcs, isint_int, isint_bl, isint_str, isint_tup, isint_lst, isint_non, isbool_int, isbool_bl, isbool_str, isbool_tup, isbool_lst, isbool_non, isstr_int, isstr_bl, isstr_str, isstr_tup, isstr_lst, isstr_non, istuple_int, istuple_bl, istuple_str, istuple_tup, istuple_lst, istuple_non, islist_int, islist_bl, islist_str, islist_tup, islist_lst, islist_non, ix_dcs, in_dcs, ix_tup, ix_lsts, atI_0, atI_1, atI_2, atI_3, atI_4, atI_5, atI_6, atI_7, atI_8, atI_9, atI_10, atI_11, atI_12, ix_fls, ev_me, sl_lst, sl_tup, cmp_isin, cmp_notin, flat_str, flat_int, flat_bl, flat_non, eqF_str, in_tup, seqO_nx, seqO_rt, seqO_bk, seqO_ct, exs_nil, exs_cons, ex_set, setoD_dcs, setoD_lst, ex_seto, ex_unp, augD_int, ex_aug, ex_expr, appD_lst, ex_app, mthD_lst, ex_mth, mthxD_lst, ex_mthx, om_clear, om_pop, om_reverse, setsD_lst, ex_sets, setnD_nil, setnD_one, ex_newd, putdD_str, ex_putd, ex_setn, appnD_lst, ex_appn, appatD_int, ex_appat, ex_popn, ex_popt, apptpD_int, ex_apptp, ex_ret, ex_reto, ex_retn, ex_iff, ex_whl, ex_for, revD_lst, ex_forv, ex_forr, ex_brk, ex_cnt, ex_pass, ex_share, it_tup, it_lst, it_str, it_fls, tg_one, wipe_one, nxO_nx, nxO_ct, nxO_bk, nxO_rt, forD_nil, lcD_nil, lcD_cons, consO_some, consO_none, ansO_nx, ansO_rt, ansO_ite, sizeLine_lit, pow_lit, toNx_nx, toNx_ct, toNx_ite, toA_some, toA_ite, List.getElem?_cons_zero, List.getElem?_cons_succ, List.getElem?_nil, List.set_cons_zero, List.set_cons_succ, List.set_nil, List.length_cons, List.length_nil, List.length_map, List.length_append, List.length_range, List.length_replicate, List.map_cons, List.map_nil, List.cons_append, List.nil_append, List.append_nil, List.replicate_succ, List.replicate_zero, Nat.reduceAdd, Nat.reduceSub, Nat.reduceMul, Nat.reduceLT, Nat.reduceLeDiff, Nat.reduceEqDiff, Nat.reduceMod, Nat.reduceDiv, Nat.reducePow, Int.reduceAdd, Int.reduceSub, Int.reduceMul, Int.reduceNeg, Int.reduceLT, Int.reduceLE, Int.reduceGT, Int.reduceGE, Int.reduceEq, Int.reduceNe, Int.reduceMod, Int.reduceDiv, Int.reducePow, Int.reduceToNat, Nat.add_zero, Nat.zero_add, Nat.sub_zero, Nat.zero_le, Nat.lt_irrefl, ite_true, ite_false, Bool.not_true, Bool.not_false, Bool.true_and, Bool.false_and, Bool.and_true, Bool.and_false, Bool.true_or, Bool.false_or, Bool.or_true, Bool.or_false, Bool.false_eq_true, Bool.true_eq_false, decide_true, decide_false, decide_eq_true_eq, Bool.not_eq_true', Bool.not_eq_false', decide_eq_false_iff_not, decide_not, not_true_eq_false, not_false_eq_true, and_true, true_and, and_false, false_and, or_true, true_or, or_false, false_or, and_self, or_self, if_true, if_false, reduceCtorEq, Fn.start, Int.cast_ofNat_Int, List.all_cons, List.all_nil, List.any_cons, List.any_nil, f_law_touch, dsp6, hi, add33, h0, Tc.d, mode]
      · refine ⟨⟨t, m, false, [a1, b1, c1]⟩, ?_⟩
        simp -implicitDefEqProofs (disch := omega) only [bindS, mapS, bindN, mapN, ifD_bl, bind_ite', map_ite', ev_c, ev_var, ev_rd, glD_non, glD_bl, glD_int, glD_str, glD_tup, ev_gl, ev_dgT, ev_dix, ev_tix, getT_two, getS_str, ev_tup, ev_lst, ev_bin, ev_dsp, ev_dget, ev_mind, keyD_dcs, negD_int, ev_neg, notD_bl, ev_nt, ev_cmp, ev_chain, ev_an, ev_orr, ev_ife, ev_ix, ev_sl, isNo_nohi, isNo_c, isNo_var, isNo_bin, isNo_neg, isNo_bi, isNo_ix, isNo_call, isNo_me, endD_int, noIo_nil, ev_call, clocD_fn, ev_cloc, noIoL_nil, ev_callb, ev_bi, ev_lc, ev_lcd, ev_lcr, nst_on, rdnD_int, ev_rdn, ev_lenn, revlD_lst, ev_revl, ev_lrg, dic_od, ev_tvals, evs_nil, evs_cons, shd_sh, own_ow, rdv_ow, rdv_od, add_int, sub_int, mod_pos, fdiv_pos, lt_int, le_int, gt_int, ge_int, lt_str, le_str, gt_str, ge_str, is_non_non, is_bl_bl, is_int_non, is_str_non, is_tup_non, is_lst_non, is_bl_non, isnot_bl_bl, isnot_non_non, isnot_int_non, isnot_str_non, isnot_tup_non, isnot_lst_non, isnot_bl_non, cmp_eq, cmp_ne, eq_int, eq_str, eq_bl, eq_non, eq_int_str, eq_str_int, eq_non_str, eq_str_non, eq_non_int, eq_int_non, len_tup, len_lst, len_fls, abs_int, int_int, int_bl, tuple_lst, tuple_tup, list_lst, list_tup, max_int, min_int, list_dcs, isdct_dcs, isint_int, isint_bl, isint_str, isint_tup, isint_lst, isint_non, isbool_int, isbool_bl, isbool_str, isbool_tup, isbool_lst, isbool_non, isstr_int, isstr_bl, isstr_str, isstr_tup, isstr_lst, isstr_non, istuple_int, istuple_bl, istuple_str, istuple_tup, istuple_lst, istuple_non, islist_int, islist_bl, islist_str, islist_tup, islist_lst, islist_non, ix_dcs, in_dcs, ix_tup, ix_lsts, atI_0, atI_1, atI_2, atI_3, atI_4, atI_5, atI_6, atI_7, atI_8, atI_9, atI_10, atI_11, atI_12, ix_fls, ev_me, sl_lst, sl_tup, cmp_isin, cmp_notin, flat_str, flat_int, flat_bl, flat_non, eqF_str, in_tup, seqO_nx, seqO_rt, seqO_bk, seqO_ct, exs_nil, exs_cons, ex_set, setoD_dcs, setoD_lst, ex_seto, ex_unp, augD_int, ex_aug, ex_expr, appD_lst, ex_app, mthD_lst, ex_mth, mthxD_lst, ex_mthx, om_clear, om_pop, om_reverse, setsD_lst, ex_sets, setnD_nil, setnD_one, ex_newd, putdD_str, ex_putd, ex_setn, appnD_lst, ex_appn, appatD_int, ex_appat, ex_popn, ex_popt, apptpD_int, ex_apptp, ex_ret, ex_reto, ex_retn, ex_iff, ex_whl, ex_for, revD_lst, ex_forv, ex_forr, ex_brk, ex_cnt, ex_pass, ex_share, it_tup, it_lst, it_str, it_fls, tg_one, wipe_one, nxO_nx, nxO_ct, nxO_bk, nxO_rt, forD_nil, lcD_nil, lcD_cons, consO_some, consO_none, ansO_nx, ansO_rt, ansO_ite, sizeLine_lit, pow_lit, toNx_nx, toNx_ct, toNx_ite, toA_some, toA_ite, List.getElem?_cons_zero, List.getElem?_cons_succ, List.getElem?_nil, List.set_cons_zero, List.set_cons_succ, List.set_nil, List.length_cons, List.length_nil, List.length_map, List.length_append, List.length_range, List.length_replicate, List.map_cons, List.map_nil, List.cons_append, List.nil_append, List.append_nil, List.replicate_succ, List.replicate_zero, Nat.reduceAdd, Nat.reduceSub, Nat.reduceMul, Nat.reduceLT, Nat.reduceLeDiff, Nat.reduceEqDiff, Nat.reduceMod, Nat.reduceDiv, Nat.reducePow, Int.reduceAdd, Int.reduceSub, Int.reduceMul, Int.reduceNeg, Int.reduceLT, Int.reduceLE, Int.reduceGT, Int.reduceGE, Int.reduceEq, Int.reduceNe, Int.reduceMod, Int.reduceDiv, Int.reducePow, Int.reduceToNat, Nat.add_zero, Nat.zero_add, Nat.sub_zero, Nat.zero_le, Nat.lt_irrefl, ite_true, ite_false, Bool.not_true, Bool.not_false, Bool.true_and, Bool.false_and, Bool.and_true, Bool.and_false, Bool.true_or, Bool.false_or, Bool.or_true, Bool.or_false, Bool.false_eq_true, Bool.true_eq_false, decide_true, decide_false, decide_eq_true_eq, Bool.not_eq_true', Bool.not_eq_false', decide_eq_false_iff_not, decide_not, not_true_eq_false, not_false_eq_true, and_true, true_and, and_false, false_and, or_true, true_or, or_false, false_or, and_self, or_self, if_true, if_false, reduceCtorEq, Fn.start, Int.cast_ofNat_Int, List.all_cons, List.all_nil, List.any_cons, List.any_nil, f_law_touch, dsp6, hi, add33, h0, Tc.d, mode]
  unfold KS at hk
  simp only [List.mem_cons, List.not_mem_nil, or_false] at hk
  have F := fun v0 v1 v2 v3 v4 v5 => fd v0 v1 v2 v3 v4 v5
  rcases hk with rfl | rfl | rfl | rfl | rfl | rfl
  · exact fin _ _ _ _ _ _ _ _ _ (fun i hi => (Option.some.inj ((F _ _ _ _ _ _).1.symm.trans hi)).symm) ⟨_, (F _ _ _ _ _ _).1⟩
  · exact fin _ _ _ _ _ _ _ _ _ (fun i hi => (Option.some.inj ((F _ _ _ _ _ _).2.1.symm.trans hi)).symm) ⟨_, (F _ _ _ _ _ _).2.1⟩
  · exact fin _ _ _ _ _ _ _ _ _ (fun i hi => (Option.some.inj ((F _ _ _ _ _ _).2.2.1.symm.trans hi)).symm) ⟨_, (F _ _ _ _ _ _).2.2.1⟩
  · exact fin _ _ _ _ _ _ _ _ _ (fun i hi => (Option.some.inj ((F _ _ _ _ _ _).2.2.2.1.symm.trans hi)).symm) ⟨_, (F _ _ _ _ _ _).2.2.2.1⟩
  · exact fin _ _ _ _ _ _ _ _ _ (fun i hi => (Option.some.inj ((F _ _ _ _ _ _).2.2.2.2.1.symm.trans hi)).symm) ⟨_, (F _ _ _ _ _ _).2.2.2.2.1⟩
  · exact fin _ _ _ _ _ _ _ _ _ (fun i hi => (Option.some.inj ((F _ _ _ _ _ _).2.2.2.2.2.symm.trans hi)).symm) ⟨_, (F _ _ _ _ _ _).2.2.2.2.2⟩
/-- things of the law -/
def ThD (x : D) : Prop := ∃ t k, x = .lst [.str t, .str k] ∧ k ∈ KS
def PT (ths : List D) (cs ds : List Int) (m s : Int) (i : Nat) (e : PL.Env) : Prop := ∃ (nums : List Int) (ts : List Tc) (x7 x8 x9 : Sl), e = [.sh (.lst ths), .sh (.lst (cs.map .int)), .sh (.lst (ds.map .int)), .sh (.int m), .sh (.int s), .ow (.lst (nums.map .int)), .ow (.lst (ts.map Tc.d)), x7, x8, x9] ∧ nums.length = cs.length ∧ ts.length = i
theorem ix_thing {ths : List D} (h : ∀ x ∈ ths, ThD x) (j : Int) (h0 : 0 ≤ j) (h1 : j < ths.length) : ∃ t k, ixD (.lst ths) (.int j) = some (.lst [.str t, .str k]) ∧ k ∈ KS := by
  obtain ⟨x, hx, e⟩ := atI_in ths j h0 h1
  obtain ⟨t, k, rfl, hk⟩ := h x hx
  exact ⟨t, k, by rw [ix_lst]; exact e, hk⟩
theorem ts_step (n : Nat) (ths : List D) (hth : ∀ x ∈ ths, ThD x) (h2 : 2 ≤ ths.length) (h16 : ths.length ≤ 16) (cs ds : List Int) (hc : cs.length = 16) (hd : ds.length = 80) (m s : Int) (i : Nat) (hi : i < 40) (e : PL.Env) (h : PT ths cs ds m s i e) :
    toNx (PT ths cs ds m s (i + 1)) ((tgD [7] (.int (i : Int)) e).bind (exs (call T G (n + 1)) G b_law_touches_0)) := by
  obtain ⟨nums, ts, x7, x8, x9, rfl, hn, ht⟩ := h
  have i1 : ixD (.lst (ds.map .int)) (.int (2 * (i : Int))) = some (.int (ds.getD (2 * (i : Int)).toNat 0)) := ix_ints ds _ (by omega) (by omega)
  have i2 : ixD (.lst (ds.map .int)) (.int (2 * (i : Int) + 1)) = some (.int (ds.getD (2 * (i : Int) + 1).toNat 0)) := ix_ints ds _ (by omega) (by omega)
  generalize ds.getD (2 * (i : Int)).toNat 0 = a at i1
  generalize ds.getD (2 * (i : Int) + 1).toNat 0 = b at i2
  have hL : (0 : Int) < ths.length := by omega
  have a0 := Int.emod_nonneg a (show (ths.length : Int) ≠ 0 by omega)
  have a1 := Int.emod_lt_of_pos a hL
  have hm : binD .mod (.int a) (.int (ths.length : Int)) = some (.int (a % (ths.length : Int))) := mod_pos a _ hL
  obtain ⟨at_, hat⟩ := Int.eq_ofNat_of_zero_le a0
  rw [hat] at hm a1
  have hat2 : at_ < nums.length := by omega
  obtain ⟨t, k, e3, hk⟩ := ix_thing hth (at_ : Int) (by omega) a1
  have e4 : ixD (.lst (nums.map .int)) (.int (at_ : Int)) = some (.int (nums.getD at_ 0)) := by
    have := ix_ints nums (at_ : Int) (by omega) (by omega)
    rw [Int.toNat_natCast] at this
    exact this
  have e5 : L2.ixN nums.length (at_ : Int) = some at_ := by
    unfold L2.ixN
    rw [if_pos (by omega), if_pos (by omega), Int.toNat_natCast]
  have e6 : ∀ z : Int, ixD (.lst ((nums.set at_ z).map .int)) (.int (at_ : Int)) = some (.int z) := fun z => by
    have := ix_ints (nums.set at_ z) (at_ : Int) (by omega) (by rw [List.length_set]; omega)
    rw [Int.toNat_natCast, List.getD_eq_getElem?_getD, List.getElem?_set_self (by omega)] at this
    exact this
  have e7 : ∀ z : Int, (nums.map D.int).set at_ (.int z) = (nums.set at_ z).map .int := fun z => by rw [List.map_set]
  obtain ⟨x, ex⟩ := c_touch n t (nums.getD at_ 0 + if decide (b % 4 < s) = true then 1 else 0) (decide (b % 4 < s)) (b / 4) k hk
  have hl : ts.length < 16777216 := by omega
  simp -implicitDefEqProofs (disch := omega) only [bindS, mapS, bindN, mapN, ifD_bl, bind_ite', map_ite', ev_c, ev_var, ev_rd, glD_non, glD_bl, glD_int, glD_str, glD_tup, ev_gl, ev_dgT, ev_dix, ev_tix, getT_two, getS_str, ev_tup, ev_lst, ev_bin, ev_dsp, ev_dget, ev_mind, keyD_dcs, negD_int, ev_neg, notD_bl, ev_nt, ev_cmp, ev_chain, ev_an, ev_orr, ev_ife, ev_ix, ev_sl, isNo_nohi, isNo_c, isNo_var, isNo_bin, isNo_neg, isNo_bi, isNo_ix, isNo_call, isNo_me, endD_int, noIo_nil, ev_call, clocD_fn, ev_cloc, noIoL_nil, ev_callb, ev_bi, ev_lc, ev_lcd, ev_lcr, nst_on, rdnD_int, ev_rdn, ev_lenn, revlD_lst, ev_revl, ev_lrg, dic_od, ev_tvals, evs_nil, evs_cons, shd_sh, own_ow, rdv_ow, rdv_od, add_int, sub_int, mod_pos, fdiv_pos, lt_int, le_int, gt_int, ge_int, lt_str, le_str, gt_str, ge_str, is_non_non, is_bl_bl, is_int_non, is_str_non, is_tup_non, is_lst_non, is_bl_non, isnot_bl_bl, isnot_non_non, isnot_int_non, isnot_str_non, isnot_tup_non, isnot_lst_non, isnot_bl_non, cmp_eq, cmp_ne, eq_int, eq_str, eq_bl, eq_non, eq_int_str, eq_str_int, eq_non_str, eq_str_non, eq_non_int, eq_int_non, len_tup, len_lst, len_fls, abs_int, int_int, int_bl, tuple_lst, tuple_tup, list_lst, list_tup, max_int, min_int, list_dcs, isdct_dcs, isint_int, isint_bl, isint_str, isint_tup, isint_lst, isint_non, isbool_int, isbool_bl, isbool_str, isbool_tup, isbool_lst, isbool_non, isstr_int, isstr_bl, isstr_str, isstr_tup, isstr_lst, isstr_non, istuple_int, istuple_bl, istuple_str, istuple_tup, istuple_lst, istuple_non, islist_int, islist_bl, islist_str, islist_tup, islist_lst, islist_non, ix_dcs, in_dcs, ix_tup, ix_lsts, atI_0, atI_1, atI_2, atI_3, atI_4, atI_5, atI_6, atI_7, atI_8, atI_9, atI_10, atI_11, atI_12, ix_fls, ev_me, sl_lst, sl_tup, cmp_isin, cmp_notin, flat_str, flat_int, flat_bl, flat_non, eqF_str, in_tup, seqO_nx, seqO_rt, seqO_bk, seqO_ct, exs_nil, exs_cons, ex_set, setoD_dcs, setoD_lst, ex_seto, ex_unp, augD_int, ex_aug, ex_expr, appD_lst, ex_app, mthD_lst, ex_mth, mthxD_lst, ex_mthx, om_clear, om_pop, om_reverse, setsD_lst, ex_sets, setnD_nil, setnD_one, ex_newd, putdD_str, ex_putd, ex_setn, appnD_lst, ex_appn, appatD_int, ex_appat, ex_popn, ex_popt, apptpD_int, ex_apptp, ex_ret, ex_reto, ex_retn, ex_iff, ex_whl, ex_for, revD_lst, ex_forv, ex_forr, ex_brk, ex_cnt, ex_pass, ex_share, it_tup, it_lst, it_str, it_fls, tg_one, wipe_one, nxO_nx, nxO_ct, nxO_bk, nxO_rt, forD_nil, lcD_nil, lcD_cons, consO_some, consO_none, ansO_nx, ansO_rt, ansO_ite, sizeLine_lit, pow_lit, toNx_nx, toNx_ct, toNx_ite, toA_some, toA_ite, List.getElem?_cons_zero, List.getElem?_cons_succ, List.getElem?_nil, List.set_cons_zero, List.set_cons_succ, List.set_nil, List.length_cons, List.length_nil, List.length_map, List.length_append, List.length_range, List.length_replicate, List.map_nil, List.cons_append, List.nil_append, List.append_nil, List.replicate_succ, List.replicate_zero, Nat.reduceAdd, Nat.reduceSub, Nat.reduceMul, Nat.reduceLT, Nat.reduceLeDiff, Nat.reduceEqDiff, Nat.reduceMod, Nat.reduceDiv, Nat.reducePow, Int.reduceAdd, Int.reduceSub, Int.reduceMul, Int.reduceNeg, Int.reduceLT, Int.reduceLE, Int.reduceGT, Int.reduceGE, Int.reduceEq, Int.reduceNe, Int.reduceMod, Int.reduceDiv, Int.reducePow, Int.reduceToNat, Nat.add_zero, Nat.zero_add, Nat.sub_zero, Nat.zero_le, Nat.lt_irrefl, ite_true, ite_false, Bool.not_true, Bool.not_false, Bool.true_and, Bool.false_and, Bool.and_true, Bool.and_false, Bool.true_or, Bool.false_or, Bool.or_true, Bool.or_false, Bool.false_eq_true, Bool.true_eq_false, decide_true, decide_false, Bool.not_eq_true', Bool.not_eq_false', decide_eq_false_iff_not, decide_not, not_true_eq_false, not_false_eq_true, and_true, true_and, and_false, false_and, or_true, true_or, or_false, false_or, and_self, or_self, if_true, if_false, reduceCtorEq, Fn.start, Int.cast_ofNat_Int, List.all_cons, List.all_nil, List.any_cons, List.any_nil, b_law_touches_0, i1, i2, hm, e3, e4, e5, e6, e7, ex, mul_l, List.length_map, hl]
  exact ⟨nums.set at_ _, ts ++ [x], _, _, _, by rw [List.map_append]; rfl, by rw [List.length_set]; exact hn, by rw [List.length_append, ht]; rfl⟩
theorem c_touches (n : Nat) (ths : List D) (hth : ∀ x ∈ ths, ThD x) (h2 : 2 ≤ ths.length) (h16 : ths.length ≤ 16) (cs ds : List Int) (hc : cs.length = 16) (hd : ds.length = 80) (m : Nat) (hm : m ≤ 40) (s : Int) :
    ∃ l : List Tc, call T G (n + 2) k_law_touches [.lst ths, .lst (cs.map .int), .lst (ds.map .int), .int (m : Int), .int s] = some (.tup (l.map Tc.d), []) ∧ l.length = m := by
  rw [call_of T_law_touches rfl]
  obtain ⟨s', e, nums, ts, x7, x8, x9, rfl, h3, h4⟩ := for_rng (t := tgD [7]) (b := exs (call T G (n + 1)) G b_law_touches_0) (PT ths cs ds (m : Int) s) m [.sh (.lst ths), .sh (.lst (cs.map .int)), .sh (.lst (ds.map .int)), .sh (.int (m : Int)), .sh (.int s), .ow (.lst (cs.map .int)), .ow (.lst []), .un, .un, .un] ⟨cs, [], _, _, _, rfl, rfl, rfl⟩ fun i s1 hi hs => ts_step n ths hth h2 h16 cs ds hc hd (m : Int) s i (by omega) s1 hs
  simp -implicitDefEqProofs only [bindS, mapS, bindN, mapN, ifD_bl, bind_ite', map_ite', ev_c, ev_var, ev_rd, glD_non, glD_bl, glD_int, glD_str, glD_tup, ev_gl, ev_dgT, ev_dix, ev_tix, getT_two, getS_str, ev_tup, ev_lst, ev_bin, ev_dsp, ev_dget, ev_mind, keyD_dcs, negD_int, ev_neg, notD_bl, ev_nt, ev_cmp, ev_chain, ev_an, ev_orr, ev_ife, ev_ix, ev_sl, isNo_nohi, isNo_c, isNo_var, isNo_bin, isNo_neg, isNo_bi, isNo_ix, isNo_call, isNo_me, endD_int, noIo_nil, ev_call, clocD_fn, ev_cloc, noIoL_nil, ev_callb, ev_bi, ev_lc, ev_lcd, ev_lcr, nst_on, rdnD_int, ev_rdn, ev_lenn, revlD_lst, ev_revl, ev_lrg, dic_od, ev_tvals, evs_nil, evs_cons, shd_sh, own_ow, rdv_ow, rdv_od, add_int, sub_int, mod_pos, fdiv_pos, lt_int, le_int, gt_int, ge_int, lt_str, le_str, gt_str, ge_str, is_non_non, is_bl_bl, is_int_non, is_str_non, is_tup_non, is_lst_non, is_bl_non, isnot_bl_bl, isnot_non_non, isnot_int_non, isnot_str_non, isnot_tup_non, isnot_lst_non, isnot_bl_non, cmp_eq, cmp_ne, eq_int, eq_str, eq_bl, eq_non, eq_int_str, eq_str_int, eq_non_str, eq_str_non, eq_non_int, eq_int_non, len_tup, len_lst, len_fls, abs_int, int_int, int_bl, tuple_lst, tuple_tup, list_lst, list_tup, max_int, min_int, list_dcs, isdct_dcs, isint_int, isint_bl, isint_str, isint_tup, isint_lst, isint_non, isbool_int, isbool_bl, isbool_str, isbool_tup, isbool_lst, isbool_non, isstr_int, isstr_bl, isstr_str, isstr_tup, isstr_lst, isstr_non, istuple_int, istuple_bl, istuple_str, istuple_tup, istuple_lst, istuple_non, islist_int, islist_bl, islist_str, islist_tup, islist_lst, islist_non, ix_dcs, in_dcs, ix_tup, ix_lsts, atI_0, atI_1, atI_2, atI_3, atI_4, atI_5, atI_6, atI_7, atI_8, atI_9, atI_10, atI_11, atI_12, ix_fls, ev_me, sl_lst, sl_tup, cmp_isin, cmp_notin, flat_str, flat_int, flat_bl, flat_non, eqF_str, in_tup, seqO_nx, seqO_rt, seqO_bk, seqO_ct, exs_nil, exs_cons, ex_set, setoD_dcs, setoD_lst, ex_seto, ex_unp, augD_int, ex_aug, ex_expr, appD_lst, ex_app, mthD_lst, ex_mth, mthxD_lst, ex_mthx, om_clear, om_pop, om_reverse, setsD_lst, ex_sets, setnD_nil, setnD_one, ex_newd, putdD_str, ex_putd, ex_setn, appnD_lst, ex_appn, appatD_int, ex_appat, ex_popn, ex_popt, apptpD_int, ex_apptp, ex_ret, ex_reto, ex_retn, ex_iff, ex_whl, ex_for, revD_lst, ex_forv, ex_forr, ex_brk, ex_cnt, ex_pass, ex_share, it_tup, it_lst, it_str, it_fls, tg_one, wipe_one, nxO_nx, nxO_ct, nxO_bk, nxO_rt, forD_nil, lcD_nil, lcD_cons, consO_some, consO_none, ansO_nx, ansO_rt, ansO_ite, sizeLine_lit, pow_lit, toNx_nx, toNx_ct, toNx_ite, toA_some, toA_ite, List.getElem?_cons_zero, List.getElem?_cons_succ, List.getElem?_nil, List.set_cons_zero, List.set_cons_succ, List.set_nil, List.length_cons, List.length_nil, List.length_map, List.length_append, List.length_range, List.length_replicate, List.map_cons, List.map_nil, List.cons_append, List.nil_append, List.append_nil, List.replicate_succ, List.replicate_zero, Nat.reduceAdd, Nat.reduceSub, Nat.reduceMul, Nat.reduceLT, Nat.reduceLeDiff, Nat.reduceEqDiff, Nat.reduceMod, Nat.reduceDiv, Nat.reducePow, Int.reduceAdd, Int.reduceSub, Int.reduceMul, Int.reduceNeg, Int.reduceLT, Int.reduceLE, Int.reduceGT, Int.reduceGE, Int.reduceEq, Int.reduceNe, Int.reduceMod, Int.reduceDiv, Int.reducePow, Int.reduceToNat, Nat.add_zero, Nat.zero_add, Nat.sub_zero, Nat.zero_le, Nat.lt_irrefl, ite_true, ite_false, Bool.not_true, Bool.not_false, Bool.true_and, Bool.false_and, Bool.and_true, Bool.and_false, Bool.true_or, Bool.false_or, Bool.or_true, Bool.or_false, Bool.false_eq_true, Bool.true_eq_false, decide_true, decide_false, decide_eq_true_eq, Bool.not_eq_true', Bool.not_eq_false', decide_eq_false_iff_not, decide_not, not_true_eq_false, not_false_eq_true, and_true, true_and, and_false, false_and, or_true, true_or, or_false, false_or, and_self, or_self, if_true, if_false, reduceCtorEq, Fn.start, Int.cast_ofNat_Int, List.all_cons, List.all_nil, List.any_cons, List.any_nil, f_law_touches, rng_nat m (by omega), e]
  exact ⟨ts, rfl, h4⟩
end LW

namespace LW
open PySem PL TL
theorem pool_len : ∀ s ∈ poolS, (q s).length ≤ 12 := by decide +kernel
theorem cut_take (xs : List D) (t : Nat) : cutL xs none (some (t : Int)) = xs.take t := by
  unfold cutL
  rw [sIx_nat, show HT.sIx xs.length 0 none = 0 from rfl, List.drop_zero, Nat.sub_zero]
  by_cases h : t ≤ xs.length
  · rw [Nat.min_eq_left h]
  · rw [Nat.min_eq_right (by omega), List.take_length, List.take_of_length_le (by omega)]
theorem cut_drop (xs : List D) (t : Nat) (h : t ≤ xs.length) : cutL xs (some (t : Int)) none = xs.drop t := by
  unfold cutL
  rw [sIx_nat, show HT.sIx xs.length xs.length none = xs.length from rfl, Nat.min_eq_left h, List.take_of_length_le]
  rw [List.length_drop]
  exact Nat.le_refl _
theorem nm_ix (L : List String) (hL : L.length = 30) (i : Nat) (h : i < 30) : ixD (.lst (L.map fun s => D.str (q s))) (.int (i : Int)) = some (.str (q (L.getD i ""))) := by
  have hl : i < L.length := by omega
  rw [ix_lst, atI_nat', List.getElem?_map, List.getElem?_eq_getElem hl, List.getD_eq_getElem?_getD, List.getElem?_eq_getElem hl]
  rfl
theorem nm_len (L : List String) (hL : L.length = 30) (hp : ∀ s ∈ L, s ∈ poolS) (i : Nat) (h : i < 30) : (q (L.getD i "")).length ≤ 12 := by
  have hl : i < L.length := by omega
  refine pool_len _ (hp _ ?_)
  rw [List.getD_eq_getElem?_getD, List.getElem?_eq_getElem hl]
  exact List.getElem_mem hl
theorem ks_in : q "value" ∈ KS ∧ q "stand" ∈ KS ∧ q "line" ∈ KS ∧ q "store" ∈ KS ∧ q "gate" ∈ KS ∧ q "wheel" ∈ KS := by
  unfold KS
  simp
theorem len_q : (q ":").length = 1 ∧ (q ".1").length = 2 ∧ (q ".1:").length = 3 ∧ (q ".1.2").length = 4 := by decide +kernel
theorem c_things (n : Nat) (L : List String) (hL : L.length = 30) (hp : ∀ s ∈ L, s ∈ poolS) (a b : Nat) (ha : a < 16) (hb : 2 ≤ b) (hb2 : b ≤ 16) : ∃ ths : List D, call T G (n + 1) k_law_things [.lst (L.map fun s => D.str (q s)), .int (a : Int), .int (b : Int)] = some (.lst ths, []) ∧ (∀ x ∈ ths, ThD x) ∧ ths.length = b := by
  rw [call_of T_law_things rfl]
  have x0 := nm_ix L hL 0 (by decide)
  have x1 := nm_ix L hL 1 (by decide)
  have x2 := nm_ix L hL 2 (by decide)
  have x3 := nm_ix L hL 3 (by decide)
  have x4 := nm_ix L hL 4 (by decide)
  have x5 := nm_ix L hL 5 (by decide)
  have x6 := nm_ix L hL 6 (by decide)
  have x7 := nm_ix L hL 7 (by decide)
  have x8 := nm_ix L hL 8 (by decide)
  have x9 := nm_ix L hL 9 (by decide)
  have x10 := nm_ix L hL 10 (by decide)
  have x11 := nm_ix L hL 11 (by decide)
  have l0 := nm_len L hL hp 0 (by decide)
  have l1 := nm_len L hL hp 1 (by decide)
  have l2 := nm_len L hL hp 2 (by decide)
  have l4 := nm_len L hL hp 4 (by decide)
  have l6 := nm_len L hL hp 6 (by decide)
  rw [Int.cast_ofNat_Int] at x0 x1 x2 x3 x4 x5 x6 x7 x8 x9 x10 x11
  generalize q (L.getD 0 "") = w0 at *
  generalize q (L.getD 1 "") = w1 at *
  generalize q (L.getD 2 "") = w2 at *
  generalize q (L.getD 3 "") = w3 at *
  generalize q (L.getD 4 "") = w4 at *
  generalize q (L.getD 5 "") = w5 at *
  generalize q (L.getD 6 "") = w6 at *
  generalize q (L.getD 7 "") = w7 at *
  generalize q (L.getD 8 "") = w8 at *
  generalize q (L.getD 9 "") = w9 at *
  generalize q (L.getD 10 "") = w10 at *
  generalize q (L.getD 11 "") = w11 at *
  obtain ⟨g1, g2, g3, g4⟩ := len_q
  obtain ⟨k0, k1, k2, k3, k4, k5⟩ := ks_in
  have ad : ∀ x y : Str, x.length + y.length ≤ 16777216 → binD .add (.str x) (.str y) = some (.str (x ++ y)) := fun x y h => add_str x y (by rw [sizeLine_lit]; exact h)
  have e1 := ad w1 (q ":") (by rw [g1]; omega)
  have e2 := ad (w1 ++ q ":") w2 (by rw [len_app, g1]; omega)
  have e3 := ad w1 (q ".1") (by rw [g2]; omega)
  have e4 := ad w1 (q ".1:") (by rw [g3]; omega)
  have e5 := ad (w1 ++ q ".1:") w2 (by rw [len_app, g3]; omega)
  have e6 := ad w4 (q ":") (by rw [g1]; omega)
  have e7 := ad (w4 ++ q ":") w6 (by rw [len_app, g1]; omega)
  have e8 := ad w1 (q ".1.2") (by rw [g4]; omega)
  have e9 := ad (w4 ++ q ":") w2 (by rw [len_app, g1]; omega)
  generalize w1 ++ q ":" ++ w2 = y1 at *
  generalize w1 ++ q ".1" = y2 at *
  generalize w1 ++ q ".1:" ++ w2 = y3 at *
  generalize w4 ++ q ":" ++ w6 = y4 at *
  generalize w1 ++ q ".1.2" = y5 at *
  generalize w4 ++ q ":" ++ w2 = y6 at *
  obtain ⟨XS, hX⟩ : ∃ XS : List D, XS = [.lst [.str w0, .str (q "value")], .lst [.str w1, .str (q "stand")], .lst [.str y1, .str (q "value")], .lst [.str w8, .str (q "line")], .lst [.str y2, .str (q "stand")], .lst [.str w3, .str (q "value")], .lst [.str w9, .str (q "store")], .lst [.str y3, .str (q "value")], .lst [.str w4, .str (q "stand")], .lst [.str w10, .str (q "gate")], .lst [.str w5, .str (q "value")], .lst [.str y4, .str (q "value")], .lst [.str w11, .str (q "wheel")], .lst [.str y5, .str (q "stand")], .lst [.str w7, .str (q "value")], .lst [.str y6, .str (q "value")]] := ⟨_, rfl⟩
  have hXl : XS.length = 16 := by rw [hX]; rfl
  have hXt : ∀ x ∈ XS, ThD x := by
    rw [hX]
    intro x hx
    simp only [List.mem_cons, List.not_mem_nil, or_false] at hx
    rcases hx with rfl | rfl | rfl | rfl | rfl | rfl | rfl | rfl | rfl | rfl | rfl | rfl | rfl | rfl | rfl | rfl <;> exact ⟨_, _, rfl, by assumption⟩
  have c1 : cutL XS (some (a : Int)) none = XS.drop a := cut_drop XS a (by omega)
  have c2 : cutL XS none (some (a : Int)) = XS.take a := cut_take XS a
  have c3 : binD .add (.lst (XS.drop a)) (.lst (XS.take a)) = some (.lst (XS.drop a ++ XS.take a)) := add_lst _ _ (by rw [List.length_drop, List.length_take]; omega)
  have c4 : cutL (XS.drop a ++ XS.take a) none (some (b : Int)) = (XS.drop a ++ XS.take a).take b := cut_take _ b
  refine ⟨(XS.drop a ++ XS.take a).take b, ?_, fun x hx => ?_, ?_⟩
  · have lit : ev (call T G n) G (.lst [(.lst [(.ix (.var 0) (.c (.int 0))), (.c (.str (q "value")))]), (.lst [(.ix (.var 0) (.c (.int 1))), (.c (.str (q "stand")))]), (.lst [(.bin .add (.bin .add (.ix (.var 0) (.c (.int 1))) (.c (.str (q ":")))) (.ix (.var 0) (.c (.int 2)))), (.c (.str (q "value")))]), (.lst [(.ix (.var 0) (.c (.int 8))), (.c (.str (q "line")))]), (.lst [(.bin .add (.ix (.var 0) (.c (.int 1))) (.c (.str (q ".1")))), (.c (.str (q "stand")))]), (.lst [(.ix (.var 0) (.c (.int 3))), (.c (.str (q "value")))]), (.lst [(.ix (.var 0) (.c (.int 9))), (.c (.str (q "store")))]), (.lst [(.bin .add (.bin .add (.ix (.var 0) (.c (.int 1))) (.c (.str (q ".1:")))) (.ix (.var 0) (.c (.int 2)))), (.c (.str (q "value")))]), (.lst [(.ix (.var 0) (.c (.int 4))), (.c (.str (q "stand")))]), (.lst [(.ix (.var 0) (.c (.int 10))), (.c (.str (q "gate")))]), (.lst [(.ix (.var 0) (.c (.int 5))), (.c (.str (q "value")))]), (.lst [(.bin .add (.bin .add (.ix (.var 0) (.c (.int 4))) (.c (.str (q ":")))) (.ix (.var 0) (.c (.int 6)))), (.c (.str (q "value")))]), (.lst [(.ix (.var 0) (.c (.int 11))), (.c (.str (q "wheel")))]), (.lst [(.bin .add (.ix (.var 0) (.c (.int 1))) (.c (.str (q ".1.2")))), (.c (.str (q "stand")))]), (.lst [(.ix (.var 0) (.c (.int 7))), (.c (.str (q "value")))]), (.lst [(.bin .add (.bin .add (.ix (.var 0) (.c (.int 4))) (.c (.str (q ":")))) (.ix (.var 0) (.c (.int 2)))), (.c (.str (q "value")))])])
        [.sh (.lst (L.map fun s => D.str (q s))), .sh (.int (a : Int)), .sh (.int (b : Int)), .un] = some (.lst XS) := by
      rw [hX]
      clear hX c1 c2 c3 c4
      simp -implicitDefEqProofs only [bindS, mapS, bindN, mapN, ifD_bl, bind_ite', map_ite', ev_c, ev_var, ev_rd, glD_non, glD_bl, glD_int, glD_str, glD_tup, ev_gl, ev_dgT, ev_dix, ev_tix, getT_two, getS_str, ev_tup, ev_lst, ev_bin, ev_dsp, ev_dget, ev_mind, keyD_dcs, negD_int, ev_neg, notD_bl, ev_nt, ev_cmp, ev_chain, ev_an, ev_orr, ev_ife, ev_ix, ev_sl, isNo_nohi, isNo_c, isNo_var, isNo_bin, isNo_neg, isNo_bi, isNo_ix, isNo_call, isNo_me, endD_int, noIo_nil, ev_call, clocD_fn, ev_cloc, noIoL_nil, ev_callb, ev_bi, ev_lc, ev_lcd, ev_lcr, nst_on, rdnD_int, ev_rdn, ev_lenn, revlD_lst, ev_revl, ev_lrg, dic_od, ev_tvals, evs_nil, evs_cons, shd_sh, own_ow, rdv_ow, rdv_od, add_int, sub_int, mod_pos, fdiv_pos, lt_int, le_int, gt_int, ge_int, lt_str, le_str, gt_str, ge_str, is_non_non, is_bl_bl, is_int_non, is_str_non, is_tup_non, is_lst_non, is_bl_non, isnot_bl_bl, isnot_non_non, isnot_int_non, isnot_str_non, isnot_tup_non, isnot_lst_non, isnot_bl_non, cmp_eq, cmp_ne, eq_int, eq_str, eq_bl, eq_non, eq_int_str, eq_str_int, eq_non_str, eq_str_non, eq_non_int, eq_int_non, len_tup, len_lst, len_fls, abs_int, int_int, int_bl, tuple_lst, tuple_tup, list_lst, list_tup, max_int, min_int, list_dcs, isdct_dcs, isint_int, isint_bl, isint_str, isint_tup, isint_lst, isint_non, isbool_int, isbool_bl, isbool_str, isbool_tup, isbool_lst, isbool_non, isstr_int, isstr_bl, isstr_str, isstr_tup, isstr_lst, isstr_non, istuple_int, istuple_bl, istuple_str, istuple_tup, istuple_lst, istuple_non, islist_int, islist_bl, islist_str, islist_tup, islist_lst, islist_non, ix_dcs, in_dcs, ix_tup, ix_lsts, atI_0, atI_1, atI_2, atI_3, atI_4, atI_5, atI_6, atI_7, atI_8, atI_9, atI_10, atI_11, atI_12, ix_fls, ev_me, sl_lst, sl_tup, cmp_isin, cmp_notin, flat_str, flat_int, flat_bl, flat_non, eqF_str, in_tup, seqO_nx, seqO_rt, seqO_bk, seqO_ct, exs_nil, exs_cons, ex_set, setoD_dcs, setoD_lst, ex_seto, ex_unp, augD_int, ex_aug, ex_expr, appD_lst, ex_app, mthD_lst, ex_mth, mthxD_lst, ex_mthx, om_clear, om_pop, om_reverse, setsD_lst, ex_sets, setnD_nil, setnD_one, ex_newd, putdD_str, ex_putd, ex_setn, appnD_lst, ex_appn, appatD_int, ex_appat, ex_popn, ex_popt, apptpD_int, ex_apptp, ex_ret, ex_reto, ex_retn, ex_iff, ex_whl, ex_for, revD_lst, ex_forv, ex_forr, ex_brk, ex_cnt, ex_pass, ex_share, it_tup, it_lst, it_str, it_fls, tg_one, wipe_one, nxO_nx, nxO_ct, nxO_bk, nxO_rt, forD_nil, lcD_nil, lcD_cons, consO_some, consO_none, ansO_nx, ansO_rt, ansO_ite, sizeLine_lit, pow_lit, toNx_nx, toNx_ct, toNx_ite, toA_some, toA_ite, List.getElem?_cons_zero, List.getElem?_cons_succ, List.getElem?_nil, List.set_cons_zero, List.set_cons_succ, List.set_nil, List.length_cons, List.length_nil, List.length_map, List.length_append, List.length_range, List.length_replicate, List.map_cons, List.map_nil, List.cons_append, List.nil_append, List.append_nil, List.replicate_succ, List.replicate_zero, Nat.reduceAdd, Nat.reduceSub, Nat.reduceMul, Nat.reduceLT, Nat.reduceLeDiff, Nat.reduceEqDiff, Nat.reduceMod, Nat.reduceDiv, Nat.reducePow, Int.reduceAdd, Int.reduceSub, Int.reduceMul, Int.reduceNeg, Int.reduceLT, Int.reduceLE, Int.reduceGT, Int.reduceGE, Int.reduceEq, Int.reduceNe, Int.reduceMod, Int.reduceDiv, Int.reducePow, Int.reduceToNat, Nat.add_zero, Nat.zero_add, Nat.sub_zero, Nat.zero_le, Nat.lt_irrefl, ite_true, ite_false, Bool.not_true, Bool.not_false, Bool.true_and, Bool.false_and, Bool.and_true, Bool.and_false, Bool.true_or, Bool.false_or, Bool.or_true, Bool.or_false, Bool.false_eq_true, Bool.true_eq_false, decide_true, decide_false, decide_eq_true_eq, Bool.not_eq_true', Bool.not_eq_false', decide_eq_false_iff_not, decide_not, not_true_eq_false, not_false_eq_true, and_true, true_and, and_false, false_and, or_true, true_or, or_false, false_or, and_self, or_self, if_true, if_false, reduceCtorEq, Fn.start, Int.cast_ofNat_Int, List.all_cons, List.all_nil, List.any_cons, List.any_nil, x0, x1, x2, x3, x4, x5, x6, x7, x8, x9, x10, x11, e1, e2, e3, e4, e5, e6, e7, e8, e9]
    simp -implicitDefEqProofs only [bindS, mapS, bindN, mapN, ifD_bl, bind_ite', map_ite', ev_c, ev_var, ev_rd, glD_non, glD_bl, glD_int, glD_str, glD_tup, ev_gl, ev_dgT, ev_dix, ev_tix, getT_two, getS_str, ev_tup, ev_bin, ev_dsp, ev_dget, ev_mind, keyD_dcs, negD_int, ev_neg, notD_bl, ev_nt, ev_cmp, ev_chain, ev_an, ev_orr, ev_ife, ev_ix, ev_sl, isNo_nohi, isNo_c, isNo_var, isNo_bin, isNo_neg, isNo_bi, isNo_ix, isNo_call, isNo_me, endD_int, noIo_nil, ev_call, clocD_fn, ev_cloc, noIoL_nil, ev_callb, ev_bi, ev_lc, ev_lcd, ev_lcr, nst_on, rdnD_int, ev_rdn, ev_lenn, revlD_lst, ev_revl, ev_lrg, dic_od, ev_tvals, evs_nil, evs_cons, shd_sh, own_ow, rdv_ow, rdv_od, add_int, sub_int, mod_pos, fdiv_pos, lt_int, le_int, gt_int, ge_int, lt_str, le_str, gt_str, ge_str, is_non_non, is_bl_bl, is_int_non, is_str_non, is_tup_non, is_lst_non, is_bl_non, isnot_bl_bl, isnot_non_non, isnot_int_non, isnot_str_non, isnot_tup_non, isnot_lst_non, isnot_bl_non, cmp_eq, cmp_ne, eq_int, eq_str, eq_bl, eq_non, eq_int_str, eq_str_int, eq_non_str, eq_str_non, eq_non_int, eq_int_non, len_tup, len_lst, len_fls, abs_int, int_int, int_bl, tuple_lst, tuple_tup, list_lst, list_tup, max_int, min_int, list_dcs, isdct_dcs, isint_int, isint_bl, isint_str, isint_tup, isint_lst, isint_non, isbool_int, isbool_bl, isbool_str, isbool_tup, isbool_lst, isbool_non, isstr_int, isstr_bl, isstr_str, isstr_tup, isstr_lst, isstr_non, istuple_int, istuple_bl, istuple_str, istuple_tup, istuple_lst, istuple_non, islist_int, islist_bl, islist_str, islist_tup, islist_lst, islist_non, ix_dcs, in_dcs, ix_tup, ix_lsts, atI_0, atI_1, atI_2, atI_3, atI_4, atI_5, atI_6, atI_7, atI_8, atI_9, atI_10, atI_11, atI_12, ix_fls, ev_me, sl_lst, sl_tup, cmp_isin, cmp_notin, flat_str, flat_int, flat_bl, flat_non, eqF_str, in_tup, seqO_nx, seqO_rt, seqO_bk, seqO_ct, exs_nil, exs_cons, ex_set, setoD_dcs, setoD_lst, ex_seto, ex_unp, augD_int, ex_aug, ex_expr, appD_lst, ex_app, mthD_lst, ex_mth, mthxD_lst, ex_mthx, om_clear, om_pop, om_reverse, setsD_lst, ex_sets, setnD_nil, setnD_one, ex_newd, putdD_str, ex_putd, ex_setn, appnD_lst, ex_appn, appatD_int, ex_appat, ex_popn, ex_popt, apptpD_int, ex_apptp, ex_ret, ex_reto, ex_retn, ex_iff, ex_whl, ex_for, revD_lst, ex_forv, ex_forr, ex_brk, ex_cnt, ex_pass, ex_share, it_tup, it_lst, it_str, it_fls, tg_one, wipe_one, nxO_nx, nxO_ct, nxO_bk, nxO_rt, forD_nil, lcD_nil, lcD_cons, consO_some, consO_none, ansO_nx, ansO_rt, ansO_ite, sizeLine_lit, pow_lit, toNx_nx, toNx_ct, toNx_ite, toA_some, toA_ite, List.getElem?_cons_zero, List.getElem?_cons_succ, List.getElem?_nil, List.set_cons_zero, List.set_cons_succ, List.set_nil, List.length_cons, List.length_nil, List.length_map, List.length_append, List.length_range, List.length_replicate, List.map_cons, List.map_nil, List.cons_append, List.nil_append, List.append_nil, List.replicate_succ, List.replicate_zero, Nat.reduceAdd, Nat.reduceSub, Nat.reduceMul, Nat.reduceLT, Nat.reduceLeDiff, Nat.reduceEqDiff, Nat.reduceMod, Nat.reduceDiv, Nat.reducePow, Int.reduceAdd, Int.reduceSub, Int.reduceMul, Int.reduceNeg, Int.reduceLT, Int.reduceLE, Int.reduceGT, Int.reduceGE, Int.reduceEq, Int.reduceNe, Int.reduceMod, Int.reduceDiv, Int.reducePow, Int.reduceToNat, Nat.add_zero, Nat.zero_add, Nat.sub_zero, Nat.zero_le, Nat.lt_irrefl, ite_true, ite_false, Bool.not_true, Bool.not_false, Bool.true_and, Bool.false_and, Bool.and_true, Bool.and_false, Bool.true_or, Bool.false_or, Bool.or_true, Bool.or_false, Bool.false_eq_true, Bool.true_eq_false, decide_true, decide_false, decide_eq_true_eq, Bool.not_eq_true', Bool.not_eq_false', decide_eq_false_iff_not, decide_not, not_true_eq_false, not_false_eq_true, and_true, true_and, and_false, false_and, or_true, true_or, or_false, false_or, and_self, or_self, if_true, if_false, reduceCtorEq, Fn.start, Int.cast_ofNat_Int, List.all_cons, List.all_nil, List.any_cons, List.any_nil, f_law_things, lit, c1, c2, c3, c4]
  · have := List.mem_of_mem_take hx
    rcases List.mem_append.mp this with h | h
    · exact hXt x (List.mem_of_mem_drop h)
    · exact hXt x (List.mem_of_mem_take h)
  · rw [List.length_take, List.length_append, List.length_drop, List.length_take]
    omega
theorem tc_take (l : List Tc) (t : Nat) : cutL (l.map Tc.d) none (some (t : Int)) = (l.take t).map Tc.d := by rw [cut_take, List.map_take]
theorem tc_drop (l : List Tc) (t : Nat) (h : t ≤ l.length) : cutL (l.map Tc.d) (some (t : Int)) none = (l.drop t).map Tc.d := by rw [cut_drop _ _ (by rw [List.length_map]; exact h), List.map_drop]
def pr (x y : List Tc) : D := .tup [.tup (x.map Tc.d), .tup (y.map Tc.d)]
theorem pairs_loop (F : Fc) (hF : ∀ l1 l2 : List Tc, l1.length < 100 → l2.length < 100 → F k_law_right [.tup (l1.map Tc.d), .tup (l2.map Tc.d)] = some (.bl true, [])) (s0 s1 s2 s3 s4 s5 s6 s7 s8 s9 s10 s13 : Sl) : ∀ (ps : List (List Tc × List Tc)) (s11 s12 : Sl), (∀ p ∈ ps, p.1.length < 100 ∧ p.2.length < 100) →
    ∃ t11 t12, forD (tgD [11, 12]) (exs F G b_law_0) (ps.map fun p => pr p.1 p.2) [s0, s1, s2, s3, s4, s5, s6, s7, s8, s9, s10, s11, s12, s13] = some (.nx [s0, s1, s2, s3, s4, s5, s6, s7, s8, s9, s10, t11, t12, s13])
  | [], s11, s12, _ => ⟨s11, s12, rfl⟩
  | (x, y) :: ps, s11, s12, h => by
    obtain ⟨h1, h2⟩ := h (x, y) List.mem_cons_self
    obtain ⟨t11, t12, e⟩ := pairs_loop F hF s0 s1 s2 s3 s4 s5 s6 s7 s8 s9 s10 s13 ps (.sh (.tup (x.map Tc.d))) (.sh (.tup (y.map Tc.d))) fun p hp => h p (List.mem_cons_of_mem _ hp)
    refine ⟨t11, t12, ?_⟩
    have r := hF x y h1 h2
    have tg : tgD [11, 12] (pr x y) [s0, s1, s2, s3, s4, s5, s6, s7, s8, s9, s10, s11, s12, s13] = some [s0, s1, s2, s3, s4, s5, s6, s7, s8, s9, s10, .sh (.tup (x.map Tc.d)), .sh (.tup (y.map Tc.d)), s13] := rfl
    have st : exs F G b_law_0 [s0, s1, s2, s3, s4, s5, s6, s7, s8, s9, s10, .sh (.tup (x.map Tc.d)), .sh (.tup (y.map Tc.d)), s13] = some (.nx [s0, s1, s2, s3, s4, s5, s6, s7, s8, s9, s10, .sh (.tup (x.map Tc.d)), .sh (.tup (y.map Tc.d)), s13]) := by
      simp -implicitDefEqProofs only [bindS, mapS, bindN, mapN, ifD_bl, bind_ite', map_ite', ev_c, ev_var, ev_rd, glD_non, glD_bl, glD_int, glD_str, glD_tup, ev_gl, ev_dgT, ev_dix, ev_tix, getT_two, getS_str, ev_tup, ev_lst, ev_bin, ev_dsp, ev_dget, ev_mind, keyD_dcs, negD_int, ev_neg, notD_bl, ev_nt, ev_cmp, ev_chain, ev_an, ev_orr, ev_ife, ev_ix, ev_sl, isNo_nohi, isNo_c, isNo_var, isNo_bin, isNo_neg, isNo_bi, isNo_ix, isNo_call, isNo_me, endD_int, noIo_nil, ev_call, clocD_fn, ev_cloc, noIoL_nil, ev_callb, ev_bi, ev_lc, ev_lcd, ev_lcr, nst_on, rdnD_int, ev_rdn, ev_lenn, revlD_lst, ev_revl, ev_lrg, dic_od, ev_tvals, evs_nil, evs_cons, shd_sh, own_ow, rdv_ow, rdv_od, add_int, sub_int, mod_pos, fdiv_pos, lt_int, le_int, gt_int, ge_int, lt_str, le_str, gt_str, ge_str, is_non_non, is_bl_bl, is_int_non, is_str_non, is_tup_non, is_lst_non, is_bl_non, isnot_bl_bl, isnot_non_non, isnot_int_non, isnot_str_non, isnot_tup_non, isnot_lst_non, isnot_bl_non, cmp_eq, cmp_ne, eq_int, eq_str, eq_bl, eq_non, eq_int_str, eq_str_int, eq_non_str, eq_str_non, eq_non_int, eq_int_non, len_tup, len_lst, len_fls, abs_int, int_int, int_bl, tuple_lst, tuple_tup, list_lst, list_tup, max_int, min_int, list_dcs, isdct_dcs, isint_int, isint_bl, isint_str, isint_tup, isint_lst, isint_non, isbool_int, isbool_bl, isbool_str, isbool_tup, isbool_lst, isbool_non, isstr_int, isstr_bl, isstr_str, isstr_tup, isstr_lst, isstr_non, istuple_int, istuple_bl, istuple_str, istuple_tup, istuple_lst, istuple_non, islist_int, islist_bl, islist_str, islist_tup, islist_lst, islist_non, ix_dcs, in_dcs, ix_tup, ix_lsts, atI_0, atI_1, atI_2, atI_3, atI_4, atI_5, atI_6, atI_7, atI_8, atI_9, atI_10, atI_11, atI_12, ix_fls, ev_me, sl_lst, sl_tup, cmp_isin, cmp_notin, flat_str, flat_int, flat_bl, flat_non, eqF_str, in_tup, seqO_nx, seqO_rt, seqO_bk, seqO_ct, exs_nil, exs_cons, ex_set, setoD_dcs, setoD_lst, ex_seto, ex_unp, augD_int, ex_aug, ex_expr, appD_lst, ex_app, mthD_lst, ex_mth, mthxD_lst, ex_mthx, om_clear, om_pop, om_reverse, setsD_lst, ex_sets, setnD_nil, setnD_one, ex_newd, putdD_str, ex_putd, ex_setn, appnD_lst, ex_appn, appatD_int, ex_appat, ex_popn, ex_popt, apptpD_int, ex_apptp, ex_ret, ex_reto, ex_retn, ex_iff, ex_whl, ex_for, revD_lst, ex_forv, ex_forr, ex_brk, ex_cnt, ex_pass, ex_share, it_tup, it_lst, it_str, it_fls, tg_one, wipe_one, nxO_nx, nxO_ct, nxO_bk, nxO_rt, forD_nil, lcD_nil, lcD_cons, consO_some, consO_none, ansO_nx, ansO_rt, ansO_ite, sizeLine_lit, pow_lit, toNx_nx, toNx_ct, toNx_ite, toA_some, toA_ite, List.getElem?_cons_zero, List.getElem?_cons_succ, List.getElem?_nil, List.set_cons_zero, List.set_cons_succ, List.set_nil, List.length_cons, List.length_nil, List.length_map, List.length_append, List.length_range, List.length_replicate, List.map_cons, List.map_nil, List.cons_append, List.nil_append, List.append_nil, List.replicate_succ, List.replicate_zero, Nat.reduceAdd, Nat.reduceSub, Nat.reduceMul, Nat.reduceLT, Nat.reduceLeDiff, Nat.reduceEqDiff, Nat.reduceMod, Nat.reduceDiv, Nat.reducePow, Int.reduceAdd, Int.reduceSub, Int.reduceMul, Int.reduceNeg, Int.reduceLT, Int.reduceLE, Int.reduceGT, Int.reduceGE, Int.reduceEq, Int.reduceNe, Int.reduceMod, Int.reduceDiv, Int.reducePow, Int.reduceToNat, Nat.add_zero, Nat.zero_add, Nat.sub_zero, Nat.zero_le, Nat.lt_irrefl, ite_true, ite_false, Bool.not_true, Bool.not_false, Bool.true_and, Bool.false_and, Bool.and_true, Bool.and_false, Bool.true_or, Bool.false_or, Bool.or_true, Bool.or_false, Bool.false_eq_true, Bool.true_eq_false, decide_true, decide_false, decide_eq_true_eq, Bool.not_eq_true', Bool.not_eq_false', decide_eq_false_iff_not, decide_not, not_true_eq_false, not_false_eq_true, and_true, true_and, and_false, false_and, or_true, true_or, or_false, false_or, and_self, or_self, if_true, if_false, reduceCtorEq, Fn.start, Int.cast_ofNat_Int, List.all_cons, List.all_nil, List.any_cons, List.any_nil, b_law_0, r]
    rw [List.map_cons, forD_cons, tg, bindS, st, bindS, nxO_nx, e]
theorem many_ok (d : Int) (h : 0 ≤ d) : ∃ m : Nat, d % 9 + 32 * (if decide (d / 9 % 4 = 1) = true then 1 else 0) = (m : Int) ∧ m ≤ 40 := by
  by_cases c : d / 9 % 4 = 1
  · rw [if_pos (decide_eq_true c)]
    exact ⟨(d % 9 + 32 * 1).toNat, by omega, by omega⟩
  · rw [if_neg fun z => c (of_decide_eq_true z)]
    exact ⟨(d % 9 + 32 * 0).toNat, by omega, by omega⟩
theorem share_ok (d : Int) : ∃ s : Int, L2.atI [D.int 0, .int 1, .int 2, .int 4] (d % 4) = some (.int s) := by
  obtain ⟨y, hy, e⟩ := atI_in [D.int 0, .int 1, .int 2, .int 4] (d % 4) (by omega) (by show d % 4 < 4; omega)
  simp only [List.mem_cons, List.not_mem_nil, or_false] at hy
  rcases hy with rfl | rfl | rfl | rfl <;> exact ⟨_, e⟩
theorem counts_ok (F : Fc) (dr : List Int) (hd : dr.length = 22) (s0 s2 s3 s4 s5 s6 s7 s8 s9 s10 s11 s12 s13 : Sl) : ∃ cs : List Int, lcD (lcT F G [13] (.c (.bl true)) (.bin .mod (.bi .int_ [(.ix (.var 1) (.bin .add (.c (.int 6)) (.var 13)))]) (.c (.int 3))) [s0, .sh (.lst (dr.map .int)), s2, s3, s4, s5, s6, s7, s8, s9, s10, s11, s12, s13]) ((List.range 16).map fun (k : Nat) => D.int (k : Int)) = some (cs.map .int) ∧ cs.length = 16 := by
  refine ⟨(List.range 16).map fun (k : Nat) => dr.getD (6 + (k : Int)).toNat 0 % 3, ?_, by rw [List.length_map, List.length_range]⟩
  rw [List.map_map]
  have := lcD_map (f := lcT F G [13] (.c (.bl true)) (.bin .mod (.bi .int_ [(.ix (.var 1) (.bin .add (.c (.int 6)) (.var 13)))]) (.c (.int 3))) [s0, .sh (.lst (dr.map .int)), s2, s3, s4, s5, s6, s7, s8, s9, s10, s11, s12, s13]) (fun (k : Nat) => D.int (k : Int)) (fun (k : Nat) => D.int (dr.getD (6 + (k : Int)).toNat 0 % 3)) (List.range 16) fun k hk => by
    have hk := List.mem_range.mp hk
    have e := ix_ints dr (6 + (k : Int)) (by omega) (by omega)
    unfold lcT
    simp -implicitDefEqProofs (disch := omega) only [bindS, mapS, bindN, mapN, ifD_bl, bind_ite', map_ite', ev_c, ev_var, ev_rd, glD_non, glD_bl, glD_int, glD_str, glD_tup, ev_gl, ev_dgT, ev_dix, ev_tix, getT_two, getS_str, ev_tup, ev_lst, ev_bin, ev_dsp, ev_dget, ev_mind, keyD_dcs, negD_int, ev_neg, notD_bl, ev_nt, ev_cmp, ev_chain, ev_an, ev_orr, ev_ife, ev_ix, ev_sl, isNo_nohi, isNo_c, isNo_var, isNo_bin, isNo_neg, isNo_bi, isNo_ix, isNo_call, isNo_me, endD_int, noIo_nil, ev_call, clocD_fn, ev_cloc, noIoL_nil, ev_callb, ev_bi, ev_lc, ev_lcd, ev_lcr, nst_on, rdnD_int, ev_rdn, ev_lenn, revlD_lst, ev_revl, ev_lrg, dic_od, ev_tvals, evs_nil, evs_cons, shd_sh, own_ow, rdv_ow, rdv_od, add_int, sub_int, mod_pos, fdiv_pos, lt_int, le_int, gt_int, ge_int, lt_str, le_str, gt_str, ge_str, is_non_non, is_bl_bl, is_int_non, is_str_non, is_tup_non, is_lst_non, is_bl_non, isnot_bl_bl, isnot_non_non, isnot_int_non, isnot_str_non, isnot_tup_non, isnot_lst_non, isnot_bl_non, cmp_eq, cmp_ne, eq_int, eq_str, eq_bl, eq_non, eq_int_str, eq_str_int, eq_non_str, eq_str_non, eq_non_int, eq_int_non, len_tup, len_lst, len_fls, abs_int, int_int, int_bl, tuple_lst, tuple_tup, list_lst, list_tup, max_int, min_int, list_dcs, isdct_dcs, isint_int, isint_bl, isint_str, isint_tup, isint_lst, isint_non, isbool_int, isbool_bl, isbool_str, isbool_tup, isbool_lst, isbool_non, isstr_int, isstr_bl, isstr_str, isstr_tup, isstr_lst, isstr_non, istuple_int, istuple_bl, istuple_str, istuple_tup, istuple_lst, istuple_non, islist_int, islist_bl, islist_str, islist_tup, islist_lst, islist_non, ix_dcs, in_dcs, ix_tup, ix_lsts, atI_0, atI_1, atI_2, atI_3, atI_4, atI_5, atI_6, atI_7, atI_8, atI_9, atI_10, atI_11, atI_12, ix_fls, ev_me, sl_lst, sl_tup, cmp_isin, cmp_notin, flat_str, flat_int, flat_bl, flat_non, eqF_str, in_tup, seqO_nx, seqO_rt, seqO_bk, seqO_ct, exs_nil, exs_cons, ex_set, setoD_dcs, setoD_lst, ex_seto, ex_unp, augD_int, ex_aug, ex_expr, appD_lst, ex_app, mthD_lst, ex_mth, mthxD_lst, ex_mthx, om_clear, om_pop, om_reverse, setsD_lst, ex_sets, setnD_nil, setnD_one, ex_newd, putdD_str, ex_putd, ex_setn, appnD_lst, ex_appn, appatD_int, ex_appat, ex_popn, ex_popt, apptpD_int, ex_apptp, ex_ret, ex_reto, ex_retn, ex_iff, ex_whl, ex_for, revD_lst, ex_forv, ex_forr, ex_brk, ex_cnt, ex_pass, ex_share, it_tup, it_lst, it_str, it_fls, tg_one, wipe_one, nxO_nx, nxO_ct, nxO_bk, nxO_rt, forD_nil, lcD_nil, lcD_cons, consO_some, consO_none, ansO_nx, ansO_rt, ansO_ite, sizeLine_lit, pow_lit, toNx_nx, toNx_ct, toNx_ite, toA_some, toA_ite, List.getElem?_cons_zero, List.getElem?_cons_succ, List.getElem?_nil, List.set_cons_zero, List.set_cons_succ, List.set_nil, List.length_cons, List.length_nil, List.length_map, List.length_append, List.length_range, List.length_replicate, List.map_cons, List.map_nil, List.cons_append, List.nil_append, List.append_nil, List.replicate_succ, List.replicate_zero, Nat.reduceAdd, Nat.reduceSub, Nat.reduceMul, Nat.reduceLT, Nat.reduceLeDiff, Nat.reduceEqDiff, Nat.reduceMod, Nat.reduceDiv, Nat.reducePow, Int.reduceAdd, Int.reduceSub, Int.reduceMul, Int.reduceNeg, Int.reduceLT, Int.reduceLE, Int.reduceGT, Int.reduceGE, Int.reduceEq, Int.reduceNe, Int.reduceMod, Int.reduceDiv, Int.reducePow, Int.reduceToNat, Nat.add_zero, Nat.zero_add, Nat.sub_zero, Nat.zero_le, Nat.lt_irrefl, ite_true, ite_false, Bool.not_true, Bool.not_false, Bool.true_and, Bool.false_and, Bool.and_true, Bool.and_false, Bool.true_or, Bool.false_or, Bool.or_true, Bool.or_false, Bool.false_eq_true, Bool.true_eq_false, decide_true, decide_false, decide_eq_true_eq, Bool.not_eq_true', Bool.not_eq_false', decide_eq_false_iff_not, decide_not, not_true_eq_false, not_false_eq_true, and_true, true_and, and_false, false_and, or_true, true_or, or_false, false_or, and_self, or_self, if_true, if_false, reduceCtorEq, Fn.start, Int.cast_ofNat_Int, List.all_cons, List.all_nil, List.any_cons, List.any_nil, e]
  exact this
theorem main (ns : List Int) (_ : ns.length ≤ 63) : call T G 60 11 [.fls (ns.map .int)] = some (.bl true, []) := by
  obtain ⟨dr, e1, l1, h1⟩ := c_draws 58 (ns.getD 0 0) 22 (by decide)
  obtain ⟨da, e2, l2, h2⟩ := c_draws 58 (ns.getD 1 0) 80 (by decide)
  obtain ⟨db, e3, l3, h3⟩ := c_draws 58 (ns.getD 2 0) 80 (by decide)
  have k0 := c_cell 58 ns 0
  have k1 := c_cell 58 ns 1
  have k2 := c_cell 58 ns 2
  rw [Int.cast_ofNat_Int] at e1 e2 e3 k0 k1 k2
  have d0 : ixD (.lst (dr.map .int)) (.int 0) = some (.int (dr.getD 0 0)) := ix_ints dr 0 (by decide) (by rw [l1]; decide)
  have d1 : ixD (.lst (dr.map .int)) (.int 1) = some (.int (dr.getD 1 0)) := ix_ints dr 1 (by decide) (by rw [l1]; decide)
  have d2 : ixD (.lst (dr.map .int)) (.int 2) = some (.int (dr.getD 2 0)) := ix_ints dr 2 (by decide) (by rw [l1]; decide)
  have d3 : ixD (.lst (dr.map .int)) (.int 3) = some (.int (dr.getD 3 0)) := ix_ints dr 3 (by decide) (by rw [l1]; decide)
  have d4 : ixD (.lst (dr.map .int)) (.int 4) = some (.int (dr.getD 4 0)) := ix_ints dr 4 (by decide) (by rw [l1]; decide)
  have d5 : ixD (.lst (dr.map .int)) (.int 5) = some (.int (dr.getD 5 0)) := ix_ints dr 5 (by decide) (by rw [l1]; decide)
  have p2 := nth_in h1 2
  have p3 := nth_in h1 3
  have p4 := nth_in h1 4
  have p5 := nth_in h1 5
  obtain ⟨L, e4, l4, h4⟩ := c_names 58 (dr.getD 0 0) (dr.getD 1 0)
  have cok := fun z => counts_ok (PL.call T G 59) dr l1 (.sh (.fls (ns.map .int))) (.sh (.lst (L.map fun s => D.str (q s)))) z .un .un .un .un .un .un .un .un .un .un
  generalize dr.getD 0 0 = x0 at *
  generalize dr.getD 1 0 = x1 at *
  generalize dr.getD 2 0 = x2 at *
  generalize dr.getD 3 0 = x3 at *
  generalize dr.getD 4 0 = x4 at *
  generalize dr.getD 5 0 = x5 at *
  obtain ⟨a, ha⟩ := Int.eq_ofNat_of_zero_le (show 0 ≤ x2 % 16 by omega)
  obtain ⟨b, hb⟩ := Int.eq_ofNat_of_zero_le (show 0 ≤ 2 + x3 % 15 by omega)
  obtain ⟨ths, e5, t1, t2⟩ := c_things 58 L l4 h4 a b (by omega) (by omega) (by omega)
  obtain ⟨cs, e6, l6⟩ := cok (.sh (.lst ths))
  obtain ⟨m1, hm1, q1⟩ := many_ok x4 p4.1
  obtain ⟨m2, hm2, q2⟩ := many_ok x5 p5.1
  obtain ⟨s1, hs1⟩ := share_ok (x4 / 36)
  obtain ⟨s2, hs2⟩ := share_ok (x5 / 36)
  obtain ⟨la, e7, lla⟩ := c_touches 57 ths t1 (by omega) (by omega) cs da l6 l2 m1 q1 s1
  obtain ⟨lb, e8, llb⟩ := c_touches 57 ths t1 (by omega) (by omega) cs db l6 l3 m2 q2 s2
  have r16 : rngD [.int 16] = some ((List.range 16).map fun (k : Nat) => D.int (k : Int)) := rng_nat 16 (by decide)
  have lc16 : cs.length ≤ 16777216 := by omega
  have hh : (la.length : Int) / 2 = ((la.length / 2 : Nat) : Int) := by omega
  have s7 := tc_take la (la.length / 2)
  have s8 := tc_drop la (la.length / 2) (by omega)
  obtain ⟨t11, t12, e9⟩ := pairs_loop (PL.call T G 59) (fun l1 l2 z1 z2 => c_right 56 l1 l2 z1 z2) (.sh (.fls (ns.map .int))) (.sh (.lst (dr.map .int))) (.sh (.lst (L.map fun s => D.str (q s)))) (.sh (.lst ths)) (.sh (.lst (cs.map .int))) (.sh (.int (m2 : Int))) (.sh (.int s2)) (.sh (.tup (la.map Tc.d))) (.sh (.tup (lb.map Tc.d))) (.sh (.int ((la.length / 2 : Nat) : Int)))
    (.sh (.lst [pr la lb, pr lb la, pr la la, pr lb lb, pr la [], pr [] lb, pr [] [], pr (la.take (la.length / 2)) lb, pr lb (la.drop (la.length / 2)), pr (la.drop (la.length / 2)) (la.take (la.length / 2)), pr la lb, pr lb la])) .un
    [(la, lb), (lb, la), (la, la), (lb, lb), (la, []), ([], lb), ([], []), (la.take (la.length / 2), lb), (lb, la.drop (la.length / 2)), (la.drop (la.length / 2), la.take (la.length / 2)), (la, lb), (lb, la)] .un .un (by
      intro p hp
      have u1 : (la.take (la.length / 2)).length ≤ la.length := by rw [List.length_take]; omega
      have u2 : (la.drop (la.length / 2)).length ≤ la.length := by rw [List.length_drop]; omega
      simp only [List.mem_cons, List.not_mem_nil, or_false] at hp
      rcases hp with rfl | rfl | rfl | rfl | rfl | rfl | rfl | rfl | rfl | rfl | rfl | rfl <;> simp only [List.length_nil] <;> omega)
  simp only [List.map_cons, List.map_nil] at e9
  unfold pr at e9
  rw [List.map_nil] at e9
  rw [call_of T_law rfl]
  generalize hA : (la.take (la.length / 2)).map Tc.d = A at *
  generalize hB : (la.drop (la.length / 2)).map Tc.d = B at *
  generalize hC : la.map Tc.d = C at *
  have hcl : C.length = la.length := by rw [← hC, List.length_map]
  generalize hD : lb.map Tc.d = DD at *
  simp -implicitDefEqProofs (disch := omega) only [bindS, mapS, bindN, mapN, ifD_bl, bind_ite', map_ite', ev_c, ev_var, ev_rd, glD_non, glD_bl, glD_int, glD_str, glD_tup, ev_gl, ev_dgT, ev_dix, ev_tix, getT_two, getS_str, ev_tup, ev_lst, ev_bin, ev_dsp, ev_dget, ev_mind, keyD_dcs, negD_int, ev_neg, notD_bl, ev_nt, ev_cmp, ev_chain, ev_an, ev_orr, ev_ife, ev_ix, ev_sl, isNo_nohi, isNo_c, isNo_var, isNo_bin, isNo_neg, isNo_bi, isNo_ix, isNo_call, isNo_me, endD_int, noIo_nil, ev_call, clocD_fn, ev_cloc, noIoL_nil, ev_callb, ev_bi, ev_lc, ev_lcd, ev_lcr, nst_on, rdnD_int, ev_rdn, ev_lenn, revlD_lst, ev_revl, ev_lrg, dic_od, ev_tvals, evs_nil, evs_cons, shd_sh, own_ow, rdv_ow, rdv_od, add_int, sub_int, mod_pos, fdiv_pos, lt_int, le_int, gt_int, ge_int, lt_str, le_str, gt_str, ge_str, is_non_non, is_bl_bl, is_int_non, is_str_non, is_tup_non, is_lst_non, is_bl_non, isnot_bl_bl, isnot_non_non, isnot_int_non, isnot_str_non, isnot_tup_non, isnot_lst_non, isnot_bl_non, cmp_eq, cmp_ne, eq_int, eq_str, eq_bl, eq_non, eq_int_str, eq_str_int, eq_non_str, eq_str_non, eq_non_int, eq_int_non, len_tup, len_lst, len_fls, abs_int, int_int, int_bl, tuple_lst, tuple_tup, list_lst, list_tup, max_int, min_int, list_dcs, isdct_dcs, isint_int, isint_bl, isint_str, isint_tup, isint_lst, isint_non, isbool_int, isbool_bl, isbool_str, isbool_tup, isbool_lst, isbool_non, isstr_int, isstr_bl, isstr_str, isstr_tup, isstr_lst, isstr_non, istuple_int, istuple_bl, istuple_str, istuple_tup, istuple_lst, istuple_non, islist_int, islist_bl, islist_str, islist_tup, islist_lst, islist_non, ix_dcs, in_dcs, ix_tup, ix_lsts, atI_0, atI_1, atI_2, atI_3, atI_4, atI_5, atI_6, atI_7, atI_8, atI_9, atI_10, atI_11, atI_12, ix_fls, ev_me, sl_lst, sl_tup, cmp_isin, cmp_notin, flat_str, flat_int, flat_bl, flat_non, eqF_str, in_tup, seqO_nx, seqO_rt, seqO_bk, seqO_ct, exs_nil, exs_cons, ex_set, setoD_dcs, setoD_lst, ex_seto, ex_unp, augD_int, ex_aug, ex_expr, appD_lst, ex_app, mthD_lst, ex_mth, mthxD_lst, ex_mthx, om_clear, om_pop, om_reverse, setsD_lst, ex_sets, setnD_nil, setnD_one, ex_newd, putdD_str, ex_putd, ex_setn, appnD_lst, ex_appn, appatD_int, ex_appat, ex_popn, ex_popt, apptpD_int, ex_apptp, ex_ret, ex_reto, ex_retn, ex_iff, ex_whl, ex_for, revD_lst, ex_forv, ex_forr, ex_brk, ex_cnt, ex_pass, ex_share, it_tup, it_lst, it_str, it_fls, tg_one, wipe_one, nxO_nx, nxO_ct, nxO_bk, nxO_rt, forD_nil, lcD_nil, lcD_cons, consO_some, consO_none, ansO_nx, ansO_rt, ansO_ite, sizeLine_lit, pow_lit, toNx_nx, toNx_ct, toNx_ite, toA_some, toA_ite, List.getElem?_cons_zero, List.getElem?_cons_succ, List.getElem?_nil, List.set_cons_zero, List.set_cons_succ, List.set_nil, List.length_cons, List.length_nil, List.length_map, List.length_append, List.length_range, List.length_replicate, List.map_cons, List.map_nil, List.cons_append, List.nil_append, List.append_nil, List.replicate_succ, List.replicate_zero, Nat.reduceAdd, Nat.reduceSub, Nat.reduceMul, Nat.reduceLT, Nat.reduceLeDiff, Nat.reduceEqDiff, Nat.reduceMod, Nat.reduceDiv, Nat.reducePow, Int.reduceAdd, Int.reduceSub, Int.reduceMul, Int.reduceNeg, Int.reduceLT, Int.reduceLE, Int.reduceGT, Int.reduceGE, Int.reduceEq, Int.reduceNe, Int.reduceMod, Int.reduceDiv, Int.reducePow, Int.reduceToNat, Nat.add_zero, Nat.zero_add, Nat.sub_zero, Nat.zero_le, Nat.lt_irrefl, ite_true, ite_false, Bool.not_true, Bool.not_false, Bool.true_and, Bool.false_and, Bool.and_true, Bool.and_false, Bool.true_or, Bool.false_or, Bool.or_true, Bool.or_false, Bool.false_eq_true, Bool.true_eq_false, decide_true, decide_false, Bool.not_eq_true', Bool.not_eq_false', decide_eq_false_iff_not, decide_not, not_true_eq_false, not_false_eq_true, and_true, true_and, and_false, false_and, or_true, true_or, or_false, false_or, and_self, or_self, if_true, if_false, reduceCtorEq, Fn.start, Int.cast_ofNat_Int, List.all_cons, List.all_nil, List.any_cons, List.any_nil, f_law, k0, k1, k2, e1, e2, e3, d0, d1, d2, d3, d4, d5, e4, ha, hb, e5, r16, e6, lc16, mul_l, hm1, hm2, hs1, hs2, e7, e8, hcl, hh, s7, s8, e9]
end LW

set_option maxHeartbeats 0
namespace LW
open PySem PL
def top (i : Nat) : Stmt := PySem.Challenge.pw_wokenlives_k35_touches_that_meet.main.body.getD i (.Pass ⟨0, 0, 0, 0⟩)
def src : Src := ⟨fns, [top 1, top 2, top 3, top 5, top 6, top 7, top 8, top 9, top 10, top 11, top 12, top 13], gls⟩
theorem src_ok : src.ok = true := by decide +kernel
abbrev LR : PySem.W.OpenRow := PySem.W.OpenLaw.row PySem.Challenge.rw_wokenlives_k35_touches_that_meet
def loose0 : List PySem.Str := ["touched", "least_meeting", "meeting", "_law_cell", "_law_draws", "_law_names", "_law_touch", "_law_touches", "_law_things", "_law_due", "_law_right"]
def loose : List PySem.Str := loose0
open PySem PySem.W PySem.Calls PyProof.Rows in
theorem run (w : World) : HandSHeadRun.RunEq LR (PySem.W.view LR.prog [13]) (src.hook 4) (src.ob 4) 4000 loose w := by
  intro os
  kernel_rfl
end LW
open PySem PySem.W PySem.Calls PyProof.Rows in
set_option maxHeartbeats 0 in
theorem PySem.Challenge.cw_wokenlives_k35_touches_that_meet_holds : PySem.Challenge.rw_wokenlives_k35_touches_that_meet.Holds := by
  w_on; o_law
  refine HandSHeadRun.head_any (r := OpenLaw.row PySem.Challenge.rw_wokenlives_k35_touches_that_meet) (q := view (OpenLaw.row PySem.Challenge.rw_wokenlives_k35_touches_that_meet).prog [13]) (H := LW.src.hook 4) (ob := LW.src.ob 4) (M := 4000) (loose := LW.loose) (d := HandSHeadRun.topDef (OpenLaw.row PySem.Challenge.rw_wokenlives_k35_touches_that_meet).prog 13) (kwd := []) (LW.src.ob_eq 4)
    (by kernel_rfl) (fun s => by kernel_rfl) LW.run (by kernel_rfl) (by kernel_rfl) (by kernel_rfl) (by rfl) (by first | assumption | decide +kernel) (by decide +kernel) ⟨rfl, rfl, rfl, rfl, rfl, by decide +kernel⟩ ?hw ?hc
  case hw => w_witness2
  case hc => exact PL.src_walk (s := LW.src) (l := PySem.Challenge.rw_wokenlives_k35_touches_that_meet) (n := 63) (k := 60) (i := 11) (fi := LW.f_law) (x := "_law_script") LW.src_ok rfl (by decide) (by kernel_rfl) ⟨rfl, by decide, by decide⟩ rfl (by kernel_rfl) rfl rfl rfl LW.main


