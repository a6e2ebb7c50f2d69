import PyProof.Rows.All
import Wide.All
import OpenK.AllK
import Wide.FinOn
import HandS.ForMost
import HandS.Evl
import HandS.TupAny
import HandS.TupMul
import HandS.TupLe
import HandS.Zip
import HandS.IsInst
import HandS.Style
import KE.DataFind
import KE.LtData
import KE.SortData
import PyProof.SeqIndex
import HandS.Walk
import PySem.Challenge.RW_wishdues_k29_whole_least_losses_move
set_option Elab.async false
set_option linter.all false
set_option maxRecDepth 100000
set_option maxHeartbeats 4000000
namespace WD
open PySem PySem.Spec PyProof.Rows L2

/-! ### tuples that are known to be plain objects -/
def TOb (o : Obj) : Prop := o.cls = .type "tuple" ∧ o.dict = none
def TupZ (K : PySem.W.Frag) (H : Hp) (a : Addr) (xs : List V) : Prop :=
  (∃ o, TOb o ∧ H a = some (.frz o (.tup xs))) ∨
    ∃ (o : Obj) (its : Array Value) (n : Nat), TOb o ∧ K.lookup a = some o ∧ o.data = .seq its n ∧ its.size ≤ sizeLine ∧ Vals xs its.toList
theorem TupZ.sq {K : PySem.W.Frag} {H : Hp} {a : Addr} {xs : List V} (h : TupZ K H a xs) : SqT K H a xs := by
  rcases h with ⟨o, _, h⟩ | ⟨o, its, n, t, h1, h2, h3, h4⟩
  · exact .inl (.inr ⟨o, h⟩)
  · exact .inr ⟨o, its, n, h1, t.1, h2, h3, h4⟩
theorem TupZ.ext {K : PySem.W.Frag} {H H' : Hp} {a : Addr} {xs : List V} (e : Evl.Ex H H') (h : TupZ K H a xs) : TupZ K H' a xs := by
  rcases h with ⟨o, t, h⟩ | h
  · exact .inl ⟨o, t, e _ _ h⟩
  · exact .inr h
theorem TupZ.new {K : PySem.W.Frag} {H : Hp} {p : Addr} {o : Obj} {xs : List V} (t : TOb o) : TupZ K (upd H p (.frz o (.tup xs))) p xs := .inl ⟨o, t, upd_same⟩

/-- a new tuple object is laid -/
theorem tup_laid {X : Cx} {pins : List (Addr × Obj)} {σ : L2.St} {H : Hp} {s : Shared} {xs : List V} {its : List Value} {t' : Nat} (I : Inv X pins σ H s) (r : Vals xs its) (hz : xs.length ≤ sizeLine) :
    Inv X pins σ (upd H s.heap.objs.size (.frz { cls := .type "tuple", data := .seq its.toArray } (.tup xs))) { s with heap := s.heap.push { cls := .type "tuple", data := .seq its.toArray }, toks := t' } := by
  refine I.laid (t' := t') (fun b u e => Heap.get?_push_of_some _ e) (Nat.le_refl _) ?_
  exact ⟨Heap.get?_push_size _ rfl, hz, its, r, IsTup.new _ _⟩

def tTupZ (t : TA) : TE := fun σ H Q => t σ H fun xs H1 => xs.length ≤ sizeLine ∧ ∀ p o, TOb o → H1 p = none → Q (.ref p) (upd H1 p (.frz o (.tup xs)))
section
variable {X : Cx} {es : List Expr} {t : TA} {pos : Pos}
theorem pe_tupZ {x1} (h : PA X es t) : PE X (.Tuple es x1 pos) (tTupZ t) := by
  refine ⟨fun pins s σ H Q I hq => ?_⟩
  refine wpAny_Tuple_spliced (thn (h.run pos pins s σ H _ I hq) fun us s1 ⟨xs, H1, I1, r, z, q⟩ => ⟨by rw [← r.length]; exact z, ?_⟩)
  have hf : H1 s1.heap.objs.size = none := I1.hok.fresh (Nat.le_refl _)
  exact ⟨.ref s1.heap.objs.size, _, tup_laid (t' := s1.toks) I1 r z, rfl, q _ _ ⟨rfl, rfl⟩ hf⟩

/-- t + u -/
def rCatZ (K : PySem.W.Frag) : R2 := fun x y H Q => ∃ a b xs ys, x = .ref a ∧ y = .ref b ∧ SqT K H a xs ∧ SqT K H b ys ∧ xs.length + ys.length ≤ sizeLine ∧
  (xs = [] → Q (.ref b) H) ∧ (xs ≠ [] → ys = [] → Q (.ref a) H) ∧ (xs ≠ [] → ys ≠ [] → ∀ p o, TOb o → H p = none → Q (.ref p) (upd H p (.frz o (.tup (xs ++ ys)))))
theorem op_catZ : OpR X (binaryOp .Add) (rCatZ X.K) := by
  intro pins s σ H x y v u Q I rx ry h
  obtain ⟨a, b, xs, ys, rfl, rfl, ha, hb, hz, q0, q1, q2⟩ := h
  by_cases hx : xs = []
  · subst hx
    cases rx
    cases ry
    obtain ⟨its, r1, p1, _⟩ := I.tuple ha
    obtain ⟨its2, r2, p2, _⟩ := I.tuple hb
    cases r1
    exact cat_tup0 p1 p2 ⟨.ref b, H, I, rfl, q0 rfl⟩
  · cases rx
    cases ry
    obtain ⟨its, r1, p1, _⟩ := I.tuple ha
    obtain ⟨its2, r2, p2, _⟩ := I.tuple hb
    refine HT.cat_tup p1 p2 (fun z => hx (r1.nil_iff.mp z)) (fun z => ⟨.ref a, H, I, rfl, q1 hx (r2.nil_iff.mp z)⟩) (fun z => ?_) (by rw [← r1.length, ← r2.length]; exact hz)
    refine ⟨.ref s.heap.objs.size, _, tup_laid (t' := s.toks) I (r1.append r2) (by rw [List.length_append]; exact hz), rfl, q2 hx (fun w => z (r2.nil_iff.mpr w)) _ _ ⟨rfl, rfl⟩ (I.hok.fresh (Nat.le_refl _))⟩

/-- t[lo:hi] -/
def rSlZ (K : PySem.W.Frag) : V → Option Int → Option Int → Hp → VK → Prop := fun x lo hi H Q => ∃ a xs, x = .ref a ∧ SqT K H a xs ∧
  (HT.sIx xs.length 0 lo = 0 ∧ HT.sIx xs.length xs.length hi = xs.length → Q (.ref a) H) ∧ (¬ (HT.sIx xs.length 0 lo = 0 ∧ HT.sIx xs.length xs.length hi = xs.length) → ∀ p o, TOb o → H p = none → Q (.ref p) (upd H p (.frz o (.tup (cutV xs lo hi)))))
theorem sl_tupZ : SlR X (rSlZ X.K) := by
  intro pins s σ H x v vl vu lo hi sl Q I rx hs pl pu h
  obtain ⟨a, xs, rfl, hx, q1, q2⟩ := h
  by_cases hw : HT.sIx xs.length 0 lo = 0 ∧ HT.sIx xs.length xs.length hi = xs.length
  · cases rx
    obtain ⟨its, r, ht, hz⟩ := I.tuple hx
    have hlen : its.toArray.size = xs.length := by rw [List.size_toArray]; exact r.length.symm
    refine ⟨"tuple", _, PyProof.Rows.slot_tuple_getitem.lookup, ht.typeIs, ?_⟩
    exact getItem_tuple_whole ht hs pl pu (by rw [hlen]; exact hw) ⟨.ref a, H, I, rfl, q1 hw⟩
  · cases rx
    obtain ⟨its, r, ht, hz⟩ := I.tuple hx
    have hlen : its.toArray.size = xs.length := by rw [List.size_toArray]; exact r.length.symm
    refine ⟨"tuple", _, PyProof.Rows.slot_tuple_getitem.lookup, ht.typeIs, ?_⟩
    refine HT.getItem_tuple_cut ht hs pl pu (by rw [hlen]; exact hw) ?_ (by rw [hlen]; exact hz)
    rw [hlen]
    exact ⟨.ref s.heap.objs.size, _, tup_laid (t' := s.toks) I ((r.drop (HT.sIx xs.length 0 lo)).take (HT.sIx xs.length xs.length hi - HT.sIx xs.length 0 lo)) (Nat.le_trans (cutV_length xs lo hi) hz), rfl, q2 hw _ _ ⟨rfl, rfl⟩ (I.hok.fresh (Nat.le_refl _))⟩

/-- tuple(x) -/
theorem call_tupleZ : CallR X (.type "tuple") (fun xs H Q => ∃ p ys, xs = [.ref p] ∧ SqL X.K H p ys ∧ ∀ l o, TOb o → H l = none → Q (.ref l) (upd H l (.frz o (.tup ys)))) := by
  intro pins s σ H xs us Q I r h
  obtain ⟨p, ys, rfl, hq, q⟩ := h
  obtain ⟨u, rfl, rx⟩ := vals1 r
  cases rx
  obtain ⟨its, r', pl, hz⟩ := I.list hq
  have hlen := r'.length
  refine call_tuple_list pl.isList (fun h' kp => ?_) (by simp only [List.size_toArray] <;> omega)
  have I1 : Inv X pins σ H { s with heap := h' } := I.kept (t' := s.toks) kp
  exact ⟨.ref h'.objs.size, _, tup_laid (t' := s.toks) I1 r' hz, rfl, q _ _ ⟨rfl, rfl⟩ (I1.hok.fresh (Nat.le_refl _))⟩
theorem call_tupleZT : CallR X (.type "tuple") (fun xs H Q => (∃ p ys, xs = [.ref p] ∧ SqL X.K H p ys ∧ ∀ l o, TOb o → H l = none → Q (.ref l) (upd H l (.frz o (.tup ys)))) ∨ ∃ a ys, xs = [.ref a] ∧ SqT X.K H a ys ∧ Q (.ref a) H) := call_tupleZ.or call_tupleT
end

/-! ### t * k, k from 0 on -/
open AutoSeq1 (wpAny_loadPart') in
theorem tuple_mul0 (l : Addr) (items : Array Value) (n : Nat) (dd : Option Addr) (sl : Array (Option Value)) (x : Int) (u : Tok) (c0 : (decide (x < -(2 ^ 63)) || decide (x ≥ 2 ^ 63)) = false) (c1 : (items.isEmpty || x == 1) = false) (c2 : (decide (x ≤ 0) || items.isEmpty) = true) :
    Meets (Builtin.«tuple.__mul__» ⟨[.ref l, .int x u], []⟩) (fun _ R s => s.heap.get? l = some { cls := .type "tuple", dict := dd, data := .seq items n, slots := sl } ∧
      R (.ok (.ret (Value.ref s.heap.objs.size))) { s with heap := s.heap.push { cls := Value.type "tuple", data := Data.seq #[] }, toks := s.toks }) :=
  .of_wp fun prog w A R s h => by
    obtain ⟨hp, g, d, tk, os⟩ := s
    obtain ⟨hl, h⟩ := h
    have f1 := AutoSeq1.idx_int
    wp_walk using wpAny_loadPart' hl
    repeat (first
      | (refine wpAny_ite_false (decide_eq_false (by rw [c0]; exact Bool.false_ne_true)) ?_; wp_walk using wpAny_loadPart' hl)
      | (refine wpAny_ite_false (decide_eq_false (by rw [c1]; exact Bool.false_ne_true)) ?_; wp_walk using wpAny_loadPart' hl)
      | (refine wpAny_ite_true (decide_eq_true c2) ?_; wp_walk using wpAny_loadPart' hl))
    exact ⟨_, rfl, h⟩
open AutoSeq1 (wpAny_loadPart') in
theorem tuple_mul1 (l : Addr) (items : Array Value) (n : Nat) (dd : Option Addr) (sl : Array (Option Value)) (x : Int) (u : Tok) (c0 : (decide (x < -(2 ^ 63)) || decide (x ≥ 2 ^ 63)) = false) (c1 : (items.isEmpty || x == 1) = true) :
    Meets (Builtin.«tuple.__mul__» ⟨[.ref l, .int x u], []⟩) (fun _ R s => s.heap.get? l = some { cls := .type "tuple", dict := dd, data := .seq items n, slots := sl } ∧
      R (.ok (.ret (Value.ref l))) { s with toks := s.toks }) :=
  .of_wp fun prog w A R s h => by
    obtain ⟨hp, g, d, tk, os⟩ := s
    obtain ⟨hl, h⟩ := h
    have f1 := AutoSeq1.idx_int
    wp_walk using wpAny_loadPart' hl
    repeat (first
      | (refine wpAny_ite_false (decide_eq_false (by rw [c0]; exact Bool.false_ne_true)) ?_; wp_walk using wpAny_loadPart' hl)
      | (refine wpAny_ite_true (decide_eq_true c1) ?_; wp_walk using wpAny_loadPart' hl))
    exact ⟨_, rfl, h⟩

def rRepZ (K : PySem.W.Frag) : R2 := fun x y H Q => ∃ l k xs, x = .ref l ∧ y = .int k ∧ SqT K H l xs ∧ xs ≠ [] ∧ 0 ≤ k ∧ k ≤ 1000 ∧ xs.length ≤ 1000 ∧ (k = 1 → Q (.ref l) H) ∧ (k ≠ 1 → ∀ p o, TOb o → H p = none → Q (.ref p) (upd H p (.frz o (.tup (List.replicate k.toNat xs).flatten))))
section
variable {X : Cx}
theorem op_repZ : OpR X (binaryOp .Mult) (rRepZ X.K) := by
  intro pins s σ H x y v u Q I rx ry h
  obtain ⟨l, k, xs, rfl, rfl, hT, hne, h1, h2, hz, q1, q⟩ := h
  cases rx
  obtain ⟨t, rfl⟩ := ry
  obtain ⟨its, r, ⟨⟨cls, dd, data, sl⟩, ho, hc, n, hd⟩, hs⟩ := I.tuple hT
  simp only at hc hd
  subst hc hd
  have hle : its.length = xs.length := r.length.symm
  have hn : its ≠ [] := fun e => hne (by
    rw [e] at hle
    exact List.eq_nil_of_length_eq_zero hle.symm)
  have hi : its.toArray.isEmpty = false := by
    cases its with
    | nil => exact absurd rfl hn
    | cons a b => rfl
  have hsz0 : its.toArray.size = xs.length := by rw [List.size_toArray, hle]
  have hm : ((its.toArray.size : Nat) : Int) * k ≤ 1000000 := by
    rw [hsz0]
    have a1 : ((xs.length : Nat) : Int) * k ≤ 1000 * k := Int.mul_le_mul_of_nonneg_right (by omega) (by omega)
    omega
  have flen : (List.replicate k.toNat its).flatten.length ≤ sizeLine := by
    rw [PyProof.Rows.lm_len_rep_flat, hle, sizeLine_eq]
    have a1 : k.toNat * xs.length ≤ 1000 * 1000 := Nat.mul_le_mul (by omega) hz
    omega
  have flen2 : (List.replicate k.toNat xs).flatten.length ≤ sizeLine := by
    rw [PyProof.Rows.lm_len_rep_flat, sizeLine_eq]
    have a1 : k.toNat * xs.length ≤ 1000 * 1000 := Nat.mul_le_mul (by omega) hz
    omega
  have c0 : (decide (k < -(2 ^ 63)) || decide (k ≥ 2 ^ 63)) = false := by
    rw [decide_eq_false (by omega), decide_eq_false (by omega)] <;> rfl
  have road : ∀ {R : Result → Shared → Prop}, True := trivial
  by_cases k1 : k = 1
  · subst k1
    refine wpAny_binaryOp_repeat_ref (T := "tuple") (U := "int") (by decide) ⟨_, ho, rfl⟩ (fun s' => typeIs_int s' 1 t) noFill_tuple_mul F.fills_int_mul F.slot_int_rmul repeat_tuple F.slot_int_index.lookup
      (call_meets F.slot_int_rmul (typeIs_int s 1 t) F.entry_int_rmul (F.args_int_rmul_2 _ _) (int_rmul_tuple 1 t l its.toArray n dd sl)
        ⟨ho, rfl, ⟨_, ho, rfl⟩, call_meets F.slot_tuple_mul ⟨_, ho, rfl⟩ F.entry_tuple_mul (F.args_tuple_mul_2 _ _) (tuple_mul1 l its.toArray n dd sl 1 t c0 (by rw [hi] <;> rfl)) ⟨ho, ?_⟩⟩)
    exact ⟨.ref l, H, I.tok _, rfl, q1 rfl⟩
  have c1 : (its.toArray.isEmpty || k == 1) = false := by
    rw [hi, Bool.false_or]
    exact beq_eq_false_iff_ne.mpr (by omega)
  by_cases k0 : k = 0
  · subst k0
    refine wpAny_binaryOp_repeat_ref (T := "tuple") (U := "int") (by decide) ⟨_, ho, rfl⟩ (fun s' => typeIs_int s' 0 t) noFill_tuple_mul F.fills_int_mul F.slot_int_rmul repeat_tuple F.slot_int_index.lookup
      (call_meets F.slot_int_rmul (typeIs_int s 0 t) F.entry_int_rmul (F.args_int_rmul_2 _ _) (int_rmul_tuple 0 t l its.toArray n dd sl)
        ⟨ho, rfl, ⟨_, ho, rfl⟩, call_meets F.slot_tuple_mul ⟨_, ho, rfl⟩ F.entry_tuple_mul (F.args_tuple_mul_2 _ _) (tuple_mul0 l its.toArray n dd sl 0 t c0 c1 (by rfl)) ⟨ho, ?_⟩⟩)
    exact ⟨.ref s.heap.objs.size, _, tup_laid (t' := s.toks) (xs := []) (its := []) I .nil (Nat.zero_le _), rfl, q (by decide) _ _ ⟨rfl, rfl⟩ (I.hok.fresh (Nat.le_refl _))⟩
  have c2 : (decide (k ≤ 0) || its.toArray.isEmpty) = false := by
    rw [hi, Bool.or_false]
    exact decide_eq_false (by omega)
  have c4 : Builtin.Tuple.tupleTooMany (((its.toArray.size : Nat) : Int) * k) = false := by
    unfold Builtin.Tuple.tupleTooMany
    rw [sizeLine_eq]
    exact decide_eq_false (by omega)
  refine wpAny_binaryOp_repeat_ref (T := "tuple") (U := "int") (by decide) ⟨_, ho, rfl⟩ (fun s' => typeIs_int s' k t) noFill_tuple_mul F.fills_int_mul F.slot_int_rmul repeat_tuple F.slot_int_index.lookup
    (call_meets F.slot_int_rmul (typeIs_int s k t) F.entry_int_rmul (F.args_int_rmul_2 _ _) (int_rmul_tuple k t l its.toArray n dd sl)
      ⟨ho, rfl, ⟨_, ho, rfl⟩, call_meets F.slot_tuple_mul ⟨_, ho, rfl⟩ F.entry_tuple_mul (F.args_tuple_mul_2 _ _) (tuple_mulW l its.toArray n dd sl k t c0 c1 c2 (by omega) c4 (by rw [size_rep, List.size_toArray]; exact flen)) ⟨ho, ?_⟩⟩)
  rw [size_rep]
  exact ⟨.ref s.heap.objs.size, _, tup_laid (t' := s.toks) I (r.rep k.toNat) flen2, rfl, q k1 _ _ ⟨rfl, rfl⟩ (I.hok.fresh (Nat.le_refl _))⟩
end

/-! ### methods over data -/
theorem Dp.list_inv {K : PySem.W.Frag} {H : Hp} {v : V} {ds : List PyData} (h : Dp K H v (.list ds)) : ∃ a xs, v = .ref a ∧ SqL K H a xs ∧ DpAll K H xs ds := by
  cases h with
  | lst hs ha => exact ⟨_, _, rfl, hs, ha⟩
/-- xs.count(y) -/
def rCntD (K : PySem.W.Frag) : V → List V → Hp → VK → Prop := fun x xs H Q => ∃ (y : V) (d : PyData) (ds : List PyData), xs = [y] ∧ Dp K H x (.list ds) ∧ Dp K H y d ∧ PyData.plainAll ds = true ∧ d.plain = true ∧ d.depth = 0 ∧
  Q (.int ((ds.countP fun z => PyData.eqv z d : Nat) : Int)) H
section
variable {X : Cx}
theorem mt_countD (hu : X.A.units + 64 < cLine) : MtR X "list.count" (rCntD X.K) := by
  intro pins s σ H x xs v us Q I rx rxs h
  obtain ⟨y, d, ds, rfl, hx, hy, hp, hd, h0, q⟩ := h
  obtain ⟨u, rfl, ru⟩ := rxs.one
  obtain ⟨bs, rb⟩ := Dp.reads I d y u hy ru
  obtain ⟨a, xs', rfl, hs, ha⟩ := Dp.list_inv hx
  cases rx
  obtain ⟨its, rv, pl, _⟩ := I.list hs
  obtain ⟨as, ra⟩ := Dp.readsAll I ds _ its ha rv
  exact SeqAt.count_list_data (vs := its.toArray) pl.isList ra rb hp hd (by rw [h0, Nat.min_zero]; omega) ⟨.int _, H, I.tok _, ⟨_, rfl⟩, q⟩

/-- t.index(None), t of None and ints -/
def isN : V → Bool
  | .non => true
  | _ => false
def rIdxN (K : PySem.W.Frag) : V → List V → Hp → VK → Prop := fun x xs H Q => ∃ (a : Addr) (ys : List V) (j : Nat), x = .ref a ∧ xs = [.non] ∧ SqT K H a ys ∧ (∀ y ∈ ys, y = .non ∨ ∃ i, y = .int i) ∧ ys[j]? = some .non ∧ (∀ m, m < j → ys[m]? ≠ some .non) ∧ Q (.int (j : Nat)) H
theorem mt_idxN : MtR X "tuple.index" (rIdxN X.K) := by
  intro pins s σ H x xs v us Q I rx rs h
  obtain ⟨a, ys, j, rfl, rfl, hq, hk, hy, hno, q⟩ := h
  cases rx
  obtain ⟨u, rfl, ru⟩ := vals1 rs
  cases ru
  obtain ⟨its, r, pl, hz⟩ := I.tuple hq
  have hlen : its.length = ys.length := r.length.symm
  have hjl : j < ys.length := (List.getElem?_eq_some_iff.mp hy).1
  have it : SeqAt.ItemsEq X.A.in1 s its ys Value.none V.non := by
    refine ⟨hlen, fun m h1 h2 => ?_⟩
    obtain ⟨w, hw, rw'⟩ := r.get (i := m) (List.getElem?_eq_getElem h2)
    have e : its[m] = w := Option.some.inj ((List.getElem?_eq_getElem h1).symm.trans hw)
    rw [e]
    rcases hk ys[m] (List.getElem_mem h2) with c | ⟨i, c⟩
    · rw [c] at rw' ⊢
      cases rw'
      rw [decide_eq_true rfl]
      exact SeqAt.EqAt.same _
    · rw [c] at rw' ⊢
      obtain ⟨t, rfl⟩ := rw'
      rw [decide_eq_false (by intro z; cases z)]
      exact SeqAt.EqAt.int_none i t
  have hmem : V.non ∈ ys := List.mem_of_getElem? hy
  have hidx : ys.idxOf V.non = j := by
    have h1 : ys.idxOf V.non < ys.length := List.idxOf_lt_length_iff.mpr hmem
    have h2 : ys[ys.idxOf V.non]'h1 = V.non := List.getElem_idxOf h1
    rcases Nat.lt_trichotomy (ys.idxOf V.non) j with c | c | c
    · exact absurd (by rw [List.getElem?_eq_getElem h1, h2]) (hno _ c)
    · exact c
    · exact absurd (Option.some.inj ((List.getElem?_eq_getElem hjl).symm.trans hy)) (SeqAt.lt_idxOf_ne c hjl)
  exact SeqAt.call_tuple_index (vs := its) (ks := ys) (k := V.non) (by obtain ⟨o, ho, hc, n, hd⟩ := pl; exact ⟨o, ho, hc, n, hd⟩) it hmem (by rw [hidx]; exact ⟨.int (j : Nat), H, I.tok _, ⟨_, rfl⟩, q⟩)

/-! ### the call of a tuple's method -/
theorem TupZ.ob {H : Hp} {a : Addr} {xs : List V} {pins : List (Addr × Obj)} {σ : L2.St} {s : Shared} (I : Inv X pins σ H s) (h : TupZ X.K H a xs) :
    ∃ ob, s.heap.get? a = some ob ∧ ob.cls = .type "tuple" ∧ ob.dict = none := by
  rcases h with ⟨o, t, h⟩ | ⟨o, its, n, t, h1, h2, h3, h4⟩
  · exact ⟨o, (I.hok a _ h).1, t.1, t.2⟩
  · exact ⟨o, I.kIn a o h1, t.1, t.2⟩
def tBMT (K : PySem.W.Frag) (r : V → List V → Hp → VK → Prop) (to : TE) (t : TA) : TE := fun σ H Q => to σ H fun x H1 => (∃ a xs, x = .ref a ∧ TupZ K H1 a xs) ∧ t σ H1 fun xs H2 => r x xs H2 Q
variable {o e : Expr} {es : List Expr} {to : TE} {t : TA} {name : Str} {apos cpos : Pos} {id : String} {r : V → List V → Hp → VK → Prop}
theorem pe_bmT (slot : Slot "tuple" name id) (hty : typeOf (.builtin id) = pure (.type "method_descriptor")) (hm : MtR X id r) (ho : PE X o to) (ha : PA X (e :: es) t)
    (hbase : attributeBase o name X.env (eval o X.env) = eval o X.env := by rfl)
    (hfew : ((backTo cpos (starEach (e :: es) X.env)).all (fun x => !x.1) && (backToKw cpos (keywordEach [] X.env)).all (fun x => x.1.isSome)
      && decide ((e :: es).length + ([] : List Keyword).length + (if ([] : List Keyword).isEmpty then 0 else 1) < 30)) = true := by rfl)
    (hline : (apos.endLine == cpos.line) = true := by rfl) (hs : starEach (e :: es) X.env = (false, eval e X.env) :: starEach es X.env := by rfl) (hplain : (backTo cpos (starEach es X.env)).any (·.1) = false := by rfl) :
    PE X (.Call (.Attribute o name apos) (e :: es) [] cpos) (tBMT X.K r to t) := by
  refine ⟨fun pins s σ H Q I h => ?_⟩
  refine wpAny_Call_method_late hbase hfew hline rfl (thn (ho.run pins s σ H _ I h) fun v s1 ⟨x, H1, I1, r1, ⟨a, xs, hx, ty⟩, q1⟩ => ?_)
  subst hx
  cases r1
  obtain ⟨ob, h1, h2, h3⟩ := TupZ.ob I1 ty
  refine ⟨"tuple", id, PySem.F.plainAttrs_tuple, slot, hty, ⟨ob, h1, h2⟩, (fun b e => by cases e; exact ⟨ob, h1, h3⟩), ?_⟩
  have hA := ha.run cpos pins s1 σ H1 _ I1 q1
  rw [hs] at hA ⊢
  refine Calls.callWith_builtin (by show (false || (backTo cpos (starEach es X.env)).any (·.1)) = false; rw [hplain] <;> rfl) (Calls.evalArgs_plain ?_)
  exact thn hA fun us s2 ⟨vs, H2, I2, r2, q2⟩ => hm pins s2 σ H2 (.ref a) vs _ us Q I2 rfl r2 q2
end
end WD

/-! min of a list of data, of two data: comparisons that look into the heap -/
namespace WD
open PySem PySem.Spec PyProof.Rows L2
/-- comparisons hold wherever what stood at the start stands -/
def CmpB (prog : Program) (w : World) (A : Around) (op : CmpOp) (B : Heap) (P : Nat → Value → Prop) (bt : Nat → Nat → Bool) : Prop :=
  ∀ i j vi vj (s : Shared) (Q : Value → Shared → Prop) (E : Value → Shared → Prop), (∀ b o, B.get? b = some o → s.heap.get? b = some o) → P i vi → P j vj → Q (.bool (bt i j)) s → wpAny (model prog w) A (richCompare op vi vj) Q E s
section
variable {prog : Program} {w : World} {A : Around} {R : Result → Shared → Prop} {I : Addr} {fp wr : List Addr} {n : Nat} {P : Nat → Value → Prop} {St : Nat → Heap → Prop} {B : Heap}
theorem min_loopB (W : Walks prog w A.in1 I fp wr n P St) (bt : Nat → Nat → Bool) (hcmp : CmpB prog w A.in1 .Lt B P bt) (S : Addr) (hSf : S ∉ fp) (hSB : B.get? S = none) (hwB : ∀ b ∈ wr, B.get? b = none) :
    ∀ (k j : Nat) (s : Shared) (vb : Value) (c : Nat), n - (j + 1) = k → j + 1 ≤ n → St (j + 1) s.heap → (∀ b o, B.get? b = some o → s.heap.get? b = some o) → P (argBest bt j) vb →
    s.heap.get? S = some { cls := .type "list", dict := none, data := .seq #[vb, vb] c, slots := #[] } →
    (∀ v h' tk, P (argBest bt (n - 1)) v → (∀ b o, b ∉ wr → b ≠ S → s.heap.get? b = some o → h'.get? b = some o) → R (.ok (.ret v)) { s with heap := h', toks := tk }) →
    codeAny (model prog w) A (.builtin "min.loop" ⟨[.ref I, .none, .ref S], []⟩) R s := by
  have hSw : S ∉ wr := fun h => hSf (W.sub _ h)
  have hname : (toString "min" ++ toString ".loop" : String) = "min.loop" := by decide
  have nB : ∀ b o, B.get? b = some o → b ∉ wr ∧ b ≠ S := fun b o e => ⟨fun h => (by rw [hwB b h] at e; cases e), fun h => (by rw [h, hSB] at e; cases e)⟩
  intro k
  induction k with
  | zero =>
    intro j s vb c hk hj hst hB hPb hS hR
    have hin : j + 1 = n := by omega
    refine codeAny_builtin F.entry_min_loop ?_
    rw [Around.under_plainId F.plain_min_loop _]
    show wpAny _ A.in1 (seqItems? (.ref S) >>= _) _ _ s
    refine wpAny_bind (wpAny_seqItems hS rfl ?_)
    show wpAny _ A.in1 (tryCatch (pyNext (.ref I)) _ >>= _) _ _ s
    refine wpAny_bind (wpAny_tryCatch (W.done s _ _ (hin ▸ hst) fun h' tk hk' => ?_))
    have hS' := hk' S _ hSw hS
    show wpAny _ A.in1 (updateSeq S (fun _ => #[]) >>= _) _ _ _
    refine wpAny_bind ?_
    refine wpAny_updateSeq hS' rfl (wpAny_bind (wpAny_letGo (wpAny_pure ?_)))
    refine hR vb _ tk (by rw [← hin]; exact hPb) fun b o hbw hbS e => (Heap.get?_update_other _ _ (Ne.symm hbS)).trans (hk' b o hbw e)
  | succ k ih =>
    intro j s vb c hk hj hst hB hPb hS hR
    have hlt : j + 1 < n := by omega
    refine codeAny_builtin F.entry_min_loop ?_
    rw [Around.under_plainId F.plain_min_loop _]
    show wpAny _ A.in1 (seqItems? (.ref S) >>= _) _ _ s
    refine wpAny_bind (wpAny_seqItems hS rfl ?_)
    show wpAny _ A.in1 (tryCatch (pyNext (.ref I)) _ >>= _) _ _ s
    refine wpAny_bind (wpAny_tryCatch (W.item (j + 1) s _ _ hlt hst fun v h' tk hP hst' hk' => ?_))
    have hS' := hk' S _ hSw hS
    have hB' : ∀ b o, B.get? b = some o → h'.get? b = some o := fun b o e => hk' b o (nB b o e).1 (hB b o e)
    show wpAny _ A.in1 (tryCatch (holding [v, v] (richCompare .Lt v vb >>= _)) _ >>= _) _ _ _
    refine wpAny_bind (wpAny_tryCatch (wpAny_holding (wpAny_bind (hcmp (j + 1) (argBest bt j) v vb _ _ _ hB' hP hPb ?_))))
    refine wpAny_bind (wpAny_holding (wpAny_truthy_bool ?_))
    refine wpAny_bind (wpAny_letGo (wpAny_pure ?_))
    cases hb : bt (j + 1) (argBest bt j) with
    | true =>
      simp only [if_true]
      refine wpAny_bind ?_
      refine wpAny_updateSeq hS' rfl (wpAny_bind (wpAny_letGo ?_))
      rw [hname]
      refine wpAny_pure ⟨plainId_quiet F.plain_min_loop _, ih (j + 1) _ v _ (by omega) hlt (W.frame _ _ _ hst' fun b hbf o e => ?_) (fun b o e => ?_) (by simp only [argBest, hb, if_true]; exact hP) (Heap.get?_update_self _ hS' rfl)
        fun v' h'' tk'' hP' hk'' => ?_⟩
      · exact (Heap.get?_update_other _ _ (fun h : S = b => hSf (by rw [h]; exact hbf))).trans e
      · exact (Heap.get?_update_other _ _ (Ne.symm (nB b o e).2)).trans (hB' b o e)
      · exact hR v' h'' tk'' hP' fun b o hbw hbS e => hk'' b o hbw hbS ((Heap.get?_update_other _ _ (Ne.symm hbS)).trans (hk' b o hbw e))
    | false =>
      simp only [Bool.false_eq_true, if_false]
      refine wpAny_bind (wpAny_letGo ?_)
      rw [hname]
      refine wpAny_pure ⟨plainId_quiet F.plain_min_loop _, ih (j + 1) _ vb c (by omega) hlt hst' hB' (by simp only [argBest, hb, Bool.false_eq_true, if_false]; exact hPb) hS' fun v' h'' tk'' hP' hk'' => ?_⟩
      exact hR v' h'' tk'' hP' fun b o hbw hbS e => hk'' b o hbw hbS (hk' b o hbw e)

theorem min_firstB (W : Walks prog w A.in1 I fp wr n P St) (bt : Nat → Nat → Bool) (hcmp : CmpB prog w A.in1 .Lt B P bt) (S : Addr) (hSf : S ∉ fp) (hSB : B.get? S = none) (hwB : ∀ b ∈ wr, B.get? b = none) (hn : 0 < n) {s : Shared} {c : Nat} (hst : St 0 s.heap)
    (hB : ∀ b o, B.get? b = some o → s.heap.get? b = some o)
    (hS : s.heap.get? S = some { cls := .type "list", dict := none, data := .seq #[] c, slots := #[] })
    (hR : ∀ v h' tk, P (argBest bt (n - 1)) v → (∀ b o, b ∉ wr → b ≠ S → s.heap.get? b = some o → h'.get? b = some o) → R (.ok (.ret v)) { s with heap := h', toks := tk }) :
    codeAny (model prog w) A (.builtin "min.loop" ⟨[.ref I, .none, .ref S], []⟩) R s := by
  have hSw : S ∉ wr := fun h => hSf (W.sub _ h)
  have hname : (toString "min" ++ toString ".loop" : String) = "min.loop" := by decide
  have nB : ∀ b o, B.get? b = some o → b ∉ wr ∧ b ≠ S := fun b o e => ⟨fun h => (by rw [hwB b h] at e; cases e), fun h => (by rw [h, hSB] at e; cases e)⟩
  refine codeAny_builtin F.entry_min_loop ?_
  rw [Around.under_plainId F.plain_min_loop _]
  show wpAny _ A.in1 (seqItems? (.ref S) >>= _) _ _ s
  refine wpAny_bind (wpAny_seqItems hS rfl ?_)
  show wpAny _ A.in1 (tryCatch (pyNext (.ref I)) _ >>= _) _ _ s
  refine wpAny_bind (wpAny_tryCatch (W.item 0 s _ _ hn hst fun v h' tk hP hst' hk' => ?_))
  have hS' := hk' S _ hSw hS
  show wpAny _ A.in1 (updateSeq S (fun _ => #[v, v]) >>= _) _ _ _
  refine wpAny_bind ?_
  refine wpAny_updateSeq hS' rfl ?_
  rw [hname]
  refine wpAny_pure ⟨plainId_quiet F.plain_min_loop _, min_loopB W bt hcmp S hSf hSB hwB _ 0 _ v _ rfl hn (W.frame _ _ _ hst' fun b hbf o e => ?_) (fun b o e => ?_) hP (Heap.get?_update_self _ hS' rfl) fun v' h'' tk'' hP' hk'' => ?_⟩
  · exact (Heap.get?_update_other _ _ (fun h : S = b => hSf (by rw [h]; exact hbf))).trans e
  · exact (Heap.get?_update_other _ _ (Ne.symm (nB b o e).2)).trans (hk' b o (nB b o e).1 (hB b o e))
  · exact hR v' h'' tk'' hP' fun b o hbw hbS e => hk'' b o hbw hbS ((Heap.get?_update_other _ _ (Ne.symm hbS)).trans (hk' b o hbw e))
end
section
variable {prog : Program} {w : World} {A : Around} {E : Value → Shared → Prop} {s : Shared}
theorem min_walkB {x : Value} {Q : Value → Shared → Prop}
    (h : wpAny (model prog w) A.in1 (pyIter x) (fun it s₂ => ∃ I fp wr n P St bt, it = .ref I ∧ Walks prog w A.in1 I fp wr n P St ∧ St 0 s₂.heap ∧ (∀ b ∈ fp, b < s₂.heap.objs.size) ∧ 0 < n ∧ (∀ b ∈ wr, s.heap.get? b = none) ∧ (∀ b o, s.heap.get? b = some o → s₂.heap.get? b = some o) ∧ CmpB prog w A.in1 .Lt s.heap P bt ∧
      ∀ v h' tk, P (argBest bt (n - 1)) v → (∀ b o, b ∉ wr → s₂.heap.get? b = some o → h'.get? b = some o) → Q v { s₂ with heap := h', toks := tk }) E s) :
    wpAny (model prog w) A (call (.builtin "min") [x]) Q E s := by
  have hname : (toString "min" ++ toString ".loop" : String) = "min.loop" := by decide
  refine call_function_tree F.kind_min F.plain_min F.entry_min (F.args_min1 _) ?_
  show wpAny _ A.in1 (Builtin.Builtins.bindParams "min" ["key", "default"] 0 ⟨[], []⟩ >>= _) _ _ s
  refine wpAny_bind (wpAny_of_eq (show Builtin.Builtins.bindParams "min" ["key", "default"] 0 ⟨[], []⟩ = pure [none, none] from rfl) ?_)
  refine wpAny_bind (wpAny_pure ?_)
  refine wpAny_bind (wpAny_mono h (fun it s₂ h₂ => ?_) fun _ _ e => e)
  obtain ⟨I, fp, wr, n, P, St, bt, rfl, W, hst, hfp, hn, hwB, hB, hcmp, hQ⟩ := h₂
  refine wpAny_bind (wpAny_newObj_type ?_)
  have hSf : s₂.heap.objs.size ∉ fp := fun hm => Nat.lt_irrefl _ (hfp _ hm)
  have hSB : s.heap.get? s₂.heap.objs.size = none := by
    cases q : s.heap.get? s₂.heap.objs.size with
    | none => rfl
    | some o => exact absurd (Heap.lt_size (hB _ _ q)) (Nat.lt_irrefl _)
  rw [hname]
  refine wpAny_pure ⟨plainId_quiet F.plain_min_loop _, min_firstB W bt hcmp s₂.heap.objs.size hSf hSB hwB hn (W.frame _ _ _ hst fun b _ o e => Heap.get?_push_of_some _ e) (fun b o e => Heap.get?_push_of_some _ (hB b o e)) (Heap.get?_push_size _ rfl) fun v h' tk hP hk => ?_⟩
  exact hQ v h' tk hP fun b o hbw e => hk b o hbw (Nat.ne_of_lt (Heap.lt_size e)) (Heap.get?_push_of_some _ e)
theorem min_twoB {a b : Value} {Q : Value → Shared → Prop}
    (h : wpAny (model prog w) A.in1 (pyIter (.ref s.heap.objs.size)) (fun it s₂ => ∃ I fp wr n P St bt, it = .ref I ∧ Walks prog w A.in1 I fp wr n P St ∧ St 0 s₂.heap ∧ (∀ b ∈ fp, b < s₂.heap.objs.size) ∧ 0 < n ∧ (∀ b ∈ wr, s.heap.get? b = none) ∧ (∀ b o, s.heap.get? b = some o → s₂.heap.get? b = some o) ∧ CmpB prog w A.in1 .Lt s.heap P bt ∧
      ∀ v h' tk, P (argBest bt (n - 1)) v → (∀ b o, b ∉ wr → s₂.heap.get? b = some o → h'.get? b = some o) → Q v { s₂ with heap := h', toks := tk }) E
      { s with heap := s.heap.push { cls := .type "tuple", data := .seq #[a, b] } }) :
    wpAny (model prog w) A (call (.builtin "min") [a, b]) Q E s := by
  have hname : (toString "min" ++ toString ".loop" : String) = "min.loop" := by decide
  refine call_function_tree F.kind_min F.plain_min F.entry_min (F.args_min2 _ _) ?_
  show wpAny _ A.in1 (Builtin.Builtins.bindParams "min" ["key", "default"] 0 ⟨[], []⟩ >>= _) _ _ s
  refine wpAny_bind (wpAny_of_eq (show Builtin.Builtins.bindParams "min" ["key", "default"] 0 ⟨[], []⟩ = pure [none, none] from rfl) ?_)
  show wpAny _ A.in1 (newTuple [a, b] >>= _) _ _ s
  refine wpAny_bind (wpAny_newObj_type ?_)
  refine wpAny_bind (wpAny_mono h (fun it s₂ h₂ => ?_) fun _ _ e => e)
  obtain ⟨I, fp, wr, n, P, St, bt, rfl, W, hst, hfp, hn, hwB, hB, hcmp, hQ⟩ := h₂
  refine wpAny_bind (wpAny_newObj_type ?_)
  have hSf : s₂.heap.objs.size ∉ fp := fun hm => Nat.lt_irrefl _ (hfp _ hm)
  have hSB : s.heap.get? s₂.heap.objs.size = none := by
    cases q : s.heap.get? s₂.heap.objs.size with
    | none => rfl
    | some o => exact absurd (Heap.lt_size (hB _ _ q)) (Nat.lt_irrefl _)
  rw [hname]
  refine wpAny_pure ⟨plainId_quiet F.plain_min_loop _, min_firstB W bt hcmp s₂.heap.objs.size hSf hSB hwB hn (W.frame _ _ _ hst fun b _ o e => Heap.get?_push_of_some _ e) (fun b o e => Heap.get?_push_of_some _ (hB b o e)) (Heap.get?_push_size _ rfl) fun v h' tk hP hk => ?_⟩
  exact hQ v h' tk hP fun b o hbw e => hk b o hbw (Nat.ne_of_lt (Heap.lt_size e)) (Heap.get?_push_of_some _ e)
end

theorem DpAll.get {K : PySem.W.Frag} {H : Hp} : ∀ {xs : List V} {ds : List PyData} {i : Nat} {x : V}, DpAll K H xs ds → xs[i]? = some x → ∃ d, ds[i]? = some d ∧ Dp K H x d
  | _, _, _, _, .nil, e => by simp at e
  | _, _, 0, _, .cons r _, e => by simp at e; subst e; exact ⟨_, rfl, r⟩
  | _, _, i + 1, x, .cons _ t, e => by
    obtain ⟨d, h1, h2⟩ := DpAll.get (i := i) (x := x) t (by simpa using e)
    exact ⟨d, by simpa using h1, h2⟩
theorem DpAll.length {K : PySem.W.Frag} {H : Hp} : ∀ {xs : List V} {ds : List PyData}, DpAll K H xs ds → xs.length = ds.length
  | _, _, .nil => rfl
  | _, _, .cons _ t => by rw [List.length_cons, List.length_cons, DpAll.length t]
theorem argBest_le (bt : Nat → Nat → Bool) : ∀ k, argBest bt k ≤ k
  | 0 => Nat.le_refl _
  | k + 1 => by
    have := argBest_le bt k
    simp only [argBest]
    split <;> omega
def bestD (ds : List PyData) : Nat := argBest (fun i j => PySem.W.dataLt (ds.getD i .none) (ds.getD j .none)) (ds.length - 1)
def rMinD (K : PySem.W.Frag) : List V → Hp → VK → Prop := fun vs H Q => ∃ (a : Addr) (xs : List V) (ds : List PyData), vs = [.ref a] ∧ SqL K H a xs ∧ DpAll K H xs ds ∧ 0 < ds.length ∧ (∀ d ∈ ds, ∀ e ∈ ds, PySem.W.alike d e = true) ∧ (∀ d ∈ ds, d ≠ .none ∧ d.depth ≤ 60) ∧
  ∀ v, xs[bestD ds]? = some v → Q v H
def rMinD2 (K : PySem.W.Frag) : List V → Hp → VK → Prop := fun vs H Q => ∃ (x y : V) (d e : PyData), vs = [x, y] ∧ Dp K H x d ∧ Dp K H y e ∧ (∀ z ∈ [d, e], ∀ z' ∈ [d, e], PySem.W.alike z z' = true) ∧ (∀ z ∈ [d, e], z ≠ .none ∧ z.depth ≤ 60) ∧
  Q (if PySem.W.dataLt e d = true then y else x) H
section
variable {X : Cx}
theorem cr_minD (hc : X.calm = true) (hu : X.A.units + 64 < cLine) : CallR X (.builtin "min") (rMinD X.K) := by
  intro pins s σ H vs us Q I r h
  obtain ⟨a, xs, ds, rfl, hs, ha, hne, hal, hnn, q⟩ := h
  obtain ⟨its, rv, hl, _⟩ := I.list hs
  rw [Vals.ref1 r]
  have hh := I.ok.hd hc
  have len1 : its.length = ds.length := rv.length.symm.trans (DpAll.length ha)
  refine min_walkB (iter_any hl.isList fun s₂ e st hlI => ?_)
  subst e
  have hlt : a < s.heap.objs.size := by obtain ⟨_, e, _⟩ := hl.isList; exact Heap.lt_size e
  refine ⟨_, _, _, _, _, _, fun i j => PySem.W.dataLt (ds.getD i .none) (ds.getD j .none), rfl, Walks.list (A := X.A.in1) hh _ a hlI its.toArray, st, fun b hb => ?_, by simpa [len1] using hne, fun b hb => ?_, fun b o e => Heap.get?_push_of_some _ e, ?_, fun v h' tk hP hk => ?_⟩
  · show b < (s.heap.push _).objs.size
    rw [Heap.size_push]
    rcases List.mem_cons.mp hb with rfl | hb
    · exact Nat.lt_succ_self _
    · rcases List.mem_cons.mp hb with rfl | hb
      · exact Nat.lt_succ_of_lt hlt
      · cases hb
  · rcases List.mem_cons.mp hb with rfl | hb
    · cases q : s.heap.get? s.heap.objs.size with
      | none => rfl
      | some o => exact absurd (Heap.lt_size q) (Nat.lt_irrefl _)
    · cases hb
  · intro i j vi vj s1 Q1 E1 hB hi hj hQ
    have rd : ∀ {i : Nat} {v : Value}, its.toArray[i]? = some v → ∃ d as, ds[i]? = some d ∧ Reads s.heap v d as := fun {i v} e => by
      have e' : its[i]? = some v := by simpa using e
      have hi' : i < its.length := (List.getElem?_eq_some_iff.mp e').1
      have hx' : i < xs.length := by rw [rv.length]; exact hi'
      obtain ⟨d, hd, hd2⟩ := DpAll.get ha (List.getElem?_eq_getElem hx')
      obtain ⟨w', hw, rw'⟩ := rv.get (List.getElem?_eq_getElem hx')
      rw [e'] at hw
      cases hw
      obtain ⟨as, ra⟩ := Dp.reads I d _ v hd2 rw'
      exact ⟨d, as, hd, ra⟩
    obtain ⟨d, as, hd, ra⟩ := rd hi
    obtain ⟨e, bs, he, rb⟩ := rd hj
    have md : d ∈ ds := List.mem_of_getElem? hd
    have me : e ∈ ds := List.mem_of_getElem? he
    have gd : ds.getD i .none = d := by rw [List.getD_eq_getElem?_getD, hd] <;> rfl
    have ge : ds.getD j .none = e := by rw [List.getD_eq_getElem?_getD, he] <;> rfl
    have hQ' : Q1 (.bool (PySem.W.dataLt d e)) s1 := by
      have z : Q1 (.bool (PySem.W.dataLt (ds.getD i .none) (ds.getD j .none))) s1 := hQ
      rw [gd, ge] at z
      exact z
    have hdep := (hnn d md).2
    have hm : min d.depth e.depth ≤ d.depth := Nat.min_le_left _ _
    exact PySem.W.rcLt_alike d e X.A.in1 s1 vi vj as bs (Reads.keeps hB ra) (Reads.keeps hB rb) (hal d md e me) (hnn d md).1 (by show X.A.units + 1 + min d.depth e.depth < cLine; omega) X.prog X.w E1 Q1 hQ'
  · have hP' : its.toArray[bestD ds]? = some v := by
      have z : its.toArray[argBest (fun i j => PySem.W.dataLt (ds.getD i .none) (ds.getD j .none)) (its.toArray.size - 1)]? = some v := hP
      rw [List.size_toArray, len1] at z
      exact z
    have e' : its[bestD ds]? = some v := by simpa using hP'
    have hi' : bestD ds < its.length := (List.getElem?_eq_some_iff.mp e').1
    have hx' : bestD ds < xs.length := by rw [rv.length]; exact hi'
    obtain ⟨w', hw, rw'⟩ := rv.get (List.getElem?_eq_getElem hx')
    rw [e'] at hw
    cases hw
    refine ⟨xs[bestD ds], H, I.kept fun b o eo => hk b o (fun hmem => ?_) (Heap.get?_push_of_some _ eo), rw', q _ (List.getElem?_eq_getElem hx')⟩
    rcases List.mem_cons.mp hmem with e1 | hmem
    · exact absurd (e1 ▸ Heap.lt_size eo) (Nat.lt_irrefl _)
    · cases hmem
theorem cr_minD2 (hc : X.calm = true) (hu : X.A.units + 64 < cLine) : CallR X (.builtin "min") (rMinD2 X.K) := by
  intro pins s σ H vs us Q I r h
  obtain ⟨x, y, d, e, rfl, hx, hy, hal, hnn, q⟩ := h
  obtain ⟨u, u2, rfl, r1, r2⟩ := vals2 r
  have hh := I.ok.hd hc
  obtain ⟨as, ra⟩ := Dp.reads I d x u hx r1
  obtain ⟨bs, rb⟩ := Dp.reads I e y u2 hy r2
  have hT : (s.heap.push { cls := .type "tuple", data := .seq #[u, u2] }).IsTuple s.heap.objs.size #[u, u2] := ⟨_, Heap.get?_push_size _ rfl, rfl, 0, rfl⟩
  refine min_twoB (wpAny_pyIter_tuple hT ?_)
  have hsz : (s.heap.push { cls := .type "tuple", data := .seq #[u, u2] }).objs.size = s.heap.objs.size + 1 := Heap.size_push ..
  have old2 : ∀ c o, s.heap.get? c = some o → ((s.heap.push { cls := .type "tuple", data := .seq #[u, u2] }).push { cls := .type "tuple_iterator", data := .fields #[.ref s.heap.objs.size, .int 0 0] }).get? c = some o := fun c o e => Heap.get?_push_of_some _ (Heap.get?_push_of_some _ e)
  have hsz2 : ∀ o2 : Obj, ((s.heap.push { cls := .type "tuple", data := .seq #[u, u2] }).push o2).objs.size = s.heap.objs.size + 2 := fun o2 => by rw [Heap.size_push, hsz]
  refine ⟨_, [_, s.heap.objs.size], [_], _, _, _, fun i j => PySem.W.dataLt ([d, e].getD i .none) ([d, e].getD j .none), rfl, Walks.tuple (A := X.A.in1) hh _ s.heap.objs.size (by rw [hsz]; exact Nat.ne_of_lt (Nat.lt_succ_self _)) #[u, u2],
    ⟨⟨_, Heap.get?_push_size _ rfl, rfl, rfl⟩, hT.push _⟩, fun c hc => ?_, by simp, fun b hb => ?_, old2, ?_, fun v h' tk hP hk => ?_⟩
  · show c < ((s.heap.push _).push _).objs.size
    rw [hsz2]
    rcases List.mem_cons.mp hc with rfl | hc
    · rw [hsz]; exact Nat.lt_succ_self _
    · rcases List.mem_cons.mp hc with rfl | hc
      · exact Nat.lt_succ_of_lt (Nat.lt_succ_self _)
      · cases hc
  · rcases List.mem_cons.mp hb with rfl | hb
    · rw [hsz]
      cases q : s.heap.get? (s.heap.objs.size + 1) with
      | none => rfl
      | some o => exact absurd (Nat.lt_of_succ_lt (Heap.lt_size q)) (Nat.lt_irrefl _)
    · cases hb
  · intro i j vi vj s1 Q1 E1 hB hi hj hQ
    have rd : ∀ {i : Nat} {v : Value}, (#[u, u2] : Array Value)[i]? = some v → ∃ as, [d, e].getD i .none ∈ [d, e] ∧ Reads s.heap v ([d, e].getD i .none) as := fun {i v} z => by
      match i, z with
      | 0, z => simp at z; subst z; exact ⟨as, by simp, ra⟩
      | 1, z => simp at z; subst z; exact ⟨bs, by simp, rb⟩
      | i + 2, z => simp at z
    obtain ⟨as1, m1, ra1⟩ := rd hi
    obtain ⟨as2, m2, ra2⟩ := rd hj
    have hdep := (hnn _ m1).2
    have hm : min ([d, e].getD i .none).depth ([d, e].getD j .none).depth ≤ ([d, e].getD i .none).depth := Nat.min_le_left _ _
    exact PySem.W.rcLt_alike _ _ X.A.in1 s1 vi vj as1 as2 (Reads.keeps hB ra1) (Reads.keeps hB ra2) (hal _ m1 _ m2) (hnn _ m1).1 (by show X.A.units + 1 + min ([d, e].getD i .none).depth ([d, e].getD j .none).depth < cLine; omega) X.prog X.w E1 Q1 hQ
  · have hP' : (#[u, u2] : Array Value)[argBest (fun i j => PySem.W.dataLt ([d, e].getD i .none) ([d, e].getD j .none)) 1]? = some v := hP
    have ab : argBest (fun i j => PySem.W.dataLt ([d, e].getD i .none) ([d, e].getD j .none)) 1 = if PySem.W.dataLt e d = true then 1 else 0 := rfl
    rw [ab] at hP'
    have hold : ∀ c o, s.heap.get? c = some o → h'.get? c = some o := fun c o eo => by
      refine hk c o (fun hmem => ?_) (old2 c o eo)
      rcases List.mem_cons.mp hmem with e1 | hmem
      · have := Heap.lt_size eo
        rw [e1, hsz] at this
        exact Nat.lt_irrefl _ (Nat.lt_of_succ_lt this)
      · cases hmem
    have q' : Q (if PySem.W.dataLt e d = true then y else x) H := q
    by_cases c : PySem.W.dataLt e d = true
    · rw [if_pos c] at hP' q'
      simp at hP'
      subst hP'
      exact ⟨y, H, I.kept hold, r2, q'⟩
    · rw [if_neg c] at hP' q'
      simp at hP'
      subst hP'
      exact ⟨x, H, I.kept hold, r1, q'⟩
end

/-! ### <=, >= of tuples of ints -/
def leI (xs ys : List Int) : Bool := Ob.lexAt (fun j => decide (xs.getD j 0 = ys.getD j 0)) (fun j => decide (xs.getD j 0 ≤ ys.getD j 0)) (decide (xs.length ≤ ys.length)) 0 (min xs.length ys.length)
def geI (xs ys : List Int) : Bool := Ob.lexAt (fun j => decide (xs.getD j 0 = ys.getD j 0)) (fun j => decide (xs.getD j 0 ≥ ys.getD j 0)) (decide (xs.length ≥ ys.length)) 0 (min xs.length ys.length)
def rGeT (K : PySem.W.Frag) : R2 := fun x y H Q => ∃ (a b : Addr) (ns ms : List Int), x = .ref a ∧ y = .ref b ∧ SqT K H a (ns.map V.int) ∧ SqT K H b (ms.map V.int) ∧ Q (.bl (geI ns ms)) H
theorem op_geT {X : Cx} (hu : X.A.units < cLine) : OpR X (compareOp .GtE) (rGeT X.K) := by
  intro pins s σ H x y v u Q I rx ry h
  obtain ⟨a, b, ns, ms, rfl, rfl, ha, hb, q⟩ := h
  cases rx
  cases ry
  obtain ⟨its, r1, p1, _⟩ := I.tuple ha
  obtain ⟨its2, r2, p2, _⟩ := I.tuple hb
  have i1 : IntsAre its ns := Vals.ints r1
  have i2 : IntsAre its2 ms := Vals.ints r2
  have e1 : its.toArray.size = ns.length := by rw [List.size_toArray]; exact i1.length
  have e2 : its2.toArray.size = ms.length := by rw [List.size_toArray]; exact i2.length
  have at1 : ∀ j (h1 : j < its.toArray.size), ∃ t, its.toArray[j] = .int (ns.getD j 0) t := fun j h1 => PyProof.Rows.IntsAre.int_at i1 _ _ (by simp at h1; simp [h1])
  have at2 : ∀ j (h1 : j < its2.toArray.size), ∃ t, its2.toArray[j] = .int (ms.getD j 0) t := fun j h1 => PyProof.Rows.IntsAre.int_at i2 _ _ (by simp at h1; simp [h1])
  have R := Ob.RcOp.tuples_ge (A := X.A) (s := s) (e := fun j => decide (ns.getD j 0 = ms.getD j 0)) (r := fun j => decide (ns.getD j 0 ≥ ms.getD j 0)) p1 p2 hu (fun j h1 h2 => by
    obtain ⟨t, et⟩ := at1 j h1
    obtain ⟨t', et'⟩ := at2 j h2
    rw [et, et']
    have z : (ns.getD j 0 == ms.getD j 0) = decide (ns.getD j 0 = ms.getD j 0) := by
      by_cases q : ns.getD j 0 = ms.getD j 0
      · rw [decide_eq_true q]; exact beq_iff_eq.mpr q
      · rw [decide_eq_false q]; exact beq_eq_false_iff_ne.mpr q
    rw [← z]
    exact SeqAt.EqAt.int_int _ _ _ _) (fun j h1 h2 _ => by
    obtain ⟨t, et⟩ := at1 j h1
    obtain ⟨t', et'⟩ := at2 j h2
    rw [et, et']
    exact Ob.RcOp.ge_int _ _ _ _)
  rw [e1, e2] at R
  have z : wpAny (model X.prog X.w) X.A (compareOp .GtE (.ref a) (.ref b)) (EP X pins σ Q) X.xe s := R X.prog X.w X.xe (EP X pins σ Q) ⟨.bl _, H, I, rfl, q⟩
  exact z
def rLeT' (K : PySem.W.Frag) : R2 := fun x y H Q => ∃ (a b : Addr) (ns ms : List Int), x = .ref a ∧ y = .ref b ∧ SqT K H a (ns.map V.int) ∧ SqT K H b (ms.map V.int) ∧ Q (.bl (leI ns ms)) H
theorem op_leT' {X : Cx} (hu : X.A.units < cLine) : OpR X (compareOp .LtE) (rLeT' X.K) := op_leT hu
end WD

set_option autoImplicit false
/-! The data layer: what expressions and statements make of data (PyData); the heap stands behind.
F: the frozen part of the heap H (its objects change no more); J: the one dict that others may change (the law's jar). -/
namespace WD
open PySem PySem.Spec PyProof.Rows L2 Evl
abbrev Dt := PyData
abbrev jarD : Dt := .dict []

def JarAt (a : Addr) (F H : Hp) : Prop := F a = none ∧ ∃ (l : Addr) (ns : List Int) (k more : Int),
  H a = some (.dK [(Sum.inr "draws", .ref l), (Sum.inr "at", .int k), (Sum.inr "more", .int more)]) ∧ F l = some (.lst (ns.map V.int)) ∧ 0 ≤ k ∧ 0 ≤ more ∧ more < 2147483629
def JOk (J : Option Addr) (F H : Hp) : Prop := ∀ a, J = some a → JarAt a F H

structure Step (J : Option Addr) (F H F2 H2 : Hp) : Prop where
  f : Ex F F2
  h : ∀ p o, J ≠ some p → H p = some o → H2 p = some o
  fh : Ex F2 H2
  own : ∀ p, F p = none → H p ≠ none → F2 p = none
  jar : JOk J F2 H2

section
variable {J : Option Addr} {F H F1 H1 F2 H2 : Hp}
theorem JOk.there {a : Addr} (h : JOk J F H) (e : J = some a) : H a ≠ none := by
  obtain ⟨_, l, ns, k, m, q, _⟩ := h a e
  rw [q]
  exact fun z => nomatch z
theorem Step.refl (e : Ex F H) (j : JOk J F H) : Step J F H F H := ⟨Ex.refl F, fun _ _ _ h => h, e, fun _ h _ => h, j⟩
theorem Step.trans (a : Step J F H F1 H1) (b : Step J F1 H1 F2 H2) : Step J F H F2 H2 := by
  refine ⟨a.f.trans b.f, fun p o hp h => b.h p o hp (a.h p o hp h), b.fh, fun p hf hh => b.own p (a.own p hf hh) ?_, b.jar⟩
  by_cases e : J = some p
  · exact a.jar.there e
  · cases q : H p with
    | none => exact absurd q hh
    | some o => rw [a.h p o e q]; exact fun z => nomatch z
/-- a new object, not frozen -/
theorem JOk.ext (j : JOk J F H) (h : ∀ a, J = some a → H2 a = H a) (f : Ex F F2) (n : ∀ a, J = some a → F2 a = none) : JOk J F2 H2 := fun a e => by
  obtain ⟨n0, l, ns, k, m, q, q2, r⟩ := j a e
  exact ⟨n a e, l, ns, k, m, (h a e).trans q, f _ _ q2, r⟩
theorem Step.free {p : Addr} (s : Step J F H F2 H2) (h : H2 p = none) : H p = none := by
  cases q : H p with
  | none => rfl
  | some o =>
    by_cases e : J = some p
    · exact absurd h (s.jar.there e)
    · rw [s.h p o e q] at h
      cases h
theorem Step.newH {p : Addr} {o : HO} (e : Ex F H) (j : JOk J F H) (h : H p = none) : Step J F H F (upd H p o) :=
  ⟨Ex.refl F, fun q u _ hq => Ex.new h q u hq, e.trans (Ex.new h), fun _ h _ => h, j.ext (fun a ea => upd_ne (fun z : a = p => j.there ea (by rw [z]; exact h))) (Ex.refl F) fun a ea => (j a ea).1⟩
/-- a new object, frozen -/
theorem Step.newF {p : Addr} {o : HO} (e : Ex F H) (j : JOk J F H) (h : H p = none) : Step J F H (upd F p o) (upd H p o) := by
  have hf : F p = none := fresh_back e h
  refine ⟨Ex.new hf, fun q u _ hq => Ex.new h q u hq, fun q u hq => ?_, fun q hq hh => ?_, j.ext (fun a ea => upd_ne (fun z : a = p => j.there ea (by rw [z]; exact h))) (Ex.new hf) fun a ea => ?_⟩
  · by_cases c : q = p
    · subst c; rw [upd_same] at hq ⊢; exact hq
    · rw [upd_ne c] at hq ⊢; exact e q u hq
  · rw [upd_ne (fun z : q = p => hh (by rw [z]; exact h))]; exact hq
  · rw [upd_ne (fun z : a = p => j.there ea (by rw [z]; exact h))]; exact (j a ea).1
end

/-! ### data -/
mutual
inductive Dd (J : Option Addr) (K : PySem.W.Frag) (F : Hp) : V → Dt → Prop
  | non : Dd J K F .non .none
  | bl (b : Bool) : Dd J K F (.bl b) (.bool b)
  | int (i : Int) : Dd J K F (.int i) (.int i)
  | str (x : Str) : Dd J K F (.str x) (.str x)
  | lst {a : Addr} {xs : List V} {ds : List Dt} : F a = some (.lst xs) → DdAll J K F xs ds → Dd J K F (.ref a) (.list ds)
  | tup {a : Addr} {xs : List V} {ds : List Dt} : TupZ K F a xs → DdAll J K F xs ds → Dd J K F (.ref a) (.tuple ds)
  | jar {a : Addr} : J = some a → Dd J K F (.ref a) (.dict [])
  | scr {a : Addr} {ns : List Int} : SqL K F a (ns.map V.int) → Dd J K F (.ref a) (.dict [(.none, .list (ns.map .int))])
inductive DdAll (J : Option Addr) (K : PySem.W.Frag) (F : Hp) : List V → List Dt → Prop
  | nil : DdAll J K F [] []
  | cons {v : V} {vs : List V} {d : Dt} {ds : List Dt} : Dd J K F v d → DdAll J K F vs ds → DdAll J K F (v :: vs) (d :: ds)
end
section
variable {J : Option Addr} {K : PySem.W.Frag} {F F2 H H2 : Hp}
theorem sqL_ext {a : Addr} {xs : List V} (e : Ex F F2) (h : SqL K F a xs) : SqL K F2 a xs := h.imp (Or.imp (e _ _) fun ⟨o, h⟩ => ⟨o, e _ _ h⟩) id
mutual
theorem Dd.ext (e : Ex F F2) : ∀ (d : Dt) (v : V), Dd J K F v d → Dd J K F2 v d
  | .none, _, h => by cases h; exact .non
  | .bool _, _, h => by cases h; exact .bl _
  | .int _, _, h => by cases h; exact .int _
  | .str _, _, h => by cases h; exact .str _
  | .list ds, _, h => by
    cases h with
    | lst h1 h2 => exact .lst (e _ _ h1) (DdAll.ext e ds _ h2)
  | .tuple ds, _, h => by
    cases h with
    | tup h1 h2 => exact .tup (h1.ext e) (DdAll.ext e ds _ h2)
  | .dict _, _, h => by
    cases h with
    | jar h1 => exact .jar h1
    | scr h1 => exact .scr (sqL_ext e h1)
theorem DdAll.ext (e : Ex F F2) : ∀ (ds : List Dt) (vs : List V), DdAll J K F vs ds → DdAll J K F2 vs ds
  | [], _, h => by cases h; exact .nil
  | d :: ds, _, h => by
    cases h with
    | cons h1 h2 => exact .cons (Dd.ext e d _ h1) (DdAll.ext e ds _ h2)
end
mutual
theorem Dd.dp (e : Ex F H) : ∀ (d : Dt) (v : V), d.canLay0 = true → Dd J K F v d → Dp K H v d
  | .none, _, _, h => by cases h; exact .non
  | .bool _, _, _, h => by cases h; exact .bl _
  | .int _, _, _, h => by cases h; exact .int _
  | .str _, _, _, h => by cases h; exact .str _
  | .list ds, _, c, h => by
    cases h with
    | lst h1 h2 => exact .lst (SqL.of (e _ _ h1)) (DdAll.dp e ds _ (by simpa [PyData.canLay0] using c) h2)
  | .tuple ds, _, c, h => by
    cases h with
    | tup h1 h2 => exact .tup (h1.ext e).sq (DdAll.dp e ds _ (by simpa [PyData.canLay0] using c) h2)
  | .dict _, _, c, _ => nomatch c
theorem DdAll.dp (e : Ex F H) : ∀ (ds : List Dt) (vs : List V), PyData.canLayAll0 ds = true → DdAll J K F vs ds → DpAll K H vs ds
  | [], _, _, h => by cases h; exact .nil
  | d :: ds, _, c, h => by
    have c' : d.canLay0 = true ∧ PyData.canLayAll0 ds = true := by simpa [PyData.canLayAll0] using c
    cases h with
    | cons h1 h2 => exact .cons (Dd.dp e d _ c'.1 h1) (DdAll.dp e ds _ c'.2 h2)
end
theorem DdAll.length : ∀ {vs : List V} {ds : List Dt}, DdAll J K F vs ds → vs.length = ds.length
  | _, _, .nil => rfl
  | _, _, .cons _ t => by rw [List.length_cons, List.length_cons, DdAll.length t]
theorem DdAll.get : ∀ {vs : List V} {ds : List Dt} {i : Nat} {d : Dt}, DdAll J K F vs ds → ds[i]? = some d → ∃ v, vs[i]? = some v ∧ Dd J K F v d
  | _, _, _, _, .nil, e => by simp at e
  | _, _, 0, _, .cons r _, e => by simp at e; subst e; exact ⟨_, rfl, r⟩
  | _, _, i + 1, d, .cons _ t, e => by
    obtain ⟨v, h1, h2⟩ := DdAll.get (i := i) (d := d) t (by simpa using e)
    exact ⟨v, by simpa using h1, h2⟩
theorem DdAll.getV : ∀ {vs : List V} {ds : List Dt} {i : Nat} {v : V}, DdAll J K F vs ds → vs[i]? = some v → ∃ d, ds[i]? = some d ∧ Dd J K F v d
  | _, _, _, _, .nil, e => by simp at e
  | _, _, 0, _, .cons r _, e => by simp at e; subst e; exact ⟨_, rfl, r⟩
  | _, _, i + 1, v, .cons _ t, e => by
    obtain ⟨d, h1, h2⟩ := DdAll.getV (i := i) (v := v) t (by simpa using e)
    exact ⟨d, by simpa using h1, h2⟩
theorem DdAll.append : ∀ {vs ws : List V} {ds es : List Dt}, DdAll J K F vs ds → DdAll J K F ws es → DdAll J K F (vs ++ ws) (ds ++ es)
  | _, _, _, _, .nil, h => h
  | _, _, _, _, .cons r t, h => .cons r (DdAll.append t h)
theorem DdAll.take : ∀ {vs : List V} {ds : List Dt} (n : Nat), DdAll J K F vs ds → DdAll J K F (vs.take n) (ds.take n)
  | _, _, 0, _ => by rw [List.take_zero, List.take_zero]; exact .nil
  | _, _, _ + 1, .nil => .nil
  | _, _, n + 1, .cons r t => .cons r (DdAll.take n t)
theorem DdAll.drop : ∀ {vs : List V} {ds : List Dt} (n : Nat), DdAll J K F vs ds → DdAll J K F (vs.drop n) (ds.drop n)
  | _, _, 0, r => r
  | _, _, _ + 1, .nil => .nil
  | _, _, n + 1, .cons _ t => DdAll.drop n t
theorem DdAll.set : ∀ {vs : List V} {ds : List Dt} {v : V} {d : Dt} (n : Nat), DdAll J K F vs ds → Dd J K F v d → DdAll J K F (vs.set n v) (ds.set n d)
  | _, _, _, _, _, .nil, _ => .nil
  | _, _, _, _, 0, .cons _ t, r => .cons r t
  | _, _, _, _, n + 1, .cons q t, r => .cons q (DdAll.set n t r)
theorem DdAll.rep {vs : List V} {ds : List Dt} (h : DdAll J K F vs ds) : ∀ n : Nat, DdAll J K F (List.replicate n vs).flatten (List.replicate n ds).flatten
  | 0 => .nil
  | n + 1 => by
    rw [List.replicate_succ, List.replicate_succ, List.flatten_cons, List.flatten_cons]
    exact DdAll.append h (DdAll.rep h n)
theorem DdAll.ints {vs : List V} : ∀ {ns : List Int}, DdAll J K F vs (ns.map .int) → vs = ns.map V.int := by
  intro ns
  induction ns generalizing vs with
  | nil => intro h; cases h; rfl
  | cons n ns ih =>
    intro h
    rw [List.map_cons] at h
    cases h with
    | cons h1 h2 =>
      cases h1
      rw [ih h2, List.map_cons]
theorem DdAll.of_ints : ∀ (ns : List Int), DdAll J K F (ns.map V.int) (ns.map .int)
  | [] => .nil
  | n :: ns => .cons (.int n) (DdAll.of_ints ns)
theorem DdAll.bools {vs : List V} : ∀ {ns : List Bool}, DdAll J K F vs (ns.map .bool) → vs = ns.map V.bl := by
  intro ns
  induction ns generalizing vs with
  | nil => intro h; cases h; rfl
  | cons n ns ih =>
    intro h
    rw [List.map_cons] at h
    cases h with
    | cons h1 h2 =>
      cases h1
      rw [ih h2, List.map_cons]

/-- a value seen as data: frozen, or a list of one's own -/
def Vw (J : Option Addr) (K : PySem.W.Frag) (F H : Hp) (v : V) (d : Dt) : Prop :=
  Dd J K F v d ∨ ∃ p xs ds, v = .ref p ∧ d = .list ds ∧ F p = none ∧ J ≠ some p ∧ H p = some (.lst xs) ∧ DdAll J K F xs ds
theorem Vw.step {v : V} {d : Dt} (s : Step J F H F2 H2) (h : Vw J K F H v d) : Vw J K F2 H2 v d := by
  rcases h with h | ⟨p, xs, ds, e1, e2, hf, hj, hh, ha⟩
  · exact .inl (h.ext s.f)
  · exact .inr ⟨p, xs, ds, e1, e2, s.own p hf (by rw [hh]; exact fun z => nomatch z), hj, s.h p _ hj hh, ha.ext s.f⟩
theorem Vw.dp {v : V} {d : Dt} (e : Ex F H) (c : d.canLay0 = true) (h : Vw J K F H v d) : Dp K H v d := by
  rcases h with h | ⟨p, xs, ds, rfl, rfl, hf, hj, hh, ha⟩
  · exact h.dp e d v c
  · exact .lst (SqL.of hh) (ha.dp e ds _ (by simpa [PyData.canLay0] using c))
theorem Vw.lst {v : V} {ds : List Dt} (e : Ex F H) (h : Vw J K F H v (.list ds)) : ∃ p xs, v = .ref p ∧ H p = some (.lst xs) ∧ DdAll J K F xs ds := by
  rcases h with h | ⟨p, xs, ds', rfl, e2, hf, hj, hh, ha⟩
  · cases h with
    | lst h1 h2 => exact ⟨_, _, rfl, e _ _ h1, h2⟩
  · cases e2
    exact ⟨p, xs, rfl, hh, ha⟩
theorem Vw.tup {v : V} {ds : List Dt} (e : Ex F H) (h : Vw J K F H v (.tuple ds)) : ∃ p xs, v = .ref p ∧ TupZ K H p xs ∧ DdAll J K F xs ds ∧ Dd J K F v (.tuple ds) := by
  rcases h with h | ⟨p, xs, ds', rfl, e2, hf, hj, hh, ha⟩
  · have h' := h
    cases h with
    | tup h1 h2 => exact ⟨_, _, rfl, h1.ext e, h2, h'⟩
  · cases e2
theorem Vw.int {v : V} {i : Int} (h : Vw J K F H v (.int i)) : v = .int i := by
  rcases h with h | ⟨p, xs, ds, rfl, e2, _⟩
  · cases h; rfl
  · cases e2
theorem Vw.str {v : V} {i : Str} (h : Vw J K F H v (.str i)) : v = .str i := by
  rcases h with h | ⟨p, xs, ds, rfl, e2, _⟩
  · cases h; rfl
  · cases e2
theorem Vw.bool {v : V} {i : Bool} (h : Vw J K F H v (.bool i)) : v = .bl i := by
  rcases h with h | ⟨p, xs, ds, rfl, e2, _⟩
  · cases h; rfl
  · cases e2
theorem Vw.non {v : V} (h : Vw J K F H v .none) : v = .non := by
  rcases h with h | ⟨p, xs, ds, rfl, e2, _⟩
  · cases h; rfl
  · cases e2
theorem Vw.not_non {v : V} {d : Dt} (h : Vw J K F H v d) (n : d ≠ .none) : v ≠ .non := by
  rcases h with h | ⟨p, xs, ds, rfl, e2, _⟩
  · intro z
    subst z
    cases h
    exact n rfl
  · intro z; cases z
inductive VwAll (J : Option Addr) (K : PySem.W.Frag) (F H : Hp) : List V → List Dt → Prop
  | nil : VwAll J K F H [] []
  | cons {v : V} {vs : List V} {d : Dt} {ds : List Dt} : Vw J K F H v d → VwAll J K F H vs ds → VwAll J K F H (v :: vs) (d :: ds)
theorem VwAll.step (s : Step J F H F2 H2) : ∀ {vs : List V} {ds : List Dt}, VwAll J K F H vs ds → VwAll J K F2 H2 vs ds
  | _, _, .nil => .nil
  | _, _, .cons h t => .cons (h.step s) (VwAll.step s t)
end

/-! ### the names -/
inductive Ent where
  | unk
  | val (d : Dt)
  | own (ds : List Dt)
abbrev Env' := List Ent
def EntOk (J : Option Addr) (K : PySem.W.Frag) (H0 F H : Hp) : Ent → Option V → Prop
  | .unk, _ => True
  | .val d, v => ∃ x, v = some x ∧ Dd J K F x d
  | .own ds, v => ∃ p xs, v = some (.ref p) ∧ F p = none ∧ H0 p = none ∧ J ≠ some p ∧ H p = some (.lst xs) ∧ DdAll J K F xs ds
structure EnvOk (J : Option Addr) (K : PySem.W.Frag) (H0 : Hp) (A : Env') (σ : L2.St) (F H : Hp) : Prop where
  len : σ.length = A.length
  at_ : ∀ (i : Nat) (e : Ent), A[i]? = some e → ∃ v, σ[i]? = some v ∧ EntOk J K H0 F H e v
section
variable {J : Option Addr} {K : PySem.W.Frag} {H0 F F2 H H2 : Hp} {A : Env'} {σ : L2.St}
theorem EntOk.step (s : Step J F H F2 H2) {e : Ent} {v : Option V} (h : EntOk J K H0 F H e v) : EntOk J K H0 F2 H2 e v := by
  cases e with
  | unk => trivial
  | val d => obtain ⟨x, e, h⟩ := h; exact ⟨x, e, h.ext s.f⟩
  | own ds =>
    obtain ⟨p, xs, e, h1, h2, h3, h4, h5⟩ := h
    exact ⟨p, xs, e, s.own p h1 (by rw [h4]; exact fun z => nomatch z), h2, h3, s.h p _ h3 h4, h5.ext s.f⟩
theorem EnvOk.step (s : Step J F H F2 H2) (h : EnvOk J K H0 A σ F H) : EnvOk J K H0 A σ F2 H2 :=
  ⟨h.len, fun i e q => let ⟨v, a, b⟩ := h.at_ i e q; ⟨v, a, b.step s⟩⟩
theorem EnvOk.set {i : Nat} {e : Ent} {v : Option V} (h : EnvOk J K H0 A σ F H) (q : EntOk J K H0 F H e v) : EnvOk J K H0 (A.set i e) (σ.set i v) F H := by
  refine ⟨by rw [List.length_set, List.length_set]; exact h.len, fun j e' he => ?_⟩
  by_cases c : i = j
  · subst c
    by_cases hi : i < A.length
    · rw [List.getElem?_set_self hi] at he
      cases he
      exact ⟨v, List.getElem?_set_self (by rw [h.len]; exact hi), q⟩
    · rw [List.getElem?_eq_none (by rw [List.length_set]; omega)] at he
      cases he
  · rw [List.getElem?_set_ne c] at he
    obtain ⟨w, a, b⟩ := h.at_ j e' he
    exact ⟨w, by rw [List.getElem?_set_ne c]; exact a, b⟩
end
/-- the state is as A says -/
structure InE (J : Option Addr) (K : PySem.W.Frag) (H0 : Hp) (A : Env') (σ : L2.St) (F H : Hp) : Prop where
  e : Ex F H
  j : JOk J F H
  n : EnvOk J K H0 A σ F H
theorem InE.step {J : Option Addr} {K : PySem.W.Frag} {H0 F F2 H H2 : Hp} {A : Env'} {σ : L2.St} (h : InE J K H0 A σ F H) (s : Step J F H F2 H2) : InE J K H0 A σ F2 H2 := ⟨s.fh, s.jar, h.n.step s⟩

/-! ### expressions -/
def EW (J : Option Addr) (K : PySem.W.Frag) (te : TE) (A : Env') (k : Dt → Prop) : Prop := ∀ H0 σ F H, InE J K H0 A σ F H → ∀ Q : VK, (∀ v d F2 H2, Step J F H F2 H2 → Dd J K F2 v d → k d → Q v H2) → te σ H Q
def EV (J : Option Addr) (K : PySem.W.Frag) (te : TE) (A : Env') (k : Dt → Prop) : Prop := ∀ H0 σ F H, InE J K H0 A σ F H → ∀ Q : VK, (∀ v d F2 H2, Step J F H F2 H2 → Vw J K F2 H2 v d → k d → Q v H2) → te σ H Q
def ET (J : Option Addr) (K : PySem.W.Frag) (tt : TT) (A : Env') (k : Bool → Prop) : Prop := ∀ H0 σ F H, InE J K H0 A σ F H → ∀ Q : Bool → Hp → Prop, (∀ b F2 H2, Step J F H F2 H2 → k b → Q b H2) → tt σ H Q
/-- a new list, one's own -/
def EF (J : Option Addr) (K : PySem.W.Frag) (te : TE) (A : Env') (k : List Dt → Prop) : Prop := ∀ H0 σ F H, InE J K H0 A σ F H → ∀ Q : VK, (∀ p xs ds F2 H2, Step J F H F2 H2 → H p = none → F2 p = none → J ≠ some p → H2 p = some (.lst xs) → DdAll J K F2 xs ds → k ds → Q (.ref p) H2) → te σ H Q
def EA (J : Option Addr) (K : PySem.W.Frag) (ta : TA) (A : Env') (k : List Dt → Prop) : Prop := ∀ H0 σ F H, InE J K H0 A σ F H → ∀ Q : List V → Hp → Prop, (∀ vs ds F2 H2, Step J F H F2 H2 → VwAll J K F2 H2 vs ds → k ds → Q vs H2) → ta σ H Q
def ED (J : Option Addr) (K : PySem.W.Frag) (ta : TA) (A : Env') (k : List Dt → Prop) : Prop := ∀ H0 σ F H, InE J K H0 A σ F H → ∀ Q : List V → Hp → Prop, (∀ vs ds F2 H2, Step J F H F2 H2 → DdAll J K F2 vs ds → k ds → Q vs H2) → ta σ H Q
/-- a two-place operation on data -/
def RD (J : Option Addr) (K : PySem.W.Frag) (r : R2) (x y : Dt) (k : Dt → Prop) : Prop := ∀ F H v w, Ex F H → JOk J F H → Vw J K F H v x → Vw J K F H w y → ∀ Q : VK, (∀ u d F2 H2, Step J F H F2 H2 → Dd J K F2 u d → k d → Q u H2) → r v w H Q
/-- the same where the answer is a list or a view -/
def RC (J : Option Addr) (K : PySem.W.Frag) (r : List V → Hp → VK → Prop) (ds : List Dt) (k : Dt → Prop) : Prop := ∀ F H vs, Ex F H → JOk J F H → VwAll J K F H vs ds → ∀ Q : VK, (∀ u d F2 H2, Step J F H F2 H2 → Dd J K F2 u d → k d → Q u H2) → r vs H Q
section
variable {J : Option Addr} {K : PySem.W.Frag} {A : Env'} {ta tb tc te : TE} {k : Dt → Prop} {r r' : R2} {x y : Dt}
theorem ev_of (h : EW J K te A k) : EV J K te A k := fun H0 σ F H I Q q => h H0 σ F H I Q fun v d F2 H2 s a b => q v d F2 H2 s (.inl a) b
theorem ew_mono {k' : Dt → Prop} (h : EW J K te A k) (m : ∀ d, k d → k' d) : EW J K te A k' := fun H0 σ F H I Q q => h H0 σ F H I Q fun v d F2 H2 s a b => q v d F2 H2 s a (m d b)
theorem ev_mono {k' : Dt → Prop} (h : EV J K te A k) (m : ∀ d, k d → k' d) : EV J K te A k' := fun H0 σ F H I Q q => h H0 σ F H I Q fun v d F2 H2 s a b => q v d F2 H2 s a (m d b)
theorem et_mono {tt : TT} {k k' : Bool → Prop} (h : ET J K tt A k) (m : ∀ d, k d → k' d) : ET J K tt A k' := fun H0 σ F H I Q q => h H0 σ F H I Q fun b F2 H2 s a => q b F2 H2 s (m b a)
theorem ew_var {i : Nat} {d : Dt} (h : A[i]? = some (.val d)) (c : k d) : EW J K (tVar i) A k := fun H0 σ F H I Q q => by
  obtain ⟨v, e, x, rfl, hx⟩ := I.n.at_ i _ h
  exact ⟨x, e, q x d F H (Step.refl I.e I.j) hx c⟩
theorem ev_own {i : Nat} {ds : List Dt} (h : A[i]? = some (.own ds)) (c : k (.list ds)) : EV J K (tVar i) A k := fun H0 σ F H I Q q => by
  obtain ⟨v, e, p, xs, rfl, h1, h2, h3, h4, h5⟩ := I.n.at_ i _ h
  exact ⟨.ref p, e, q _ _ F H (Step.refl I.e I.j) (.inr ⟨p, xs, ds, rfl, rfl, h1, h3, h4, h5⟩) c⟩
theorem ew_int {i : Int} (c : k (.int i)) : EW J K (tC (.int i)) A k := fun H0 σ F H I Q q => q _ _ F H (Step.refl I.e I.j) (.int i) c
theorem ew_str {i : Str} (c : k (.str i)) : EW J K (tC (.str i)) A k := fun H0 σ F H I Q q => q _ _ F H (Step.refl I.e I.j) (.str i) c
theorem ew_bl {i : Bool} (c : k (.bool i)) : EW J K (tC (.bl i)) A k := fun H0 σ F H I Q q => q _ _ F H (Step.refl I.e I.j) (.bl i) c
theorem ew_non (c : k .none) : EW J K (tC .non) A k := fun H0 σ F H I Q q => q _ _ F H (Step.refl I.e I.j) .non c
theorem ew_const {v : V} {d : Dt} (h : ∀ F, Dd J K F v d) (c : k d) : EW J K (tC v) A k := fun H0 σ F H I Q q => q _ _ F H (Step.refl I.e I.j) (h F) c
theorem ew_op (h : EV J K ta A fun x => EV J K tb A fun y => RD J K r x y k) : EW J K (tOp r ta tb) A k := fun H0 σ F H I Q q =>
  h H0 σ F H I _ fun v x F1 H1 s1 hv h1 => h1 H0 σ F1 H1 (I.step s1) _ fun w y F2 H2 s2 hw h2 => h2 F2 H2 v w s2.fh s2.jar (hv.step s2) hw Q fun u d F3 H3 s3 => q u d F3 H3 ((s1.trans s2).trans s3)
theorem rd_l (h : RD J K r x y k) : RD J K (fun a b H Q => r a b H Q ∨ r' a b H Q) x y k := fun F H v w e j hv hw Q q => .inl (h F H v w e j hv hw Q q)
theorem rd_r (h : RD J K r' x y k) : RD J K (fun a b H Q => r a b H Q ∨ r' a b H Q) x y k := fun F H v w e j hv hw Q q => .inr (h F H v w e j hv hw Q q)
theorem rd_I0 {g : Int → Int → V} {i j : Int} {d : Dt} (h : ∀ F, Dd J K F (g i j) d) (c : k d) : RD J K (rI0 g) (.int i) (.int j) k := fun F H v w e jj hv hw Q q => ⟨i, j, hv.int, hw.int, q _ d F H (Step.refl e jj) (h F) c⟩
theorem rd_I {C : Int → Int → Prop} {g : Int → Int → V} {i j : Int} {d : Dt} (hc : C i j) (h : ∀ F, Dd J K F (g i j) d) (c : k d) : RD J K (rI C g) (.int i) (.int j) k := fun F H v w e jj hv hw Q q => ⟨i, j, hv.int, hw.int, hc, q _ d F H (Step.refl e jj) (h F) c⟩
theorem ew_un {f : Int → Int} (h : EV J K ta A fun x => ∃ i, x = .int i ∧ k (.int (f i))) : EW J K (tUn (rU fun i => .int (f i)) ta) A k := fun H0 σ F H I Q q =>
  h H0 σ F H I _ fun v x F1 H1 s1 hv ⟨i, e, c⟩ => by
    subst e
    exact ⟨i, hv.int, q _ _ F1 H1 s1 (.int _) c⟩
/-- == of scalars -/
theorem rd_eqI {i j : Int} (c : k (.bool (decide (i = j)))) : RD J K rEq (.int i) (.int j) k := fun F H v w e jj hv hw Q q => by
  rw [hv.int, hw.int]
  refine ⟨rfl, ?_⟩
  have z : decide (V.int i = V.int j) = decide (i = j) := by
    by_cases h : i = j
    · rw [decide_eq_true h, h, decide_eq_true rfl]
    · rw [decide_eq_false h, decide_eq_false fun q => h (V.int.inj q)]
  rw [z]
  exact q _ _ F H (Step.refl e jj) (.bl _) c
theorem rd_neI {i j : Int} (c : k (.bool (!decide (i = j)))) : RD J K rNe (.int i) (.int j) k := fun F H v w e jj hv hw Q q => by
  rw [hv.int, hw.int]
  refine ⟨rfl, ?_⟩
  have z : decide (V.int i = V.int j) = decide (i = j) := by
    by_cases h : i = j
    · rw [decide_eq_true h, h, decide_eq_true rfl]
    · rw [decide_eq_false h, decide_eq_false fun q => h (V.int.inj q)]
  rw [z]
  exact q _ _ F H (Step.refl e jj) (.bl _) c
theorem rd_eqS {i j : Str} (c : k (.bool (decide (i = j)))) : RD J K rEq (.str i) (.str j) k := fun F H v w e jj hv hw Q q => by
  rw [hv.str, hw.str]
  refine ⟨rfl, ?_⟩
  have z : decide (V.str i = V.str j) = decide (i = j) := by
    by_cases h : i = j
    · rw [decide_eq_true h, h, decide_eq_true rfl]
    · rw [decide_eq_false h, decide_eq_false fun q => h (V.str.inj q)]
  rw [z]
  exact q _ _ F H (Step.refl e jj) (.bl _) c
/-- == of data -/
theorem rd_eqD (sx : SeqAt.shaped x = true) (sy : SeqAt.shaped y = true) (c : k (.bool (PyData.eqv x y))) : RD J K (rEqD K) x y k := fun F H v w e jj hv hw Q q =>
  ⟨x, y, hv.dp e (SeqAt.canLay_of_shaped sx), hw.dp e (SeqAt.canLay_of_shaped sy), sx, sy, q _ _ F H (Step.refl e jj) (.bl _) c⟩
theorem rd_isN_no (n : x ≠ .none) (c : k (.bool false)) : RD J K (fun x y H Q => y = .non ∧ Q (.bl (decide (x = .non))) H) x .none k := fun F H v w e jj hv hw Q q => by
  refine ⟨hw.non, ?_⟩
  rw [decide_eq_false (hv.not_non n)]
  exact q _ _ F H (Step.refl e jj) (.bl _) c
theorem rd_isN_yes (c : k (.bool true)) : RD J K (fun x y H Q => y = .non ∧ Q (.bl (decide (x = .non))) H) .none .none k := fun F H v w e jj hv hw Q q => by
  refine ⟨hw.non, ?_⟩
  rw [decide_eq_true hv.non]
  exact q _ _ F H (Step.refl e jj) (.bl _) c
theorem rd_isN (c : k (.bool (match x with | .none => true | _ => false))) : RD J K (fun x y H Q => y = .non ∧ Q (.bl (decide (x = .non))) H) x .none k := by
  cases x with
  | none => exact rd_isN_yes c
  | _ => exact rd_isN_no (fun z => nomatch z) c
theorem rd_notN (c : k (.bool (match x with | .none => false | _ => true))) : RD J K (fun x y H Q => y = .non ∧ Q (.bl (!decide (x = .non))) H) x .none k := fun F H v w e jj hv hw Q q => by
  refine ⟨hw.non, ?_⟩
  by_cases h : x = .none
  · subst h
    rw [decide_eq_true hv.non]
    exact q _ _ F H (Step.refl e jj) (.bl _) c
  · rw [decide_eq_false (hv.not_non h)]
    refine q _ _ F H (Step.refl e jj) (.bl _) ?_
    cases x <;> first | exact absurd rfl h | exact c
end
end WD

/-! The data layer: operators, tests, displays, slices, built-in calls -/
namespace WD
open PySem PySem.Spec PyProof.Rows L2 Evl

/-! ### the rules, by their unions -/
def rAddU (K : PySem.W.Frag) : R2 := fun x y H Q => rI0 (fun i j => .int (i + j)) x y H Q ∨ (rCat x y H Q ∨ rCatZ K x y H Q)
def rMulU (K : PySem.W.Frag) : R2 := fun x y H Q => rI CMul (fun i j => .int (i * j)) x y H Q ∨ (rRep x y H Q ∨ rRepZ K x y H Q)
def rEqU (K : PySem.W.Frag) : R2 := fun x y H Q => rEq x y H Q ∨ rEqD K x y H Q
def rLeU (K : PySem.W.Frag) : R2 := fun x y H Q => rI0 (fun i j => .bl (decide (i ≤ j))) x y H Q ∨ rLeT' K x y H Q
def rGeU (K : PySem.W.Frag) : R2 := fun x y H Q => rI0 (fun i j => .bl (decide (j ≤ i))) x y H Q ∨ rGeT K x y H Q
def rIxU (K : PySem.W.Frag) : R2 := fun x y H Q => rIxL K x y H Q ∨ rIxT K x y H Q
def rSlU (K : PySem.W.Frag) : V → Option Int → Option Int → Hp → VK → Prop := fun x l u H Q => rSlL K x l u H Q ∨ rSlZ K x l u H Q
section
variable {X : Cx}
variable {K : PySem.W.Frag}
theorem op_addU (e : X.K = K) : OpR X (binaryOp .Add) (rAddU K) := by subst e; exact op_add.or (op_cat.or op_catZ)
theorem op_mulU (e : X.K = K) : OpR X (binaryOp .Mult) (rMulU K) := by subst e; exact op_mul.or (op_rep.or op_repZ)
theorem op_eqU (e : X.K = K) (hu : X.A.units + 64 < cLine) : OpR X (compareOp .Eq) (rEqU K) := by subst e; exact op_eq.or (op_eqD hu)
theorem op_leU (e : X.K = K) (hu : X.A.units + 64 < cLine) : OpR X (compareOp .LtE) (rLeU K) := by subst e; exact op_le.or (op_leT' (by omega))
theorem op_geU (e : X.K = K) (hu : X.A.units + 64 < cLine) : OpR X (compareOp .GtE) (rGeU K) := by subst e; exact op_ge.or (op_geT (by omega))
theorem op_inU (e : X.K = K) : OpR X (compareOp .In) (rIn K false) := by subst e; exact op_in_seq
theorem op_ninU (e : X.K = K) : OpR X (compareOp .NotIn) (rIn K true) := by subst e; exact op_notIn_seq
theorem ix_U (e : X.K = K) : IxR X (rIxU K) := by subst e; exact ix_list.or ix_tup
theorem sl_U (e : X.K = K) : SlR X (rSlU K) := by subst e; exact sl_list.or sl_tupZ
theorem call_lenU (e : X.K = K) : CallR X (.builtin "len") (fun xs H Q => ∃ p ys, xs = [.ref p] ∧ (SqL K H p ys ∨ SqT K H p ys) ∧ Q (.int ys.length) H) := by subst e; exact call_len_seq
end

theorem small5 {n : Nat} (h : n ≤ 100000) : n ≤ sizeLine := Nat.le_trans h (by decide)
section
variable {J : Option Addr} {K : PySem.W.Frag} {A : Env'} {ta tb tc te : TE} {k : Dt → Prop} {r r' : R2} {x y : Dt}

theorem rd_add {i j : Int} (c : k (.int (i + j))) : RD J K (rAddU K) (.int i) (.int j) k := rd_l (rd_I0 (fun F => .int _) c)
theorem rd_sub {i j : Int} (c : k (.int (i - j))) : RD J K (rI0 fun i j => .int (i - j)) (.int i) (.int j) k := rd_I0 (fun F => .int _) c
theorem rd_mul {i j : Int} (h : CMul i j) (c : k (.int (i * j))) : RD J K (rMulU K) (.int i) (.int j) k := rd_l (rd_I h (fun F => .int _) c)
theorem rd_catL {ds es : List Dt} (hz : ds.length + es.length ≤ 100000) (c : k (.list (ds ++ es))) : RD J K (rAddU K) (.list ds) (.list es) k := rd_r (rd_l fun F H v w e j hv hw Q q => by
  obtain ⟨p, xs, rfl, hp, ha⟩ := hv.lst e
  obtain ⟨p2, ys, rfl, hp2, hb⟩ := hw.lst e
  refine ⟨p, p2, xs, ys, rfl, rfl, hp, hp2, small5 (by rw [ha.length, hb.length]; exact hz), fun n hn => ?_⟩
  have s := Step.newF (o := .lst (xs ++ ys)) e j hn
  exact q _ _ _ _ s (.lst upd_same ((ha.append hb).ext s.f)) c)
theorem rd_catZ {ds es : List Dt} (hz : ds.length + es.length ≤ 100000) (c : k (.tuple (ds ++ es))) : RD J K (rAddU K) (.tuple ds) (.tuple es) k := rd_r (rd_r fun F H v w e j hv hw Q q => by
  obtain ⟨p, xs, rfl, hp, ha, hd⟩ := hv.tup e
  obtain ⟨p2, ys, rfl, hp2, hb, hd2⟩ := hw.tup e
  refine ⟨p, p2, xs, ys, rfl, rfl, hp.sq, hp2.sq, small5 (by rw [ha.length, hb.length]; exact hz), fun h0 => ?_, fun _ h0 => ?_, fun _ _ n o to hn => ?_⟩
  · subst h0
    cases ha
    exact q _ _ F H (Step.refl e j) hd2 c
  · subst h0
    cases hb
    rw [List.append_nil] at c
    exact q _ _ F H (Step.refl e j) hd c
  · have s := Step.newF (o := .frz o (.tup (xs ++ ys))) e j hn
    exact q _ _ _ _ s (.tup (TupZ.new to) ((ha.append hb).ext s.f)) c)
theorem rd_repZ {ds : List Dt} {i : Int} (h0 : ds ≠ []) (h1 : 0 ≤ i) (h2 : i ≤ 1000) (h3 : ds.length ≤ 1000) (c : k (.tuple (List.replicate i.toNat ds).flatten)) : RD J K (rMulU K) (.tuple ds) (.int i) k := rd_r (rd_r fun F H v w e j hv hw Q q => by
  obtain ⟨p, xs, rfl, hp, ha, hd⟩ := hv.tup e
  have hn : xs ≠ [] := fun z => h0 (by subst z; cases ha; rfl)
  refine ⟨p, i, xs, rfl, hw.int, hp.sq, hn, h1, h2, by rw [ha.length]; exact h3, fun h => ?_, fun _ n o to hn => ?_⟩
  · subst h
    have z : (List.replicate (1 : Int).toNat ds).flatten = ds := by simp
    rw [z] at c
    exact q _ _ F H (Step.refl e j) hd c
  · have s := Step.newF (o := .frz o (.tup (List.replicate i.toNat xs).flatten)) e j hn
    exact q _ _ _ _ s (.tup (TupZ.new to) ((ha.rep _).ext s.f)) c)
theorem rd_ixL {ds : List Dt} {i : Int} {d : Dt} (h : atI ds i = some d) (c : k d) : RD J K (rIxU K) (.list ds) (.int i) k := rd_l fun F H v w e j hv hw Q q => by
  obtain ⟨p, xs, rfl, hp, ha⟩ := hv.lst e
  unfold atI at h
  obtain ⟨n, hn, hd⟩ := Option.bind_eq_some_iff.mp h
  obtain ⟨u, hu, hud⟩ := ha.get hd
  refine ⟨p, xs, i, u, rfl, hw.int, SqL.of hp, ?_, q u d F H (Step.refl e j) hud c⟩
  unfold atI
  rw [ha.length, hn]
  exact hu
theorem rd_ixT {ds : List Dt} {i : Int} {d : Dt} (h : atI ds i = some d) (c : k d) : RD J K (rIxU K) (.tuple ds) (.int i) k := rd_r fun F H v w e j hv hw Q q => by
  obtain ⟨p, xs, rfl, hp, ha, hd0⟩ := hv.tup e
  unfold atI at h
  obtain ⟨n, hn, hd⟩ := Option.bind_eq_some_iff.mp h
  obtain ⟨u, hu, hud⟩ := ha.get hd
  refine ⟨p, xs, i, u, rfl, hw.int, hp.sq, ?_, q u d F H (Step.refl e j) hud c⟩
  unfold atI
  rw [ha.length, hn]
  exact hu
theorem inV_ints {i : Int} : ∀ ns : List Int, inV (.int i) (ns.map V.int) = decide (i ∈ ns)
  | [] => by simp [inV]
  | n :: ns => by
    have ih := inV_ints (i := i) ns
    unfold inV at ih ⊢
    rw [List.map_cons, List.any_cons, ih]
    show ((n == i) || decide (i ∈ ns)) = decide (i ∈ n :: ns)
    by_cases h : n = i
    · subst h; simp
    · have h' : ¬ i = n := fun z => h z.symm
      simp [h, h']
theorem inV_strs {i : Str} : ∀ ns : List Str, inV (.str i) (ns.map V.str) = decide (i ∈ ns)
  | [] => by simp [inV]
  | n :: ns => by
    have ih := inV_strs (i := i) ns
    unfold inV at ih ⊢
    rw [List.map_cons, List.any_cons, ih]
    show ((n == i) || decide (i ∈ ns)) = decide (i ∈ n :: ns)
    by_cases h : n = i
    · subst h; simp
    · have h' : ¬ i = n := fun z => h z.symm
      simp [h, h']
theorem flat_ints (ns : List Int) : (ns.map V.int).all flatV = true := by rw [List.all_map]; exact List.all_eq_true.mpr fun _ _ => rfl
theorem flat_strs' (ns : List Str) : (ns.map V.str).all flatV = true := by rw [List.all_map]; exact List.all_eq_true.mpr fun _ _ => rfl
theorem DdAll.strs {F : Hp} {vs : List V} : ∀ {ns : List Str}, DdAll J K F vs (ns.map .str) → vs = ns.map V.str := by
  intro ns
  induction ns generalizing vs with
  | nil => intro h; cases h; rfl
  | cons n ns ih =>
    intro h
    rw [List.map_cons] at h
    cases h with
    | cons h1 h2 =>
      cases h1
      rw [ih h2, List.map_cons]
theorem rd_inI {neg : Bool} {i : Int} {ns : List Int} (c : k (.bool (if neg then !decide (i ∈ ns) else decide (i ∈ ns)))) : RD J K (rIn K neg) (.int i) (.list (ns.map .int)) k := fun F H v w e j hv hw Q q => by
  obtain ⟨p, xs, rfl, hp, ha⟩ := hw.lst e
  rw [hv.int]
  rw [ha.ints] at hp
  refine ⟨p, ns.map V.int, rfl, .inl (SqL.of hp), rfl, flat_ints ns, ?_⟩
  rw [inV_ints]
  exact q _ _ F H (Step.refl e j) (.bl _) c
theorem rd_inIT {neg : Bool} {i : Int} {ns : List Int} (c : k (.bool (if neg then !decide (i ∈ ns) else decide (i ∈ ns)))) : RD J K (rIn K neg) (.int i) (.tuple (ns.map .int)) k := fun F H v w e j hv hw Q q => by
  obtain ⟨p, xs, rfl, hp, ha, _⟩ := hw.tup e
  rw [hv.int]
  rw [ha.ints] at hp
  refine ⟨p, ns.map V.int, rfl, .inr hp.sq, rfl, flat_ints ns, ?_⟩
  rw [inV_ints]
  exact q _ _ F H (Step.refl e j) (.bl _) c
theorem rd_inS {neg : Bool} {i : Str} {ns : List Str} (c : k (.bool (if neg then !decide (i ∈ ns) else decide (i ∈ ns)))) : RD J K (rIn K neg) (.str i) (.list (ns.map .str)) k := fun F H v w e j hv hw Q q => by
  obtain ⟨p, xs, rfl, hp, ha⟩ := hw.lst e
  rw [hv.str]
  rw [ha.strs] at hp
  refine ⟨p, ns.map V.str, rfl, .inl (SqL.of hp), rfl, flat_strs' ns, ?_⟩
  rw [inV_strs]
  exact q _ _ F H (Step.refl e j) (.bl _) c
theorem rd_leT {ns ms : List Int} (c : k (.bool (leI ns ms))) : RD J K (rLeU K) (.tuple (ns.map .int)) (.tuple (ms.map .int)) k := rd_r fun F H v w e j hv hw Q q => by
  obtain ⟨p, xs, rfl, hp, ha, _⟩ := hv.tup e
  obtain ⟨p2, ys, rfl, hp2, hb, _⟩ := hw.tup e
  rw [ha.ints] at hp
  rw [hb.ints] at hp2
  exact ⟨p, p2, ns, ms, rfl, rfl, hp.sq, hp2.sq, q _ _ F H (Step.refl e j) (.bl _) c⟩
theorem rd_geT {ns ms : List Int} (c : k (.bool (geI ns ms))) : RD J K (rGeU K) (.tuple (ns.map .int)) (.tuple (ms.map .int)) k := rd_r fun F H v w e j hv hw Q q => by
  obtain ⟨p, xs, rfl, hp, ha, _⟩ := hv.tup e
  obtain ⟨p2, ys, rfl, hp2, hb, _⟩ := hw.tup e
  rw [ha.ints] at hp
  rw [hb.ints] at hp2
  exact ⟨p, p2, ns, ms, rfl, rfl, hp.sq, hp2.sq, q _ _ F H (Step.refl e j) (.bl _) c⟩
theorem rd_le {i j : Int} (c : k (.bool (decide (i ≤ j)))) : RD J K (rLeU K) (.int i) (.int j) k := rd_l (rd_I0 (fun F => .bl _) c)
theorem rd_ge {i j : Int} (c : k (.bool (decide (j ≤ i)))) : RD J K (rGeU K) (.int i) (.int j) k := rd_l (rd_I0 (fun F => .bl _) c)
theorem rd_lt {i j : Int} (c : k (.bool (decide (i < j)))) : RD J K (rI0 fun i j => .bl (decide (i < j))) (.int i) (.int j) k := rd_I0 (fun F => .bl _) c
theorem rd_gt {i j : Int} (c : k (.bool (decide (j < i)))) : RD J K (rI0 fun i j => .bl (decide (j < i))) (.int i) (.int j) k := rd_I0 (fun F => .bl _) c
theorem rd_eq {i j : Int} (c : k (.bool (decide (i = j)))) : RD J K (rEqU K) (.int i) (.int j) k := rd_l (rd_eqI c)
theorem rd_eqs {i j : Str} (c : k (.bool (decide (i = j)))) : RD J K (rEqU K) (.str i) (.str j) k := rd_l (rd_eqS c)
theorem rd_eqd (sx : SeqAt.shaped x = true) (sy : SeqAt.shaped y = true) (c : k (.bool (PyData.eqv x y))) : RD J K (rEqU K) x y k := rd_r (rd_eqD sx sy c)

/-! ### slices -/
def EO (J : Option Addr) (K : PySem.W.Frag) (to : TO) (A : Env') (k : Option Int → Prop) : Prop := ∀ H0 σ F H, InE J K H0 A σ F H → ∀ Q : Option Int → Hp → Prop, (∀ o F2 H2, Step J F H F2 H2 → k o → Q o H2) → to σ H Q
theorem eo_none {ko : Option Int → Prop} (c : ko none) : EO J K tNoPart A ko := fun H0 σ F H I Q q => q none F H (Step.refl I.e I.j) c
theorem eo_some {ko : Option Int → Prop} (h : EV J K te A fun d => ∃ i, d = .int i ∧ ko (some i)) : EO J K (tPart te) A ko := fun H0 σ F H I Q q => h H0 σ F H I _ fun v d F1 H1 s1 hv ⟨i, e, c⟩ => by
  subst e
  exact ⟨i, hv.int, q _ F1 H1 s1 c⟩
def cutD {α : Type} (xs : List α) (lo hi : Option Int) : List α := (xs.drop (HT.sIx xs.length 0 lo)).take (HT.sIx xs.length xs.length hi - HT.sIx xs.length 0 lo)
theorem cutD_whole {α : Type} {xs : List α} {lo hi : Option Int} (h : HT.sIx xs.length 0 lo = 0 ∧ HT.sIx xs.length xs.length hi = xs.length) : cutD xs lo hi = xs := by
  unfold cutD
  rw [h.1, h.2]
  simp
theorem ew_sl {tl th : TO} (h : EV J K te A fun x => EO J K tl A fun lo => EO J K th A fun hi => ∃ ds, (x = .list ds ∧ k (.list (cutD ds lo hi))) ∨ (x = .tuple ds ∧ k (.tuple (cutD ds lo hi)))) :
    EW J K (tSl (rSlU K) te tl th) A k := fun H0 σ F H I Q q => h H0 σ F H I _ fun v d F1 H1 s1 hv h1 => h1 H0 σ F1 H1 (I.step s1) _ fun lo F2 H2 s2 h2 => h2 H0 σ F2 H2 ((I.step s1).step s2) _ fun hi F3 H3 s3 h3 => by
  obtain ⟨ds, h3⟩ := h3
  have hv3 := (hv.step s2).step s3
  have s123 := (s1.trans s2).trans s3
  rcases h3 with ⟨rfl, c⟩ | ⟨rfl, c⟩
  · obtain ⟨p, xs, rfl, hp, ha⟩ := hv3.lst s3.fh
    refine .inl ⟨p, xs, rfl, SqL.of hp, fun n hn => ?_⟩
    have s := Step.newF (o := .lst (cutV xs lo hi)) s3.fh s3.jar hn
    refine q _ _ _ _ (s123.trans s) (.lst upd_same (DdAll.ext s.f _ _ ?_)) c
    unfold cutV cutD
    rw [ha.length]
    exact (ha.drop _).take _
  · obtain ⟨p, xs, rfl, hp, ha, hd⟩ := hv3.tup s3.fh
    refine .inr ⟨p, xs, rfl, hp.sq, fun hw => ?_, fun hw n o to hn => ?_⟩
    · rw [ha.length] at hw
      rw [cutD_whole hw] at c
      exact q _ _ _ _ s123 hd c
    · have s := Step.newF (o := .frz o (.tup (cutV xs lo hi))) s3.fh s3.jar hn
      refine q _ _ _ _ (s123.trans s) (.tup (TupZ.new to) (DdAll.ext s.f _ _ ?_)) c
      unfold cutV cutD
      rw [ha.length]
      exact (ha.drop _).take _

/-! ### tests -/
variable {kb : Bool → Prop} {t u : TT}
theorem et_test (h : EV J K te A fun d => ∃ b, d = .bool b ∧ kb b) : ET J K (tTest te) A kb := fun H0 σ F H I Q q => h H0 σ F H I _ fun v d F1 H1 s1 hv ⟨b, e, c⟩ => by
  subst e
  exact ⟨b, hv.bool, q b F1 H1 s1 c⟩
theorem et_B (h : EV J K te A fun d => ∃ b, d = .bool b ∧ kb b) : ET J K (tB te) A kb := fun H0 σ F H I Q q => h H0 σ F H I _ fun v d F1 H1 s1 hv ⟨b, e, c⟩ => by
  subst e
  exact ⟨b, hv.bool, q b F1 H1 s1 c⟩
theorem et_and (h : ET J K t A fun b => if b = true then ET J K u A kb else kb false) : ET J K (tAnd t u) A kb := fun H0 σ F H I Q q => h H0 σ F H I _ fun b F1 H1 s1 h1 => by
  cases b with
  | true =>
    show u σ H1 Q
    exact h1 H0 σ F1 H1 (I.step s1) Q fun b F2 H2 s2 => q b F2 H2 (s1.trans s2)
  | false =>
    show Q false H1
    exact q false F1 H1 s1 h1
theorem et_or (h : ET J K t A fun b => if b = true then kb true else ET J K u A kb) : ET J K (tOr t u) A kb := fun H0 σ F H I Q q => h H0 σ F H I _ fun b F1 H1 s1 h1 => by
  cases b with
  | true =>
    show Q true H1
    exact q true F1 H1 s1 h1
  | false =>
    show u σ H1 Q
    exact h1 H0 σ F1 H1 (I.step s1) Q fun b F2 H2 s2 => q b F2 H2 (s1.trans s2)
theorem et_not (h : ET J K t A fun b => kb (!b)) : ET J K (tNot t) A kb := fun H0 σ F H I Q q => h H0 σ F H I _ fun b F1 H1 s1 h1 => q (!b) F1 H1 s1 h1
theorem ew_andV (h : EV J K ta A fun d => ∃ b, d = .bool b ∧ if b = true then EW J K tb A k else k (.bool false)) : EW J K (tAndV ta tb) A k := fun H0 σ F H I Q q => h H0 σ F H I _ fun v d F1 H1 s1 hv ⟨b, e, c⟩ => by
  subst e
  refine ⟨b, hv.bool, ?_⟩
  cases b with
  | true =>
    show tb σ H1 Q
    exact c H0 σ F1 H1 (I.step s1) Q fun v d F2 H2 s2 => q v d F2 H2 (s1.trans s2)
  | false =>
    show Q (.bl false) H1
    exact q _ _ F1 H1 s1 (.bl false) c
theorem ew_orV (h : EV J K ta A fun d => ∃ b, d = .bool b ∧ if b = true then k (.bool true) else EW J K tb A k) : EW J K (tOrV ta tb) A k := fun H0 σ F H I Q q => h H0 σ F H I _ fun v d F1 H1 s1 hv ⟨b, e, c⟩ => by
  subst e
  refine ⟨b, hv.bool, ?_⟩
  cases b with
  | false =>
    show tb σ H1 Q
    exact c H0 σ F1 H1 (I.step s1) Q fun v d F2 H2 s2 => q v d F2 H2 (s1.trans s2)
  | true =>
    show Q (.bl true) H1
    exact q _ _ F1 H1 s1 (.bl true) c
theorem ew_notV (h : EV J K ta A fun d => ∃ b, d = .bool b ∧ k (.bool (!b))) : EW J K (tNotV ta) A k := fun H0 σ F H I Q q => h H0 σ F H I _ fun v d F1 H1 s1 hv ⟨b, e, c⟩ => by
  subst e
  exact ⟨b, hv.bool, q _ _ F1 H1 s1 (.bl _) c⟩
theorem ew_if (h : ET J K t A fun b => if b = true then EW J K ta A k else EW J K tb A k) : EW J K (tIf t ta tb) A k := fun H0 σ F H I Q q => h H0 σ F H I _ fun b F1 H1 s1 c => by
  cases b with
  | true =>
    show ta σ H1 Q
    exact c H0 σ F1 H1 (I.step s1) Q fun v d F2 H2 s2 => q v d F2 H2 (s1.trans s2)
  | false =>
    show tb σ H1 Q
    exact c H0 σ F1 H1 (I.step s1) Q fun v d F2 H2 s2 => q v d F2 H2 (s1.trans s2)
theorem ew_chain (h : EV J K ta A fun x => EV J K tb A fun y => RD J K r x y fun d => ∃ b, d = .bool b ∧ if b = true then EV J K tc A fun z => RD J K r' y z k else k (.bool false)) :
    EW J K (tChain r r' ta tb tc) A k := fun H0 σ F H I Q q => h H0 σ F H I _ fun v x F1 H1 s1 hv h1 => h1 H0 σ F1 H1 (I.step s1) _ fun w y F2 H2 s2 hw h2 => h2 F2 H2 v w s2.fh s2.jar (hv.step s2) hw _ fun u d F3 H3 s3 hu ⟨b, e, c⟩ => by
  subst e
  have s123 := (s1.trans s2).trans s3
  cases hu
  refine ⟨b, rfl, ?_⟩
  cases b with
  | true =>
    show tc σ H3 _
    exact c H0 σ F3 H3 (I.step s123) _ fun z zd F4 H4 s4 hz h4 => h4 F4 H4 w z s4.fh s4.jar ((hw.step s3).step s4) hz Q fun u d F5 H5 s5 => q u d F5 H5 ((s123.trans s4).trans s5)
  | false =>
    show Q (.bl false) H3
    exact q _ _ F3 H3 s123 (.bl false) c

/-! ### arguments, displays, calls -/
variable {tr ts : TA} {kl : List Dt → Prop}
theorem ea_nil (c : kl []) : EA J K tNil A kl := fun H0 σ F H I Q q => q [] [] F H (Step.refl I.e I.j) .nil c
theorem ea_cons (h : EV J K te A fun d => EA J K tr A fun ds => kl (d :: ds)) : EA J K (tCons te tr) A kl := fun H0 σ F H I Q q => h H0 σ F H I _ fun v d F1 H1 s1 hv h1 => h1 H0 σ F1 H1 (I.step s1) _ fun vs ds F2 H2 s2 hvs c => q _ _ F2 H2 (s1.trans s2) (.cons (hv.step s2) hvs) c
theorem ed_nil (c : kl []) : ED J K tNil A kl := fun H0 σ F H I Q q => q [] [] F H (Step.refl I.e I.j) .nil c
theorem ed_cons (h : EW J K te A fun d => ED J K tr A fun ds => kl (d :: ds)) : ED J K (tCons te tr) A kl := fun H0 σ F H I Q q => h H0 σ F H I _ fun v d F1 H1 s1 hv h1 => h1 H0 σ F1 H1 (I.step s1) _ fun vs ds F2 H2 s2 hvs c => q _ _ F2 H2 (s1.trans s2) (.cons (hv.ext s2.f) hvs) c
theorem ew_tup (h : ED J K tr A fun ds => ds.length ≤ 100000 ∧ k (.tuple ds)) : EW J K (tTupZ tr) A k := fun H0 σ F H I Q q => h H0 σ F H I _ fun vs ds F1 H1 s1 hvs ⟨hz, c⟩ => by
  refine ⟨small5 (by rw [hvs.length]; exact hz), fun p o to hp => ?_⟩
  have s := Step.newF (o := .frz o (.tup vs)) s1.fh s1.jar hp
  exact q _ _ _ _ (s1.trans s) (.tup (TupZ.new to) (hvs.ext s.f)) c
theorem ew_lst (h : ED J K tr A fun ds => ds.length ≤ 100000 ∧ k (.list ds)) : EW J K (tLst tr) A k := fun H0 σ F H I Q q => h H0 σ F H I _ fun vs ds F1 H1 s1 hvs ⟨hz, c⟩ => by
  refine ⟨small5 (by rw [hvs.length]; exact hz), fun p hp => ?_⟩
  have s := Step.newF (o := .lst vs) s1.fh s1.jar hp
  exact q _ _ _ _ (s1.trans s) (.lst upd_same (hvs.ext s.f)) c
theorem ef_lst (h : ED J K tr A fun ds => ds.length ≤ 100000 ∧ kl ds) : EF J K (tLst tr) A kl := fun H0 σ F H I Q q => h H0 σ F H I _ fun vs ds F1 H1 s1 hvs ⟨hz, c⟩ => by
  refine ⟨small5 (by rw [hvs.length]; exact hz), fun p hp => ?_⟩
  have s := Step.newH (o := .lst vs) s1.fh s1.jar hp
  exact q p vs ds _ _ (s1.trans s) (s1.free hp) (fresh_back s1.fh hp) (fun z => s1.jar.there z hp) upd_same (hvs.ext s.f) c
/-- [d, ..] * n, a new list of one's own -/
theorem ef_rep (h : EV J K ta A fun x => EV J K tb A fun y => ∃ ds n, x = .list ds ∧ y = .int n ∧ 0 ≤ n ∧ n ≤ 1000 ∧ ds.length ≤ 100 ∧ kl (List.replicate n.toNat ds).flatten) : EF J K (tOp (rMulU K) ta tb) A kl := fun H0 σ F H I Q q =>
  h H0 σ F H I _ fun v x F1 H1 s1 hv h1 => h1 H0 σ F1 H1 (I.step s1) _ fun w y F2 H2 s2 hw ⟨ds, n, e1, e2, h0, hn, hz, c⟩ => by
  subst e1 e2
  obtain ⟨p, xs, rfl, hp, ha⟩ := (hv.step s2).lst s2.fh
  refine .inr (.inl ⟨p, n, xs, rfl, hw.int, hp, by omega, by omega, ?_, fun q' hq => ?_⟩)
  · rw [ha.length, sizeLine_eq]
    have : ds.length * n.toNat ≤ 100 * 1000 := Nat.mul_le_mul hz (by omega)
    omega
  · have s := Step.newH (o := .lst (List.replicate n.toNat xs).flatten) s2.fh s2.jar hq
    have s12 := s1.trans s2
    exact q q' _ _ _ _ (s12.trans s) (s12.free hq) (fresh_back s2.fh hq) (fun z => s2.jar.there z hq) upd_same ((ha.rep _).ext s.f) c
theorem ew_ofF (h : EF J K te A fun ds => k (.list ds)) : EW J K te A k := fun H0 σ F H I Q q => h H0 σ F H I _ fun p xs ds F2 H2 s hp hf hj hh ha c => by
  have e2 : Ex F2 (upd F2 p (.lst xs)) := Ex.new hf
  refine q (.ref p) (.list ds) (upd F2 p (.lst xs)) H2 ⟨s.f.trans e2, s.h, fun a o ho => ?_, fun a h1 h2 => ?_, s.jar.ext (fun _ _ => rfl) e2 fun a ea => ?_⟩ (.lst upd_same (ha.ext e2)) c
  · by_cases z : a = p
    · subst z; rw [upd_same] at ho; cases ho; exact hh
    · rw [upd_ne z] at ho; exact s.fh a o ho
  · rw [upd_ne (fun z : a = p => h2 (by rw [z]; exact hp))]; exact s.own a h1 h2
  · rw [upd_ne (fun z : a = p => hj (by rw [← z]; exact ea))]; exact (s.jar a ea).1
theorem ew_cb {rr : List V → Hp → VK → Prop} (h : EA J K tr A fun ds => RC J K rr ds k) : EW J K (tCB rr tr) A k := fun H0 σ F H I Q q => h H0 σ F H I _ fun vs ds F1 H1 s1 hvs c => c F1 H1 vs s1.fh s1.jar hvs Q fun u d F2 H2 s2 => q u d F2 H2 (s1.trans s2)
theorem rc_l {r1 r2 : List V → Hp → VK → Prop} {ds : List Dt} (h : RC J K r1 ds k) : RC J K (fun xs H Q => r1 xs H Q ∨ r2 xs H Q) ds k := fun F H vs e j hv Q q => .inl (h F H vs e j hv Q q)
theorem rc_r {r1 r2 : List V → Hp → VK → Prop} {ds : List Dt} (h : RC J K r2 ds k) : RC J K (fun xs H Q => r1 xs H Q ∨ r2 xs H Q) ds k := fun F H vs e j hv Q q => .inr (h F H vs e j hv Q q)
section
variable {F H : Hp}
theorem VwAll.one {vs : List V} {d : Dt} (h : VwAll J K F H vs [d]) : ∃ v, vs = [v] ∧ Vw J K F H v d := by
  cases h with
  | cons a t => cases t; exact ⟨_, rfl, a⟩
theorem VwAll.two {vs : List V} {d e : Dt} (h : VwAll J K F H vs [d, e]) : ∃ v w, vs = [v, w] ∧ Vw J K F H v d ∧ Vw J K F H w e := by
  cases h with
  | cons a t =>
    cases t with
    | cons b t => cases t; exact ⟨_, _, rfl, a, b⟩
end
theorem rc_abs {i : Int} (c : k (.int (if i < 0 then -i else i))) : RC J K (fun xs H Q => ∃ i, xs = [.int i] ∧ Q (.int (if i < 0 then -i else i)) H) [.int i] k := fun F H vs e j hv Q q => by
  obtain ⟨v, rfl, h⟩ := hv.one
  exact ⟨i, by rw [h.int], q _ _ F H (Step.refl e j) (.int _) c⟩
theorem rc_lenL {ds : List Dt} (c : k (.int (ds.length : Nat))) : RC J K (fun xs H Q => ∃ p ys, xs = [.ref p] ∧ (SqL K H p ys ∨ SqT K H p ys) ∧ Q (.int ys.length) H) [.list ds] k := fun F H vs e j hv Q q => by
  obtain ⟨v, rfl, h⟩ := hv.one
  obtain ⟨p, xs, rfl, hp, ha⟩ := h.lst e
  refine ⟨p, xs, rfl, .inl (SqL.of hp), ?_⟩
  rw [ha.length]
  exact q _ _ F H (Step.refl e j) (.int _) c
theorem rc_lenT {ds : List Dt} (c : k (.int (ds.length : Nat))) : RC J K (fun xs H Q => ∃ p ys, xs = [.ref p] ∧ (SqL K H p ys ∨ SqT K H p ys) ∧ Q (.int ys.length) H) [.tuple ds] k := fun F H vs e j hv Q q => by
  obtain ⟨v, rfl, h⟩ := hv.one
  obtain ⟨p, xs, rfl, hp, ha, _⟩ := h.tup e
  refine ⟨p, xs, rfl, .inr hp.sq, ?_⟩
  rw [ha.length]
  exact q _ _ F H (Step.refl e j) (.int _) c
theorem rc_all {bs : List Bool} (c : k (.bool (bs.all id))) : RC J K (rAll K) [.list (bs.map .bool)] k := fun F H vs e j hv Q q => by
  obtain ⟨v, rfl, h⟩ := hv.one
  obtain ⟨p, xs, rfl, hp, ha⟩ := h.lst e
  rw [ha.bools] at hp
  exact ⟨p, bs, rfl, SqL.of hp, q _ _ F H (Step.refl e j) (.bl _) c⟩
theorem rc_sum {ns : List Int} (c : k (.int ns.sum)) : RC J K (rSum K) [.list (ns.map .int)] k := fun F H vs e j hv Q q => by
  obtain ⟨v, rfl, h⟩ := hv.one
  obtain ⟨p, xs, rfl, hp, ha⟩ := h.lst e
  rw [ha.ints] at hp
  exact ⟨p, ns, rfl, SqL.of hp, q _ _ F H (Step.refl e j) (.int _) c⟩
theorem rc_max {ns : List Int} (h0 : 0 < ns.length) (c : ∀ m, m ∈ ns → (∀ y, y ∈ ns → y ≤ m) → k (.int m)) : RC J K (rMax K) [.list (ns.map .int)] k := fun F H vs e j hv Q q => by
  obtain ⟨v, rfl, h⟩ := hv.one
  obtain ⟨p, xs, rfl, hp, ha⟩ := h.lst e
  rw [ha.ints] at hp
  exact ⟨p, ns, rfl, SqL.of hp, h0, fun m h1 h2 => q _ _ F H (Step.refl e j) (.int _) (c m h1 h2)⟩
theorem rc_max2 {i l : Int} (c : k (.int (if l > i then l else i))) : RC J K (fun xs H Q => ∃ i j, xs = [.int i, .int j] ∧ Q (.int (if j > i then j else i)) H) [.int i, .int l] k := fun F H vs e j hv Q q => by
  obtain ⟨v, w, rfl, h1, h2⟩ := hv.two
  exact ⟨i, l, by rw [h1.int, h2.int], q _ _ F H (Step.refl e j) (.int _) c⟩
theorem rc_int {b : Bool} (c : k (.int (if b then 1 else 0))) : RC J K (fun xs H Q => (∃ i, xs = [.int i] ∧ Q (.int i) H) ∨ ∃ k, xs = [.bl k] ∧ Q (.int (if k then 1 else 0)) H) [.bool b] k := fun F H vs e j hv Q q => by
  obtain ⟨v, rfl, h⟩ := hv.one
  exact .inr ⟨b, by rw [h.bool], q _ _ F H (Step.refl e j) (.int _) c⟩
theorem rc_sorted {ns : List Int} (h64 : ns.length < 64) (c : ∀ ns' : List Int, ns'.Perm ns → ns'.Pairwise (· ≤ ·) → k (.list (ns'.map .int))) : RC J K (rSorted K) [.list (ns.map .int)] k := fun F H vs e j hv Q q => by
  obtain ⟨v, rfl, h⟩ := hv.one
  obtain ⟨p, xs, rfl, hp, ha⟩ := h.lst e
  rw [ha.ints] at hp
  refine ⟨p, ns, rfl, SqL.of hp, h64, fun ns' n h1 h2 hn => ?_⟩
  have s := Step.newF (o := .lst (ns'.map V.int)) e j hn
  exact q _ _ _ _ s (.lst upd_same (DdAll.of_ints ns')) (c ns' h1 h2)
theorem rc_tuple {ds : List Dt} (c : k (.tuple ds)) : RC J K (fun xs H Q => (∃ p ys, xs = [.ref p] ∧ SqL K H p ys ∧ ∀ l o, TOb o → H l = none → Q (.ref l) (upd H l (.frz o (.tup ys)))) ∨ ∃ a ys, xs = [.ref a] ∧ SqT K H a ys ∧ Q (.ref a) H) [.list ds] k := fun F H vs e j hv Q q => by
  obtain ⟨v, rfl, h⟩ := hv.one
  obtain ⟨p, xs, rfl, hp, ha⟩ := h.lst e
  refine .inl ⟨p, xs, rfl, SqL.of hp, fun n o to hn => ?_⟩
  have s := Step.newF (o := .frz o (.tup xs)) e j hn
  exact q _ _ _ _ s (.tup (TupZ.new to) (ha.ext s.f)) c
end
end WD

/-! The data layer: more calls, comprehensions, statements, loops, defs -/
namespace WD
open PySem PySem.Spec PyProof.Rows L2 Evl
section
variable {J : Option Addr} {K : PySem.W.Frag} {A : Env'} {ta tb tc te : TE} {k : Dt → Prop} {r r' : R2} {x y : Dt} {tr : TA}
/-! ### min -/
theorem rc_minD {ds : List Dt} (cl : PyData.canLayAll0 ds = true) (h0 : 0 < ds.length) (al : ∀ d ∈ ds, ∀ e ∈ ds, PySem.W.alike d e = true) (nn : ∀ d ∈ ds, d ≠ .none ∧ d.depth ≤ 60) (c : ∀ d, ds[bestD ds]? = some d → k d) : RC J K (rMinD K) [.list ds] k := fun F H vs e j hv Q q => by
  obtain ⟨v, rfl, h⟩ := hv.one
  obtain ⟨p, xs, rfl, hp, ha⟩ := h.lst e
  refine ⟨p, xs, ds, rfl, SqL.of hp, ha.dp e ds _ cl, h0, al, nn, fun v hv => ?_⟩
  obtain ⟨d, hd, hvd⟩ := ha.getV hv
  exact q v d F H (Step.refl e j) hvd (c d hd)
theorem rc_minD2 (cx : x.canLay0 = true) (cy : y.canLay0 = true) (lx : ∀ ds, x ≠ .list ds) (ly : ∀ ds, y ≠ .list ds) (al : ∀ d ∈ [x, y], ∀ e ∈ [x, y], PySem.W.alike d e = true) (nn : ∀ d ∈ [x, y], d ≠ .none ∧ d.depth ≤ 60) (c : k (if PySem.W.dataLt y x = true then y else x)) : RC J K (rMinD2 K) [x, y] k := fun F H vs e j hv Q q => by
  obtain ⟨v, w, rfl, h1, h2⟩ := hv.two
  refine ⟨v, w, x, y, rfl, h1.dp e cx, h2.dp e cy, al, nn, ?_⟩
  by_cases cc : PySem.W.dataLt y x = true
  · rw [if_pos cc] at c ⊢
    rcases h2 with h2 | ⟨_, _, ds, _, e2, _⟩
    · exact q w y F H (Step.refl e j) h2 c
    · exact absurd e2 (ly ds)
  · rw [if_neg cc] at c ⊢
    rcases h1 with h1 | ⟨_, _, ds, _, e2, _⟩
    · exact q v x F H (Step.refl e j) h1 c
    · exact absurd e2 (lx ds)

/-! ### isinstance -/
def tyD : Dt → String
  | .none => "NoneType"
  | .bool _ => "bool"
  | .int _ => "int"
  | .str _ => "str"
  | .list _ => "list"
  | .tuple _ => "tuple"
  | .dict _ => "dict"
theorem TupZ.ty {H : Hp} {a : Addr} {xs : List V} (h : TupZ K H a xs) : TyX K H (.ref a) (.type "tuple") := by
  rcases h with ⟨o, t, h⟩ | ⟨o, its, n, t, h1, _⟩
  · exact .fTuple h
  · exact .kTuple h1 t.1
theorem Vw.ty {F H : Hp} {v : V} {d : Dt} (e : Ex F H) (nj : ∀ z, d ≠ .dict z) (h : Vw J K F H v d) : TyX K H v (.type (tyD d)) := by
  rcases h with h | ⟨p, xs, ds, rfl, rfl, _, _, hh, _⟩
  · cases h with
    | non => exact .base .non
    | bl b => exact .base (.bl b)
    | int b => exact .base (.int b)
    | str b => exact .base (.str b)
    | lst h1 _ => exact .base (.lst (e _ _ h1))
    | tup h1 _ => exact (h1.ext e).ty
    | jar _ => exact absurd rfl (nj _)
    | scr _ => exact absurd rfl (nj _)
  · exact .base (.lst hh)
theorem ew_isi {T : String} (h : EV J K ta A fun d => (∀ z, d ≠ .dict z) ∧ ∃ b, kitB (tyD d) T = some b ∧ k (.bool b)) : EW J K (tCB (rIsi K) (tCons ta (tCons (tC (.ty T)) tNil))) A k := fun H0 σ F H I Q q =>
  h H0 σ F H I _ fun v d F1 H1 s1 hv ⟨nj, b, e, c⟩ => ⟨v, .ty T, _, _, b, rfl, .ty T, hv.ty s1.fh nj, kit_ty e, q _ _ F1 H1 s1 (.bl b) c⟩
/-- isinstance(x, (list, tuple)), x a list -/
theorem ew_isRow (h : EV J K ta A fun d => (∃ ds, d = .list ds) ∧ k (.bool true)) : EW J K (tCB (rIsiT K) (tCons ta (tCons (tTup (tCons (tC (.ty "list")) (tCons (tC (.ty "tuple")) tNil))) tNil))) A k := fun H0 σ F H I Q q =>
  h H0 σ F H I _ fun v d F1 H1 s1 hv ⟨⟨ds, e⟩, c⟩ => by
  subst e
  refine ⟨(by show 2 ≤ sizeLine; decide), fun p hp => ?_⟩
  have s := Step.newH (o := .tup [V.ty "list", V.ty "tuple"]) s1.fh s1.jar hp
  exact ⟨v, p, _, _, [.type "list", .type "tuple"], true, rfl, upd_same, .cons (.ty _) (.cons (.ty _) .nil), (hv.step s).ty s.fh (by intro z q; cases q), kitAny_cons (b := true) (kit_ty (show kitB "list" "list" = some true by decide +kernel)) (fun z => absurd z (by decide)) (fun _ => rfl), q _ _ _ _ (s1.trans s) (.bl true) c⟩

/-! ### methods -/
theorem eqv_str (a b : Str) : PyData.eqv (.str a) (.str b) = decide (a = b) := by
  rw [PyData.eqv]
  by_cases h : a = b
  · subst h; simp
  · rw [decide_eq_false h]; exact beq_eq_false_iff_ne.mpr h
theorem countP_strs (z : Str) : ∀ ss : List Str, (ss.map PyData.str).countP (fun y => PyData.eqv y (.str z)) = ss.count z
  | [] => rfl
  | s :: ss => by
    rw [List.map_cons, List.countP_cons, List.count_cons, countP_strs z ss, eqv_str]
    by_cases h : s = z
    · subst h; simp
    · have h' : (s == z) = false := beq_eq_false_iff_ne.mpr h
      simp [h, h']
theorem plain_strs : ∀ ss : List Str, PyData.plainAll (ss.map PyData.str) = true
  | [] => rfl
  | s :: ss => by rw [List.map_cons]; simp only [PyData.plainAll, PyData.plain, plain_strs ss]; rfl
theorem dpAll_strs {H : Hp} : ∀ ss : List Str, DpAll K H (ss.map V.str) (ss.map PyData.str)
  | [] => .nil
  | s :: ss => .cons (.str s) (dpAll_strs ss)
/-- xs.count('..') -/
theorem ew_count {ta : TE} {s : Str} (h : EV J K ta A fun x => ∃ ss : List Str, x = .list (ss.map .str) ∧ k (.int ((ss.count s : Nat) : Int))) : EW J K (tBM K "list" (rCntD K) ta (tCons (tC (.str s)) tNil)) A k := fun H0 σ F H I Q q =>
  h H0 σ F H I _ fun v d F1 H1 s1 hv ⟨ss, e, c⟩ => by
  subst e
  obtain ⟨p, xs, rfl, hp, ha⟩ := hv.lst s1.fh
  rw [ha.strs] at hp
  refine ⟨Or.inl ⟨rfl, _, SqL.of hp⟩, .str s, .str s, ss.map .str, rfl, .lst (SqL.of hp) (dpAll_strs ss), .str s, plain_strs ss, rfl, rfl, ?_⟩
  rw [countP_strs]
  exact q _ _ F1 H1 s1 (.int _) c
/-- t.index(None) -/
theorem ew_index (h : EV J K ta A fun x => ∃ ds j, x = .tuple ds ∧ (∀ d ∈ ds, d = .none ∨ ∃ i, d = .int i) ∧ ds[j]? = some .none ∧ (∀ m, m < j → ds[m]? ≠ some .none) ∧ k (.int ((j : Nat) : Int))) : EW J K (tBMT K (rIdxN K) ta (tCons (tC .non) tNil)) A k := fun H0 σ F H I Q q =>
  h H0 σ F H I _ fun v d F1 H1 s1 hv ⟨ds, j, e, hk, hj, hn, c⟩ => by
  subst e
  obtain ⟨p, xs, rfl, hp, ha, _⟩ := hv.tup s1.fh
  refine ⟨⟨p, xs, rfl, hp⟩, p, xs, j, rfl, rfl, hp.sq, fun y hy => ?_, ?_, fun m hm hy => ?_, q _ _ F1 H1 s1 (.int _) c⟩
  · obtain ⟨i, hi⟩ := List.mem_iff_getElem?.mp hy
    obtain ⟨d, hd, hyd⟩ := ha.getV hi
    rcases hk d (List.mem_of_getElem? hd) with e | ⟨i, e⟩
    · subst e; cases hyd; exact .inl rfl
    · subst e; cases hyd; exact .inr ⟨i, rfl⟩
  · obtain ⟨v, hv, hvd⟩ := ha.get hj
    cases hvd
    exact hv
  · obtain ⟨d, hd, hyd⟩ := ha.getV hy
    cases hyd
    exact hn m hm hd
/-- len(set(xs)) -/
theorem ew_lenSet (h : EV J K ta A fun x => ∃ ns : List Int, x = .list (ns.map .int) ∧ ns.Nodup ∧ ns.length ≤ 4000 ∧ k (.int (ns.length : Nat))) : EW J K (RZ.tLenSetI K ta) A k := fun H0 σ F H I Q q =>
  h H0 σ F H I _ fun v d F1 H1 s1 hv ⟨ns, e, hn, hz, c⟩ => by
  subst e
  obtain ⟨p, xs, rfl, hp, ha⟩ := hv.lst s1.fh
  rw [ha.ints] at hp
  exact ⟨p, ns, rfl, SqL.of hp, hn, hz, q _ _ F1 H1 s1 (.int _) c⟩
/-- {'a': 'b', ..}[e], three entries -/
theorem ew_dict3 {a1 a2 a3 b1 b2 b3 : Str} (n12 : a1 ≠ a2) (n13 : a1 ≠ a3) (n23 : a2 ≠ a3) (h : EV J K ta A fun x => ∃ s, x = .str s ∧ ((s = a1 ∧ k (.str b1)) ∨ (s = a2 ∧ k (.str b2)) ∨ (s = a3 ∧ k (.str b3)))) :
    EW J K (tDGet (tDisp [(tC (.str a1), tC (.str b1)), (tC (.str a2), tC (.str b2)), (tC (.str a3), tC (.str b3))]) ta) A k := fun H0 σ F H I Q q => by
  intro p hp
  refine ⟨upd_same, [(Sum.inr a1, .str b1), (Sum.inr a2, .str b2), (Sum.inr a3, .str b3)], rfl, (by show 3 ≤ 15; decide), ?_⟩
  have em : mergeK [] [(Sum.inr a1, V.str b1), (Sum.inr a2, .str b2), (Sum.inr a3, .str b3)] = [((Sum.inr a1 : L2.Key), V.str b1), (Sum.inr a2, .str b2), (Sum.inr a3, .str b3)] := by
    have k12 : ¬ (Sum.inr a1 : L2.Key) = Sum.inr a2 := fun z => n12 (Sum.inr.inj z)
    have k13 : ¬ (Sum.inr a1 : L2.Key) = Sum.inr a3 := fun z => n13 (Sum.inr.inj z)
    have k23 : ¬ (Sum.inr a2 : L2.Key) = Sum.inr a3 := fun z => n23 (Sum.inr.inj z)
    simp [mergeK, putK, n12, n13, n23]
  rw [em, upd_upd]
  have s1 := Step.newH (o := .dK [((Sum.inr a1 : L2.Key), V.str b1), (Sum.inr a2, .str b2), (Sum.inr a3, .str b3)]) I.e I.j hp
  refine h H0 σ F _ (I.step s1) _ fun v d F2 H2 s2 hv ⟨s, e, c⟩ => ?_
  subst e
  have hd : H2 p = some (.dK [((Sum.inr a1 : L2.Key), V.str b1), (Sum.inr a2, .str b2), (Sum.inr a3, .str b3)]) := s2.h p _ (fun z => I.j.there z hp) upd_same
  rcases c with ⟨e, c⟩ | ⟨e, c⟩ | ⟨e, c⟩
  · refine ⟨p, .str b1, rfl, .inl ⟨_, Sum.inr s, .inl hd, by rw [hv.str] <;> rfl, ?_⟩, q _ _ F2 H2 (s1.trans s2) (.str _) c⟩
    subst e
    simp [valV, List.find?_cons]
  · refine ⟨p, .str b2, rfl, .inl ⟨_, Sum.inr s, .inl hd, by rw [hv.str] <;> rfl, ?_⟩, q _ _ F2 H2 (s1.trans s2) (.str _) c⟩
    subst e
    simp [valV, List.find?_cons, n12]
  · refine ⟨p, .str b3, rfl, .inl ⟨_, Sum.inr s, .inl hd, by rw [hv.str] <;> rfl, ?_⟩, q _ _ F2 H2 (s1.trans s2) (.str _) c⟩
    subst e
    simp [valV, List.find?_cons, n13, n23]
end

/-! ### targets -/
def Itm (pr : Bool) (J : Option Addr) (K : PySem.W.Frag) (F H : Hp) (x : V) (d : Dt) : Prop := match pr with
  | false => Dd J K F x d
  | true => ∃ T xs ds, x = .ref T ∧ d = .tuple ds ∧ SqT K H T xs ∧ DdAll J K F xs ds
def GW (J : Option Addr) (K : PySem.W.Frag) (g : TG) (pr : Bool) (vs : List Nat) (d : Dt) (A : Env') (k : Env' → Prop) : Prop := ∀ H0 σ F H, InE J K H0 A σ F H → ∀ x, Itm pr J K F H x d → ∀ Q : L2.St → Hp → Prop,
  (∀ A2 σ2, InE J K H0 A2 σ2 F H → k A2 → σ2.length = σ.length → (∀ i : Nat, i ∉ vs → σ2[i]? = σ[i]?) → Q σ2 H) → g x σ H Q
def GWs (J : Option Addr) (K : PySem.W.Frag) (g : TGs) (vs : List Nat) (ds : List Dt) (A : Env') (k : Env' → Prop) : Prop := ∀ H0 σ F H, InE J K H0 A σ F H → ∀ xs, DdAll J K F xs ds → ∀ Q : L2.St → Hp → Prop,
  (∀ A2 σ2, InE J K H0 A2 σ2 F H → k A2 → σ2.length = σ.length → (∀ i : Nat, i ∉ vs → σ2[i]? = σ[i]?) → Q σ2 H) → g xs σ H Q
section
variable {J : Option Addr} {K : PySem.W.Frag} {A : Env'} {vs : List Nat} {d : Dt} {ke : Env' → Prop}
theorem gw_name {j : Nat} (hj : j ∈ vs) (c : ke (A.set j (.val d))) : GW J K (gName j) false vs d A ke := fun H0 σ F H I x hx Q q =>
  q _ _ ⟨I.e, I.j, I.n.set (e := .val d) ⟨x, rfl, hx⟩⟩ c (List.length_set ..) fun i hi => List.getElem?_set_ne (fun z : j = i => hi (by rw [← z]; exact hj))
theorem gws_nil (c : ke A) : GWs J K gNil vs [] A ke := fun H0 σ F H I xs hx Q q => by
  cases hx
  exact ⟨rfl, q A σ I c rfl fun _ _ => rfl⟩
theorem gws_cons {j : Nat} {g : TGs} {ds : List Dt} (hj : j ∈ vs) (h : GWs J K g vs ds (A.set j (.val d)) ke) : GWs J K (gCons (gName j) g) vs (d :: ds) A ke := fun H0 σ F H I xs hx Q q => by
  cases hx with
  | cons hx hxs =>
    refine ⟨_, _, rfl, ?_⟩
    have I2 : InE J K H0 (A.set j (.val d)) (σ.set j (some _)) F H := ⟨I.e, I.j, I.n.set (e := .val d) ⟨_, rfl, hx⟩⟩
    exact h H0 _ F H I2 _ hxs Q fun A2 σ2 I3 c hl hi => q A2 σ2 I3 c (hl.trans (List.length_set ..)) fun i hn => (hi i hn).trans (List.getElem?_set_ne (fun z : j = i => hn (by rw [← z]; exact hj)))
theorem gw_tup {pr : Bool} {n : Nat} {g : TGs} {ds : List Dt} (hn : ds.length = n) (h : GWs J K g vs ds A ke) : GW J K (gTup K n g) pr vs (.tuple ds) A ke := fun H0 σ F H I x hx Q q => by
  have z : ∃ T xs, x = .ref T ∧ SqT K H T xs ∧ DdAll J K F xs ds := by
    cases pr with
    | false =>
      cases (show Dd J K F x (.tuple ds) from hx) with
      | tup h1 h2 => exact ⟨_, _, rfl, (h1.ext I.e).sq, h2⟩
    | true =>
      obtain ⟨T, xs, ds', e1, e2, h1, h2⟩ := (show ∃ T xs ds', x = .ref T ∧ .tuple ds = PyData.tuple ds' ∧ SqT K H T xs ∧ DdAll J K F xs ds' from hx)
      cases e2
      exact ⟨T, xs, e1, h1, h2⟩
  obtain ⟨T, xs, rfl, h1, h2⟩ := z
  exact ⟨T, xs, rfl, h1, by rw [h2.length]; exact hn, h H0 σ F H I xs h2 Q q⟩
end

/-! ### what is walked -/
structure Wlk (J : Option Addr) (K : PySem.W.Frag) (pr : Bool) (Jt : It) (ds : List Dt) (F : Hp) : Prop where
  ex : ∃ G Y, Walk Jt ds.length G Y ∧ (∀ F' H', Ex F F' → Ex F' H' → G H') ∧
    ∀ (i : Nat) F' H' x H'', i < ds.length → Ex F F' → Ex F' H' → JOk J F' H' → Y i H' x H'' → ∃ d, ds[i]? = some d ∧ Step J F' H' F' H'' ∧ Itm pr J K F' H'' x d
def IW (J : Option Addr) (K : PySem.W.Frag) (pr : Bool) (wi : TI) (A : Env') (k : List Dt → Prop) : Prop := ∀ H0 σ F H, InE J K H0 A σ F H → ∀ R : It → Hp → Prop,
  (∀ Jt ds F2 H2, Step J F H F2 H2 → Wlk J K pr Jt ds F2 → k ds → R Jt H2) → wi σ H R
section
variable {J : Option Addr} {K : PySem.W.Frag} {A : Env'} {te : TE} {ta : TA} {kl : List Dt → Prop}
theorem iw_list (h : EW J K te A fun d => ∃ ds, d = .list ds ∧ kl ds) : IW J K false (iList K te) A kl := fun H0 σ F H I R q => h H0 σ F H I _ fun v d F1 H1 s1 hv ⟨ds, e, c⟩ => by
  subst e
  cases hv with
  | @lst a xs _ hp ha =>
    refine ⟨a, rfl, ⟨xs, SqL.of (s1.fh _ _ hp)⟩, q _ ds F1 H1 s1 ⟨_, _, ha.length ▸ walk_list (xs := xs), fun F' H' e1 e2 => SqL.of (e2 _ _ (e1 _ _ hp)), fun i F' H' x H'' hi e1 e2 j y => ?_⟩ c⟩
    obtain ⟨rfl, hx⟩ := y
    obtain ⟨d, hd, hxd⟩ := ha.getV hx
    exact ⟨d, hd, Step.refl e2 j, hxd.ext e1⟩
theorem iw_tup (h : EW J K te A fun d => ∃ ds, d = .tuple ds ∧ kl ds) : IW J K false (iTup K te) A kl := fun H0 σ F H I R q => h H0 σ F H I _ fun v d F1 H1 s1 hv ⟨ds, e, c⟩ => by
  subst e
  cases hv with
  | @tup a xs _ hp ha =>
    refine ⟨a, rfl, ⟨xs, (hp.ext s1.fh).sq⟩, q _ ds F1 H1 s1 ⟨_, _, ha.length ▸ walk_tup (xs := xs), fun F' H' e1 e2 => ((hp.ext e1).ext e2).sq, fun i F' H' x H'' hi e1 e2 j y => ?_⟩ c⟩
    obtain ⟨rfl, hx⟩ := y
    obtain ⟨d, hd, hxd⟩ := ha.getV hx
    exact ⟨d, hd, Step.refl e2 j, hxd.ext e1⟩
def rangeD (lo : Int) (n : Nat) : List Dt := (List.range n).map fun i => .int (lo + (i : Nat))
theorem rangeD_get {lo : Int} {n i : Nat} (h : i < n) : (rangeD lo n)[i]? = some (.int (lo + (i : Nat))) := by
  unfold rangeD
  rw [List.getElem?_map, List.getElem?_range h] <;> rfl
theorem rangeD_len {lo : Int} {n : Nat} : (rangeD lo n).length = n := by unfold rangeD; rw [List.length_map, List.length_range]
theorem wlk_range {lo : Int} {n : Nat} {F : Hp} : Wlk J K false (Itr lo n) (rangeD lo n) F := by
  refine ⟨_, _, (by rw [rangeD_len]; exact walk_range), fun _ _ _ _ => trivial, fun i F' H' x H'' hi e1 e2 j y => ?_⟩
  obtain ⟨rfl, rfl⟩ := y
  rw [rangeD_len] at hi
  exact ⟨_, rangeD_get hi, Step.refl e2 j, .int _⟩
theorem iw_range1 (h : EA J K ta A fun ds => ∃ n : Int, ds = [.int n] ∧ 0 ≤ n ∧ n ≤ 100000 ∧ kl (rangeD 0 n.toNat)) : IW J K false (iRng1 ta) A kl := fun H0 σ F H I R q => h H0 σ F H I _ fun vs ds F1 H1 s1 hvs ⟨n, e, h0, h1, c⟩ => by
  subst e
  obtain ⟨v, rfl, hv⟩ := hvs.one
  exact ⟨n, by rw [hv.int], by omega, by omega, q _ _ F1 H1 s1 wlk_range c⟩
theorem iw_range2 (h : EA J K ta A fun ds => ∃ m n : Int, ds = [.int m, .int n] ∧ 0 ≤ m ∧ m ≤ 100000 ∧ 0 ≤ n ∧ n ≤ 100000 ∧ kl (rangeD m (n - m).toNat)) : IW J K false (iRng2 ta) A kl := fun H0 σ F H I R q => h H0 σ F H I _ fun vs ds F1 H1 s1 hvs ⟨m, n, e, h0, h1, h2, h3, c⟩ => by
  subst e
  obtain ⟨v, w, rfl, hv, hw⟩ := hvs.two
  exact ⟨m, n, by rw [hv.int, hw.int], ⟨by omega, by omega, by omega, by omega⟩, q _ _ F1 H1 s1 wlk_range c⟩
def enumD (ds : List Dt) : List Dt := ds.zipIdx.map fun p => .tuple [.int ((p.2 : Nat) : Int), p.1]
theorem enumD_len {ds : List Dt} : (enumD ds).length = ds.length := by unfold enumD; rw [List.length_map, List.length_zipIdx]
theorem enumD_get {ds : List Dt} {i : Nat} {d : Dt} (h : ds[i]? = some d) : (enumD ds)[i]? = some (.tuple [.int ((i : Nat) : Int), d]) := by
  unfold enumD
  rw [List.getElem?_map, List.getElem?_zipIdx, h]
  simp
theorem iw_enum (h : ED J K ta A fun xs => ∃ ds, xs = [.list ds] ∧ kl (enumD ds)) : IW J K true (iEnum K ta) A kl := fun H0 σ F H I R q => h H0 σ F H I _ fun vs dss F1 H1 s1 hvs ⟨ds, e, c⟩ => by
  subst e
  cases hvs with
  | cons hv ht =>
    cases ht
    cases hv with
    | @lst a xs _ hp ha =>
      refine ⟨a, xs, rfl, SqL.of (s1.fh _ _ hp), q _ (enumD ds) F1 H1 s1 ⟨_, _, by rw [enumD_len, ← ha.length]; exact walk_enum (xs := xs), fun F' H' e1 e2 => SqL.of (e2 _ _ (e1 _ _ hp)), fun i F' H' x H'' hi e1 e2 j y => ?_⟩ c⟩
      obtain ⟨T, x1, x2, rfl, hT, rfl, h1, h2⟩ := y
      cases h1
      obtain ⟨d, hd, hxd⟩ := ha.getV h2
      have s := Step.newH (o := .tup [.int ((i : Nat) : Int), x2]) e2 j hT
      exact ⟨_, enumD_get hd, s, T, _, _, rfl, rfl, SqT.of upd_same, .cons (.int _) (.cons (hxd.ext e1) .nil)⟩
end

/-! ### comprehensions -/
def wipeA (A : Env') : List Nat → Env'
  | [] => A
  | v :: vs => (wipeA A vs).set v .unk
theorem EnvOk.wipe {J : Option Addr} {K : PySem.W.Frag} {H0 F H : Hp} {A : Env'} {σ : L2.St} (h : EnvOk J K H0 A σ F H) : ∀ vs, EnvOk J K H0 (wipeA A vs) (wipe σ vs) F H
  | [] => h
  | v :: vs => (EnvOk.wipe h vs).set (e := .unk) trivial
theorem wipe_get (σ : L2.St) : ∀ (vs : List Nat) (i : Nat), (wipe σ vs)[i]? = if i ∈ vs ∧ i < σ.length then some none else σ[i]?
  | [], i => by simp [wipe]
  | v :: vs, i => by
    unfold wipe
    by_cases h : v = i
    · subst h
      by_cases hl : v < σ.length
      · rw [List.getElem?_set_self (by rw [wipe_length]; exact hl), if_pos ⟨List.mem_cons_self, hl⟩]
      · rw [List.getElem?_eq_none (by rw [List.length_set, wipe_length]; omega), if_neg (fun z => hl z.2), List.getElem?_eq_none (by omega)]
    · rw [List.getElem?_set_ne h, wipe_get σ vs i]
      have hm : i ∈ v :: vs ↔ i ∈ vs := by
        rw [List.mem_cons]
        exact ⟨fun z => z.elim (fun e => absurd e.symm h) id, .inr⟩
      simp only [hm]
theorem wipe_back {σ σ2 : L2.St} {vs : List Nat} (hl : σ2.length = (wipe σ vs).length) (h : ∀ i : Nat, i ∉ vs → σ2[i]? = (wipe σ vs)[i]?) : wipe σ2 vs = wipe σ vs := by
  refine List.ext_getElem? fun i => ?_
  rw [wipe_get σ2 vs i]
  rw [wipe_length] at hl
  by_cases hi : i ∈ vs
  · rw [wipe_get σ vs i, hl]
    by_cases hz : i < σ.length
    · rw [if_pos ⟨hi, hz⟩, if_pos ⟨hi, hz⟩]
    · rw [if_neg (fun z => hz z.2), if_neg (fun z => hz z.2), List.getElem?_eq_none (by omega), List.getElem?_eq_none (by omega)]
  · rw [if_neg (fun z => hi z.1), h i hi]
section
variable {J : Option Addr} {K : PySem.W.Frag} {A : Env'} {te : TE} {k : Dt → Prop} {kl : List Dt → Prop} {wi : TI} {g : TG} {tt : TT} {vs : List Nat} {pr : Bool}
/-- the new list as one's own -/
theorem ef_lc (h : IW J K pr wi A fun ds => ds.length ≤ 100000 ∧ ∃ P : Nat → List Dt → Prop, P 0 [] ∧ (∀ (i : Nat) d acc, ds[i]? = some d → P i acc → GW J K g pr vs d (wipeA A vs) fun A2 => ET J K tt A2 fun b => if b = true then EW J K te A2 fun y => P (i + 1) (acc ++ [y]) else P (i + 1) acc) ∧
    ∀ acc, P ds.length acc → kl acc) : EF J K (tLc wi g tt te vs) A kl := fun H0 σ F H I Q q => h H0 σ F H I _ fun Jt ds F1 H1 s1 w ⟨hz, P, p0, ps, pe⟩ Dl hD => by
  obtain ⟨G, Y, wk, hG, hY⟩ := w.ex
  have hDF : F1 Dl = none := fresh_back s1.fh hD
  have hDj : J ≠ some Dl := fun z => s1.jar.there z hD
  refine lc_it wk (fun i H' => i ≤ ds.length ∧ ∃ F' acc xs, acc.length ≤ i ∧ P i acc ∧ Step J F1 H1 F' H' ∧ F' Dl = none ∧ H' Dl = some (.lst xs) ∧ DdAll J K F' xs acc) ?_ ?_ ?_ ?_
  · exact ⟨Nat.zero_le _, F1, [], [], Nat.le_refl _, p0, Step.newH s1.fh s1.jar hD, hDF, upd_same, .nil⟩
  · rintro i H' _ ⟨_, F', acc, xs, _, _, s, _⟩
    exact hG F' H' s.f s.fh
  · rintro i x H' H'' hi ⟨_, F', acc, xs, hlen, hp, s, f0, hd, ha⟩ y
    obtain ⟨d, hdi, s2, hit⟩ := hY i F' H' x H'' hi s.f s.fh s.jar y
    have I2 : InE J K H0 (wipeA A vs) (wipe σ vs) F' H'' := by
      have I1 := (I.step s1).step (s.trans s2)
      exact ⟨I1.e, I1.j, I1.n.wipe vs⟩
    refine ps i d acc hdi hp H0 _ F' H'' I2 x hit _ fun A2 σ2 I3 c hl hout => ⟨wipe_back hl hout, ?_⟩
    refine c H0 σ2 F' H'' I3 _ fun b F3 H3 s3 cb => ?_
    have hd2 : H'' Dl = some (.lst xs) := s2.h _ _ hDj hd
    cases b with
    | false =>
      have cb' : P (i + 1) acc := cb
      exact ⟨hi, F3, acc, xs, by omega, cb', (s.trans s2).trans s3, s3.own _ f0 (by rw [hd2]; exact fun z => nomatch z), s3.h _ _ hDj hd2, ha.ext s3.f⟩
    | true =>
      have cb' : EW J K te A2 fun y => P (i + 1) (acc ++ [y]) := cb
      refine cb' H0 σ2 F3 H3 (I3.step s3) _ fun v y F4 H4 s4 hv cy => ?_
      have hd3 := s3.h _ _ hDj hd2
      have hd4 := s4.h _ _ hDj hd3
      have f3 := s3.own _ f0 (by rw [hd2]; exact fun z => nomatch z)
      have f4 := s4.own _ f3 (by rw [hd3]; exact fun z => nomatch z)
      have hxl : xs.length = acc.length := ha.length
      refine ⟨xs, hd4, Nat.lt_of_le_of_lt (show xs.length ≤ 100000 by omega) (by decide), hi, F4, acc ++ [y], xs ++ [v], by rw [List.length_append]; simp; omega, cy, ?_, f4, upd_same, ((ha.ext s3.f).ext s4.f).append (.cons hv .nil)⟩
      have s14 := ((s.trans s2).trans s3).trans s4
      refine ⟨s14.f, fun p o hj ho => ?_, fun p o ho => ?_, s14.own, s14.jar.ext (fun a ea => upd_ne fun z : a = Dl => hDj (by rw [← z]; exact ea)) (Ex.refl _) fun a ea => (s14.jar a ea).1⟩
      · rw [upd_ne (ne_of_none ho hD)]; exact s14.h p o hj ho
      · rw [upd_ne (ne_of_none ho f4)]; exact s14.fh p o ho
  · rintro H' ⟨_, F', acc, xs, _, hp, s, f0, hd, ha⟩
    exact q Dl xs acc F' H' (s1.trans s) (s1.free hD) f0 hDj hd ha (pe acc hp)
theorem ew_lc (h : IW J K pr wi A fun ds => ds.length ≤ 100000 ∧ ∃ P : Nat → List Dt → Prop, P 0 [] ∧ (∀ (i : Nat) d acc, ds[i]? = some d → P i acc → GW J K g pr vs d (wipeA A vs) fun A2 => ET J K tt A2 fun b => if b = true then EW J K te A2 fun y => P (i + 1) (acc ++ [y]) else P (i + 1) acc) ∧
    ∀ acc, P ds.length acc → k (.list acc)) : EW J K (tLc wi g tt te vs) A k := ew_ofF (ef_lc h)
theorem et_yes {A : Env'} {kb : Bool → Prop} (c : kb true) : ET J K tYes A kb := fun H0 σ F H I Q q => q true F H (Step.refl I.e I.j) c
end
end WD

/-! The data layer: statements, loops, defs -/
namespace WD
open PySem PySem.Spec PyProof.Rows L2 Evl
structure DE where
  nx : Env' → Prop
  rt : Dt → Prop
  bk : Env' → Prop
  ct : Env' → Prop
def InS (J : Option Addr) (K : PySem.W.Frag) (F0 H0 : Hp) (A : Env') (σ : L2.St) (F H : Hp) : Prop := Step J F0 H0 F H ∧ EnvOk J K H0 A σ F H
section
variable {J : Option Addr} {K : PySem.W.Frag} {F0 H0 F F2 H H2 : Hp} {A A2 : Env'} {σ σ2 : L2.St}
theorem InS.inE (h : InS J K F0 H0 A σ F H) : InE J K H0 A σ F H := ⟨h.1.fh, h.1.jar, h.2⟩
theorem InS.step (h : InS J K F0 H0 A σ F H) (s : Step J F H F2 H2) : InS J K F0 H0 A σ F2 H2 := ⟨h.1.trans s, h.2.step s⟩
theorem InS.re (h : InS J K F0 H0 A σ F H) (e : InE J K H0 A2 σ2 F H) : InS J K F0 H0 A2 σ2 F H := ⟨h.1, e.n⟩
end
def SW (J : Option Addr) (K : PySem.W.Frag) (ts : TS) (A : Env') (X : DE) : Prop := ∀ F0 H0 σ F H, InS J K F0 H0 A σ F H → ∀ (D : Ends),
  (∀ A' σ' F' H', X.nx A' → InS J K F0 H0 A' σ' F' H' → Ex F F' → D.nx σ' H') → (∀ d v F' H', X.rt d → Step J F0 H0 F' H' → Dd J K F' v d → D.rt v H') →
  (∀ A' σ' F' H', X.bk A' → InS J K F0 H0 A' σ' F' H' → Ex F F' → D.bk σ' H') → (∀ A' σ' F' H', X.ct A' → InS J K F0 H0 A' σ' F' H' → Ex F F' → D.ct σ' H') → ts D σ H
/-- no other name is a list of one's own -/
def sole (i : Nat) (A : Env') : Bool := (List.range A.length).all fun j => j == i || match A[j]? with | some (.own _) => false | _ => true
theorem sole_of {i j : Nat} {A : Env'} (h : sole i A = true) {ds : List Dt} (e : A[j]? = some (.own ds)) : j = i := by
  unfold sole at h
  have hj : j < A.length := (List.getElem?_eq_some_iff.mp e).1
  have q := List.all_eq_true.mp h j (List.mem_range.mpr hj)
  rw [e] at q
  simpa using q
/-- forgetting -/
def Wk : Env' → Env' → Prop
  | [], [] => True
  | _ :: A, .unk :: B => Wk A B
  | e :: A, .val d :: B => e = .val d ∧ Wk A B
  | e :: A, .own d :: B => e = .own d ∧ Wk A B
  | _, _ => False
theorem Wk.refl : ∀ A, Wk A A
  | [] => trivial
  | .unk :: A => Wk.refl A
  | .val _ :: A => ⟨rfl, Wk.refl A⟩
  | .own _ :: A => ⟨rfl, Wk.refl A⟩
theorem Wk.spec : ∀ {A B : Env'}, Wk A B → A.length = B.length ∧ ∀ (i : Nat) e, B[i]? = some e → e = .unk ∨ A[i]? = some e
  | [], [], _ => ⟨rfl, fun i e h => by simp at h⟩
  | a :: A, b :: B, h => by
    have z : Wk A B ∧ (b = .unk ∨ a = b) := by
      cases b with
      | unk => exact ⟨h, .inl rfl⟩
      | val d => exact ⟨h.2, .inr h.1⟩
      | own d => exact ⟨h.2, .inr h.1⟩
    obtain ⟨h1, h2⟩ := Wk.spec z.1
    refine ⟨by rw [List.length_cons, List.length_cons, h1], fun i e he => ?_⟩
    cases i with
    | zero =>
      simp at he
      subst he
      rcases z.2 with e | e
      · exact .inl e
      · exact .inr (by simp [e])
    | succ i => exact (h2 i e (by simpa using he)).imp id fun q => by simpa using q
  | [], b :: B, h => by cases b <;> exact h.elim
  | a :: A, [], h => h.elim
theorem EnvOk.wk {J : Option Addr} {K : PySem.W.Frag} {H0 F H : Hp} {A B : Env'} {σ : L2.St} (h : EnvOk J K H0 A σ F H) (w : Wk A B) : EnvOk J K H0 B σ F H := by
  obtain ⟨h1, h2⟩ := w.spec
  refine ⟨h.len.trans h1, fun i e he => ?_⟩
  rcases h2 i e he with z | z
  · subst z
    have hi : i < B.length := (List.getElem?_eq_some_iff.mp he).1
    have hi2 : i < σ.length := by rw [h.len, h1]; exact hi
    exact ⟨σ[i], List.getElem?_eq_getElem hi2, trivial⟩
  · exact h.at_ i e z
section
variable {J : Option Addr} {K : PySem.W.Frag} {A : Env'} {te tb : TE} {X : DE} {t u : TS} {tt : TT} {tr : TA}
theorem sw_wk {B : Env'} (w : Wk A B) (h : SW J K t B X) : SW J K t A X := fun F0 H0 σ F H I => h F0 H0 σ F H ⟨I.1, I.2.wk w⟩
theorem sw_mono {Y : DE} (h : SW J K t A X) (h1 : ∀ A', X.nx A' → Y.nx A') (h2 : ∀ d, X.rt d → Y.rt d) (h3 : ∀ A', X.bk A' → Y.bk A') (h4 : ∀ A', X.ct A' → Y.ct A') : SW J K t A Y :=
  fun F0 H0 σ F H I D hn hr hb hc => h F0 H0 σ F H I D (fun A' σ F H c => hn A' σ F H (h1 A' c)) (fun d v F H c => hr d v F H (h2 d c)) (fun A' σ F H c => hb A' σ F H (h3 A' c)) (fun A' σ F H c => hc A' σ F H (h4 A' c))
theorem sw_next (c : X.nx A) : SW J K tNext A X := fun F0 H0 σ F H I D hn hr hb hc => hn A σ F H c I (Ex.refl F)
theorem sw_never (c : False) : SW J K tNever A X := c.elim
theorem sw_cont (c : X.ct A) : SW J K tCont A X := fun F0 H0 σ F H I D hn hr hb hc => hc A σ F H c I (Ex.refl F)
theorem sw_seq (h : SW J K t A { X with nx := fun A' => SW J K u A' X }) : SW J K (tSeq t u) A X := fun F0 H0 σ F H I D hn hr hb hc =>
  h F0 H0 σ F H I { D with nx := u D } (fun A' σ' F' H' c I' e => c F0 H0 σ' F' H' I' D (fun A2 σ2 F2 H2 c2 I2 e2 => hn A2 σ2 F2 H2 c2 I2 (e.trans e2)) hr (fun A2 σ2 F2 H2 c2 I2 e2 => hb A2 σ2 F2 H2 c2 I2 (e.trans e2)) fun A2 σ2 F2 H2 c2 I2 e2 => hc A2 σ2 F2 H2 c2 I2 (e.trans e2)) hr hb hc
theorem sw_ret (h : EW J K te A X.rt) : SW J K (tRet te) A X := fun F0 H0 σ F H I D hn hr hb hc => h H0 σ F H I.inE _ fun v d F2 H2 s hv c => hr d v F2 H2 c (I.1.trans s) hv
theorem sw_if (h : ET J K tt A fun b => if b = true then SW J K t A X else SW J K u A X) : SW J K (tIfS tt t u) A X := fun F0 H0 σ F H I D hn hr hb hc => h H0 σ F H I.inE _ fun b F2 H2 s c => by
  cases b with
  | true =>
    show t D σ H2
    exact c F0 H0 σ F2 H2 (I.step s) D (fun A2 σ2 F2 H2 c2 I2 e2 => hn A2 σ2 F2 H2 c2 I2 (s.f.trans e2)) hr (fun A2 σ2 F2 H2 c2 I2 e2 => hb A2 σ2 F2 H2 c2 I2 (s.f.trans e2)) fun A2 σ2 F2 H2 c2 I2 e2 => hc A2 σ2 F2 H2 c2 I2 (s.f.trans e2)
  | false =>
    show u D σ H2
    exact c F0 H0 σ F2 H2 (I.step s) D (fun A2 σ2 F2 H2 c2 I2 e2 => hn A2 σ2 F2 H2 c2 I2 (s.f.trans e2)) hr (fun A2 σ2 F2 H2 c2 I2 e2 => hb A2 σ2 F2 H2 c2 I2 (s.f.trans e2)) fun A2 σ2 F2 H2 c2 I2 e2 => hc A2 σ2 F2 H2 c2 I2 (s.f.trans e2)
theorem sw_set {i : Nat} (h : EW J K te A fun d => X.nx (A.set i (.val d))) : SW J K (tAsg te (gName i)) A X := fun F0 H0 σ F H I D hn hr hb hc => h H0 σ F H I.inE _ fun v d F2 H2 s hv c =>
  hn _ _ F2 H2 c ⟨I.1.trans s, (I.2.step s).set (e := .val d) ⟨v, rfl, hv⟩⟩ s.f
theorem sw_setF {i : Nat} (h : EF J K te A fun ds => X.nx (A.set i (.own ds))) : SW J K (tAsg te (gName i)) A X := fun F0 H0 σ F H I D hn hr hb hc => h H0 σ F H I.inE _ fun p xs ds F2 H2 s hp hf hj hh ha c =>
  hn _ _ F2 H2 c ⟨I.1.trans s, (I.2.step s).set (e := .own ds) ⟨p, xs, rfl, hf, I.1.free hp, hj, hh, ha⟩⟩ s.f
theorem sw_asg {g : TG} (h : EW J K te A fun d => ∃ vs, GW J K g false vs d A X.nx) : SW J K (tAsg te g) A X := fun F0 H0 σ F H I D hn hr hb hc => h H0 σ F H I.inE _ fun v d F2 H2 s hv ⟨vs, c⟩ =>
  c H0 σ F2 H2 (I.step s).inE v hv _ fun A2 σ2 I2 c2 _ _ => hn A2 σ2 F2 H2 c2 ((I.step s).re I2) s.f
theorem sw_drop (h : EV J K te A fun _ => X.nx A) : SW J K (tDrop te) A X := fun F0 H0 σ F H I D hn hr hb hc => h H0 σ F H I.inE _ fun v d F2 H2 s hv c => hn A σ F2 H2 c (I.step s) s.f

/-- one's own list at p is written -/
theorem InS.write {F0 H0 F H : Hp} {σ : L2.St} {i : Nat} {ds es : List Dt} {p : Addr} {xs ys : List V} (I : InS J K F0 H0 A σ F H) (so : sole i A = true) (hi : A[i]? = some (.own ds)) (hs : σ[i]? = some (some (.ref p))) (f0 : F p = none) (h0 : H0 p = none) (hj : J ≠ some p) (hh : H p = some (.lst xs)) (ha : DdAll J K F ys es) :
    InS J K F0 H0 (A.set i (.own es)) σ F (upd H p (.lst ys)) := by
  have s := I.1
  have nb : ∀ (a : Addr), J = some a → a ≠ p := fun a ea z => hj (by rw [← z]; exact ea)
  refine ⟨⟨s.f, fun a o ho h => ?_, fun a o h => ?_, s.own, s.jar.ext (fun a ea => upd_ne (nb a ea)) (Ex.refl _) fun a ea => (s.jar a ea).1⟩, by rw [List.length_set]; exact I.2.len, fun j e he => ?_⟩
  · rw [upd_ne (ne_of_none h h0)]; exact s.h a o ho h
  · rw [upd_ne (ne_of_none h f0)]; exact s.fh a o h
  · by_cases c : i = j
    · subst c
      have hl : i < A.length := (List.getElem?_eq_some_iff.mp hi).1
      rw [List.getElem?_set_self hl] at he
      cases he
      exact ⟨_, hs, p, ys, rfl, f0, h0, hj, upd_same, ha⟩
    · rw [List.getElem?_set_ne c] at he
      obtain ⟨v, hv, q⟩ := I.2.at_ j e he
      refine ⟨v, hv, ?_⟩
      cases e with
      | unk => trivial
      | val d => exact q
      | own d => exact absurd (sole_of so he).symm c
theorem sw_append {i : Nat} {ds : List Dt} (hi : A[i]? = some (.own ds)) (so : sole i A = true) (hz : ds.length < 100000) (h : EW J K te A fun d => X.nx (A.set i (.own (ds ++ [d])))) : SW J K (tDrop (tBM K "list" rAppend (tVar i) (tCons te tNil))) A X := fun F0 H0 σ F H I D hn hr hb hc => by
  obtain ⟨v, hv, p, xs, rfl, f0, h0, hj, hh, ha⟩ := I.2.at_ i _ hi
  refine ⟨.ref p, hv, .inl ⟨rfl, xs, SqL.of hh⟩, h H0 σ F H I.inE _ fun w d F2 H2 s hw c => ?_⟩
  have hh2 := s.h _ _ hj hh
  refine ⟨p, xs, w, rfl, rfl, hh2, Nat.lt_of_lt_of_le (show xs.length < 100000 by rw [ha.length]; exact hz) (by decide), ?_⟩
  exact hn _ σ F2 _ c ((I.step s).write so hi hv (s.own _ f0 (by rw [hh]; exact fun z => nomatch z)) h0 hj hh2 ((ha.ext s.f).append (.cons hw .nil))) s.f
theorem sw_extend {i : Nat} {ds : List Dt} (hi : A[i]? = some (.own ds)) (so : sole i A = true) (h : EW J K te A fun d => ∃ es, d = .list es ∧ ds.length + es.length ≤ 100000 ∧ X.nx (A.set i (.own (ds ++ es)))) : SW J K (tDrop (tBM K "list" rExtend (tVar i) (tCons te tNil))) A X := fun F0 H0 σ F H I D hn hr hb hc => by
  obtain ⟨v, hv, p, xs, rfl, f0, h0, hj, hh, ha⟩ := I.2.at_ i _ hi
  refine ⟨.ref p, hv, .inl ⟨rfl, xs, SqL.of hh⟩, h H0 σ F H I.inE _ fun w d F2 H2 s hw ⟨es, e, hz, c⟩ => ?_⟩
  subst e
  have hh2 := s.h _ _ hj hh
  cases hw with
  | @lst b zs _ hb2 hbs =>
    refine ⟨p, b, xs, zs, rfl, rfl, hh2, s.fh _ _ hb2, small5 (by rw [ha.length, hbs.length]; exact hz), ?_⟩
    exact hn _ σ F2 _ c ((I.step s).write so hi hv (s.own _ f0 (by rw [hh]; exact fun z => nomatch z)) h0 hj hh2 ((ha.ext s.f).append hbs)) s.f
theorem sw_setItem {i : Nat} {ds : List Dt} (hi : A[i]? = some (.own ds)) (so : sole i A = true) (h : EW J K te A fun d => EV J K tb A fun y => ∃ j : Nat, y = .int (j : Nat) ∧ j < ds.length ∧ X.nx (A.set i (.own (ds.set j d)))) : SW J K (tAsg te (gSub (tVar i) tb rSetL)) A X := fun F0 H0 σ F H I D hn hr hb hc => by
  obtain ⟨v, hv, p, xs, rfl, f0, h0, hj, hh, ha⟩ := I.2.at_ i _ hi
  refine h H0 σ F H I.inE _ fun w d F1 H1 s1 hw h1 => ⟨.ref p, hv, h1 H0 σ F1 H1 (I.step s1).inE _ fun y yd F2 H2 s2 hy ⟨j, e, hl, c⟩ => ?_⟩
  subst e
  have s := s1.trans s2
  have hh2 := s.h _ _ hj hh
  refine ⟨p, xs, (j : Int), j, rfl, hy.int, hh2, ixN_nat (by rw [ha.length]; exact hl), ?_⟩
  exact hn _ σ F2 _ c ((I.step s).write so hi hv (s.own _ f0 (by rw [hh]; exact fun z => nomatch z)) h0 hj hh2 ((ha.ext s.f).set j (hw.ext s2.f))) s.f
/-- one's own list changes no more -/
theorem sw_freeze {i : Nat} {ds : List Dt} (hi : A[i]? = some (.own ds)) (so : sole i A = true) (h : SW J K t (A.set i (.val (.list ds))) X) : SW J K t A X := fun F0 H0 σ F H I D hn hr hb hc => by
  obtain ⟨v, hv, p, xs, rfl, f0, h0, hj, hh, ha⟩ := I.2.at_ i _ hi
  have s := I.1
  have e2 : Ex F (upd F p (.lst xs)) := Ex.new f0
  have nb : ∀ (a : Addr), J = some a → a ≠ p := fun a ea z => hj (by rw [← z]; exact ea)
  refine h F0 H0 σ (upd F p (.lst xs)) H ⟨⟨s.f.trans e2, s.h, fun a o ho => ?_, fun a h1 h2 => ?_, s.jar.ext (fun _ _ => rfl) e2 fun a ea => by rw [upd_ne (nb a ea)]; exact (s.jar a ea).1⟩, by rw [List.length_set]; exact I.2.len, fun j e he => ?_⟩ D (fun A2 σ2 F2 H2 c2 I2 e3 => hn A2 σ2 F2 H2 c2 I2 (e2.trans e3)) hr (fun A2 σ2 F2 H2 c2 I2 e3 => hb A2 σ2 F2 H2 c2 I2 (e2.trans e3)) fun A2 σ2 F2 H2 c2 I2 e3 => hc A2 σ2 F2 H2 c2 I2 (e2.trans e3)
  · by_cases z : a = p
    · subst z; rw [upd_same] at ho; cases ho; exact hh
    · rw [upd_ne z] at ho; exact s.fh a o ho
  · rw [upd_ne (fun z : a = p => h2 (by rw [z]; exact h0))]; exact s.own a h1 h2
  · by_cases c : i = j
    · subst c
      have hl : i < A.length := (List.getElem?_eq_some_iff.mp hi).1
      rw [List.getElem?_set_self hl] at he
      cases he
      exact ⟨_, hv, .ref p, rfl, .lst upd_same (ha.ext e2)⟩
    · rw [List.getElem?_set_ne c] at he
      obtain ⟨v, hv, q⟩ := I.2.at_ j e he
      refine ⟨v, hv, ?_⟩
      cases e with
      | unk => trivial
      | val d => obtain ⟨x, e, q⟩ := q; exact ⟨x, e, q.ext e2⟩
      | own d => exact absurd (sole_of so he).symm c
theorem sw_retOwn {i : Nat} {ds : List Dt} (hi : A[i]? = some (.own ds)) (so : sole i A = true) (c : X.rt (.list ds)) : SW J K (tRet (tVar i)) A X := by
  refine sw_freeze hi so (sw_ret (ew_var (d := .list ds) ?_ c))
  exact List.getElem?_set_self (List.getElem?_eq_some_iff.mp hi).1

/-! ### for -/
theorem sw_for {wi : TI} {g : TG} {pr : Bool} {vs : List Nat} (h : IW J K pr wi A fun ds => ∃ P : Nat → Env' → Prop, (∃ A1, P 0 A1 ∧ Wk A A1) ∧
    (∀ (i : Nat) d A1, ds[i]? = some d → P i A1 → GW J K g pr vs d A1 fun A2 => SW J K t A2 ⟨fun A' => ∃ A3, P (i + 1) A3 ∧ Wk A' A3, X.rt, X.nx, fun A' => ∃ A3, P (i + 1) A3 ∧ Wk A' A3⟩) ∧
    ∀ A1, P ds.length A1 → X.nx A1) : SW J K (tFor wi g t) A X := fun F0 H0 σ F H I D hn hr hb hc => h H0 σ F H I.inE _ fun Jt ds F1 H1 s1 w ⟨P, ⟨A1, p0, w0⟩, ps, pe⟩ => by
  obtain ⟨G, Y, wk, hG, hY⟩ := w.ex
  refine for_it wk (fun i σ' H' => ∃ A1 F', P i A1 ∧ InS J K F0 H0 A1 σ' F' H' ∧ Ex F1 F') ?_ ?_ ?_ ?_
  · exact ⟨A1, F1, p0, ⟨I.1.trans s1, (I.2.step s1).wk w0⟩, Ex.refl F1⟩
  · rintro i σ' H' _ ⟨A1, F', _, I1, e⟩
    exact hG F' H' e I1.1.fh
  · rintro i x σ' H' H'' hi ⟨A1, F', hp, I1, e⟩ y
    obtain ⟨d, hd, s2, hit⟩ := hY i F' H' x H'' hi e I1.1.fh I1.1.jar y
    have I2 := I1.step s2
    refine ps i d A1 hd hp H0 σ' F' H'' I2.inE x hit _ fun A2 σ2 I3 c _ _ => ?_
    refine c F0 H0 σ2 F' H'' (I2.re I3) _ ?_ hr ?_ ?_
    · rintro A' σ3 F3 H3 ⟨A3, q3, w3⟩ I4 e3
      exact ⟨A3, F3, q3, ⟨I4.1, I4.2.wk w3⟩, e.trans e3⟩
    · intro A' σ3 F3 H3 q3 I4 e3
      exact hn A' σ3 F3 H3 q3 I4 ((s1.f.trans e).trans e3)
    · rintro A' σ3 F3 H3 ⟨A3, q3, w3⟩ I4 e3
      exact ⟨A3, F3, q3, ⟨I4.1, I4.2.wk w3⟩, e.trans e3⟩
  · rintro σ' H' ⟨A1, F', hp, I1, e⟩
    exact hn A1 σ' F' H' (pe A1 hp) I1 (s1.f.trans e)
end

/-! ### defs -/
abbrev Tr := List Dt → (Dt → Prop) → Prop
/-- called with data it hands back data: T tells which -/
def spD (K : PySem.W.Frag) (T : Tr) : Sp := fun vs H Q _ => ∃ J F ds Φ, JOk J F H ∧ Ex F H ∧ DdAll J K F vs ds ∧ T ds Φ ∧ ∀ v d F2 H2, Step J F H F2 H2 → Dd J K F2 v d → Φ d → Q v H2
section
variable {J : Option Addr} {K : PySem.W.Frag} {A : Env'} {ta : TA} {k : Dt → Prop}
theorem ew_call {T : Tr} {E : XK} (h : ED J K ta A fun ds => ∃ Φ, T ds Φ ∧ ∀ d, Φ d → k d) : EW J K (tCall (spD K T) [] E ta) A k := fun H0 σ F H I Q q => h H0 σ F H I _ fun vs ds F1 H1 s1 hvs ⟨Φ, t, c⟩ =>
  ⟨J, F1, ds, Φ, s1.jar, s1.fh, by rw [List.append_nil]; exact hvs, t, fun v d F2 H2 s2 hv hd => q v d F2 H2 (s1.trans s2) hv (c d hd)⟩
def startA (n : Nat) (ds : List Dt) : Env' := ds.map .val ++ List.replicate (n - ds.length) .unk
theorem startA_ok {N : List Str} {vs : List V} {ds : List Dt} {H0 F H : Hp} (h : DdAll J K F vs ds) : EnvOk J K H0 (startA N.length ds) (L2.start N vs) F H := by
  have hl := h.length
  refine ⟨by unfold startA L2.start; rw [List.length_append, List.length_append, List.length_map, List.length_map, List.length_replicate, List.length_replicate, hl], fun i e he => ?_⟩
  unfold startA at he
  unfold L2.start
  by_cases c : i < ds.length
  · rw [List.getElem?_append_left (by rw [List.length_map]; exact c), List.getElem?_map] at he
    obtain ⟨d, hd, e1⟩ := Option.map_eq_some_iff.mp he
    subst e1
    obtain ⟨v, hv, hvd⟩ := h.get hd
    exact ⟨some v, by rw [List.getElem?_append_left (by rw [List.length_map, hl]; exact c), List.getElem?_map, hv] <;> rfl, v, rfl, hvd⟩
  · rw [List.getElem?_append_right (by rw [List.length_map]; omega), List.length_map] at he
    have hr : i - ds.length < N.length - ds.length := by
      have := (List.getElem?_eq_some_iff.mp he).1
      rw [List.length_replicate] at this
      exact this
    rw [List.getElem?_replicate] at he
    rw [if_pos hr] at he
    cases he
    exact ⟨none, by rw [List.getElem?_append_right (by rw [List.length_map]; omega), List.length_map, hl, List.getElem?_replicate, if_pos hr], trivial⟩
theorem body_of {N : List Str} {t : TS} {T : Tr} {vs : List V} {H : Hp} {Q : VK} {E : XK} (h : spD K T vs H Q E)
    (hb : ∀ J ds Φ, T ds Φ → SW J K t (startA N.length ds) ⟨fun _ => Φ .none, Φ, fun _ => False, fun _ => False⟩) : t { nx := fun _ H' => Q .non H', rt := Q } (L2.start N vs) H := by
  obtain ⟨J, F, ds, Φ, j, e, hvs, ht, q⟩ := h
  refine hb J ds Φ ht F H (L2.start N vs) F H ⟨Step.refl e j, startA_ok hvs⟩ _ ?_ ?_ ?_ ?_
  · intro A' σ' F' H' c I _
    exact q .non .none F' H' I.1 .non c
  · intro d v F' H' c s hv
    exact q v d F' H' s hv c
  · exact fun _ _ _ _ c => c.elim
  · exact fun _ _ _ _ c => c.elim
theorem spD_len {T : Tr} {n : Nat} (hT : ∀ ds Φ, T ds Φ → ds.length = n) {vs : List V} {H : Hp} {Q : VK} {E : XK} (h : spD K T vs H Q E) : vs.length = n := by
  obtain ⟨J, F, ds, Φ, j, e, hvs, ht, q⟩ := h
  rw [hvs.length]
  exact hT ds Φ ht
end
/-- a def of the text that keeps its promise at level k -/
structure Fn (P : Program) (w : World) (K : PySem.W.Frag) (mg : Str → Option Value) (base : Heap) (x : Str) (k : Nat) (ps : List Str) (T : Tr) : Prop where
  ex : ∃ f fd, FnOk P w K mg base CX0 k f fd ps (spD K T) ∧ Binds K fd ps [] ∧ PySem.W.keepIn K (.ref f) = true ∧ mg x = some (.ref f)
theorem pe_fn {P : Program} {w : World} {K : PySem.W.Frag} {mg : Str → Option Value} {base : Heap} {X : Cx} {x : Str} {p : Pos} {e : Expr} {es : List Expr} {pos : Pos} {k : Nat} {ps : List Str} {T : Tr} {t : TA} (h : Fn P w K mg base x k ps T)
    (hr : Room k X.A) (ha : PA X (e :: es) t) (e1 : X.prog = P := by rfl) (e2 : X.w = w := by rfl) (e3 : X.K = K := by rfl) (e4 : X.mg = mg := by rfl) (e5 : X.base = base := by rfl) (hg : Gl X x := by rfl)
    (hdb : (x == ("__debug__" : Str)) = false := by decide) (he : starEach (e :: es) X.env = (false, eval e X.env) :: starEach es X.env := by rfl) (hpl : (backTo pos (starEach es X.env)).any (·.1) = false := by rfl) :
    PE X (.Call (.Name x p) (e :: es) [] pos) (tCall (spD K T) [] E0 t) := by
  subst e1 e2 e3 e4 e5
  obtain ⟨f, fd, F, b, kp, m⟩ := h.ex
  exact pe_call F hr hg m kp b .nil pass0 ha hdb he hpl
/-- the built-in names as they are -/
structure Blt (mg : Str → Option Value) : Prop where
  abs : mg "abs" = none
  len : mg "len" = none
  isinstance : mg "isinstance" = none
  all : mg "all" = none
  sorted : mg "sorted" = none
  tuple : mg "tuple" = none
  max : mg "max" = none
  min : mg "min" = none
  sum : mg "sum" = none
  int : mg "int" = none
  range : mg "range" = none
  enumerate : mg "enumerate" = none
  set : mg "set" = none
  list : mg "list" = none
  bool : mg "bool" = none
  str : mg "str" = none
end WD

/-! What the program's defs compute, as plain functions; how their values look as data -/
namespace WD
open PySem PySem.Spec PyProof.Rows L2 Evl

/-! ### rules -/
inductive Sure where
  | kept | broken | opn
  deriving DecidableEq
def Sure.s : Sure → Str
  | .kept => "kept"
  | .broken => "broken"
  | .opn => "open"
def Sure.d (x : Sure) : Dt := .str x.s
def Sure.flip : Sure → Sure
  | .kept => .broken
  | .broken => .kept
  | .opn => .opn
theorem Sure.inj {x y : Sure} (h : x.s = y.s) : x = y := by
  cases x <;> cases y <;> first | rfl | exact absurd h (by decide +kernel)
abbrev Part := List (Option Bool)
def bI (b : Bool) : Int := if b then 1 else 0
theorem Sure.d_eq (x : Sure) : x.d = .str x.s := rfl
/-- a list of kept, broken, open -/
def sD (f : List Sure) : List Dt := (f.map Sure.s).map .str
theorem sD_len (f : List Sure) : (sD f).length = f.length := by unfold sD; rw [List.length_map, List.length_map]
theorem mem_s {x : Sure} {f : List Sure} : x.s ∈ f.map Sure.s ↔ x ∈ f := by
  rw [List.mem_map]
  exact ⟨fun ⟨y, h, e⟩ => Sure.inj e ▸ h, fun h => ⟨x, h, rfl⟩⟩
theorem count_s (x : Sure) : ∀ f : List Sure, (f.map Sure.s).count x.s = f.count x
  | [] => rfl
  | y :: f => by
    rw [List.map_cons, List.count_cons, List.count_cons, count_s x f]
    by_cases h : y = x
    · subst h; simp
    · have h2 : ¬ y.s = x.s := fun z => h (Sure.inj z)
      simp [h, h2]
def pD : Option Bool → Dt
  | none => .none
  | some b => .int (bI b)
def partD (p : Part) : Dt := .tuple (p.map pD)
inductive Rl where
  | or (ws : List Int)
  | few (m : Int) (ns : List Int)
  | no (k : Int)
def iD (ns : List Int) : List Dt := ns.map .int
/-- a rule as told, as handed in -/
def rlD : Rl → Dt
  | .or ws => .tuple [.str "or", .tuple (iD ws)]
  | .few m ns => .tuple [.str "few", .int m, .tuple (iD ns)]
  | .no k => .tuple [.str "not", .int k]
def rowD : Rl → Dt
  | .or ws => .list [.str "or", .list (iD ws)]
  | .few m ns => .list [.str "few", .int m, .list (iD ns)]
  | .no k => .list [.str "not", .int k]
def wordSure (w : Int) (p : Part) : Sure :=
  match p.getD (w.natAbs - 1) none with
  | none => .opn
  | some b => if b = decide (0 < w) then .kept else .broken
def eitherSure (ws : List Int) (p : Part) : Sure :=
  let f := ws.map (wordSure · p)
  if .kept ∈ f then .kept else if .opn ∈ f then .opn else .broken
def countSure (m : Int) (f : List Sure) : Sure :=
  if m < (f.count .broken : Nat) then .broken else if (f.length : Int) - (f.count .kept : Nat) ≤ m then .kept else .opn
def look (f : List Sure) (i : Int) : Sure := f.getD i.toNat .opn
def ruleSure (p : Part) (f : List Sure) : Rl → Sure
  | .or ws => eitherSure ws p
  | .few m ns => countSure m (ns.map (look f))
  | .no k => (look f k).flip
def rulesSure (rs : List Rl) (p : Part) : List Sure := rs.foldl (fun f r => f ++ [ruleSure p f r]) []
def rulesKept (rs : List Rl) (s : List Bool) : List Bool := (rulesSure rs (s.map some)).map (decide <| · = .kept)
def worths : Option Bool → List Bool
  | none => [false, true]
  | some b => [b]
def allF (p : Part) : List (List Bool) := p.foldl (fun fs w => fs.flatMap fun s => (worths w).map fun b => s ++ [b]) [[]]
def setD (s : List Bool) : Dt := partD (s.map some)

/-! ### houses -/
structure Wish where
  num : Int
  rank : Int
  wt : Int
structure Hs where
  n : Nat
  rules : List Rl
  musts : List Int
  wishes : List Wish
def wishD (w : Wish) : Dt := .tuple [.int w.num, .int w.rank, .int w.wt]
def wishRow (w : Wish) : Dt := .list [.int w.num, .int w.rank, .int w.wt]
def hsD (h : Hs) : Dt := .tuple [.int (h.n : Nat), .list (h.rules.map rlD), .tuple (iD h.musts), .list (h.wishes.map wishD)]
def maxRank (ws : List Wish) : Nat := (ws.map fun w => w.rank.toNat).foldl max 0
def addAt (ws : List Wish) (f : List Int) (pl : Int) : List Int :=
  match ws[pl.toNat]? with
  | some w => f.set (w.rank.toNat - 1) (f.getD (w.rank.toNat - 1) 0 + w.wt)
  | none => f
def wishesLosses (ws : List Wish) (ps : List Int) : List Int := ps.foldl (addAt ws) (List.replicate (maxRank ws) 0)
def lookB (f : List Bool) (i : Int) : Bool := f.getD i.toNat false
def lostBy (f : Int → Bool) (ws : List Wish) : List Int := (ws.zipIdx.filter fun p => f p.1.num).map fun p => ((p.2 : Nat) : Int)
def lostWishes (h : Hs) (s : List Bool) : List Int := lostBy (fun i => !lookB (rulesKept h.rules s) i) h.wishes
def losses (h : Hs) (s : List Bool) : List Int := wishesLosses h.wishes (lostWishes h s)
def keepsMusts (h : Hs) (s : List Bool) : Bool := h.musts.all fun i => lookB (rulesKept h.rules s) i
def lD (l : List Int) : Dt := .tuple (iD l)
/-- rows of numbers in Python's order -/
def ltI : List Int → List Int → Bool
  | [], [] => false
  | [], _ :: _ => true
  | _ :: _, [] => false
  | x :: xs, y :: ys => if x = y then ltI xs ys else decide (x < y)
/-- the first of the least ones -/
def minL : List (List Int) → List Int
  | [] => []
  | x :: xs => xs.foldl (fun b y => if ltI y b = true then y else b) x
def okSettings (h : Hs) : List (List Bool) := (allF (List.replicate h.n none)).filter (keepsMusts h)
def bestSettings (h : Hs) : List (List Bool) :=
  let some := okSettings h
  some.filter fun s => decide (losses h s = minL (some.map (losses h)))

/-! ### trees of losses -/
inductive Tre where
  | must (k : Int)
  | lost (ps : List Int)
  | part (name : Int) (no yes : Tre)
def treD : Tre → Dt
  | .must k => .tuple [.str "must", .int k]
  | .lost ps => .tuple [.str "lost", lD ps]
  | .part n a b => .tuple [.str "part", .int n, treD a, treD b]
def putName (p : Part) (i : Nat) (b : Bool) : Part := p.set i (some b)
inductive Shown where
  | never
  | least (l : List Int)
def shD : Shown → Dt
  | .never => .tuple [.str "never"]
  | .least l => .tuple [.str "least", lD l]
def lesser : Shown → Shown → Shown
  | .never, y => y
  | x, .never => x
  | .least a, .least b => if ltI b a = true then .least b else .least a
def arePlaces (n : Nat) (ps : List Int) : Bool := (ps.all fun p => decide (0 ≤ p ∧ p < (n : Int))) && (List.range (ps.length - 1)).all fun k => decide (ps.getD k 0 < ps.getD (k + 1) 0)
def shownFrom (h : Hs) : Tre → Part → Option Shown
  | .must k, p => if k ∈ h.musts ∧ look (rulesSure h.rules p) k = .broken then some .never else none
  | .lost ps, p => if arePlaces h.wishes.length ps = true ∧ (ps.all fun pl => decide (look (rulesSure h.rules p) ((h.wishes[pl.toNat]?.map Wish.num).getD 0) = .broken)) = true then some (.least (wishesLosses h.wishes ps)) else none
  | .part name a b, p =>
    if 1 ≤ name ∧ name ≤ (h.n : Int) ∧ p.getD (name.toNat - 1) none = none then
      match shownFrom h a (putName p (name.toNat - 1) false), shownFrom h b (putName p (name.toNat - 1) true) with
      | some x, some y => some (lesser x y)
      | _, _ => none
    else none
def optShD : Option Shown → Dt
  | none => .none
  | some x => shD x
def brokenPlaces (h : Hs) (p : Part) : List Int := lostBy (fun i => decide (look (rulesSure h.rules p) i = .broken)) h.wishes
def geO (l : List Int) : Option (List Int) → Bool
  | none => false
  | some m => geI l m
def treeFrom (h : Hs) (least : Option (List Int)) : Nat → Part → Tre
  | 0, p => match h.musts.find? fun i => decide (look (rulesSure h.rules p) i = .broken) with
    | some k => .must k
    | none => .lost (brokenPlaces h p)
  | f + 1, p => match h.musts.find? fun i => decide (look (rulesSure h.rules p) i = .broken) with
    | some k => .must k
    | none => if geO (wishesLosses h.wishes (brokenPlaces h p)) least = true then .lost (brokenPlaces h p) else
      .part ((p.idxOf none : Nat) + 1) (treeFrom h least f (putName p (p.idxOf none) false)) (treeFrom h least f (putName p (p.idxOf none) true))
inductive Told where
  | never (t : Tre)
  | least (l : List Int) (s : List Bool) (t : Tre)
def toldD : Told → Dt
  | .never t => .tuple [.str "never", treD t]
  | .least l s t => .tuple [.str "least", lD l, setD s, treD t]
def lossTree (h : Hs) : Told :=
  match bestSettings h with
  | [] => .never (treeFrom h none h.n (List.replicate h.n none))
  | s :: _ => .least (losses h s) s (treeFrom h (some (losses h s)) h.n (List.replicate h.n none))

/-! ### what is handed in -/
def sortI (l : List Int) : List Int := l.mergeSort fun a b => decide (a ≤ b)
def madeRl : Rl → Rl
  | .or ws => .or (sortI ws)
  | .few m ns => .few m (sortI ns)
  | .no k => .no k
structure Pts where
  n : Nat
  rows : List Rl
  obl : List Int
  wan : List Wish
def made (p : Pts) : Hs := ⟨p.n, p.rows.map madeRl, sortI p.obl, p.wan⟩
def ptsD (p : Pts) : Dt := .tuple [.int (p.n : Nat), .list (p.rows.map rowD), .list (iD p.obl), .list (p.wan.map wishRow)]

/-! ### what is right -/
def RlOk (n : Nat) (c : Nat) : Rl → Prop
  | .or ws => (∀ w ∈ ws, w ≠ 0 ∧ w.natAbs ≤ n) ∧ (ws.map Int.natAbs).Nodup ∧ ws.length ≤ 30
  | .few m ns => 0 ≤ m ∧ m ≤ 24 ∧ (∀ k ∈ ns, 0 ≤ k ∧ k < (c : Int)) ∧ ns.Nodup ∧ ns.length ≤ 30
  | .no k => 0 ≤ k ∧ k < (c : Int)
structure RlsOk (n : Nat) (rs : List Rl) : Prop where
  len : rs.length ≤ 24
  at_ : ∀ (i : Nat) r, rs[i]? = some r → RlOk n i r
structure WishOk (c : Nat) (w : Wish) : Prop where
  n0 : 0 ≤ w.num
  n1 : w.num < (c : Int)
  r0 : 1 ≤ w.rank
  r1 : w.rank ≤ 4
  w0 : 1 ≤ w.wt
structure HsOk (h : Hs) : Prop where
  n : h.n ≤ 8
  rules : RlsOk h.n h.rules
  musts : ∀ k ∈ h.musts, 0 ≤ k ∧ k < (h.rules.length : Int)
  mlen : h.musts.length ≤ 1000
  wishes : ∀ w ∈ h.wishes, WishOk h.rules.length w
  wlen : h.wishes.length ≤ 12
structure PtsOk (p : Pts) : Prop where
  n : p.n ≤ 8
  rows : RlsOk p.n p.rows
  obl : ∀ k ∈ p.obl, 0 ≤ k ∧ k < (p.rows.length : Int)
  ond : p.obl.Nodup
  olen : p.obl.length ≤ 60
  wan : ∀ w ∈ p.wan, WishOk p.rows.length w ∧ w.wt ≤ 10 ^ 30
  wlen : p.wan.length ≤ 12

/-! ### small closers of the readings -/
theorem ex_b {b : Bool} {kb : Bool → Prop} (c : kb b) : ∃ b', PyData.bool b = .bool b' ∧ kb b' := ⟨b, rfl, c⟩
theorem ex_i {b : Int} {kb : Int → Prop} (c : kb b) : ∃ b', PyData.int b = .int b' ∧ kb b' := ⟨b, rfl, c⟩
theorem it_T {A B : Prop} (h : A) : if true = true then A else B := iteT h
theorem it_F {A B : Prop} (h : B) : if false = true then A else B := iteF h
theorem it_NT {A B : Prop} (h : B) : if (!true) = true then A else B := iteF h
theorem it_NF {A B : Prop} (h : A) : if (!false) = true then A else B := iteT h
theorem it_D {c A B : Prop} [Decidable c] (h1 : c → A) (h2 : ¬ c → B) : if decide c = true then A else B := by
  by_cases h : c
  · rw [if_pos (decide_eq_true h)]; exact h1 h
  · rw [if_neg (by rw [decide_eq_false h]; exact Bool.false_ne_true)]; exact h2 h
theorem it_ND {c A B : Prop} [Decidable c] (h1 : c → B) (h2 : ¬ c → A) : if (!decide c) = true then A else B := by
  by_cases h : c
  · rw [decide_eq_true h]; exact iteF (h1 h)
  · rw [decide_eq_false h]; exact iteT (h2 h)
theorem it_b {b : Bool} {A B : Prop} (h1 : b = true → A) (h2 : b = false → B) : if b = true then A else B := by
  cases b with
  | true => exact iteT (h1 rfl)
  | false => exact iteF (h2 rfl)
theorem it_Nb {b : Bool} {A B : Prop} (h1 : b = true → B) (h2 : b = false → A) : if (!b) = true then A else B := by
  cases b with
  | true => exact iteF (h1 rfl)
  | false => exact iteT (h2 rfl)
theorem atI_pos {α : Type} {xs : List α} {i : Int} (h0 : 0 ≤ i) (h1 : i < xs.length) : atI xs i = xs[i.toNat]? := by
  unfold atI ixN
  rw [if_pos h0, if_pos h1]
  rfl
theorem look_at {f : List Sure} {i : Int} (h0 : 0 ≤ i) (h1 : i < (f.length : Int)) : atI (sD f) i = some (.str (look f i).s) := by
  have hl : i.toNat < f.length := by omega
  rw [atI_pos h0 (by rw [sD_len]; exact h1)]
  unfold sD look
  rw [List.getElem?_map, List.getElem?_map, List.getD_eq_getElem?_getD, List.getElem?_eq_getElem hl] <;> rfl
theorem atI_map {α β : Type} {f : α → β} {xs : List α} {i : Int} {d : α} (h0 : 0 ≤ i) (h1 : i < xs.length) : atI (xs.map f) i = some (f (xs.getD i.toNat d)) := by
  have hl : i.toNat < xs.length := by omega
  rw [atI_pos h0 (by rw [List.length_map]; exact h1), List.getElem?_map, List.getD_eq_getElem?_getD, List.getElem?_eq_getElem hl] <;> rfl
end WD

/-! comprehensions and loops over the data of a list -/
namespace WD
open PySem PySem.Spec PyProof.Rows L2 Evl
section
variable {J : Option Addr} {K : PySem.W.Frag} {A : Env'} {te : TE} {k : Dt → Prop} {wi : TI} {g : TG} {tt : TT} {vs : List Nat} {pr : Bool} {α : Type} {t : TS} {X : DE}
theorem take_succ_of {xs : List α} {i : Nat} {x : α} (h : xs[i]? = some x) : xs.take (i + 1) = xs.take i ++ [x] := by
  rw [List.take_add_one, h]
  rfl
/-- [f x for x in xs if p x] -/
theorem ew_lcF (xs : List α) (e : α → Dt) (p : α → Bool) (f : α → Dt) (h : IW J K pr wi A fun ds => ds = xs.map e ∧ xs.length ≤ 100000 ∧
    (∀ x ∈ xs, GW J K g pr vs (e x) (wipeA A vs) fun A2 => ET J K tt A2 fun b => b = p x ∧ (p x = true → EW J K te A2 fun y => y = f x)) ∧ k (.list ((xs.filter p).map f))) : EW J K (tLc wi g tt te vs) A k := by
  refine ew_lc fun H0 σ F H I R q => h H0 σ F H I R fun Jt ds F2 H2 s w ⟨e1, hz, ht, c⟩ => q Jt ds F2 H2 s w ?_
  subst e1
  refine ⟨by rw [List.length_map]; exact hz, fun i acc => acc = ((xs.take i).filter p).map f, rfl, fun i d acc hd ha => ?_, fun acc ha => ?_⟩
  · rw [List.getElem?_map] at hd
    obtain ⟨x, hx, rfl⟩ := Option.map_eq_some_iff.mp hd
    subst ha
    refine fun H0 σ F H I x' hx' Q q => ht x (List.mem_of_getElem? hx) H0 σ F H I x' hx' Q fun A2 σ2 I2 c2 hl ho => q A2 σ2 I2 (et_mono c2 fun b hb => ?_) hl ho
    obtain ⟨hb1, hb2⟩ := hb
    subst hb1
    have key : ((xs.take (i + 1)).filter p).map f = ((xs.take i).filter p).map f ++ (([x].filter p).map f) := by
      rw [take_succ_of hx, List.filter_append, List.map_append]
    cases hp : p x with
    | true =>
      refine iteT (ew_mono (hb2 hp) fun y hy => ?_)
      subst hy
      show _ = ((xs.take (i + 1)).filter p).map f
      rw [key]
      simp [hp]
    | false =>
      refine iteF ?_
      show _ = ((xs.take (i + 1)).filter p).map f
      rw [key]
      simp [hp]
  · rw [List.length_map, List.take_length] at ha
    rw [ha]
    exact c
/-- [f x for x in xs] -/
theorem ew_lcM (xs : List α) (e : α → Dt) (f : α → Dt) (h : IW J K pr wi A fun ds => ds = xs.map e ∧ xs.length ≤ 100000 ∧
    (∀ x ∈ xs, GW J K g pr vs (e x) (wipeA A vs) fun A2 => EW J K te A2 fun y => y = f x) ∧ k (.list (xs.map f))) : EW J K (tLc wi g tYes te vs) A k := by
  refine ew_lcF xs e (fun _ => true) f fun H0 σ F H I R q => h H0 σ F H I R fun Jt ds F2 H2 s w ⟨e1, hz, ht, c⟩ => q Jt ds F2 H2 s w ⟨e1, hz, fun x hx => ?_, ?_⟩
  · exact fun H0 σ F H I x' hx' Q q => ht x hx H0 σ F H I x' hx' Q fun A2 σ2 I2 c2 hl ho => q A2 σ2 I2 (et_yes ⟨rfl, fun _ => c2⟩) hl ho
  · rw [List.filter_eq_self.mpr (fun _ _ => rfl)]
    exact c
/-- a loop over xs, the names behind each turn told by a function of what was taken -/
theorem sw_forF (xs : List α) (e : α → Dt) (E : List α → Env') (h : IW J K pr wi A fun ds => ds = xs.map e ∧ Wk A (E []) ∧
    (∀ pre x post, xs = pre ++ x :: post → GW J K g pr vs (e x) (E pre) fun A2 => SW J K t A2 ⟨fun A' => Wk A' (E (pre ++ [x])), X.rt, X.nx, fun A' => Wk A' (E (pre ++ [x]))⟩) ∧ X.nx (E xs)) : SW J K (tFor wi g t) A X := by
  refine sw_for (vs := vs) fun H0 σ F H I R q => h H0 σ F H I R fun Jt ds F2 H2 s w ⟨e1, hw, ht, c⟩ => q Jt ds F2 H2 s w ?_
  subst e1
  refine ⟨fun i A1 => A1 = E (xs.take i), ⟨_, rfl, hw⟩, fun i d A1 hd ha => ?_, fun A1 ha => ?_⟩
  · rw [List.getElem?_map] at hd
    obtain ⟨x, hx, rfl⟩ := Option.map_eq_some_iff.mp hd
    subst ha
    have hi : i < xs.length := (List.getElem?_eq_some_iff.mp hx).1
    have hsplit : xs = xs.take i ++ x :: xs.drop (i + 1) := by
      have hxe : xs[i] = x := by rw [List.getElem?_eq_getElem hi] at hx; exact Option.some.inj hx
      rw [← hxe, List.getElem_cons_drop, List.take_append_drop]
    refine fun H0 σ F H I x' hx' Q q => ht (xs.take i) x (xs.drop (i + 1)) hsplit H0 σ F H I x' hx' Q fun A2 σ2 I2 c2 hl ho => q A2 σ2 I2 (sw_mono c2 ?_ ?_ ?_ ?_) hl ho
    · intro A' hA
      rw [← take_succ_of hx] at hA
      exact ⟨_, rfl, hA⟩
    · exact fun d hd => hd
    · exact fun A' hA => hA
    · intro A' hA
      rw [← take_succ_of hx] at hA
      exact ⟨_, rfl, hA⟩
  · rw [List.length_map, List.take_length] at ha
    rw [ha]
    exact c
/-- the same with a fact carried along -/
theorem sw_forQ (xs : List α) (e : α → Dt) (Qp : List α → Prop) (E : List α → Env') (h : IW J K pr wi A fun ds => ds = xs.map e ∧ Wk A (E []) ∧ Qp [] ∧
    (∀ pre x post, xs = pre ++ x :: post → Qp pre → GW J K g pr vs (e x) (E pre) fun A2 => SW J K t A2 ⟨fun A' => Wk A' (E (pre ++ [x])) ∧ Qp (pre ++ [x]), X.rt, X.nx, fun A' => Wk A' (E (pre ++ [x])) ∧ Qp (pre ++ [x])⟩) ∧ (Qp xs → X.nx (E xs))) : SW J K (tFor wi g t) A X := by
  refine sw_for (vs := vs) fun H0 σ F H I R q => h H0 σ F H I R fun Jt ds F2 H2 s w ⟨e1, hw, hq, ht, c⟩ => q Jt ds F2 H2 s w ?_
  subst e1
  refine ⟨fun i A1 => A1 = E (xs.take i) ∧ Qp (xs.take i), ⟨_, ⟨rfl, hq⟩, hw⟩, fun i d A1 hd ha => ?_, fun A1 ha => ?_⟩
  · rw [List.getElem?_map] at hd
    obtain ⟨x, hx, rfl⟩ := Option.map_eq_some_iff.mp hd
    obtain ⟨rfl, hqi⟩ := ha
    have hi : i < xs.length := (List.getElem?_eq_some_iff.mp hx).1
    have hsplit : xs = xs.take i ++ x :: xs.drop (i + 1) := by
      have hxe : xs[i] = x := by rw [List.getElem?_eq_getElem hi] at hx; exact Option.some.inj hx
      rw [← hxe, List.getElem_cons_drop, List.take_append_drop]
    refine fun H0 σ F H I x' hx' Q q => ht (xs.take i) x (xs.drop (i + 1)) hsplit hqi H0 σ F H I x' hx' Q fun A2 σ2 I2 c2 hl ho => q A2 σ2 I2 (sw_mono c2 ?_ ?_ ?_ ?_) hl ho
    · intro A' hA
      rw [← take_succ_of hx] at hA
      exact ⟨_, ⟨rfl, hA.2⟩, hA.1⟩
    · exact fun d hd => hd
    · exact fun A' hA => hA
    · intro A' hA
      rw [← take_succ_of hx] at hA
      exact ⟨_, ⟨rfl, hA.2⟩, hA.1⟩
  · obtain ⟨e1, hq⟩ := ha
    rw [List.length_map, List.take_length] at e1 hq
    rw [e1]
    exact c hq
theorem enumD_map {β : Type} (ws : List β) (f : β → Dt) : enumD (ws.map f) = ws.zipIdx.map fun p => .tuple [.int ((p.2 : Nat) : Int), f p.1] := by
  unfold enumD
  rw [List.zipIdx_map, List.map_map]
  rfl
end
end WD

/-! the law's jar and script -/
namespace WD
open PySem PySem.Spec PyProof.Rows L2 Evl
section
variable {J : Option Addr} {K : PySem.W.Frag} {A : Env'} {ta tb tc te : TE} {k : Dt → Prop} {t u : TS}
theorem rd_pow {i j : Int} (h : CPow i j) (c : k (.int (i ^ j.toNat))) : RD J K (rI CPow fun i j => .int (i ^ j.toNat)) (.int i) (.int j) k := rd_I h (fun F => .int _) c
theorem rd_fdiv {i j : Int} (h : CDivN i j) (c : k (.int (i.fdiv j))) : RD J K (rI CDivN fun i j => .int (i.fdiv j)) (.int i) (.int j) k := rd_I h (fun F => .int _) c
theorem rd_mod {i j : Int} (h : j ≠ 0) (c : k (.int (i.fmod j))) : RD J K (rI (fun _ j => j ≠ 0) fun i j => .int (i.fmod j)) (.int i) (.int j) k := rd_I h (fun F => .int _) c
theorem cmulR {i j : Int} (h0 : -(2 ^ 64) < j) (h1 : j < 2 ^ 64) : CMul i j := .inr ⟨h0, h1⟩
theorem cmulL {i j : Int} (h0 : -(2 ^ 64) < i) (h1 : i < 2 ^ 64) : CMul i j := .inl ⟨h0, h1⟩
abbrev scrD (ns : List Int) : Dt := .dict [(.none, .list (ns.map .int))]
/-- script[..] -/
theorem ew_slScr {tl th : TO} (h : EV J K te A fun x => EO J K tl A fun lo => EO J K th A fun hi => ∃ ns : List Int, x = scrD ns ∧ k (.list ((cutD ns lo hi).map .int))) :
    EW J K (tSl (rSlU K) te tl th) A k := fun H0 σ F H I Q q => h H0 σ F H I _ fun v d F1 H1 s1 hv h1 => h1 H0 σ F1 H1 (I.step s1) _ fun lo F2 H2 s2 h2 => h2 H0 σ F2 H2 ((I.step s1).step s2) _ fun hi F3 H3 s3 h3 => by
  obtain ⟨ns, rfl, c⟩ := h3
  have hv3 := (hv.step s2).step s3
  have s123 := (s1.trans s2).trans s3
  have z : ∃ p, v = .ref p ∧ SqL K F3 p (ns.map V.int) := by
    rcases hv3 with h | ⟨_, _, _, _, e, _⟩
    · unfold scrD at h
      generalize ed : PyData.dict [(.none, .list (ns.map .int))] = d at h
      cases h with
      | jar _ => cases ed
      | @scr a ns' hs =>
        have e1 : ns.map PyData.int = ns'.map PyData.int := by
          have := PyData.dict.inj ed
          simpa using this
        have e2 : ns = ns' := by
          have g : ∀ a b : List Int, a.map PyData.int = b.map PyData.int → a = b := fun a => by
            induction a with
            | nil => intro b h; cases b with
              | nil => rfl
              | cons => simp at h
            | cons x a ih => intro b h; cases b with
              | nil => simp at h
              | cons y b =>
                rw [List.map_cons, List.map_cons] at h
                obtain ⟨h1, h2⟩ := List.cons.inj h
                rw [PyData.int.inj h1, ih b h2]
          exact g _ _ e1
        subst e2
        exact ⟨a, rfl, hs⟩
      | _ => cases ed
    · cases e
  obtain ⟨p, rfl, hp⟩ := z
  refine .inl ⟨p, _, rfl, sqL_ext s3.fh hp, fun n hn => ?_⟩
  have s := Step.newF (o := .lst (cutV (ns.map V.int) lo hi)) s3.fh s3.jar hn
  refine q _ _ _ _ (s123.trans s) (.lst upd_same ?_) c
  have e : cutV (ns.map V.int) lo hi = (cutD ns lo hi).map V.int := by
    unfold cutV cutD
    rw [List.length_map, List.map_take, List.map_drop]
  rw [e]
  exact DdAll.of_ints _
theorem raw_seq {X : Env' → Prop} {F0 H0 F H : Hp} {σ : L2.St} {D : Ends} (h : SW J K t A ⟨X, fun _ => False, fun _ => False, fun _ => False⟩) (I : InS J K F0 H0 A σ F H) (q : ∀ A' σ' F' H', X A' → InS J K F0 H0 A' σ' F' H' → Ex F F' → u D σ' H') : tSeq t u D σ H :=
  h F0 H0 σ F H I { D with nx := u D } q (fun _ _ _ _ c => c.elim) (fun _ _ _ _ c => c.elim) fun _ _ _ _ c => c.elim
/-- the jar is written -/
theorem Step.jarw {a : Addr} {F H : Hp} {l : Addr} {ns : List Int} {k more : Int} (e : Ex F H) (f0 : F a = none) (hl : F l = some (.lst (ns.map V.int))) (h0 : 0 ≤ k) (m0 : 0 ≤ more) (m1 : more < 2147483629) :
    Step (some a) F H F (upd H a (.dK [(Sum.inr "draws", .ref l), (Sum.inr "at", .int k), (Sum.inr "more", .int more)])) := by
  refine ⟨Ex.refl F, fun p o hp ho => ?_, fun p o ho => ?_, fun p hf _ => hf, fun b hb => ?_⟩
  · rw [upd_ne (fun z : p = a => hp (by rw [z]))]; exact ho
  · rw [upd_ne (fun z : p = a => by rw [z, f0] at ho; cases ho)]; exact e p o ho
  · cases hb
    exact ⟨f0, l, ns, k, more, upd_same, hl, h0, m0, m1⟩
end
end WD

/-! the order of rows of numbers; shapes of data -/
namespace WD
open PySem PySem.Spec PyProof.Rows L2 Evl
theorem ltI_irrefl : ∀ a, ltI a a = false
  | [] => rfl
  | x :: a => by unfold ltI; rw [if_pos rfl]; exact ltI_irrefl a
theorem ltI_asymm : ∀ a b, ltI a b = true → ltI b a = false
  | [], [], h => rfl
  | [], _ :: _, h => rfl
  | _ :: _, [], h => by cases h
  | x :: a, y :: b, h => by
    unfold ltI at h ⊢
    by_cases e : x = y
    · rw [if_pos e] at h; rw [if_pos e.symm]; exact ltI_asymm a b h
    · rw [if_neg e] at h; rw [if_neg (fun z => e z.symm)]
      have := of_decide_eq_true h
      exact decide_eq_false (by omega)
theorem ltI_trans : ∀ a b c, ltI a b = true → ltI b c = true → ltI a c = true
  | [], [], _, h, _ => by cases h
  | [], _ :: _, [], _, h => by cases h
  | [], _ :: _, _ :: _, _, _ => rfl
  | _ :: _, [], _, h, _ => by cases h
  | _ :: _, _ :: _, [], _, h => by cases h
  | x :: a, y :: b, z :: c, h1, h2 => by
    unfold ltI at h1 h2 ⊢
    by_cases e : x = y
    · rw [if_pos e] at h1
      by_cases e2 : y = z
      · rw [if_pos e2] at h2; rw [if_pos (e.trans e2)]; exact ltI_trans a b c h1 h2
      · rw [if_neg e2] at h2; rw [if_neg (fun w => e2 (e.symm.trans w)), e]; exact h2
    · rw [if_neg e] at h1
      have k1 := of_decide_eq_true h1
      by_cases e2 : y = z
      · rw [if_neg (fun w => e (w.trans e2.symm)), ← e2]; exact h1
      · rw [if_neg e2] at h2
        have k2 := of_decide_eq_true h2
        rw [if_neg (by omega)]; exact decide_eq_true (by omega)
theorem ltI_tri : ∀ a b, ltI a b = false → ltI b a = false → a = b
  | [], [], _, _ => rfl
  | [], _ :: _, h, _ => by cases h
  | _ :: _, [], _, h => by cases h
  | x :: a, y :: b, h1, h2 => by
    unfold ltI at h1 h2
    by_cases e : x = y
    · rw [if_pos e] at h1; rw [if_pos e.symm] at h2; rw [e, ltI_tri a b h1 h2]
    · rw [if_neg e] at h1; rw [if_neg (fun z => e z.symm)] at h2
      have k1 := of_decide_eq_false h1
      have k2 := of_decide_eq_false h2
      exact absurd (show x = y by omega) e
/-- not less: the total order -/
theorem ltI_le_trans {a b c : List Int} (h1 : ltI b a = false) (h2 : ltI c b = false) : ltI c a = false := by
  cases h : ltI c a with
  | false => rfl
  | true =>
    cases h3 : ltI a b with
    | true => rw [ltI_trans c a b h h3] at h2; cases h2
    | false =>
      have e := ltI_tri a b h3 h1
      subst e
      rw [h] at h2; cases h2
theorem lt_core : ∀ xs ys : List Int, decide (xs < ys) = ltI xs ys
  | [], [] => by simp [ltI]
  | [], y :: ys => by simp [ltI]
  | x :: xs, [] => by simp [ltI]
  | x :: xs, y :: ys => by
    unfold ltI
    rw [← lt_core xs ys]
    by_cases e : x = y
    · subst e; simp [List.cons_lt_cons_iff]
    · rw [if_neg e]; simp [List.cons_lt_cons_iff, e]
theorem dataLt_lD (a b : List Int) : PySem.W.dataLt (lD a) (lD b) = ltI a b := by
  unfold lD iD
  rw [PySem.W.dataLt_tuple, ← lt_core]
  exact PySem.W.dataLt_ints a b
theorem alikeAll_ints : ∀ a b : List Int, PySem.W.alikeAll (a.map .int) (b.map .int) = true
  | [], [] => by simp [PySem.W.alikeAll]
  | [], _ :: _ => by simp [PySem.W.alikeAll]
  | _ :: _, [] => by simp [PySem.W.alikeAll]
  | x :: a, y :: b => by
    rw [List.map_cons, List.map_cons, PySem.W.alikeAll, alikeAll_ints a b]
    simp [PySem.W.alike]
theorem alike_lD (a b : List Int) : PySem.W.alike (lD a) (lD b) = true := by
  unfold lD iD
  rw [PySem.W.alike]
  exact alikeAll_ints a b
theorem canLay_ints : ∀ a : List Int, PyData.canLayAll0 (a.map .int) = true
  | [] => by simp [PyData.canLayAll0]
  | x :: a => by rw [List.map_cons, PyData.canLayAll0, canLay_ints a]; simp [PyData.canLay0]
theorem canLay_lD (a : List Int) : (lD a).canLay0 = true := by unfold lD iD; rw [PyData.canLay0]; exact canLay_ints a
theorem depth_ints : ∀ a : List Int, PyData.depthAll (a.map .int) = 0
  | [] => by simp [PyData.depthAll]
  | x :: a => by rw [List.map_cons, PyData.depthAll, depth_ints a]; simp [PyData.depth]
theorem depth_lD (a : List Int) : (lD a).depth = 1 := by unfold lD iD; rw [PyData.depth, depth_ints]
theorem shaped_lD (a : List Int) : SeqAt.shaped (lD a) = true := by unfold SeqAt.shaped; rw [canLay_lD, depth_lD]; rfl
theorem eqv_ints : ∀ a b : List Int, PyData.eqvAll (a.map .int) (b.map .int) = decide (a = b)
  | [], [] => by simp [PyData.eqvAll]
  | [], _ :: _ => by simp [PyData.eqvAll]
  | _ :: _, [] => by simp [PyData.eqvAll]
  | x :: a, y :: b => by
    rw [List.map_cons, List.map_cons, PyData.eqvAll, eqv_ints a b, PyData.eqv]
    by_cases e : x = y
    · subst e; simp
    · simp [e]
theorem eqv_lD (a b : List Int) : PyData.eqv (lD a) (lD b) = decide (a = b) := by unfold lD iD; rw [PyData.eqv]; exact eqv_ints a b
theorem canLay_parts : ∀ p : Part, PyData.canLayAll0 (p.map pD) = true
  | [] => by simp [PyData.canLayAll0]
  | x :: a => by
    rw [List.map_cons, PyData.canLayAll0, canLay_parts a]
    cases x <;> simp [PyData.canLay0, pD]
theorem depth_parts : ∀ p : Part, PyData.depthAll (p.map pD) = 0
  | [] => by simp [PyData.depthAll]
  | x :: a => by
    rw [List.map_cons, PyData.depthAll, depth_parts a]
    cases x <;> simp [PyData.depth, pD]
theorem canLay_setD (s : List Bool) : (setD s).canLay0 = true := by unfold setD partD; rw [PyData.canLay0]; exact canLay_parts _
theorem depth_setD (s : List Bool) : (setD s).depth = 1 := by unfold setD partD; rw [PyData.depth, depth_parts]
theorem canLay_sets : ∀ ss : List (List Bool), PyData.canLayAll0 (ss.map setD) = true
  | [] => by simp [PyData.canLayAll0]
  | x :: a => by rw [List.map_cons, PyData.canLayAll0, canLay_sets a, canLay_setD]; rfl
theorem depth_sets : ∀ ss : List (List Bool), PyData.depthAll (ss.map setD) ≤ 1
  | [] => by simp [PyData.depthAll]
  | x :: a => by
    rw [List.map_cons, PyData.depthAll, depth_setD]
    have := depth_sets a
    omega
theorem shaped_sets (ss : List (List Bool)) : SeqAt.shaped (.list (ss.map setD)) = true := by
  unfold SeqAt.shaped
  have := depth_sets ss
  rw [PyData.canLay0, canLay_sets, PyData.depth]
  exact decide_eq_true (by omega)
theorem eqv_nil (xs : List Dt) : PyData.eqv (.list xs) (.list []) = xs.isEmpty := by
  rw [PyData.eqv]
  cases xs <;> simp [PyData.eqvAll]

/-- the first of the least: by places -/
theorem best_fold (x : List Int) : ∀ (xs : List (List Int)) (k : Nat), k ≤ xs.length →
    (x :: xs)[argBest (fun i j => ltI ((x :: xs).getD i []) ((x :: xs).getD j [])) k]? = some ((xs.take k).foldl (fun b y => if ltI y b = true then y else b) x)
  | xs, 0, _ => by simp [argBest]
  | xs, k + 1, h => by
    have ih := best_fold x xs k (by omega)
    have hx : xs[k]? = some xs[k] := List.getElem?_eq_getElem (by omega)
    have et : xs.take (k + 1) = xs.take k ++ [xs[k]] := by rw [List.take_add_one, hx] <;> rfl
    rw [et, List.foldl_append]
    simp only [argBest, List.foldl_cons, List.foldl_nil]
    have g1 : (x :: xs).getD (k + 1) [] = xs[k] := by rw [List.getD_eq_getElem?_getD, List.getElem?_cons_succ, hx] <;> rfl
    have g2 : (x :: xs).getD (argBest (fun i j => ltI ((x :: xs).getD i []) ((x :: xs).getD j [])) k) [] = (xs.take k).foldl (fun b y => if ltI y b = true then y else b) x := by
      rw [List.getD_eq_getElem?_getD, ih] <;> rfl
    have cc : ltI ((x :: xs).getD (k + 1) []) ((x :: xs).getD (argBest (fun i j => ltI ((x :: xs).getD i []) ((x :: xs).getD j [])) k) []) = ltI xs[k] ((xs.take k).foldl (fun b y => if ltI y b = true then y else b) x) := by rw [g1, g2]
    by_cases c : ltI xs[k] ((xs.take k).foldl (fun b y => if ltI y b = true then y else b) x) = true
    · rw [if_pos (cc.trans c), if_pos c, List.getElem?_cons_succ, hx]
    · rw [if_neg (fun z => c (cc.symm.trans z)), if_neg c]; exact ih
theorem bestD_is (ls : List (List Int)) (h : ls ≠ []) {d : Dt} (hd : (ls.map lD)[bestD (ls.map lD)]? = some d) : d = lD (minL ls) := by
  cases ls with
  | nil => exact absurd rfl h
  | cons x xs =>
    have e : bestD ((x :: xs).map lD) = argBest (fun i j => ltI ((x :: xs).getD i []) ((x :: xs).getD j [])) xs.length := by
      unfold bestD
      rw [List.length_map, List.length_cons, Nat.add_sub_cancel]
      -- places within the list
      have g : ∀ (bt bt' : Nat → Nat → Bool) (n : Nat), (∀ i j, i ≤ n → j ≤ n → bt i j = bt' i j) → ∀ k, k ≤ n → argBest bt k = argBest bt' k := fun bt bt' n hb k => by
        induction k with
        | zero => intro _; rfl
        | succ k ih =>
          intro hk
          have ih' := ih (by omega)
          have hle := argBest_le bt' k
          simp only [argBest]
          rw [ih', hb (k + 1) (argBest bt' k) hk (by omega)]
      refine g _ _ xs.length (fun i j hi hj => ?_) xs.length (Nat.le_refl _)
      have gd : ∀ i, i ≤ xs.length → ((x :: xs).map lD).getD i .none = lD ((x :: xs).getD i []) := fun i hi => by
        have hl : i < (x :: xs).length := by rw [List.length_cons]; omega
        rw [List.getD_eq_getElem?_getD, List.getD_eq_getElem?_getD, List.getElem?_map, List.getElem?_eq_getElem hl] <;> rfl
      show PySem.W.dataLt (((x :: xs).map lD).getD i .none) (((x :: xs).map lD).getD j .none) = _
      rw [gd i hi, gd j hj, dataLt_lD]
    rw [e, List.getElem?_map, best_fold x xs xs.length (Nat.le_refl _), List.take_length] at hd
    exact (Option.some.inj hd).symm
theorem minL_le : ∀ (ls : List (List Int)) (x : List Int), x ∈ ls → ltI x (minL ls) = false := by
  have g : ∀ (xs : List (List Int)) (b : List Int), ltI b (xs.foldl (fun b y => if ltI y b = true then y else b) b) = false ∧ ∀ y ∈ xs, ltI y (xs.foldl (fun b y => if ltI y b = true then y else b) b) = false := fun xs => by
    induction xs with
    | nil => intro b; exact ⟨ltI_irrefl b, fun y hy => by simp at hy⟩
    | cons z xs ih =>
      intro b
      rw [List.foldl_cons]
      by_cases c : ltI z b = true
      · rw [if_pos c]
        obtain ⟨h1, h2⟩ := ih z
        refine ⟨ltI_le_trans h1 (ltI_asymm z b c), fun y hy => ?_⟩
        rcases List.mem_cons.mp hy with rfl | hy
        · exact h1
        · exact h2 y hy
      · rw [if_neg c]
        obtain ⟨h1, h2⟩ := ih b
        refine ⟨h1, fun y hy => ?_⟩
        rcases List.mem_cons.mp hy with rfl | hy
        · exact ltI_le_trans h1 (by simpa using c)
        · exact h2 y hy
  intro ls x hx
  cases ls with
  | nil => simp at hx
  | cons b xs =>
    obtain ⟨h1, h2⟩ := g xs b
    rcases List.mem_cons.mp hx with rfl | hx
    · exact h1
    · exact h2 x hx
theorem minL_mem : ∀ (ls : List (List Int)), ls ≠ [] → minL ls ∈ ls := by
  have g : ∀ (xs : List (List Int)) (b : List Int), xs.foldl (fun b y => if ltI y b = true then y else b) b ∈ b :: xs := fun xs => by
    induction xs with
    | nil => intro b; simp
    | cons z xs ih =>
      intro b
      rw [List.foldl_cons]
      have := ih (if ltI z b = true then z else b)
      rcases List.mem_cons.mp this with h | h
      · rw [h]
        by_cases c : ltI z b = true
        · rw [if_pos c]; simp
        · rw [if_neg c]; simp
      · simp [h]
  intro ls h
  cases ls with
  | nil => exact absurd rfl h
  | cons b xs => exact g xs b

/-! <= and >= of the model -/
theorem lexAt_shift (e r : Nat → Bool) (z : Bool) : ∀ n i, Ob.lexAt e r z (i + 1) n = Ob.lexAt (fun j => e (j + 1)) (fun j => r (j + 1)) z i n
  | 0, _ => rfl
  | n + 1, i => by
    rw [Ob.lexAt_succ, Ob.lexAt_succ, lexAt_shift e r z n (i + 1)]
theorem geI_eq : ∀ xs ys : List Int, geI xs ys = !ltI xs ys
  | [], [] => rfl
  | [], y :: ys => by simp [geI, ltI, Ob.lexAt]
  | x :: xs, [] => by simp [geI, ltI, Ob.lexAt]
  | x :: xs, y :: ys => by
    have ih := geI_eq xs ys
    unfold geI at ih ⊢
    have em : min (x :: xs).length (y :: ys).length = min xs.length ys.length + 1 := by simp only [List.length_cons]; omega
    have ez : decide ((x :: xs).length ≥ (y :: ys).length) = decide (xs.length ≥ ys.length) := by simp
    rw [em, ez, Ob.lexAt_succ, lexAt_shift]
    have i2 : Ob.lexAt (fun j => decide ((x :: xs).getD (j + 1) 0 = (y :: ys).getD (j + 1) 0)) (fun j => decide ((x :: xs).getD (j + 1) 0 ≥ (y :: ys).getD (j + 1) 0)) (decide (xs.length ≥ ys.length)) 0 (min xs.length ys.length) = !ltI xs ys := ih
    have ht : ltI (x :: xs) (y :: ys) = if x = y then ltI xs ys else decide (x < y) := rfl
    rw [i2, ht]
    have h0 : (x :: xs).getD 0 0 = x := rfl
    have h1 : (y :: ys).getD 0 0 = y := rfl
    rw [h0, h1]
    by_cases c : x = y
    · rw [if_pos (decide_eq_true c), if_pos c]
    · rw [if_neg (by rw [decide_eq_false c]; exact Bool.false_ne_true), if_neg c]
      by_cases d : x < y
      · rw [decide_eq_true d, decide_eq_false (by omega)] <;> rfl
      · rw [decide_eq_false d, decide_eq_true (by omega)] <;> rfl
theorem leI_eq : ∀ xs ys : List Int, leI xs ys = !ltI ys xs
  | [], [] => rfl
  | [], y :: ys => by simp [leI, ltI, Ob.lexAt]
  | x :: xs, [] => by simp [leI, ltI, Ob.lexAt]
  | x :: xs, y :: ys => by
    have ih := leI_eq xs ys
    unfold leI at ih ⊢
    have em : min (x :: xs).length (y :: ys).length = min xs.length ys.length + 1 := by simp only [List.length_cons]; omega
    have ez : decide ((x :: xs).length ≤ (y :: ys).length) = decide (xs.length ≤ ys.length) := by simp
    rw [em, ez, Ob.lexAt_succ, lexAt_shift]
    have i2 : Ob.lexAt (fun j => decide ((x :: xs).getD (j + 1) 0 = (y :: ys).getD (j + 1) 0)) (fun j => decide ((x :: xs).getD (j + 1) 0 ≤ (y :: ys).getD (j + 1) 0)) (decide (xs.length ≤ ys.length)) 0 (min xs.length ys.length) = !ltI ys xs := ih
    have ht : ltI (y :: ys) (x :: xs) = if y = x then ltI ys xs else decide (y < x) := rfl
    rw [i2, ht]
    have h0 : (x :: xs).getD 0 0 = x := rfl
    have h1 : (y :: ys).getD 0 0 = y := rfl
    rw [h0, h1]
    by_cases c : x = y
    · rw [if_pos (decide_eq_true c), if_pos c.symm]
    · rw [if_neg (by rw [decide_eq_false c]; exact Bool.false_ne_true), if_neg (fun z => c z.symm)]
      by_cases d : y < x
      · rw [decide_eq_true d, decide_eq_false (by omega)] <;> rfl
      · rw [decide_eq_false d, decide_eq_true (by omega)] <;> rfl

/-! the greatest rank, the losses' row -/
theorem maxRank_ge : ∀ (ws : List Wish), ∀ w ∈ ws, w.rank.toNat ≤ maxRank ws := by
  have g : ∀ (ns : List Nat) (b : Nat), b ≤ ns.foldl max b ∧ ∀ n ∈ ns, n ≤ ns.foldl max b := fun ns => by
    induction ns with
    | nil => intro b; exact ⟨Nat.le_refl _, fun n hn => by simp at hn⟩
    | cons x ns ih =>
      intro b
      rw [List.foldl_cons]
      obtain ⟨h1, h2⟩ := ih (max b x)
      refine ⟨by omega, fun n hn => ?_⟩
      rcases List.mem_cons.mp hn with rfl | hn
      · omega
      · exact h2 n hn
  intro ws w hw
  exact (g _ 0).2 _ (List.mem_map_of_mem hw)
theorem maxRank_mem (ws : List Wish) : maxRank ws = 0 ∨ ∃ w ∈ ws, w.rank.toNat = maxRank ws := by
  have g : ∀ (ns : List Nat) (b : Nat), ns.foldl max b = b ∨ ns.foldl max b ∈ ns := fun ns => by
    induction ns with
    | nil => intro b; exact .inl rfl
    | cons x ns ih =>
      intro b
      rw [List.foldl_cons]
      rcases ih (max b x) with h | h
      · rw [h]
        by_cases c : b ≤ x
        · right; rw [Nat.max_eq_right c]; simp
        · left; exact Nat.max_eq_left (by omega)
      · right; exact List.mem_cons_of_mem _ h
  rcases g (ws.map fun w => w.rank.toNat) 0 with h | h
  · exact .inl h
  · right
    obtain ⟨w, hw, e⟩ := List.mem_map.mp h
    exact ⟨w, hw, e⟩
theorem addAt_len (ws : List Wish) (f : List Int) (pl : Int) : (addAt ws f pl).length = f.length := by
  unfold addAt
  cases ws[pl.toNat]? with
  | none => rfl
  | some w => exact List.length_set ..
theorem addAll_len (ws : List Wish) : ∀ (ps : List Int) (f : List Int), (ps.foldl (addAt ws) f).length = f.length
  | [], _ => rfl
  | p :: ps, f => by rw [List.foldl_cons, addAll_len ws ps, addAt_len]
theorem wishesLosses_len (ws : List Wish) (ps : List Int) : (wishesLosses ws ps).length = maxRank ws := by
  unfold wishesLosses
  rw [addAll_len, List.length_replicate]
theorem lostBy_mem {f : Int → Bool} {ws : List Wish} {pl : Int} (h : pl ∈ lostBy f ws) : 0 ≤ pl ∧ pl < (ws.length : Int) ∧ ∃ w, ws[pl.toNat]? = some w ∧ f w.num = true := by
  unfold lostBy at h
  obtain ⟨p, hp, rfl⟩ := List.mem_map.mp h
  obtain ⟨hp1, hp2⟩ := List.mem_filter.mp hp
  have hz : ws[p.2]? = some p.1 := by
    have := List.mem_zipIdx_iff_getElem?.mp hp1
    exact this
  have hl : p.2 < ws.length := (List.getElem?_eq_some_iff.mp hz).1
  refine ⟨by omega, by omega, p.1, by simpa using hz, hp2⟩
theorem lostBy_len (f : Int → Bool) (ws : List Wish) : (lostBy f ws).length ≤ ws.length := by
  unfold lostBy
  rw [List.length_map]
  have := List.length_filter_le (fun p : Wish × Nat => f p.1.num) ws.zipIdx
  rw [List.length_zipIdx] at this
  exact this
end WD

/-! plain facts: settings, full partial settings, trees -/
namespace WD
open PySem PySem.Spec PyProof.Rows L2 Evl

theorem allF_cons (x : Option Bool) (p : Part) : ∀ acc : List (List Bool), (x :: p).foldl (fun fs w => fs.flatMap fun s => (worths w).map fun b => s ++ [b]) acc = p.foldl (fun fs w => fs.flatMap fun s => (worths w).map fun b => s ++ [b]) (acc.flatMap fun s => (worths x).map fun b => s ++ [b]) := fun _ => rfl
theorem mem_allF (s : List Bool) : s ∈ allF (List.replicate s.length none) := by
  have g : ∀ (t u : List Bool) (acc : List (List Bool)), u ∈ acc → u ++ t ∈ (List.replicate t.length none).foldl (fun fs w => fs.flatMap fun s => (worths w).map fun b => s ++ [b]) acc := fun t => by
    induction t with
    | nil => intro u acc h; simpa using h
    | cons b t ih =>
      intro u acc h
      rw [List.length_cons, List.replicate_succ, List.foldl_cons]
      have := ih (u ++ [b]) (acc.flatMap fun s => (worths none).map fun b => s ++ [b]) (List.mem_flatMap.mpr ⟨u, h, List.mem_map.mpr ⟨b, by cases b <;> simp [worths], rfl⟩⟩)
      simpa using this
  have := g s [] [[]] (by simp)
  simpa [allF] using this

/-! by a full partial setting nothing is open -/
theorem wordSure_full (w : Int) (s : List Bool) (h0 : w ≠ 0) (h : w.natAbs ≤ s.length) : wordSure w (s.map some) ≠ .opn := by
  unfold wordSure
  have hl : w.natAbs - 1 < s.length := by omega
  rw [List.getD_eq_getElem?_getD, List.getElem?_map, List.getElem?_eq_getElem hl]
  show (if s[w.natAbs - 1] = decide (0 < w) then Sure.kept else Sure.broken) ≠ .opn
  split <;> exact fun z => nomatch z
theorem eitherSure_full (ws : List Int) (s : List Bool) (h : ∀ w ∈ ws, w ≠ 0 ∧ w.natAbs ≤ s.length) : eitherSure ws (s.map some) ≠ .opn := by
  unfold eitherSure
  have no : Sure.opn ∉ ws.map (wordSure · (s.map some)) := fun z => by
    obtain ⟨w, hw, e⟩ := List.mem_map.mp z
    exact wordSure_full w s (h w hw).1 (h w hw).2 e
  dsimp only
  rw [if_neg no]
  split <;> exact fun z => nomatch z
theorem count_full : ∀ f : List Sure, (∀ x ∈ f, x ≠ .opn) → f.count .broken + f.count .kept = f.length
  | [], _ => rfl
  | x :: f, h => by
    have ih := count_full f (fun y hy => h y (List.mem_cons_of_mem _ hy))
    have hx := h x (by simp)
    rw [List.count_cons, List.count_cons, List.length_cons]
    cases x with
    | kept => simp; omega
    | broken => simp; omega
    | opn => exact absurd rfl hx
theorem countSure_full (m : Int) (f : List Sure) (h : ∀ x ∈ f, x ≠ .opn) : countSure m f ≠ .opn := by
  have := count_full f h
  unfold countSure
  split
  · exact fun z => nomatch z
  · rw [if_pos (by omega)]; exact fun z => nomatch z
theorem rulesSure_snoc' (pre : List Rl) (r : Rl) (p : Part) : rulesSure (pre ++ [r]) p = rulesSure pre p ++ [ruleSure p (rulesSure pre p) r] := by
  unfold rulesSure
  rw [List.foldl_append]
  rfl
theorem look_mem {f : List Sure} {i : Int} (h0 : 0 ≤ i) (h1 : i < (f.length : Int)) : look f i ∈ f := by
  unfold look
  have hl : i.toNat < f.length := by omega
  rw [List.getD_eq_getElem?_getD, List.getElem?_eq_getElem hl]
  exact List.getElem_mem hl
theorem rulesSure_len' (p : Part) (rs : List Rl) : (rulesSure rs p).length = rs.length := by
  have g : ∀ (rs : List Rl) (acc : List Sure), (rs.foldl (fun f r => f ++ [ruleSure p f r]) acc).length = acc.length + rs.length := fun rs => by
    induction rs with
    | nil => intro acc; rfl
    | cons r rs ih =>
      intro acc
      rw [List.foldl_cons, ih, List.length_append, List.length_cons]
      simp
      omega
  unfold rulesSure
  rw [g]
  simp
theorem snoc_ind {α : Type} {motive : List α → Prop} (nil : motive []) (snoc : ∀ l a, motive l → motive (l ++ [a])) (l : List α) : motive l := by
  have g : ∀ l : List α, motive l.reverse := fun l => by
    induction l with
    | nil => exact nil
    | cons a l ih => rw [List.reverse_cons]; exact snoc _ _ ih
  have := g l.reverse
  rwa [List.reverse_reverse] at this
theorem RlsOk.pre {n : Nat} {pre : List Rl} {r : Rl} (h : RlsOk n (pre ++ [r])) : RlsOk n pre ∧ RlOk n pre.length r := by
  refine ⟨⟨by have := h.len; rw [List.length_append] at this; omega, fun i x hx => h.at_ i x ?_⟩, h.at_ _ _ (by simp)⟩
  have hi : i < pre.length := (List.getElem?_eq_some_iff.mp hx).1
  rw [List.getElem?_append_left hi]
  exact hx
theorem rulesSure_full (s : List Bool) : ∀ rs : List Rl, RlsOk s.length rs → ∀ x ∈ rulesSure rs (s.map some), x ≠ .opn := by
  refine snoc_ind (fun _ x hx => by simp [rulesSure] at hx) fun pre r ih h x hx => ?_
  obtain ⟨h1, h2⟩ := h.pre
  have ih' := ih h1
  rw [rulesSure_snoc'] at hx
  rcases List.mem_append.mp hx with hx | hx
  · exact ih' x hx
  · simp at hx
    subst hx
    have lk : ∀ k : Int, 0 ≤ k → k < (pre.length : Int) → look (rulesSure pre (s.map some)) k ≠ .opn := fun k k0 k1 => ih' _ (look_mem k0 (by rw [rulesSure_len']; exact k1))
    cases r with
    | or ws => exact eitherSure_full ws s h2.1
    | few m ns =>
      refine countSure_full m _ fun x hx => ?_
      obtain ⟨k, hk, rfl⟩ := List.mem_map.mp hx
      exact lk k (h2.2.2.1 k hk).1 (h2.2.2.1 k hk).2
    | no k =>
      have := lk k h2.1 h2.2
      show (look (rulesSure pre (s.map some)) k).flip ≠ .opn
      cases hl : look (rulesSure pre (s.map some)) k with
      | kept => exact fun z => nomatch z
      | broken => exact fun z => nomatch z
      | opn => exact absurd hl this
theorem keptB {h : Hs} (ok : HsOk h) {s : List Bool} (hs : s.length = h.n) {i : Int} (h0 : 0 ≤ i) (h1 : i < (h.rules.length : Int)) : (!lookB (rulesKept h.rules s) i) = decide (look (rulesSure h.rules (s.map some)) i = .broken) := by
  have hl : i.toNat < h.rules.length := by omega
  have hl2 : i.toNat < (rulesSure h.rules (s.map some)).length := by rw [rulesSure_len']; exact hl
  have nf := rulesSure_full s h.rules (by rw [hs]; exact ok.rules) _ (look_mem (f := rulesSure h.rules (s.map some)) h0 (by rw [rulesSure_len']; exact h1))
  have e1 : lookB (rulesKept h.rules s) i = decide (look (rulesSure h.rules (s.map some)) i = .kept) := by
    unfold lookB rulesKept look
    rw [List.getD_eq_getElem?_getD, List.getElem?_map, List.getD_eq_getElem?_getD, List.getElem?_eq_getElem hl2] <;> rfl
  rw [e1]
  cases hx : look (rulesSure h.rules (s.map some)) i with
  | kept => rfl
  | broken => rfl
  | opn => exact absurd hx nf
theorem filter_congr' {α : Type} {p q : α → Bool} : ∀ {l : List α}, (∀ x ∈ l, p x = q x) → l.filter p = l.filter q
  | [], _ => rfl
  | x :: l, h => by
    rw [List.filter_cons, List.filter_cons, h x (by simp), filter_congr' (fun y hy => h y (List.mem_cons_of_mem _ hy))]
theorem broken_lost {h : Hs} (ok : HsOk h) {s : List Bool} (hs : s.length = h.n) : brokenPlaces h (s.map some) = lostWishes h s := by
  unfold brokenPlaces lostWishes lostBy
  rw [filter_congr' fun p hp => ?_]
  have hm : p.1 ∈ h.wishes := List.mem_of_getElem? (List.mem_zipIdx_iff_getElem?.mp hp)
  have w := ok.wishes p.1 hm
  exact (keptB ok hs w.n0 w.n1).symm
theorem keeps_find {h : Hs} (ok : HsOk h) {s : List Bool} (hs : s.length = h.n) (hf : (h.musts.find? fun i => decide (look (rulesSure h.rules (s.map some)) i = .broken)) = none) : keepsMusts h s = true := by
  unfold keepsMusts
  refine List.all_eq_true.mpr fun i hi => ?_
  have h1 := List.find?_eq_none.mp hf i hi
  have h2 := keptB ok hs (ok.musts i hi).1 (ok.musts i hi).2
  cases hb : lookB (rulesKept h.rules s) i with
  | true => rfl
  | false =>
    rw [hb] at h2
    exact absurd h2.symm h1

/-! the trees -/
/-- each setting breaks a must or loses so much -/
def TG (h : Hs) (least : Option (List Int)) : Prop := ∀ s : List Bool, s.length = h.n → keepsMusts h s = true → geO (losses h s) least = true
theorem full_is : ∀ p : Part, none ∉ p → ∃ s : List Bool, p = s.map some
  | [], _ => ⟨[], rfl⟩
  | none :: p, h => absurd (by simp) h
  | some b :: p, h => by
    obtain ⟨s, e⟩ := full_is p (fun z => h (List.mem_cons_of_mem _ z))
    exact ⟨b :: s, by rw [e]; rfl⟩
theorem full_ge {h : Hs} (ok : HsOk h) {least : Option (List Int)} (tg : TG h least) {p : Part} (hp : p.length = h.n) (hc : p.count none = 0) (hf : (h.musts.find? fun i => decide (look (rulesSure h.rules p) i = .broken)) = none) :
    geO (wishesLosses h.wishes (brokenPlaces h p)) least = true := by
  obtain ⟨s, rfl⟩ := full_is p (List.count_eq_zero.mp hc)
  rw [List.length_map] at hp
  rw [broken_lost ok hp]
  exact tg s hp (keeps_find ok hp hf)
theorem idx_none {p : Part} (h : 0 < p.count none) : p.idxOf none < p.length ∧ p[p.idxOf none]? = some none ∧ ∀ m, m < p.idxOf none → p[m]? ≠ some none := by
  have hm : none ∈ p := List.count_pos_iff.mp h
  have h1 : p.idxOf none < p.length := List.idxOf_lt_length_iff.mpr hm
  refine ⟨h1, by rw [List.getElem?_eq_getElem h1, List.getElem_idxOf h1], fun m hmm he => ?_⟩
  have hml : m < p.length := by omega
  rw [List.getElem?_eq_getElem hml] at he
  have he' := Option.some.inj he
  have := List.not_of_lt_findIdx (p := (· == none)) (xs := p) (i := m) hmm
  simp [he'] at this
theorem count_put : ∀ (p : Part) (i : Nat) (b : Bool), p[i]? = some none → (putName p i b).count none + 1 = p.count none
  | [], i, b, h => by simp at h
  | x :: p, 0, b, h => by
    simp at h
    subst h
    simp [putName]
  | x :: p, i + 1, b, h => by
    have ih := count_put p i b (by simpa using h)
    unfold putName at ih ⊢
    rw [List.set_cons_succ, List.count_cons, List.count_cons]
    omega
theorem putName_len (p : Part) (i : Nat) (b : Bool) : (putName p i b).length = p.length := List.length_set ..

theorem best_nil {h : Hs} (e : bestSettings h = []) : okSettings h = [] := by
  cases ho : okSettings h with
  | nil => rfl
  | cons s ss =>
    have eb : bestSettings h = (okSettings h).filter fun s => decide (losses h s = minL ((okSettings h).map (losses h))) := rfl
    have hm := minL_mem ((okSettings h).map (losses h)) (by rw [ho]; simp)
    obtain ⟨t, ht, et⟩ := List.mem_map.mp hm
    have : t ∈ bestSettings h := by
      rw [eb]
      exact List.mem_filter.mpr ⟨ht, decide_eq_true et⟩
    rw [e] at this
    simp at this
theorem mem_ok {h : Hs} {s : List Bool} (hs : s.length = h.n) (hk : keepsMusts h s = true) : s ∈ okSettings h := by
  unfold okSettings
  refine List.mem_filter.mpr ⟨?_, hk⟩
  rw [← hs]
  exact mem_allF s
theorem tg_never {h : Hs} (e : bestSettings h = []) : TG h none := fun s hs hk => by
  have := mem_ok hs hk
  rw [best_nil e] at this
  simp at this
theorem best_cons {h : Hs} {s : List Bool} {ss : List (List Bool)} (e : bestSettings h = s :: ss) : s ∈ okSettings h ∧ losses h s = minL ((okSettings h).map (losses h)) := by
  have eb : bestSettings h = (okSettings h).filter fun s => decide (losses h s = minL ((okSettings h).map (losses h))) := rfl
  have hm : s ∈ bestSettings h := by rw [e]; simp
  rw [eb] at hm
  obtain ⟨h1, h2⟩ := List.mem_filter.mp hm
  exact ⟨h1, of_decide_eq_true h2⟩
theorem tg_least {h : Hs} {s : List Bool} {ss : List (List Bool)} (e : bestSettings h = s :: ss) : TG h (some (losses h s)) := fun t ht hk => by
  obtain ⟨h1, h2⟩ := best_cons e
  show geI (losses h t) (losses h s) = true
  rw [geI_eq, h2, minL_le _ _ (List.mem_map_of_mem (mem_ok ht hk))] <;> rfl
end WD

/-! houses made of parts are right -/
namespace WD
open PySem PySem.Spec PyProof.Rows L2 Evl
theorem sortI_perm (l : List Int) : (sortI l).Perm l := List.mergeSort_perm _ _
theorem sortI_mem {l : List Int} {x : Int} : x ∈ sortI l ↔ x ∈ l := (sortI_perm l).mem_iff
theorem sortI_len (l : List Int) : (sortI l).length = l.length := (sortI_perm l).length_eq
theorem madeRl_ok {n c : Nat} {r : Rl} (h : RlOk n c r) : RlOk n c (madeRl r) := by
  cases r with
  | or ws =>
    obtain ⟨h1, h2, h3⟩ := h
    refine ⟨fun w hw => h1 w (sortI_mem.mp hw), ((sortI_perm ws).map _).nodup_iff.mpr h2, by rw [sortI_len]; exact h3⟩
  | few m ns =>
    obtain ⟨h0, h1, h2, h3, h4⟩ := h
    refine ⟨h0, h1, fun w hw => h2 w (sortI_mem.mp hw), (sortI_perm ns).nodup_iff.mpr h3, by rw [sortI_len]; exact h4⟩
  | no k => exact h
theorem madeRls_ok {n : Nat} {rs : List Rl} (h : RlsOk n rs) : RlsOk n (rs.map madeRl) := by
  refine ⟨by rw [List.length_map]; exact h.len, fun i r hr => ?_⟩
  rw [List.getElem?_map] at hr
  obtain ⟨q, hq, rfl⟩ := Option.map_eq_some_iff.mp hr
  exact madeRl_ok (h.at_ i q hq)
theorem made_ok {p : Pts} (h : PtsOk p) : HsOk (made p) := by
  refine ⟨h.n, madeRls_ok h.rows, fun k hk => ?_, ?_, fun x hx => ?_, h.wlen⟩
  · show 0 ≤ k ∧ k < (((p.rows.map madeRl).length : Nat) : Int)
    rw [List.length_map]
    exact h.obl k (sortI_mem.mp hk)
  · show (sortI p.obl).length ≤ 1000
    rw [sortI_len]
    have := h.olen
    omega
  · show WishOk (p.rows.map madeRl).length x
    rw [List.length_map]
    exact (h.wan x hx).1
/-! at most -/
def padI (n : Nat) (l : List Int) : List Int := l ++ List.replicate (n - l.length) 0
def atMost : Shown → Shown → Bool
  | _, .never => true
  | .never, .least _ => false
  | .least a, .least b => let n := max a.length b.length; leI (padI n a) (padI n b)
def AtD (d : Dt) : Shown → Prop
  | .never => ∃ xs, d = .tuple (.str "never" :: xs) ∧ xs.length ≤ 100
  | .least l => ∃ xs, d = .tuple (.str "least" :: lD l :: xs) ∧ l.length ≤ 1000 ∧ xs.length ≤ 100
def Told.sh : Told → Shown
  | .never _ => .never
  | .least l _ _ => .least l
end WD

namespace WD
open PySem PySem.Spec PyProof.Rows L2 Evl
def topS (i : Nat) : Stmt := PySem.Challenge.pw_wishdues_k29_whole_least_losses_move.main.body.getD i (.Pass ⟨0, 0, 0, 0⟩)
theorem pe_cint {X : Cx} {x : Str} {i : Int} {pos : Pos} (h : ∃ t, X.mg x = some (.int i t)) (hg : Gl X x := by rfl) (hd : (x == ("__debug__" : Str)) = false := by decide) : PE X (.Name x pos) (tC (.int i)) := by
  obtain ⟨t, h⟩ := h
  exact pe_glob hg h ⟨t, rfl⟩ hd
theorem pe_cref {X : Cx} {x : Str} {a : Addr} {pos : Pos} (h : X.mg x = some (.ref a)) (hg : Gl X x := by rfl) (hd : (x == ("__debug__" : Str)) = false := by decide) : PE X (.Name x pos) (tC (.ref a)) := pe_glob hg h rfl hd
end WD

namespace WD
open PySem PySem.Spec PyProof.Rows L2 Evl
local macro_rules | `(tactic| walk_at "ew") => `(tactic| first
  | (with_reducible refine sw_seq ?_)
  | (with_reducible refine sw_next ?_)
  | (with_reducible refine sw_if ?_)
  | (with_reducible refine sw_setF (ef_lst (ed_nil (And.intro (Nat.zero_le _) ?_))))
  | (with_reducible refine sw_set ?_)
  | (with_reducible refine sw_ret ?_)
  | ((with_reducible refine' ew_var ?hv ?_); (case hv => rfl))
  | ((with_reducible refine' ev_own ?hv ?_); (case hv => rfl))
  | (with_reducible refine ev_of ?_)
  | (with_reducible refine ew_int ?_)
  | (with_reducible refine ew_str ?_)
  | (with_reducible refine ew_non ?_)
  | (with_reducible refine ew_bl ?_)
  | (with_reducible refine ew_op ?_)
  | (with_reducible refine ew_isi ?_)
  | (with_reducible refine ew_isRow ?_)
  | (with_reducible refine ew_cb ?_)
  | (with_reducible refine ea_cons ?_)
  | (with_reducible refine ea_nil ?_)
  | (with_reducible refine ed_cons ?_)
  | (with_reducible refine ed_nil ?_)
  | (with_reducible refine ew_tup ?_)
  | (with_reducible refine ew_lst ?_)
  | (with_reducible refine ew_call ?_)
  | (with_reducible refine ew_if ?_)
  | (with_reducible refine et_test ?_)
  | (with_reducible refine et_B ?_)
  | (with_reducible refine et_and ?_)
  | (with_reducible refine et_or ?_)
  | (with_reducible refine et_not ?_)
  | (with_reducible refine ew_chain ?_)
  | (with_reducible refine rd_add ?_)
  | (with_reducible refine rd_sub ?_)
  | (with_reducible refine rd_eq ?_)
  | (with_reducible refine rd_eqs ?_)
  | (with_reducible refine rd_le ?_)
  | (with_reducible refine rd_ge ?_)
  | (with_reducible refine rd_lt ?_)
  | (with_reducible refine rd_gt ?_)
  | (with_reducible refine rc_abs ?_)
  | (with_reducible refine rc_int ?_)
  | (with_reducible refine rc_lenL ?_)
  | (with_reducible refine rc_lenT ?_)
  | (with_reducible refine rc_max2 ?_)
  | (with_reducible refine rc_tuple ?_)
  | (with_reducible refine ew_un ?_)
  | (with_reducible refine ew_andV ?_)
  | (with_reducible refine ew_orV ?_)
  | (with_reducible refine ew_notV ?_)
  | (with_reducible refine rd_neI ?_)
  | (with_reducible refine ex_i ?_)
  | (with_reducible refine ex_b ?_)
  | (with_reducible refine it_T ?_)
  | (with_reducible refine it_F ?_)
  | (with_reducible refine it_NT ?_)
  | (with_reducible refine it_NF ?_))

section
variable {P : Program} {w : World} {K : PySem.W.Frag} {mg : Str → Option Value} {base : Heap} {f : Addr} {fd : FuncData}
abbrev s_word_sure : Stmt := topS 20
theorem sc_word_sure : FnScope ["word", "partial", "worth"] ["word", "partial"] (defScope s_word_sure) := ⟨rfl, rfl, rfl, by decide +kernel, rfl, by decide +kernel, by decide +kernel⟩
def T_word_sure : Tr := fun ds Φ => ∃ w p, ds = [.int w, partD p] ∧ w ≠ 0 ∧ w.natAbs ≤ p.length ∧ Φ = fun d => d = .str (wordSure w p).s
theorem ok_word_sure (F : Fun K "word_sure" "word_sure" s_word_sure f fd) (B : Blt mg) : FnOk P w K mg base CX0 1 f fd ["word", "partial"] (spD K T_word_sure) := by
  refine F.ok sc_word_sure (fun vs H Q E h => spD_len (by rintro _ _ ⟨_, _, rfl, _⟩; rfl) h) (fun cdv A outer s H vs Q E hr h => ?_)
  refine ⟨_, (pss_cons (ps_set (i := 2) sc_word_sure.nd rfl (by first | exact Or.inl rfl | exact Or.inr rfl) (pe_ix (ix_U (K := K) rfl) (pv 1) (pe_op op_sub (pe_callB call_abs (by rfl) B.abs (by decide +kernel) (pa_cons (pv 0) pa_nil)) pe_int) (fun _ _ => rfl))) (pss_cons (ps_if (pt_cmpR op_isN (pv 2) pe_non (nomark _)) (pss_one (ps_ret pe_str)) pss_nil) (pss_one (ps_ret (pe_ifExp (pt_cmpR (op_eqU (K := K) rfl hr.units) (pv 2) (pe_callTy call_int1 (by rfl) B.int (by decide +kernel) (pa_cons (pe_cmpR op_gt (pv 0) pe_int (nomark _)) pa_nil)) (nomark _)) pe_str pe_str))))), ?_⟩
  refine body_of h fun J ds Φ hT => ?_
  try dsimp only [cxOf]
  obtain ⟨w, p, rfl, h0, h1, rfl⟩ := hT
  show SW J K _ [.val (.int w), .val (partD p), .unk] _
  have e : ((if w < 0 then -w else w) - 1) = ((w.natAbs - 1 : Nat) : Int) := by split <;> omega
  have hat : atI (p.map pD) ((if w < 0 then -w else w) - 1) = some (pD (p.getD (w.natAbs - 1) none)) := by
    rw [e]
    exact atI_map (by omega) (by omega)
  have hw : wordSure w p = match p.getD (w.natAbs - 1) none with
    | none => .opn
    | some b => if b = decide (0 < w) then .kept else .broken := rfl
  generalize p.getD (w.natAbs - 1) none = o at hat hw
  repeat walk_at "ew"
  refine rd_ixT hat ?_
  repeat walk_at "ew"
  cases o with
  | none =>
    refine rd_isN_yes ?_
    repeat walk_at "ew"
    show _ = _
    rw [hw] <;> rfl
  | some b =>
    refine rd_isN_no (fun z => nomatch z) ?_
    repeat walk_at "ew"
    refine rd_eq (i := bI b) ?_
    repeat walk_at "ew"
    have hb : (bI b = if decide (0 < w) = true then 1 else 0) ↔ b = decide (0 < w) := by
      unfold bI
      cases b <;> cases decide (0 < w) <;> decide
    have hw' : wordSure w p = if b = decide (0 < w) then .kept else .broken := hw
    refine it_D (fun c => ?_) (fun c => ?_)
    · repeat walk_at "ew"
      show _ = _
      rw [hw', if_pos (hb.mp c)] <;> rfl
    · repeat walk_at "ew"
      show _ = _
      rw [hw', if_neg (fun z => c (hb.mpr z))] <;> rfl

abbrev s_either_sure : Stmt := topS 21
theorem sc_either_sure : FnScope ["words", "partial", "found", "word"] ["words", "partial"] (defScope s_either_sure) := ⟨rfl, rfl, rfl, by decide +kernel, rfl, by decide +kernel, by decide +kernel⟩
def T_either_sure : Tr := fun ds Φ => ∃ ws p, ds = [.tuple (iD ws), partD p] ∧ (∀ w ∈ ws, w ≠ 0 ∧ w.natAbs ≤ p.length) ∧ ws.length ≤ 1000 ∧ Φ = fun d => d = .str (eitherSure ws p).s
theorem ok_either_sure (F : Fun K "either_sure" "either_sure" s_either_sure f fd) (B : Blt mg) (f_word_sure : Fn P w K mg base "word_sure" 1 ["word", "partial"] T_word_sure) : FnOk P w K mg base CX0 2 f fd ["words", "partial"] (spD K T_either_sure) := by
  refine F.ok sc_either_sure (fun vs H Q E h => spD_len (by rintro _ _ ⟨_, _, rfl, _⟩; rfl) h) (fun cdv A outer s H vs Q E hr h => ?_)
  refine ⟨_, (pss_cons (ps_setLc (i := 2) (own := [("word", 3)]) (g := gName 3) rfl sc_either_sure.nd rfl rfl (sw_true rfl rfl rfl (by decide +kernel)) (pi_tup (pv 0)) (blkOk_by (own := [("word", 3)]) (N := ["words", "partial", "found", "word"]) (sc := defScope s_either_sure) (by decide +kernel)) (fun _ _ _ _ _ => (pg_name (i := 3) sc_either_sure.nd rfl (Or.inl rfl))) (fun _ _ _ _ _ => pts_nil) (fun _ _ _ _ _ => (pe_fn f_word_sure (hr.mono (by omega)) (pa_cons (pv 3) (pa_cons (pv 1) pa_nil))))) (pss_cons (ps_if (pt_cmpR (op_inU (K := K) rfl) pe_str (pv 2) rfl) (pss_one (ps_ret pe_str)) pss_nil) (pss_one (ps_ret (pe_ifExp (pt_cmpR (op_inU (K := K) rfl) pe_str (pv 2) rfl) pe_str pe_str))))), ?_⟩
  refine body_of h fun J ds Φ hT => ?_
  try dsimp only [cxOf]
  obtain ⟨ws, p, rfl, h0, h1, rfl⟩ := hT
  show SW J K _ [.val (.tuple (iD ws)), .val (partD p), .unk, .unk] _
  refine sw_seq (sw_set (ew_lcM ws .int (fun w => .str (wordSure w p).s) (iw_tup (ew_var rfl ⟨_, rfl, rfl, by omega, fun x hx => gw_name (by simp) ?_, ?_⟩))))
  · repeat walk_at "ew"
    exact ⟨_, ⟨x, p, rfl, (h0 x hx).1, (h0 x hx).2, rfl⟩, fun d h => h⟩
  · have hm : ws.map (fun w => PyData.str (wordSure w p).s) = sD (ws.map (wordSure · p)) := by
      unfold sD
      rw [List.map_map, List.map_map]
      rfl
    rw [hm]
    repeat walk_at "ew"
    refine rd_inS (neg := false) ?_
    have k1 : (Str.ofString "kept" ∈ (ws.map (wordSure · p)).map Sure.s) ↔ Sure.kept ∈ ws.map (wordSure · p) := mem_s (x := .kept)
    have k2 : (Str.ofString "open" ∈ (ws.map (wordSure · p)).map Sure.s) ↔ Sure.opn ∈ ws.map (wordSure · p) := mem_s (x := .opn)
    rw [decide_eq_decide.mpr k1]
    repeat walk_at "ew"
    have e : eitherSure ws p = if .kept ∈ ws.map (wordSure · p) then .kept else if .opn ∈ ws.map (wordSure · p) then .opn else .broken := rfl
    refine it_D (fun c => ?_) (fun c => ?_)
    · repeat walk_at "ew"
      show _ = _
      rw [e, if_pos c] <;> rfl
    · repeat walk_at "ew"
      refine rd_inS (neg := false) ?_
      rw [decide_eq_decide.mpr k2]
      repeat walk_at "ew"
      refine it_D (fun c2 => ?_) (fun c2 => ?_)
      · repeat walk_at "ew"
        show _ = _
        rw [e, if_neg c, if_pos c2] <;> rfl
      · repeat walk_at "ew"
        show _ = _
        rw [e, if_neg c, if_neg c2] <;> rfl

abbrev s_count_sure : Stmt := topS 22
theorem sc_count_sure : FnScope ["most", "found"] ["most", "found"] (defScope s_count_sure) := ⟨rfl, rfl, rfl, by decide +kernel, rfl, by decide +kernel, by decide +kernel⟩
def T_count_sure : Tr := fun ds Φ => ∃ m f, ds = [.int m, .list (sD f)] ∧ Φ = fun d => d = .str (countSure m f).s
theorem ok_count_sure (F : Fun K "count_sure" "count_sure" s_count_sure f fd) (B : Blt mg) : FnOk P w K mg base CX0 1 f fd ["most", "found"] (spD K T_count_sure) := by
  refine F.ok sc_count_sure (fun vs H Q E h => spD_len (by rintro _ _ ⟨_, _, rfl, _⟩; rfl) h) (fun cdv A outer s H vs Q E hr h => ?_)
  refine ⟨_, (pss_cons (ps_if (pt_cmpR op_gt (pe_bm PySem.F.plainAttrs_list PySem.F.slot_list_count PySem.F.type_list_count (mt_countD hr.units) (pv 1) (pa_cons pe_str pa_nil)) (pv 0) (nomark _)) (pss_one (ps_ret pe_str)) pss_nil) (pss_one (ps_ret (pe_ifExp (pt_cmpR (op_leU (K := K) rfl hr.units) (pe_op op_sub (pe_callB (call_lenU (K := K) rfl) (by rfl) B.len (by decide +kernel) (pa_cons (pv 1) pa_nil)) (pe_bm PySem.F.plainAttrs_list PySem.F.slot_list_count PySem.F.type_list_count (mt_countD hr.units) (pv 1) (pa_cons pe_str pa_nil))) (pv 0) (nomark _)) pe_str pe_str)))), ?_⟩
  refine body_of h fun J ds Φ hT => ?_
  try dsimp only [cxOf]
  obtain ⟨m, f, rfl, rfl⟩ := hT
  show SW J K _ [.val (.int m), .val (.list (sD f))] _
  have c1 : (f.map Sure.s).count (Str.ofString "broken") = f.count .broken := count_s .broken f
  have c2 : (f.map Sure.s).count (Str.ofString "kept") = f.count .kept := count_s .kept f
  have e : countSure m f = if m < (f.count .broken : Nat) then .broken else if (f.length : Int) - (f.count .kept : Nat) ≤ m then .kept else .opn := rfl
  repeat walk_at "ew"
  refine ew_count (ev_of (ew_var rfl ⟨_, rfl, ?_⟩))
  rw [c1]
  repeat walk_at "ew"
  refine it_D (fun c => ?_) (fun c => ?_)
  · repeat walk_at "ew"
    show _ = _
    rw [e, if_pos c] <;> rfl
  · repeat walk_at "ew"
    refine ew_count (ev_of (ew_var rfl ⟨_, rfl, ?_⟩))
    rw [c2, sD_len]
    repeat walk_at "ew"
    refine it_D (fun c' => ?_) (fun c' => ?_)
    · repeat walk_at "ew"
      show _ = _
      rw [e, if_neg c, if_pos c'] <;> rfl
    · repeat walk_at "ew"
      show _ = _
      rw [e, if_neg c, if_neg c'] <;> rfl
end
end WD

namespace WD
open PySem PySem.Spec PyProof.Rows L2 Evl
local macro_rules | `(tactic| walk_at "ew") => `(tactic| first
  | (with_reducible refine sw_seq ?_)
  | (with_reducible refine sw_next ?_)
  | (with_reducible refine sw_if ?_)
  | (with_reducible refine sw_setF (ef_lst (ed_nil (And.intro (Nat.zero_le _) ?_))))
  | (with_reducible refine sw_set ?_)
  | (with_reducible refine sw_ret ?_)
  | ((with_reducible refine' ew_var ?hv ?_); (case hv => rfl))
  | ((with_reducible refine' ev_own ?hv ?_); (case hv => rfl))
  | (with_reducible refine ev_of ?_)
  | (with_reducible refine ew_int ?_)
  | (with_reducible refine ew_str ?_)
  | (with_reducible refine ew_non ?_)
  | (with_reducible refine ew_bl ?_)
  | (with_reducible refine ew_op ?_)
  | (with_reducible refine ew_isi ?_)
  | (with_reducible refine ew_isRow ?_)
  | (with_reducible refine ew_cb ?_)
  | (with_reducible refine ea_cons ?_)
  | (with_reducible refine ea_nil ?_)
  | (with_reducible refine ed_cons ?_)
  | (with_reducible refine ed_nil ?_)
  | (with_reducible refine ew_tup ?_)
  | (with_reducible refine ew_lst ?_)
  | (with_reducible refine ew_call ?_)
  | (with_reducible refine ew_if ?_)
  | (with_reducible refine et_test ?_)
  | (with_reducible refine et_B ?_)
  | (with_reducible refine et_and ?_)
  | (with_reducible refine et_or ?_)
  | (with_reducible refine et_not ?_)
  | (with_reducible refine ew_chain ?_)
  | (with_reducible refine rd_add ?_)
  | (with_reducible refine rd_sub ?_)
  | (with_reducible refine rd_eq ?_)
  | (with_reducible refine rd_eqs ?_)
  | (with_reducible refine rd_le ?_)
  | (with_reducible refine rd_ge ?_)
  | (with_reducible refine rd_lt ?_)
  | (with_reducible refine rd_gt ?_)
  | (with_reducible refine rc_abs ?_)
  | (with_reducible refine rc_int ?_)
  | (with_reducible refine rc_lenL ?_)
  | (with_reducible refine rc_lenT ?_)
  | (with_reducible refine rc_max2 ?_)
  | (with_reducible refine rc_tuple ?_)
  | (with_reducible refine ew_un ?_)
  | (with_reducible refine ew_andV ?_)
  | (with_reducible refine ew_orV ?_)
  | (with_reducible refine ew_notV ?_)
  | (with_reducible refine rd_neI ?_)
  | (with_reducible refine ex_i ?_)
  | (with_reducible refine ex_b ?_)
  | (with_reducible refine it_T ?_)
  | (with_reducible refine it_F ?_)
  | (with_reducible refine it_NT ?_)
  | (with_reducible refine it_NF ?_))

theorem rulesSure_snoc (pre : List Rl) (r : Rl) (p : Part) : rulesSure (pre ++ [r]) p = rulesSure pre p ++ [ruleSure p (rulesSure pre p) r] := by
  unfold rulesSure
  rw [List.foldl_append]
  rfl
theorem rulesSure_len0 (p : Part) : ∀ (rs : List Rl) (acc : List Sure), (rs.foldl (fun f r => f ++ [ruleSure p f r]) acc).length = acc.length + rs.length
  | [], _ => rfl
  | r :: rs, acc => by
    rw [List.foldl_cons, rulesSure_len0 p rs, List.length_append, List.length_cons]
    simp
    omega
theorem rulesSure_len (p : Part) (rs : List Rl) : (rulesSure rs p).length = rs.length := by
  unfold rulesSure
  rw [rulesSure_len0]
  simp
theorem sD_snoc (f : List Sure) (x : Sure) : sD f ++ [.str x.s] = sD (f ++ [x]) := by
  unfold sD
  rw [List.map_append, List.map_append]
  rfl
section
variable {P : Program} {w : World} {K : PySem.W.Frag} {mg : Str → Option Value} {base : Heap} {f : Addr} {fd : FuncData}
abbrev s_rules_sure : Stmt := topS 23
theorem sc_rules_sure : FnScope ["rules", "partial", "found", "rule", "number"] ["rules", "partial"] (defScope s_rules_sure) := ⟨rfl, rfl, rfl, by decide +kernel, rfl, by decide +kernel, by decide +kernel⟩
def T_rules_sure : Tr := fun ds Φ => ∃ rs p, ds = [.list (rs.map rlD), partD p] ∧ RlsOk p.length rs ∧ p.length ≤ 8 ∧ Φ = fun d => d = .list (sD (rulesSure rs p))
theorem ok_rules_sure (F : Fun K "rules_sure" "rules_sure" s_rules_sure f fd) (B : Blt mg) (f_either_sure : Fn P w K mg base "either_sure" 2 ["words", "partial"] T_either_sure) (f_count_sure : Fn P w K mg base "count_sure" 1 ["most", "found"] T_count_sure) : FnOk P w K mg base CX0 3 f fd ["rules", "partial"] (spD K T_rules_sure) := by
  refine F.ok sc_rules_sure (fun vs H Q E h => spD_len (by rintro _ _ ⟨_, _, rfl, _⟩; rfl) h) (fun cdv A outer s H vs Q E hr h => ?_)
  refine ⟨_, (pss_cons (ps_set (i := 2) sc_rules_sure.nd rfl (by first | exact Or.inl rfl | exact Or.inr rfl) (pe_lst pa_nil)) (pss_cons (ps_for PassesOwn.never rfl (pi_list (pv 0)) (pg_name (i := 3) sc_rules_sure.nd rfl (by first | exact Or.inl rfl | exact Or.inr rfl)) (pss_one (ps_if (pt_cmpR (op_eqU (K := K) rfl hr.units) (pe_ix (ix_U (K := K) rfl) (pv 3) pe_int (fun _ _ => rfl)) pe_str (nomark _)) (pss_one (ps_expr (pe_bm PySem.F.plainAttrs_list PySem.F.slot_list_append PySem.F.type_list_append mt_append (pv 2) (pa_cons (pe_fn f_either_sure (hr.mono (by omega)) (pa_cons (pe_ix (ix_U (K := K) rfl) (pv 3) pe_int (fun _ _ => rfl)) (pa_cons (pv 1) pa_nil))) pa_nil)))) (pss_one (ps_if (pt_cmpR (op_eqU (K := K) rfl hr.units) (pe_ix (ix_U (K := K) rfl) (pv 3) pe_int (fun _ _ => rfl)) pe_str (nomark _)) (pss_one (ps_expr (pe_bm PySem.F.plainAttrs_list PySem.F.slot_list_append PySem.F.type_list_append mt_append (pv 2) (pa_cons (pe_fn f_count_sure (hr.mono (by omega)) (pa_cons (pe_ix (ix_U (K := K) rfl) (pv 3) pe_int (fun _ _ => rfl)) (pa_cons (pe_lc (own := [("number", 4)]) (g := gName 4) rfl sc_rules_sure.nd (pi_tup (pe_ix (ix_U (K := K) rfl) (pv 3) pe_int (fun _ _ => rfl))) (blkOk_by (own := [("number", 4)]) (N := ["rules", "partial", "found", "rule", "number"]) (sc := defScope s_rules_sure) (by decide +kernel)) (fun _ _ _ _ _ => (pg_name (i := 4) sc_rules_sure.nd rfl (Or.inl rfl))) (fun _ _ _ _ _ => pts_nil) (fun _ _ _ _ _ => (pe_ix (ix_U (K := K) rfl) (pv 2) (pv 4) (fun _ _ => rfl)))) pa_nil))) pa_nil)))) (pss_one (ps_expr (pe_bm PySem.F.plainAttrs_list PySem.F.slot_list_append PySem.F.type_list_append mt_append (pv 2) (pa_cons (pe_dget (hu_of hr) (pe_disp (pps_cons pe_str pe_str (pps_cons pe_str pe_str (pps_cons pe_str pe_str pps_nil))) (by rfl) (by rfl) (fun z => by cases z) (by decide)) (pe_ix (ix_U (K := K) rfl) (pv 2) (pe_ix (ix_U (K := K) rfl) (pv 3) pe_int (fun _ _ => rfl)) (fun _ _ => rfl)) (fun _ _ => rfl)) pa_nil))))))))) (pss_one (ps_ret (pv 2))))), ?_⟩
  refine body_of h fun J ds Φ hT => ?_
  try dsimp only [cxOf]
  obtain ⟨rs, p, rfl, h0, h1, rfl⟩ := hT
  show SW J K _ [.val (.list (rs.map rlD)), .val (partD p), .unk, .unk, .unk] _
  refine sw_seq (sw_setF (ef_lst (ed_nil ⟨Nat.zero_le _, ?_⟩)))
  refine sw_seq (sw_forF (vs := [3]) rs rlD (fun pre => [.val (.list (rs.map rlD)), .val (partD p), .own (sD (rulesSure pre p)), .unk, .unk]) (iw_list (ew_var rfl ⟨_, rfl, rfl, ⟨rfl, rfl, rfl, trivial⟩, fun pre r post hs => ?_, ?_⟩)))
  · have hat : rs[pre.length]? = some r := by rw [hs]; simp
    have hok := h0.at_ _ _ hat
    have hlen : (rulesSure pre p).length = pre.length := rulesSure_len p pre
    have hz : (sD (rulesSure pre p)).length < 100000 := by
      rw [sD_len, hlen]
      have := h0.len
      have : pre.length ≤ rs.length := by rw [hs]; simp
      omega
    have fin : ∀ x, x = ruleSure p (rulesSure pre p) r → Wk ([.val (.list (rs.map rlD)), .val (partD p), .own (sD (rulesSure pre p) ++ [.str x.s]), .val (rlD r), .unk]) [.val (.list (rs.map rlD)), .val (partD p), .own (sD (rulesSure (pre ++ [r]) p)), .unk, .unk] := fun x hx => by
      rw [sD_snoc, rulesSure_snoc, hx]
      exact ⟨rfl, rfl, rfl, trivial⟩
    refine gw_name (by simp) ?_
    cases r with
    | or ws =>
      obtain ⟨k1, k2, k3⟩ := hok
      dsimp only [rlD] at fin ⊢
      repeat walk_at "ew"
      refine rd_ixT (d := .str "or") rfl ?_
      repeat walk_at "ew"
      rw [decide_eq_true (show (Str.ofString "or") = Str.ofString "or" from rfl)]
      repeat walk_at "ew"
      refine sw_append rfl rfl hz (ew_call ?_)
      repeat walk_at "ew"
      refine rd_ixT (d := .tuple (iD ws)) rfl ?_
      repeat walk_at "ew"
      exact ⟨_, ⟨ws, p, rfl, k1, by omega, rfl⟩, fun d hd => by subst hd; exact fin _ rfl⟩
    | few m ns =>
      obtain ⟨k1, k2, k3, k4, k5⟩ := hok
      dsimp only [rlD] at fin ⊢
      repeat walk_at "ew"
      refine rd_ixT (d := .str "few") rfl ?_
      repeat walk_at "ew"
      rw [decide_eq_false (show ¬ (Str.ofString "few") = Str.ofString "or" by decide +kernel)]
      repeat walk_at "ew"
      refine rd_ixT (d := .str "few") rfl ?_
      repeat walk_at "ew"
      rw [decide_eq_true (show (Str.ofString "few") = Str.ofString "few" from rfl)]
      repeat walk_at "ew"
      refine sw_append rfl rfl hz (ew_call ?_)
      repeat walk_at "ew"
      refine rd_ixT (d := .int m) rfl ?_
      repeat walk_at "ew"
      refine ew_lcM ns .int (fun k => .str (look (rulesSure pre p) k).s) (iw_tup ?_)
      repeat walk_at "ew"
      refine rd_ixT (d := .tuple (iD ns)) rfl ⟨_, rfl, rfl, by omega, fun k hk => gw_name (by simp) ?_, ?_⟩
      · repeat walk_at "ew"
        exact rd_ixL (look_at (k3 k hk).1 (by rw [hlen]; exact (k3 k hk).2)) rfl
      · have hm : ns.map (fun k => PyData.str (look (rulesSure pre p) k).s) = sD (ns.map (look (rulesSure pre p))) := by
          unfold sD
          rw [List.map_map, List.map_map]
          rfl
        rw [hm]
        repeat walk_at "ew"
        exact ⟨_, ⟨m, _, rfl, rfl⟩, fun d hd => by subst hd; exact fin _ rfl⟩
    | no k =>
      obtain ⟨k1, k2⟩ := hok
      dsimp only [rlD] at fin ⊢
      repeat walk_at "ew"
      refine rd_ixT (d := .str "not") rfl ?_
      repeat walk_at "ew"
      rw [decide_eq_false (show ¬ (Str.ofString "not") = Str.ofString "or" by decide +kernel)]
      repeat walk_at "ew"
      refine rd_ixT (d := .str "not") rfl ?_
      repeat walk_at "ew"
      rw [decide_eq_false (show ¬ (Str.ofString "not") = Str.ofString "few" by decide +kernel)]
      repeat walk_at "ew"
      refine sw_append rfl rfl hz (ew_dict3 (by decide +kernel) (by decide +kernel) (by decide +kernel) ?_)
      repeat walk_at "ew"
      refine rd_ixT (d := .int k) rfl ?_
      refine rd_ixL (look_at k1 (by rw [hlen]; exact k2)) ⟨_, rfl, ?_⟩
      have e : ruleSure p (rulesSure pre p) (.no k) = (look (rulesSure pre p) k).flip := rfl
      cases hl : look (rulesSure pre p) k with
      | kept => exact .inl ⟨rfl, fin .broken (by rw [e, hl] <;> rfl)⟩
      | broken => exact .inr (.inl ⟨rfl, fin .kept (by rw [e, hl] <;> rfl)⟩)
      | opn => exact .inr (.inr ⟨rfl, fin .opn (by rw [e, hl] <;> rfl)⟩)
  · exact sw_retOwn rfl rfl rfl

abbrev s_rules_kept : Stmt := topS 24
theorem sc_rules_kept : FnScope ["rules", "setting", "word"] ["rules", "setting"] (defScope s_rules_kept) := ⟨rfl, rfl, rfl, by decide +kernel, rfl, by decide +kernel, by decide +kernel⟩
def bD (f : List Bool) : List Dt := f.map .bool
def T_rules_kept : Tr := fun ds Φ => ∃ rs s, ds = [.list (rs.map rlD), setD s] ∧ RlsOk s.length rs ∧ s.length ≤ 8 ∧ Φ = fun d => d = .list (bD (rulesKept rs s))
theorem ok_rules_kept (F : Fun K "rules_kept" "rules_kept" s_rules_kept f fd) (B : Blt mg) (f_rules_sure : Fn P w K mg base "rules_sure" 3 ["rules", "partial"] T_rules_sure) : FnOk P w K mg base CX0 4 f fd ["rules", "setting"] (spD K T_rules_kept) := by
  refine F.ok sc_rules_kept (fun vs H Q E h => spD_len (by rintro _ _ ⟨_, _, rfl, _⟩; rfl) h) (fun cdv A outer s H vs Q E hr h => ?_)
  refine ⟨_, (pss_one (ps_ret (pe_lc (own := [("word", 2)]) (g := gName 2) rfl sc_rules_kept.nd (pi_list (pe_fn f_rules_sure (hr.mono (by omega)) (pa_cons (pv 0) (pa_cons (pv 1) pa_nil)))) (blkOk_by (own := [("word", 2)]) (N := ["rules", "setting", "word"]) (sc := defScope s_rules_kept) (by decide +kernel)) (fun _ _ _ _ _ => (pg_name (i := 2) sc_rules_kept.nd rfl (Or.inl rfl))) (fun _ _ _ _ _ => pts_nil) (fun _ _ _ _ _ => (pe_cmpR (op_eqU (K := K) rfl hr.units) (pv 2) pe_str (nomark _)))))), ?_⟩
  refine body_of h fun J ds Φ hT => ?_
  try dsimp only [cxOf]
  obtain ⟨rs, s, rfl, h0, h1, rfl⟩ := hT
  show SW J K _ [.val (.list (rs.map rlD)), .val (setD s), .unk] _
  have hl : (s.map some).length = s.length := List.length_map _
  refine sw_ret (ew_lcM (rulesSure rs (s.map some)) (fun x => .str x.s) (fun x => .bool (decide (x = .kept))) (iw_list (ew_call ?_)))
  repeat walk_at "ew"
  refine ⟨_, ⟨rs, s.map some, rfl, by rw [hl]; exact h0, by rw [hl]; exact h1, rfl⟩, fun d hd => ?_⟩
  subst hd
  refine ⟨_, rfl, by unfold sD; rw [List.map_map]; rfl, by rw [rulesSure_len]; have := h0.len; omega, fun x hx => gw_name (by simp) ?_, ?_⟩
  · repeat walk_at "ew"
    show PyData.bool _ = PyData.bool _
    have k : (x.s = Str.ofString "kept") ↔ x = .kept := ⟨fun z => Sure.inj (y := .kept) z, fun z => by rw [z]; rfl⟩
    rw [decide_eq_decide.mpr k]
  · show PyData.list _ = PyData.list _
    unfold bD rulesKept
    rw [List.map_map]
    rfl

abbrev s_all_fillings : Stmt := topS 25
theorem sc_all_fillings : FnScope ["partial", "found", "worth", "worths", "longer", "setting", "one"] ["partial"] (defScope s_all_fillings) := ⟨rfl, rfl, rfl, by decide +kernel, rfl, by decide +kernel, by decide +kernel⟩
theorem allF_snoc (pre : Part) (x : Option Bool) : allF (pre ++ [x]) = (allF pre).flatMap fun s => (worths x).map fun b => s ++ [b] := by
  unfold allF
  rw [List.foldl_append]
  rfl
theorem worths_len (x : Option Bool) : (worths x).length ≤ 2 := by
  cases x with
  | none => decide
  | some b => exact Nat.le_succ 1
theorem flat_len {α β : Type} (f : α → List β) (h : ∀ x, (f x).length ≤ 2) : ∀ xs : List α, (xs.flatMap f).length ≤ 2 * xs.length
  | [] => Nat.le_refl _
  | x :: xs => by
    rw [List.flatMap_cons, List.length_append, List.length_cons]
    have := flat_len f h xs
    have := h x
    omega
theorem allF_len (p : Part) : (allF p).length ≤ 2 ^ p.length := by
  have g : ∀ (q : Part) (acc : List (List Bool)), (q.foldl (fun fs w => fs.flatMap fun s => (worths w).map fun b => s ++ [b]) acc).length ≤ 2 ^ q.length * acc.length := fun q => by
    induction q with
    | nil => intro acc; simp
    | cons x q ih =>
      intro acc
      rw [List.foldl_cons]
      refine Nat.le_trans (ih _) ?_
      have h2 := flat_len (fun s : List Bool => (worths x).map fun b => s ++ [b]) (fun s => by rw [List.length_map]; exact worths_len x) acc
      rw [List.length_cons, Nat.pow_succ, Nat.mul_assoc]
      exact Nat.mul_le_mul_left _ h2
  have := g p [[]]
  simpa [allF] using this
theorem setD_snoc (s : List Bool) (b : Bool) : PyData.tuple (((s.map some).map pD) ++ [.int (bI b)]) = setD (s ++ [b]) := by
  unfold setD partD
  rw [List.map_append, List.map_append]
  rfl
def T_all_fillings : Tr := fun ds Φ => ∃ p, ds = [partD p] ∧ p.length ≤ 8 ∧ Φ = fun d => d = .list ((allF p).map setD)
theorem allF_item (p : Part) : ∀ s ∈ allF p, s.length = p.length := by
  have g : ∀ (q : Part) (acc : List (List Bool)) (n : Nat), (∀ s ∈ acc, s.length = n) → ∀ s ∈ q.foldl (fun fs w => fs.flatMap fun s => (worths w).map fun b => s ++ [b]) acc, s.length = n + q.length := fun q => by
    induction q with
    | nil => intro acc n h s hs; exact h s hs
    | cons x q ih =>
      intro acc n h s hs
      rw [List.foldl_cons] at hs
      have := ih _ (n + 1) (fun t ht => ?_) s hs
      · rw [List.length_cons]; omega
      · obtain ⟨u, hu, ht⟩ := List.mem_flatMap.mp ht
        obtain ⟨b, hb, rfl⟩ := List.mem_map.mp ht
        rw [List.length_append, h u hu] <;> rfl
  intro s hs
  have := g p [[]] 0 (fun t ht => by simp at ht; subst ht; rfl) s hs
  omega
theorem ok_all_fillings (F : Fun K "all_fillings" "all_fillings" s_all_fillings f fd) (B : Blt mg) : FnOk P w K mg base CX0 1 f fd ["partial"] (spD K T_all_fillings) := by
  refine F.ok sc_all_fillings (fun vs H Q E h => spD_len (by rintro _ _ ⟨_, rfl, _⟩; rfl) h) (fun cdv A outer s H vs Q E hr h => ?_)
  refine ⟨_, (pss_cons (ps_set (i := 1) sc_all_fillings.nd rfl (by first | exact Or.inl rfl | exact Or.inr rfl) (pe_lst (pa_cons (pe_tupZ pa_nil) pa_nil))) (pss_cons (ps_for PassesOwn.never rfl (pi_tup (pv 0)) (pg_name (i := 2) sc_all_fillings.nd rfl (by first | exact Or.inl rfl | exact Or.inr rfl)) (pss_cons (ps_set (i := 3) sc_all_fillings.nd rfl (by first | exact Or.inl rfl | exact Or.inr rfl) (pe_lst (pa_cons pe_int (pa_cons pe_int pa_nil)))) (pss_cons (ps_if (pt_cmpR op_notN (pv 2) pe_non (nomark _)) (pss_one (ps_set (i := 3) sc_all_fillings.nd rfl (by first | exact Or.inl rfl | exact Or.inr rfl) (pe_lst (pa_cons (pv 2) pa_nil)))) pss_nil) (pss_cons (ps_set (i := 4) sc_all_fillings.nd rfl (by first | exact Or.inl rfl | exact Or.inr rfl) (pe_lst pa_nil)) (pss_cons (ps_for PassesOwn.never rfl (pi_list (pv 1)) (pg_name (i := 5) sc_all_fillings.nd rfl (by first | exact Or.inl rfl | exact Or.inr rfl)) (pss_one (ps_expr (pe_bm PySem.F.plainAttrs_list PySem.F.slot_list_extend PySem.F.type_list_extend mt_extend (pv 4) (pa_cons (pe_lc (own := [("one", 6)]) (g := gName 6) rfl sc_all_fillings.nd (pi_list (pv 3)) (blkOk_by (own := [("one", 6)]) (N := ["partial", "found", "worth", "worths", "longer", "setting", "one"]) (sc := defScope s_all_fillings) (by decide +kernel)) (fun _ _ _ _ _ => (pg_name (i := 6) sc_all_fillings.nd rfl (Or.inl rfl))) (fun _ _ _ _ _ => pts_nil) (fun _ _ _ _ _ => (pe_op (op_addU (K := K) rfl) (pv 5) (pe_tupZ (pa_cons (pv 6) pa_nil))))) pa_nil))))) (pss_one (ps_set (i := 1) sc_all_fillings.nd rfl (by first | exact Or.inl rfl | exact Or.inr rfl) (pv 4)))))))) (pss_one (ps_ret (pv 1))))), ?_⟩
  refine body_of h fun J ds Φ hT => ?_
  try dsimp only [cxOf]
  obtain ⟨p, rfl, h0, rfl⟩ := hT
  show SW J K _ [.val (partD p), .unk, .unk, .unk, .unk, .unk, .unk] _
  repeat walk_at "ew"
  refine ⟨by decide, ?_⟩
  repeat walk_at "ew"
  refine ⟨by decide, ?_⟩
  have hwo : ∀ x : Option Bool, (worths x).length ≤ 2 := worths_len
  refine sw_seq (sw_forF (vs := [2]) p pD (fun pre => [.val (partD p), .val (.list ((allF pre).map setD)), .unk, .unk, .unk, .unk, .unk]) (iw_tup (ew_var rfl ⟨_, rfl, rfl, ⟨rfl, rfl, trivial⟩, fun pre x post hs => ?_, ?_⟩)))
  · have hpl : pre.length ≤ 7 := by
      have : p.length = pre.length + (post.length + 1) := by rw [hs]; simp
      omega
    have hal : (allF pre).length ≤ 256 := Nat.le_trans (allF_len pre) (Nat.le_trans (Nat.pow_le_pow_right (by decide) hpl) (by decide))
    refine gw_name (by simp) ?_
    -- what follows the choice of worths
    have rest : ∀ A' : Env', A' = [.val (partD p), .val (.list ((allF pre).map setD)), .val (pD x), .val (.list ((worths x).map fun b => .int (bI b))), .unk, .unk, .unk] → SW J K
        (tSeq (tAsg (tLst tNil) (gName 4)) (tSeq (tFor (iList K (tVar 1)) (gName 5) (tDrop (tBM K "list" rExtend (tVar 4) (tCons (tLc (iList K (tVar 3)) (gName 6) tYes (tOp (rAddU K) (tVar 5) (tTupZ (tCons (tVar 6) tNil))) [6]) tNil)))) (tAsg (tVar 4) (gName 1)))) A'
        ⟨fun A' => Wk A' [.val (partD p), .val (.list ((allF (pre ++ [x])).map setD)), .unk, .unk, .unk, .unk, .unk], fun d => d = .list ((allF p).map setD), fun _ => False, fun A' => Wk A' [.val (partD p), .val (.list ((allF (pre ++ [x])).map setD)), .unk, .unk, .unk, .unk, .unk]⟩ := fun A' hA => by
      subst hA
      refine sw_seq (sw_setF (ef_lst (ed_nil ⟨by decide, ?_⟩)))
      refine sw_seq (sw_forF (vs := [5]) (allF pre) setD (fun q => [.val (partD p), .val (.list ((allF pre).map setD)), .val (pD x), .val (.list ((worths x).map fun b => .int (bI b))), .own ((q.flatMap fun s => (worths x).map fun b => s ++ [b]).map setD), .unk, .unk]) (iw_list (ew_var rfl ⟨_, rfl, rfl, ⟨rfl, rfl, rfl, rfl, rfl, trivial⟩, fun q s post2 hs2 => ?_, ?_⟩)))
      · refine gw_name (by simp) ?_
        have hsl : s.length = pre.length := allF_item pre s (by rw [hs2]; simp)
        refine sw_extend rfl rfl (ew_lcM (worths x) (fun b => .int (bI b)) (fun b => setD (s ++ [b])) (iw_list (ew_var rfl ⟨_, rfl, rfl, by have := hwo x; omega, fun b hb => gw_name (by simp) ?_, ?_⟩)))
        · repeat walk_at "ew"
          refine ⟨(by show 1 ≤ 100000; decide), rd_catZ (ds := (s.map some).map pD) (by rw [List.length_map, List.length_map]; simp; omega) ?_⟩
          exact setD_snoc s b
        · refine ⟨_, rfl, ?_, ?_⟩
          · rw [List.length_map, List.length_map]
            have h1 := flat_len (fun s : List Bool => (worths x).map fun b => s ++ [b]) (fun s => by rw [List.length_map]; exact hwo x) q
            have h2 : q.length ≤ (allF pre).length := by rw [hs2]; simp
            have := hwo x
            omega
          · refine ⟨rfl, rfl, rfl, rfl, ?_, trivial⟩
            rw [List.flatMap_append, List.map_append]
            simp
      · refine sw_freeze (i := 4) rfl rfl (sw_set (ew_var rfl ?_))
        rw [← allF_snoc]
        exact ⟨rfl, rfl, trivial⟩
    repeat walk_at "ew"
    refine ⟨by decide, ?_⟩
    repeat walk_at "ew"
    cases x with
    | none =>
      refine rd_notN ?_
      repeat walk_at "ew"
      refine iteF (sw_next ?_)
      exact sw_mono (rest _ rfl) (fun _ h => h) (fun _ h => h) (fun _ h => h.elim) (fun _ h => h)
    | some b =>
      refine rd_notN ?_
      repeat walk_at "ew"
      refine iteT (sw_set ?_)
      repeat walk_at "ew"
      refine ⟨(by show 1 ≤ 100000; decide), ?_⟩
      exact sw_mono (rest _ rfl) (fun _ h => h) (fun _ h => h) (fun _ h => h.elim) (fun _ h => h)
  · repeat walk_at "ew"
    exact rfl
end
end WD

namespace WD
open PySem PySem.Spec PyProof.Rows L2 Evl
local macro_rules | `(tactic| walk_at "ew") => `(tactic| first
  | (with_reducible refine sw_seq ?_)
  | (with_reducible refine sw_next ?_)
  | (with_reducible refine sw_if ?_)
  | (with_reducible refine sw_setF (ef_lst (ed_nil (And.intro (Nat.zero_le _) ?_))))
  | (with_reducible refine sw_set ?_)
  | (with_reducible refine sw_ret ?_)
  | ((with_reducible refine' ew_var ?hv ?_); (case hv => rfl))
  | ((with_reducible refine' ev_own ?hv ?_); (case hv => rfl))
  | (with_reducible refine ev_of ?_)
  | (with_reducible refine ew_int ?_)
  | (with_reducible refine ew_str ?_)
  | (with_reducible refine ew_non ?_)
  | (with_reducible refine ew_bl ?_)
  | (with_reducible refine ew_op ?_)
  | (with_reducible refine ew_isi ?_)
  | (with_reducible refine ew_isRow ?_)
  | (with_reducible refine ew_cb ?_)
  | (with_reducible refine ea_cons ?_)
  | (with_reducible refine ea_nil ?_)
  | (with_reducible refine ed_cons ?_)
  | (with_reducible refine ed_nil ?_)
  | (with_reducible refine ew_tup ?_)
  | (with_reducible refine ew_lst ?_)
  | (with_reducible refine ew_call ?_)
  | (with_reducible refine ew_if ?_)
  | (with_reducible refine et_test ?_)
  | (with_reducible refine et_B ?_)
  | (with_reducible refine et_and ?_)
  | (with_reducible refine et_or ?_)
  | (with_reducible refine et_not ?_)
  | (with_reducible refine ew_chain ?_)
  | (with_reducible refine rd_add ?_)
  | (with_reducible refine rd_sub ?_)
  | (with_reducible refine rd_eq ?_)
  | (with_reducible refine rd_eqs ?_)
  | (with_reducible refine rd_le ?_)
  | (with_reducible refine rd_ge ?_)
  | (with_reducible refine rd_lt ?_)
  | (with_reducible refine rd_gt ?_)
  | (with_reducible refine rc_abs ?_)
  | (with_reducible refine rc_int ?_)
  | (with_reducible refine rc_lenL ?_)
  | (with_reducible refine rc_lenT ?_)
  | (with_reducible refine rc_max2 ?_)
  | (with_reducible refine rc_tuple ?_)
  | (with_reducible refine ew_un ?_)
  | (with_reducible refine ew_andV ?_)
  | (with_reducible refine ew_orV ?_)
  | (with_reducible refine ew_notV ?_)
  | (with_reducible refine rd_neI ?_)
  | (with_reducible refine ex_i ?_)
  | (with_reducible refine ex_b ?_)
  | (with_reducible refine it_T ?_)
  | (with_reducible refine it_F ?_)
  | (with_reducible refine it_NT ?_)
  | (with_reducible refine it_NF ?_))

theorem wish_at {ws : List Wish} {pl : Int} (h0 : 0 ≤ pl) (h1 : pl < (ws.length : Int)) : ∃ w, ws[pl.toNat]? = some w ∧ w ∈ ws ∧ atI (ws.map wishD) pl = some (wishD w) := by
  have hl : pl.toNat < ws.length := by omega
  refine ⟨ws[pl.toNat], List.getElem?_eq_getElem hl, List.getElem_mem hl, ?_⟩
  rw [atI_pos h0 (by rw [List.length_map]; exact h1), List.getElem?_map, List.getElem?_eq_getElem hl] <;> rfl
theorem ints_at {f : List Int} {i : Nat} (h : i < f.length) : atI (f.map PyData.int) ((i : Nat) : Int) = some (.int (f.getD i 0)) := by
  rw [atI_pos (by omega) (by rw [List.length_map]; omega), List.getElem?_map, List.getD_eq_getElem?_getD]
  have : ((i : Nat) : Int).toNat = i := by omega
  rw [this, List.getElem?_eq_getElem h] <;> rfl
theorem kept_at {f : List Bool} {i : Int} (h0 : 0 ≤ i) (h1 : i < (f.length : Int)) : atI (bD f) i = some (.bool (lookB f i)) := by
  have hl : i.toNat < f.length := by omega
  unfold bD
  rw [atI_pos h0 (by rw [List.length_map]; exact h1)]
  unfold lookB
  rw [List.getElem?_map, List.getD_eq_getElem?_getD, List.getElem?_eq_getElem hl] <;> rfl
theorem rulesKept_len (rs : List Rl) (s : List Bool) : (rulesKept rs s).length = rs.length := by
  unfold rulesKept
  rw [List.length_map, rulesSure_len]
section
variable {P : Program} {w : World} {K : PySem.W.Frag} {mg : Str → Option Value} {base : Heap} {f : Addr} {fd : FuncData}
abbrev s_wishes_losses : Stmt := topS 34
theorem sc_wishes_losses : FnScope ["house", "places", "found", "place", "number", "rank", "weight"] ["house", "places"] (defScope s_wishes_losses) := ⟨rfl, rfl, rfl, by decide +kernel, rfl, by decide +kernel, by decide +kernel⟩
def T_wishes_losses : Tr := fun ds Φ => ∃ h ps, ds = [hsD h, lD ps] ∧ HsOk h ∧ (∀ pl ∈ ps, 0 ≤ pl ∧ pl < (h.wishes.length : Int)) ∧ ps.length ≤ 100000 ∧ Φ = fun d => d = lD (wishesLosses h.wishes ps)
theorem ok_wishes_losses (F : Fun K "wishes_losses" "wishes_losses" s_wishes_losses f fd) (B : Blt mg) : FnOk P w K mg base CX0 1 f fd ["house", "places"] (spD K T_wishes_losses) := by
  refine F.ok sc_wishes_losses (fun vs H Q E h => spD_len (by rintro _ _ ⟨_, _, rfl, _⟩; rfl) h) (fun cdv A outer s H vs Q E hr h => ?_)
  refine ⟨_, (pss_cons (ps_set (i := 2) sc_wishes_losses.nd rfl (by first | exact Or.inl rfl | exact Or.inr rfl) (pe_op (op_mulU (K := K) rfl) (pe_lst (pa_cons pe_int pa_nil)) (pe_callB (cr_max rfl) (by rfl) B.max (by decide +kernel) (pa_cons (pe_op (op_addU (K := K) rfl) (pe_lc (own := [("number", 4), ("rank", 5), ("weight", 6)]) (g := gTup K 3 (gCons (gName 4) (gCons (gName 5) (gCons (gName 6) (gNil))))) rfl sc_wishes_losses.nd (pi_list (pe_ix (ix_U (K := K) rfl) (pv 0) pe_int (fun _ _ => rfl))) (blkOk_by (own := [("number", 4), ("rank", 5), ("weight", 6)]) (N := ["house", "places", "found", "place", "number", "rank", "weight"]) (sc := defScope s_wishes_losses) (by decide +kernel)) (fun _ _ _ _ _ => (pg_tup rfl (pgs_cons (pg_name (i := 4) sc_wishes_losses.nd rfl (Or.inl rfl)) (pgs_cons (pg_name (i := 5) sc_wishes_losses.nd rfl (Or.inl rfl)) (pgs_cons (pg_name (i := 6) sc_wishes_losses.nd rfl (Or.inl rfl)) pgs_nil))))) (fun _ _ _ _ _ => pts_nil) (fun _ _ _ _ _ => (pv 5))) (pe_lst (pa_cons pe_int pa_nil))) pa_nil)))) (pss_cons (ps_for PassesOwn.never rfl (pi_tup (pv 1)) (pg_name (i := 3) sc_wishes_losses.nd rfl (by first | exact Or.inl rfl | exact Or.inr rfl)) (pss_cons (ps_asg (pe_ix (ix_U (K := K) rfl) (pe_ix (ix_U (K := K) rfl) (pv 0) pe_int (fun _ _ => rfl)) (pv 3) (fun _ _ => rfl)) (pg_tup rfl (pgs_cons (pg_name (i := 4) sc_wishes_losses.nd rfl (by first | exact Or.inl rfl | exact Or.inr rfl)) (pgs_cons (pg_name (i := 5) sc_wishes_losses.nd rfl (by first | exact Or.inl rfl | exact Or.inr rfl)) (pgs_cons (pg_name (i := 6) sc_wishes_losses.nd rfl (by first | exact Or.inl rfl | exact Or.inr rfl)) pgs_nil))))) (pss_one (ps_asg (pe_op (op_addU (K := K) rfl) (pe_ix (ix_U (K := K) rfl) (pv 2) (pe_op op_sub (pv 5) pe_int) (fun _ _ => rfl)) (pv 6)) (pg_sub (pv 2) (pe_op op_sub (pv 5) pe_int) set_list))))) (pss_one (ps_ret (pe_callTy call_tupleZT (by rfl) B.tuple (by decide +kernel) (pa_cons (pv 2) pa_nil)))))), ?_⟩
  refine body_of h fun J ds Φ hT => ?_
  try dsimp only [cxOf]
  obtain ⟨h, ps, rfl, h0, h1, h2, rfl⟩ := hT
  show SW J K _ [.val (hsD h), .val (lD ps), .unk, .unk, .unk, .unk, .unk] _
  have hwl := h0.wlen
  -- found = [0] * max([..] + [0])
  refine sw_seq (sw_setF (ef_rep ?_))
  repeat walk_at "ew"
  refine ⟨(by show 1 ≤ 100000; decide), ?_⟩
  repeat walk_at "ew"
  refine ew_lcM h.wishes wishD (fun w => .int w.rank) (iw_list ?_)
  repeat walk_at "ew"
  refine rd_ixT (ds := [.int (h.n : Nat), .list (h.rules.map rlD), .tuple (iD h.musts), .list (h.wishes.map wishD)]) (d := .list (h.wishes.map wishD)) rfl ⟨_, rfl, rfl, by omega, fun w hw => ?_, ?_⟩
  · refine gw_tup rfl (gws_cons (by simp) (gws_cons (by simp) (gws_cons (by simp) (gws_nil ?_))))
    exact ew_var (d := .int w.rank) rfl rfl
  repeat walk_at "ew"
  refine ⟨(by show 1 ≤ 100000; decide), rd_catL (by rw [List.length_map]; simp; omega) ?_⟩
  have hm : h.wishes.map (fun w => PyData.int w.rank) ++ [.int 0] = ((h.wishes.map Wish.rank) ++ [0]).map .int := by
    rw [List.map_append, List.map_map]
    rfl
  rw [hm]
  repeat walk_at "ew"
  refine rc_max (by simp) fun m hm1 hm2 => ?_
  have hmr : m = (maxRank h.wishes : Nat) := by
    have ge0 : 0 ≤ m := hm2 0 (by simp)
    have up : ∀ w ∈ h.wishes, w.rank ≤ m := fun w hw => hm2 _ (by simp; exact .inl ⟨w, hw, rfl⟩)
    have mem : m = 0 ∨ ∃ w ∈ h.wishes, w.rank = m := by
      have := hm1
      simp at this
      rcases this with ⟨w, hw, e⟩ | e
      · exact .inr ⟨w, hw, e⟩
      · exact .inl e
    have g1 := maxRank_ge h.wishes
    rcases maxRank_mem h.wishes with e | ⟨w, hw, e⟩
    · rcases mem with e2 | ⟨w2, hw2, e2⟩
      · omega
      · have := g1 w2 hw2; have := (h0.wishes w2 hw2).r0; omega
    · have h3 := up w hw
      rcases mem with e2 | ⟨w2, hw2, e2⟩
      · have := (h0.wishes w hw).r0; omega
      · have := g1 w2 hw2; have := (h0.wishes w2 hw2).r0; omega
  have hm4 : maxRank h.wishes ≤ 4 := by
    rcases maxRank_mem h.wishes with e | ⟨w, hw, e⟩
    · omega
    · have := (h0.wishes w hw).r1; omega
  refine ⟨[.int 0], m, rfl, rfl, by omega, by omega, by decide, ?_⟩
  have hrep : (List.replicate m.toNat [PyData.int 0]).flatten = iD (List.replicate (maxRank h.wishes) 0) := by
    rw [hmr]
    unfold iD
    have : ∀ n : Nat, (List.replicate n [PyData.int 0]).flatten = (List.replicate n (0 : Int)).map .int := fun n => by
      induction n with
      | zero => rfl
      | succ n ih => rw [List.replicate_succ, List.replicate_succ, List.flatten_cons, List.map_cons, ih] <;> rfl
    exact this _
  rw [hrep]
  refine sw_seq (sw_forF (vs := [3]) ps .int (fun pre => [.val (hsD h), .val (lD ps), .own (iD (pre.foldl (addAt h.wishes) (List.replicate (maxRank h.wishes) 0))), .unk, .unk, .unk, .unk]) (iw_tup (ew_var rfl ⟨_, rfl, rfl, ⟨rfl, rfl, rfl, trivial⟩, fun pre pl post hs => ?_, ?_⟩)))
  · obtain ⟨p0, p1⟩ := h1 pl (by rw [hs]; simp)
    obtain ⟨w, hw, hwm, hat⟩ := wish_at p0 p1
    have wok := h0.wishes w hwm
    have hlen : (pre.foldl (addAt h.wishes) (List.replicate (maxRank h.wishes) 0)).length = maxRank h.wishes := by rw [addAll_len, List.length_replicate]
    have hrk := maxRank_ge h.wishes w hwm
    have hr0 := wok.r0
    have hri : w.rank - 1 = ((w.rank.toNat - 1 : Nat) : Int) := by omega
    have hlt : w.rank.toNat - 1 < (pre.foldl (addAt h.wishes) (List.replicate (maxRank h.wishes) 0)).length := by rw [hlen]; omega
    refine gw_name (by simp) ?_
    refine sw_seq (sw_asg ?_)
    repeat walk_at "ew"
    refine rd_ixT (ds := [.int (h.n : Nat), .list (h.rules.map rlD), .tuple (iD h.musts), .list (h.wishes.map wishD)]) (d := .list (h.wishes.map wishD)) rfl ?_
    repeat walk_at "ew"
    refine rd_ixL hat ⟨[4, 5, 6], ?_⟩
    refine gw_tup rfl (gws_cons (by simp) (gws_cons (by simp) (gws_cons (by simp) (gws_nil ?_))))
    refine sw_setItem rfl rfl ?_
    repeat walk_at "ew"
    rw [hri]
    refine rd_ixL (ints_at hlt) ?_
    repeat walk_at "ew"
    refine ⟨w.rank.toNat - 1, by rw [hri], by rw [show (iD (pre.foldl (addAt h.wishes) (List.replicate (maxRank h.wishes) 0))).length = _ from List.length_map _]; exact hlt, ?_⟩
    refine ⟨rfl, rfl, ?_, trivial⟩
    rw [List.foldl_append]
    show Ent.own _ = Ent.own (iD (addAt h.wishes (pre.foldl (addAt h.wishes) (List.replicate (maxRank h.wishes) 0)) pl))
    unfold addAt
    rw [hw]
    unfold iD
    rw [List.map_set]
  · repeat walk_at "ew"
    exact rfl

abbrev s_lost_wishes : Stmt := topS 35
theorem sc_lost_wishes : FnScope ["house", "setting", "kept", "place", "wish"] ["house", "setting"] (defScope s_lost_wishes) := ⟨rfl, rfl, rfl, by decide +kernel, rfl, by decide +kernel, by decide +kernel⟩
def T_lost_wishes : Tr := fun ds Φ => ∃ h s, ds = [hsD h, setD s] ∧ HsOk h ∧ s.length = h.n ∧ Φ = fun d => d = lD (lostWishes h s)
theorem ok_lost_wishes (F : Fun K "lost_wishes" "lost_wishes" s_lost_wishes f fd) (B : Blt mg) (f_rules_kept : Fn P w K mg base "rules_kept" 4 ["rules", "setting"] T_rules_kept) : FnOk P w K mg base CX0 5 f fd ["house", "setting"] (spD K T_lost_wishes) := by
  refine F.ok sc_lost_wishes (fun vs H Q E h => spD_len (by rintro _ _ ⟨_, _, rfl, _⟩; rfl) h) (fun cdv A outer s H vs Q E hr h => ?_)
  refine ⟨_, (pss_cons (ps_set (i := 2) sc_lost_wishes.nd rfl (by first | exact Or.inl rfl | exact Or.inr rfl) (pe_fn f_rules_kept (hr.mono (by omega)) (pa_cons (pe_ix (ix_U (K := K) rfl) (pv 0) pe_int (fun _ _ => rfl)) (pa_cons (pv 1) pa_nil)))) (pss_one (ps_ret (pe_callTy call_tupleZT (by rfl) B.tuple (by decide +kernel) (pa_cons (pe_lc (own := [("place", 3), ("wish", 4)]) (g := gTup K 2 (gCons (gName 3) (gCons (gName 4) (gNil)))) rfl sc_lost_wishes.nd (pi_enum (by rfl) B.enumerate (pa_cons (pe_ix (ix_U (K := K) rfl) (pv 0) pe_int (fun _ _ => rfl)) pa_nil)) (blkOk_by (own := [("place", 3), ("wish", 4)]) (N := ["house", "setting", "kept", "place", "wish"]) (sc := defScope s_lost_wishes) (by decide +kernel)) (fun _ _ _ _ _ => (pg_tup rfl (pgs_cons (pg_name (i := 3) sc_lost_wishes.nd rfl (Or.inl rfl)) (pgs_cons (pg_name (i := 4) sc_lost_wishes.nd rfl (Or.inl rfl)) pgs_nil)))) (fun _ _ _ _ _ => pts_one (pt_not (pt_val (pe_ix (ix_U (K := K) rfl) (pv 2) (pe_ix (ix_U (K := K) rfl) (pv 4) pe_int (fun _ _ => rfl)) (fun _ _ => rfl))))) (fun _ _ _ _ _ => (pv 3))) pa_nil))))), ?_⟩
  refine body_of h fun J ds Φ hT => ?_
  try dsimp only [cxOf]
  obtain ⟨h, s, rfl, h0, h1, rfl⟩ := hT
  show SW J K _ [.val (hsD h), .val (setD s), .unk, .unk, .unk] _
  have hwl := h0.wlen
  have hn := h0.n
  repeat walk_at "ew"
  refine rd_ixT (ds := [.int (h.n : Nat), .list (h.rules.map rlD), .tuple (iD h.musts), .list (h.wishes.map wishD)]) (d := .list (h.rules.map rlD)) rfl ?_
  repeat walk_at "ew"
  refine ⟨_, ⟨h.rules, s, rfl, by rw [h1]; exact h0.rules, by omega, rfl⟩, fun d hd => ?_⟩
  subst hd
  repeat walk_at "ew"
  refine ew_lcF h.wishes.zipIdx (fun p => .tuple [.int ((p.2 : Nat) : Int), wishD p.1]) (fun p => !lookB (rulesKept h.rules s) p.1.num) (fun p => .int ((p.2 : Nat) : Int)) (iw_enum ?_)
  repeat walk_at "ew"
  refine rd_ixT (ds := [.int (h.n : Nat), .list (h.rules.map rlD), .tuple (iD h.musts), .list (h.wishes.map wishD)]) (d := .list (h.wishes.map wishD)) rfl ?_
  repeat walk_at "ew"
  refine ⟨_, rfl, enumD_map _ _, by rw [List.length_zipIdx]; omega, fun p hp => ?_, ?_⟩
  · have hpm : p.1 ∈ h.wishes := by
      have := List.mem_zipIdx_iff_getElem?.mp hp
      exact List.mem_of_getElem? this
    have wok := h0.wishes p.1 hpm
    refine gw_tup rfl (gws_cons (by simp) (gws_cons (by simp) (gws_nil ?_)))
    repeat walk_at "ew"
    refine rd_ixT (ds := [.int p.1.num, .int p.1.rank, .int p.1.wt]) (d := .int p.1.num) rfl ?_
    refine rd_ixL (kept_at wok.n0 (by rw [rulesKept_len]; exact wok.n1)) ⟨_, rfl, rfl, fun _ => ?_⟩
    exact ew_var rfl rfl
  · repeat walk_at "ew"
    show PyData.tuple _ = lD (lostWishes h s)
    unfold lD lostWishes lostBy iD
    rw [List.map_map]
    rfl

abbrev s_house_losses : Stmt := topS 36
theorem sc_house_losses : FnScope ["house", "setting"] ["house", "setting"] (defScope s_house_losses) := ⟨rfl, rfl, rfl, by decide +kernel, rfl, by decide +kernel, by decide +kernel⟩
def T_house_losses : Tr := fun ds Φ => ∃ h s, ds = [hsD h, setD s] ∧ HsOk h ∧ s.length = h.n ∧ Φ = fun d => d = lD (losses h s)
theorem ok_house_losses (F : Fun K "house_losses" "house_losses" s_house_losses f fd) (B : Blt mg) (f_lost_wishes : Fn P w K mg base "lost_wishes" 5 ["house", "setting"] T_lost_wishes) (f_wishes_losses : Fn P w K mg base "wishes_losses" 1 ["house", "places"] T_wishes_losses) : FnOk P w K mg base CX0 6 f fd ["house", "setting"] (spD K T_house_losses) := by
  refine F.ok sc_house_losses (fun vs H Q E h => spD_len (by rintro _ _ ⟨_, _, rfl, _⟩; rfl) h) (fun cdv A outer s H vs Q E hr h => ?_)
  refine ⟨_, (pss_one (ps_ret (pe_fn f_wishes_losses (hr.mono (by omega)) (pa_cons (pv 0) (pa_cons (pe_fn f_lost_wishes (hr.mono (by omega)) (pa_cons (pv 0) (pa_cons (pv 1) pa_nil))) pa_nil))))), ?_⟩
  refine body_of h fun J ds Φ hT => ?_
  try dsimp only [cxOf]
  obtain ⟨h, s, rfl, h0, h1, rfl⟩ := hT
  show SW J K _ [.val (hsD h), .val (setD s)] _
  repeat walk_at "ew"
  refine ⟨_, ⟨h, s, rfl, h0, h1, rfl⟩, fun d hd => ?_⟩
  subst hd
  repeat walk_at "ew"
  have hl : (lostWishes h s).length ≤ 12 := Nat.le_trans (lostBy_len _ _) h0.wlen
  exact ⟨_, ⟨h, lostWishes h s, rfl, h0, fun pl hpl => ⟨(lostBy_mem hpl).1, (lostBy_mem hpl).2.1⟩, by omega, rfl⟩, fun d hd => hd⟩

abbrev s_keeps_musts : Stmt := topS 37
theorem sc_keeps_musts : FnScope ["house", "setting", "kept", "number"] ["house", "setting"] (defScope s_keeps_musts) := ⟨rfl, rfl, rfl, by decide +kernel, rfl, by decide +kernel, by decide +kernel⟩
def T_keeps_musts : Tr := fun ds Φ => ∃ h s, ds = [hsD h, setD s] ∧ HsOk h ∧ s.length = h.n ∧ Φ = fun d => d = .bool (keepsMusts h s)
theorem ok_keeps_musts (F : Fun K "keeps_musts" "keeps_musts" s_keeps_musts f fd) (B : Blt mg) (f_rules_kept : Fn P w K mg base "rules_kept" 4 ["rules", "setting"] T_rules_kept) : FnOk P w K mg base CX0 5 f fd ["house", "setting"] (spD K T_keeps_musts) := by
  refine F.ok sc_keeps_musts (fun vs H Q E h => spD_len (by rintro _ _ ⟨_, _, rfl, _⟩; rfl) h) (fun cdv A outer s H vs Q E hr h => ?_)
  refine ⟨_, (pss_cons (ps_set (i := 2) sc_keeps_musts.nd rfl (by first | exact Or.inl rfl | exact Or.inr rfl) (pe_fn f_rules_kept (hr.mono (by omega)) (pa_cons (pe_ix (ix_U (K := K) rfl) (pv 0) pe_int (fun _ _ => rfl)) (pa_cons (pv 1) pa_nil)))) (pss_one (ps_ret (pe_callB (cr_all rfl) (by rfl) B.all (by decide +kernel) (pa_cons (pe_lc (own := [("number", 3)]) (g := gName 3) rfl sc_keeps_musts.nd (pi_tup (pe_ix (ix_U (K := K) rfl) (pv 0) pe_int (fun _ _ => rfl))) (blkOk_by (own := [("number", 3)]) (N := ["house", "setting", "kept", "number"]) (sc := defScope s_keeps_musts) (by decide +kernel)) (fun _ _ _ _ _ => (pg_name (i := 3) sc_keeps_musts.nd rfl (Or.inl rfl))) (fun _ _ _ _ _ => pts_nil) (fun _ _ _ _ _ => (pe_ix (ix_U (K := K) rfl) (pv 2) (pv 3) (fun _ _ => rfl)))) pa_nil))))), ?_⟩
  refine body_of h fun J ds Φ hT => ?_
  try dsimp only [cxOf]
  obtain ⟨h, s, rfl, h0, h1, rfl⟩ := hT
  show SW J K _ [.val (hsD h), .val (setD s), .unk, .unk] _
  have hn := h0.n
  have hml := h0.mlen
  repeat walk_at "ew"
  refine rd_ixT (ds := [.int (h.n : Nat), .list (h.rules.map rlD), .tuple (iD h.musts), .list (h.wishes.map wishD)]) (d := .list (h.rules.map rlD)) rfl ?_
  repeat walk_at "ew"
  refine ⟨_, ⟨h.rules, s, rfl, by rw [h1]; exact h0.rules, by omega, rfl⟩, fun d hd => ?_⟩
  subst hd
  repeat walk_at "ew"
  refine ew_lcM h.musts .int (fun k => .bool (lookB (rulesKept h.rules s) k)) (iw_tup ?_)
  repeat walk_at "ew"
  refine rd_ixT (ds := [.int (h.n : Nat), .list (h.rules.map rlD), .tuple (iD h.musts), .list (h.wishes.map wishD)]) (d := .tuple (iD h.musts)) rfl ⟨_, rfl, rfl, by omega, fun k hk => gw_name (by simp) ?_, ?_⟩
  · repeat walk_at "ew"
    exact rd_ixL (kept_at (h0.musts k hk).1 (by rw [rulesKept_len]; exact (h0.musts k hk).2)) rfl
  · have hm : h.musts.map (fun k => PyData.bool (lookB (rulesKept h.rules s) k)) = (h.musts.map (lookB (rulesKept h.rules s))).map .bool := by
      rw [List.map_map]
      rfl
    rw [hm]
    repeat walk_at "ew"
    refine rc_all ?_
    show PyData.bool _ = PyData.bool _
    rw [List.all_map]
    rfl

abbrev s_best_settings : Stmt := topS 38
theorem sc_best_settings : FnScope ["house", "some", "least", "setting"] ["house"] (defScope s_best_settings) := ⟨rfl, rfl, rfl, by decide +kernel, rfl, by decide +kernel, by decide +kernel⟩
def T_best_settings : Tr := fun ds Φ => ∃ h, ds = [hsD h] ∧ HsOk h ∧ Φ = fun d => d = .list ((bestSettings h).map setD)
theorem nones (n : Nat) : (List.replicate n [PyData.none]).flatten = (List.replicate n (none : Option Bool)).map pD := by
  induction n with
  | zero => rfl
  | succ n ih => rw [List.replicate_succ, List.replicate_succ, List.flatten_cons, List.map_cons, ih] <;> rfl
theorem okSettings_len {h : Hs} {s : List Bool} (hs : s ∈ okSettings h) : s.length = h.n := by
  have := allF_item _ s (List.mem_filter.mp hs).1
  rw [List.length_replicate] at this
  exact this
theorem ok_best_settings (F : Fun K "best_settings" "best_settings" s_best_settings f fd) (B : Blt mg) (f_all_fillings : Fn P w K mg base "all_fillings" 1 ["partial"] T_all_fillings) (f_keeps_musts : Fn P w K mg base "keeps_musts" 5 ["house", "setting"] T_keeps_musts)
    (f_house_losses : Fn P w K mg base "house_losses" 6 ["house", "setting"] T_house_losses) : FnOk P w K mg base CX0 7 f fd ["house"] (spD K T_best_settings) := by
  refine F.ok sc_best_settings (fun vs H Q E h => spD_len (by rintro _ _ ⟨_, rfl, _⟩; rfl) h) (fun cdv A outer s H vs Q E hr h => ?_)
  refine ⟨_, (pss_cons (ps_setLc (i := 1) (own := [("setting", 3)]) (g := gName 3) rfl sc_best_settings.nd rfl rfl (sw_true rfl rfl rfl (by decide +kernel)) (pi_list (pe_fn f_all_fillings (hr.mono (by omega)) (pa_cons (pe_op (op_mulU (K := K) rfl) (pe_tupZ (pa_cons pe_non pa_nil)) (pe_ix (ix_U (K := K) rfl) (pv 0) pe_int (fun _ _ => rfl))) pa_nil))) (blkOk_by (own := [("setting", 3)]) (N := ["house", "some", "least", "setting"]) (sc := defScope s_best_settings) (by decide +kernel)) (fun _ _ _ _ _ => (pg_name (i := 3) sc_best_settings.nd rfl (Or.inl rfl))) (fun _ _ _ _ _ => pts_one (pt_val (pe_fn f_keeps_musts (hr.mono (by omega)) (pa_cons (pv 0) (pa_cons (pv 3) pa_nil))))) (fun _ _ _ _ _ => (pv 3))) (pss_cons (ps_if (pt_cmpR (op_eqU (K := K) rfl hr.units) (pv 1) (pe_lst pa_nil) (nomark _)) (pss_one (ps_ret (pe_lst pa_nil))) pss_nil) (pss_cons (ps_set (i := 2) sc_best_settings.nd rfl (by first | exact Or.inl rfl | exact Or.inr rfl) (pe_callB (cr_minD rfl hr.units) (by rfl) B.min (by decide +kernel) (pa_cons (pe_lc (own := [("setting", 3)]) (g := gName 3) rfl sc_best_settings.nd (pi_list (pv 1)) (blkOk_by (own := [("setting", 3)]) (N := ["house", "some", "least", "setting"]) (sc := defScope s_best_settings) (by decide +kernel)) (fun _ _ _ _ _ => (pg_name (i := 3) sc_best_settings.nd rfl (Or.inl rfl))) (fun _ _ _ _ _ => pts_nil) (fun _ _ _ _ _ => (pe_fn f_house_losses (hr.mono (by omega)) (pa_cons (pv 0) (pa_cons (pv 3) pa_nil))))) pa_nil))) (pss_one (ps_ret (pe_lc (own := [("setting", 3)]) (g := gName 3) rfl sc_best_settings.nd (pi_list (pv 1)) (blkOk_by (own := [("setting", 3)]) (N := ["house", "some", "least", "setting"]) (sc := defScope s_best_settings) (by decide +kernel)) (fun _ _ _ _ _ => (pg_name (i := 3) sc_best_settings.nd rfl (Or.inl rfl))) (fun _ _ _ _ _ => pts_one (pt_cmpR (op_eqU (K := K) rfl hr.units) (pe_fn f_house_losses (hr.mono (by omega)) (pa_cons (pv 0) (pa_cons (pv 3) pa_nil))) (pv 2) (nomark _))) (fun _ _ _ _ _ => (pv 3)))))))), ?_⟩
  refine body_of h fun J ds Φ hT => ?_
  try dsimp only [cxOf]
  obtain ⟨h, rfl, h0, rfl⟩ := hT
  show SW J K _ [.val (hsD h), .unk, .unk, .unk] _
  have hn := h0.n
  have hal : (allF (List.replicate h.n none)).length ≤ 256 := Nat.le_trans (allF_len _) (Nat.le_trans (Nat.pow_le_pow_right (by decide) (by rw [List.length_replicate]; exact hn)) (by decide))
  have hol : (okSettings h).length ≤ 256 := Nat.le_trans (List.length_filter_le _ _) hal
  refine sw_seq (sw_set (ew_lcF (allF (List.replicate h.n none)) setD (keepsMusts h) setD (iw_list (ew_call ?_))))
  repeat walk_at "ew"
  refine ⟨(by show 1 ≤ 100000; decide), ?_⟩
  repeat walk_at "ew"
  refine rd_ixT (ds := [.int (h.n : Nat), .list (h.rules.map rlD), .tuple (iD h.musts), .list (h.wishes.map wishD)]) (d := .int (h.n : Nat)) rfl ?_
  refine rd_repZ (by simp) (by omega) (by omega) (by decide) ?_
  have hz : ((h.n : Nat) : Int).toNat = h.n := by omega
  rw [hz, nones]
  repeat walk_at "ew"
  refine ⟨_, ⟨List.replicate h.n none, rfl, by rw [List.length_replicate]; exact hn, rfl⟩, fun d hd => ?_⟩
  subst hd
  refine ⟨_, rfl, rfl, by omega, fun s hs => gw_name (by simp) ?_, ?_⟩
  · repeat walk_at "ew"
    have hsl : s.length = h.n := by have := allF_item _ s hs; rw [List.length_replicate] at this; exact this
    refine ⟨_, ⟨h, s, rfl, h0, hsl, rfl⟩, fun d hd => ?_⟩
    subst hd
    exact ⟨_, rfl, rfl, fun _ => ew_var rfl rfl⟩
  have ho : (allF (List.replicate h.n none)).filter (keepsMusts h) = okSettings h := rfl
  rw [ho]
  repeat walk_at "ew"
  refine ⟨by decide, rd_eqd (shaped_sets _) (shaped_sets []) ?_⟩
  rw [eqv_nil]
  have eb : bestSettings h = (okSettings h).filter fun s => decide (losses h s = minL ((okSettings h).map (losses h))) := rfl
  repeat walk_at "ew"
  cases ho2 : okSettings h with
  | nil =>
    refine iteT ?_
    repeat walk_at "ew"
    refine ⟨by decide, ?_⟩
    show PyData.list [] = _
    rw [eb, ho2] <;> rfl
  | cons s0 ss =>
    have hss : ∀ s ∈ s0 :: ss, s.length = h.n := fun s hs => okSettings_len (by rw [ho2]; exact hs)
    have hol2 : (s0 :: ss).length ≤ 256 := by rw [← ho2]; exact hol
    refine iteF ?_
    repeat walk_at "ew"
    refine ew_lcM (s0 :: ss) setD (fun s => lD (losses h s)) (iw_list (ew_var rfl ⟨_, rfl, rfl, by omega, fun s hs => gw_name (by simp) ?_, ?_⟩))
    · repeat walk_at "ew"
      exact ⟨_, ⟨h, s, rfl, h0, hss s hs, rfl⟩, fun d hd => hd⟩
    have hm : (s0 :: ss).map (fun s => lD (losses h s)) = ((s0 :: ss).map (losses h)).map lD := by
      rw [List.map_map]
      rfl
    rw [hm]
    have cl : ∀ ls : List (List Int), PyData.canLayAll0 (ls.map lD) = true := fun ls => by
      induction ls with
      | nil => simp [PyData.canLayAll0]
      | cons a ls ih => rw [List.map_cons, PyData.canLayAll0, ih, canLay_lD] <;> rfl
    repeat walk_at "ew"
    refine rc_minD (cl _) (by simp) (fun d hd e he => ?_) (fun d hd => ?_) fun d hd => ?_
    · obtain ⟨a, _, rfl⟩ := List.mem_map.mp hd
      obtain ⟨b, _, rfl⟩ := List.mem_map.mp he
      exact alike_lD a b
    · obtain ⟨a, _, rfl⟩ := List.mem_map.mp hd
      exact ⟨(fun z => nomatch z), by rw [depth_lD]; decide⟩
    have hd' := bestD_is _ (by simp) hd
    subst hd'
    repeat walk_at "ew"
    refine ew_lcF (s0 :: ss) setD (fun s => decide (losses h s = minL ((s0 :: ss).map (losses h)))) setD (iw_list (ew_var rfl ⟨_, rfl, rfl, by omega, fun s hs => gw_name (by simp) ?_, ?_⟩))
    · repeat walk_at "ew"
      refine ⟨_, ⟨h, s, rfl, h0, hss s hs, rfl⟩, fun d hd => ?_⟩
      subst hd
      repeat walk_at "ew"
      refine rd_eqd (shaped_lD _) (shaped_lD _) ?_
      rw [eqv_lD]
      exact ⟨_, rfl, rfl, fun _ => ew_var rfl rfl⟩
    · show PyData.list _ = _
      rw [eb, ho2]
end
end WD

namespace WD
open PySem PySem.Spec PyProof.Rows L2 Evl
local macro_rules | `(tactic| walk_at "ew") => `(tactic| first
  | (with_reducible refine sw_seq ?_)
  | (with_reducible refine sw_next ?_)
  | (with_reducible refine sw_if ?_)
  | (with_reducible refine sw_setF (ef_lst (ed_nil (And.intro (Nat.zero_le _) ?_))))
  | (with_reducible refine sw_set ?_)
  | (with_reducible refine sw_ret ?_)
  | ((with_reducible refine' ew_var ?hv ?_); (case hv => rfl))
  | ((with_reducible refine' ev_own ?hv ?_); (case hv => rfl))
  | (with_reducible refine ev_of ?_)
  | (with_reducible refine ew_int ?_)
  | (with_reducible refine ew_str ?_)
  | (with_reducible refine ew_non ?_)
  | (with_reducible refine ew_bl ?_)
  | (with_reducible refine ew_op ?_)
  | (with_reducible refine ew_isi ?_)
  | (with_reducible refine ew_isRow ?_)
  | (with_reducible refine ew_cb ?_)
  | (with_reducible refine ea_cons ?_)
  | (with_reducible refine ea_nil ?_)
  | (with_reducible refine ed_cons ?_)
  | (with_reducible refine ed_nil ?_)
  | (with_reducible refine ew_tup ?_)
  | (with_reducible refine ew_lst ?_)
  | (with_reducible refine ew_call ?_)
  | (with_reducible refine ew_if ?_)
  | (with_reducible refine et_test ?_)
  | (with_reducible refine et_B ?_)
  | (with_reducible refine et_and ?_)
  | (with_reducible refine et_or ?_)
  | (with_reducible refine et_not ?_)
  | (with_reducible refine ew_chain ?_)
  | (with_reducible refine rd_add ?_)
  | (with_reducible refine rd_sub ?_)
  | (with_reducible refine rd_eq ?_)
  | (with_reducible refine rd_eqs ?_)
  | (with_reducible refine rd_le ?_)
  | (with_reducible refine rd_ge ?_)
  | (with_reducible refine rd_lt ?_)
  | (with_reducible refine rd_gt ?_)
  | (with_reducible refine rc_abs ?_)
  | (with_reducible refine rc_int ?_)
  | (with_reducible refine rc_lenL ?_)
  | (with_reducible refine rc_lenT ?_)
  | (with_reducible refine rc_max2 ?_)
  | (with_reducible refine rc_tuple ?_)
  | (with_reducible refine ew_un ?_)
  | (with_reducible refine ew_andV ?_)
  | (with_reducible refine ew_orV ?_)
  | (with_reducible refine ew_notV ?_)
  | (with_reducible refine rd_neI ?_)
  | (with_reducible refine ex_i ?_)
  | (with_reducible refine ex_b ?_)
  | (with_reducible refine it_T ?_)
  | (with_reducible refine it_F ?_)
  | (with_reducible refine it_NT ?_)
  | (with_reducible refine it_NF ?_))

theorem part_take {p : Part} {i : Nat} : cutD (p.map pD) none (some ((i : Nat) : Int)) = (p.take i).map pD := by
  unfold cutD
  rw [show HT.sIx (p.map pD).length 0 none = 0 from rfl, HT.sIx_nat, List.drop_zero, Nat.sub_zero, ← List.map_take, List.length_map]
  by_cases h : i ≤ p.length
  · rw [Nat.min_eq_left h]
  · rw [Nat.min_eq_right (by omega), List.take_of_length_le (Nat.le_refl _), List.take_of_length_le (by omega)]
theorem part_drop {p : Part} {i : Nat} : cutD (p.map pD) (some ((i : Nat) : Int)) none = (p.drop i).map pD := by
  unfold cutD
  rw [show HT.sIx (p.map pD).length (p.map pD).length none = (p.map pD).length from rfl, HT.sIx_nat, List.length_map]
  have : List.take (p.length - min i p.length) (List.drop (min i p.length) (p.map pD)) = List.drop (min i p.length) (p.map pD) := List.take_of_length_le (by rw [List.length_drop, List.length_map]; omega)
  rw [this, ← List.map_drop]
  by_cases h : i ≤ p.length
  · rw [Nat.min_eq_left h]
  · rw [Nat.min_eq_right (by omega), List.drop_of_length_le (Nat.le_refl _), List.drop_of_length_le (by omega)]
theorem put_is (p : Part) (i : Nat) (b : Bool) (h : i < p.length) : p.take i ++ [some b] ++ p.drop (i + 1) = putName p i b := by
  unfold putName
  rw [List.set_eq_take_append_cons_drop, if_pos h]
  simp
section
variable {P : Program} {w : World} {K : PySem.W.Frag} {mg : Str → Option Value} {base : Heap} {f : Addr} {fd : FuncData}
abbrev s_put_name : Stmt := topS 41
theorem sc_put_name : FnScope ["partial", "name", "worth"] ["partial", "name", "worth"] (defScope s_put_name) := ⟨rfl, rfl, rfl, by decide +kernel, rfl, by decide +kernel, by decide +kernel⟩
def T_put_name : Tr := fun ds Φ => ∃ (p : Part) (i : Nat) (b : Bool), ds = [partD p, .int ((i : Nat) + 1), .int (bI b)] ∧ i < p.length ∧ p.length ≤ 8 ∧ Φ = fun d => d = partD (putName p i b)
theorem ok_put_name (F : Fun K "put_name" "put_name" s_put_name f fd) (B : Blt mg) : FnOk P w K mg base CX0 1 f fd ["partial", "name", "worth"] (spD K T_put_name) := by
  refine F.ok sc_put_name (fun vs H Q E h => spD_len (by rintro _ _ ⟨_, _, _, rfl, _⟩; rfl) h) (fun cdv A outer s H vs Q E hr h => ?_)
  refine ⟨_, (pss_one (ps_ret (pe_op (op_addU (K := K) rfl) (pe_op (op_addU (K := K) rfl) (pe_slice (sl_U (K := K) rfl) (pv 0) po_none (po_some (pe_op op_sub (pv 1) pe_int))) (pe_tupZ (pa_cons (pv 2) pa_nil))) (pe_slice (sl_U (K := K) rfl) (pv 0) (po_some (pv 1)) po_none)))), ?_⟩
  refine body_of h fun J ds Φ hT => ?_
  try dsimp only [cxOf]
  obtain ⟨p, i, b, rfl, h0, h1, rfl⟩ := hT
  show SW J K _ [.val (partD p), .val (.int ((i : Nat) + 1)), .val (.int (bI b))] _
  have e1 : ((i : Nat) : Int) + 1 - 1 = ((i : Nat) : Int) := by omega
  have e2 : ((i : Nat) : Int) + 1 = ((i + 1 : Nat) : Int) := by omega
  repeat walk_at "ew"
  refine ew_sl ?_
  repeat walk_at "ew"
  refine eo_none (eo_some ?_)
  repeat walk_at "ew"
  refine ⟨p.map pD, .inr ⟨rfl, ?_⟩⟩
  rw [e1, part_take]
  repeat walk_at "ew"
  refine ⟨(by show 1 ≤ 100000; decide), rd_catZ (by rw [List.length_map, List.length_take]; simp; omega) ?_⟩
  repeat walk_at "ew"
  refine ew_sl ?_
  repeat walk_at "ew"
  refine eo_some ?_
  repeat walk_at "ew"
  refine eo_none ⟨p.map pD, .inr ⟨rfl, ?_⟩⟩
  rw [e2, part_drop]
  refine rd_catZ (by rw [List.length_append, List.length_map, List.length_take, List.length_map, List.length_drop]; simp; omega) ?_
  show PyData.tuple _ = partD (putName p i b)
  rw [← put_is p i b h0]
  unfold partD
  rw [List.map_append, List.map_append]
  rfl

abbrev s_lesser_shown : Stmt := topS 42
theorem sc_lesser_shown : FnScope ["one", "other"] ["one", "other"] (defScope s_lesser_shown) := ⟨rfl, rfl, rfl, by decide +kernel, rfl, by decide +kernel, by decide +kernel⟩
structure NevC (J' : Unit) (K : PySem.W.Frag) (a : Addr) : Prop where
  dd : ∀ J F, Dd J K F (.ref a) (.tuple [.str "never"])
theorem shaped_sh (x : Shown) : SeqAt.shaped (shD x) = true := by
  cases x with
  | never => decide +kernel
  | least l =>
    unfold SeqAt.shaped shD
    rw [PyData.canLay0, PyData.canLayAll0, PyData.canLayAll0, PyData.canLayAll0, canLay_lD, PyData.depth, PyData.depthAll, PyData.depthAll, PyData.depthAll, depth_lD]
    decide +kernel
theorem eqv_sh_never : ∀ x, PyData.eqv (shD x) (.tuple [.str "never"]) = match x with | .never => true | _ => false
  | .never => by decide +kernel
  | .least l => by
    unfold shD
    rw [PyData.eqv, PyData.eqvAll, PyData.eqv]
    have : (Str.ofString "least" == Str.ofString "never") = false := by decide +kernel
    rw [this] <;> rfl
theorem sh_least_lt (a b : List Int) : PySem.W.dataLt (shD (.least b)) (shD (.least a)) = ltI b a := by
  unfold shD
  rw [PySem.W.dataLt_pair (by decide +kernel) (alike_lD b a), if_pos (by decide +kernel), eqv_lD, dataLt_lD]
  by_cases c : b = a
  · subst c; rw [if_pos (by simp), ltI_irrefl]
  · rw [if_neg (by simp [c])]
theorem alike_sh (a b : List Int) : PySem.W.alike (shD (.least a)) (shD (.least b)) = true := by
  unfold shD
  rw [PySem.W.alike, PySem.W.alikeAll, PySem.W.alikeAll, alike_lD]
  simp [PySem.W.alike, PySem.W.alikeAll]
theorem depth_sh (a : List Int) : (shD (.least a)).depth = 2 := by
  unfold shD
  rw [PyData.depth, PyData.depthAll, PyData.depthAll, PyData.depthAll, depth_lD]
  decide
def T_lesser_shown : Tr := fun ds Φ => ∃ x y, ds = [shD x, shD y] ∧ Φ = fun d => d = shD (lesser x y)
theorem ok_lesser_shown {aN : Addr} (F : Fun K "lesser_shown" "lesser_shown" s_lesser_shown f fd) (B : Blt mg) (c_NEVER : mg "NEVER" = some (.ref aN)) (nv : NevC () K aN) : FnOk P w K mg base CX0 1 f fd ["one", "other"] (spD K T_lesser_shown) := by
  refine F.ok sc_lesser_shown (fun vs H Q E h => spD_len (by rintro _ _ ⟨_, _, rfl, _⟩; rfl) h) (fun cdv A outer s H vs Q E hr h => ?_)
  refine ⟨_, (pss_cons (ps_if (pt_cmpR (op_eqU (K := K) rfl hr.units) (pv 0) (pe_cref c_NEVER) (nomark _)) (pss_one (ps_ret (pv 1))) pss_nil) (pss_cons (ps_if (pt_cmpR (op_eqU (K := K) rfl hr.units) (pv 1) (pe_cref c_NEVER) (nomark _)) (pss_one (ps_ret (pv 0))) pss_nil) (pss_one (ps_ret (pe_callB (cr_minD2 rfl hr.units) (by rfl) B.min (by decide +kernel) (pa_cons (pv 0) (pa_cons (pv 1) pa_nil))))))), ?_⟩
  refine body_of h fun J ds Φ hT => ?_
  try dsimp only [cxOf]
  obtain ⟨x, y, rfl, rfl⟩ := hT
  show SW J K _ [.val (shD x), .val (shD y)] _
  repeat walk_at "ew"
  refine ew_const (nv.dd J) (rd_eqd (shaped_sh x) (by decide +kernel) ?_)
  rw [eqv_sh_never]
  repeat walk_at "ew"
  cases x with
  | never =>
    refine iteT ?_
    repeat walk_at "ew"
    exact rfl
  | least a =>
    refine iteF ?_
    repeat walk_at "ew"
    refine ew_const (nv.dd J) (rd_eqd (shaped_sh y) (by decide +kernel) ?_)
    rw [eqv_sh_never]
    repeat walk_at "ew"
    cases y with
    | never =>
      refine iteT ?_
      repeat walk_at "ew"
      exact rfl
    | least b =>
      refine iteF ?_
      have all2 : ∀ {p : Dt → Prop}, p (shD (.least a)) → p (shD (.least b)) → ∀ d ∈ [shD (.least a), shD (.least b)], p d := fun h1 h2 d hd => by
        simp at hd
        rcases hd with rfl | rfl
        · exact h1
        · exact h2
      repeat walk_at "ew"
      refine rc_minD2 (SeqAt.canLay_of_shaped (shaped_sh _)) (SeqAt.canLay_of_shaped (shaped_sh _)) (fun ds z => nomatch z) (fun ds z => nomatch z) (all2 (all2 (alike_sh _ _) (alike_sh _ _)) (all2 (alike_sh _ _) (alike_sh _ _)))
        (all2 ⟨(fun z => nomatch z), by rw [depth_sh]; decide⟩ ⟨(fun z => nomatch z), by rw [depth_sh]; decide⟩) ?_
      rw [sh_least_lt]
      show _ = shD (if ltI b a = true then .least b else .least a)
      split <;> rfl
end
end WD

namespace WD
open PySem PySem.Spec PyProof.Rows L2 Evl
local macro_rules | `(tactic| walk_at "ew") => `(tactic| first
  | (with_reducible refine sw_seq ?_)
  | (with_reducible refine sw_next ?_)
  | (with_reducible refine sw_if ?_)
  | (with_reducible refine sw_setF (ef_lst (ed_nil (And.intro (Nat.zero_le _) ?_))))
  | (with_reducible refine sw_set ?_)
  | (with_reducible refine sw_ret ?_)
  | ((with_reducible refine' ew_var ?hv ?_); (case hv => rfl))
  | ((with_reducible refine' ev_own ?hv ?_); (case hv => rfl))
  | (with_reducible refine ev_of ?_)
  | (with_reducible refine ew_int ?_)
  | (with_reducible refine ew_str ?_)
  | (with_reducible refine ew_non ?_)
  | (with_reducible refine ew_bl ?_)
  | (with_reducible refine ew_op ?_)
  | (with_reducible refine ew_isi ?_)
  | (with_reducible refine ew_isRow ?_)
  | (with_reducible refine ew_cb ?_)
  | (with_reducible refine ea_cons ?_)
  | (with_reducible refine ea_nil ?_)
  | (with_reducible refine ed_cons ?_)
  | (with_reducible refine ed_nil ?_)
  | (with_reducible refine ew_tup ?_)
  | (with_reducible refine ew_lst ?_)
  | (with_reducible refine ew_call ?_)
  | (with_reducible refine ew_if ?_)
  | (with_reducible refine et_test ?_)
  | (with_reducible refine et_B ?_)
  | (with_reducible refine et_and ?_)
  | (with_reducible refine et_or ?_)
  | (with_reducible refine et_not ?_)
  | (with_reducible refine ew_chain ?_)
  | (with_reducible refine rd_add ?_)
  | (with_reducible refine rd_sub ?_)
  | (with_reducible refine rd_eq ?_)
  | (with_reducible refine rd_eqs ?_)
  | (with_reducible refine rd_le ?_)
  | (with_reducible refine rd_ge ?_)
  | (with_reducible refine rd_lt ?_)
  | (with_reducible refine rd_gt ?_)
  | (with_reducible refine rc_abs ?_)
  | (with_reducible refine rc_int ?_)
  | (with_reducible refine rc_lenL ?_)
  | (with_reducible refine rc_lenT ?_)
  | (with_reducible refine rc_max2 ?_)
  | (with_reducible refine rc_tuple ?_)
  | (with_reducible refine ew_un ?_)
  | (with_reducible refine ew_andV ?_)
  | (with_reducible refine ew_orV ?_)
  | (with_reducible refine ew_notV ?_)
  | (with_reducible refine rd_neI ?_)
  | (with_reducible refine ex_i ?_)
  | (with_reducible refine ex_b ?_)
  | (with_reducible refine it_T ?_)
  | (with_reducible refine it_F ?_)
  | (with_reducible refine it_NT ?_)
  | (with_reducible refine it_NF ?_))

def hgt : Tre → Nat
  | .must _ => 0
  | .lost _ => 0
  | .part _ a b => max (hgt a) (hgt b) + 1
theorem all_bools {α : Type} (xs : List α) (g : α → Bool) : ((xs.map g).all id) = xs.all g := by rw [List.all_map]; rfl
section
variable {P : Program} {w : World} {K : PySem.W.Frag} {mg : Str → Option Value} {base : Heap} {f : Addr} {fd : FuncData}
/-- nothing can be asked yet -/
theorem none_ok {x : Str} {k : Nat} {ps : List Str} {T : Tr} (h : ∃ f fd, Binds K fd ps [] ∧ PySem.W.keepIn K (.ref f) = true ∧ mg x = some (.ref f)) (no : ∀ ds Φ, ¬ T ds Φ) : Fn P w K mg base x k ps T := by
  obtain ⟨f, fd, b, kp, m⟩ := h
  have no' : ∀ vs H Q E, ¬ spD K T vs H Q E := fun vs H Q E ⟨J, F, ds, Φ, _, _, _, t, _⟩ => no ds Φ t
  exact ⟨f, fd, ⟨fun vs H Q E h => absurd h (no' vs H Q E), fun A outer s H args us vs Q E _ _ _ _ h => absurd h (no' vs H Q E)⟩, b, kp, m⟩
abbrev s_are_places : Stmt := topS 43
theorem sc_are_places : FnScope ["house", "places", "k", "place"] ["house", "places"] (defScope s_are_places) := ⟨rfl, rfl, rfl, by decide +kernel, rfl, by decide +kernel, by decide +kernel⟩
def T_are_places : Tr := fun ds Φ => ∃ (h : Hs) (ps : List Int), ds = [hsD h, lD ps] ∧ HsOk h ∧ ps.length ≤ 1000 ∧ Φ = fun d => d = .bool (arePlaces h.wishes.length ps)
theorem ok_are_places (F : Fun K "are_places" "are_places" s_are_places f fd) (B : Blt mg) : FnOk P w K mg base CX0 1 f fd ["house", "places"] (spD K T_are_places) := by
  refine F.ok sc_are_places (fun vs H Q E h => spD_len (by rintro _ _ ⟨_, _, rfl, _⟩; rfl) h) (fun cdv A outer s H vs Q E hr h => ?_)
  refine ⟨_, (pss_cons (ps_if (pt_not (pt_val (pe_callB (cr_all rfl) (by rfl) B.all (by decide +kernel) (pa_cons (pe_lc (own := [("place", 3)]) (g := gName 3) rfl sc_are_places.nd (pi_tup (pv 1)) (blkOk_by (own := [("place", 3)]) (N := ["house", "places", "k", "place"]) (sc := defScope s_are_places) (by decide +kernel)) (fun _ _ _ _ _ => (pg_name (i := 3) sc_are_places.nd rfl (Or.inl rfl))) (fun _ _ _ _ _ => pts_nil) (fun _ _ _ _ _ => (pe_chain (op_leU (K := K) rfl hr.units) op_lt pe_int (pv 3) (pe_callB (call_lenU (K := K) rfl) (by rfl) B.len (by decide +kernel) (pa_cons (pe_ix (ix_U (K := K) rfl) (pv 0) pe_int (fun _ _ => rfl)) pa_nil))))) pa_nil)))) (pss_one (ps_ret pe_bl)) pss_nil) (pss_one (ps_ret (pe_callB (cr_all rfl) (by rfl) B.all (by decide +kernel) (pa_cons (pe_lc (own := [("k", 2)]) (g := gName 2) rfl sc_are_places.nd (pi_range2 (by rfl) B.range (pa_cons pe_int (pa_cons (pe_callB (call_lenU (K := K) rfl) (by rfl) B.len (by decide +kernel) (pa_cons (pv 1) pa_nil)) pa_nil))) (blkOk_by (own := [("k", 2)]) (N := ["house", "places", "k", "place"]) (sc := defScope s_are_places) (by decide +kernel)) (fun _ _ _ _ _ => (pg_name (i := 2) sc_are_places.nd rfl (Or.inl rfl))) (fun _ _ _ _ _ => pts_nil) (fun _ _ _ _ _ => (pe_cmpR op_lt (pe_ix (ix_U (K := K) rfl) (pv 1) (pe_op op_sub (pv 2) pe_int) (fun _ _ => rfl)) (pe_ix (ix_U (K := K) rfl) (pv 1) (pv 2) (fun _ _ => rfl)) (nomark _)))) pa_nil))))), ?_⟩
  refine body_of h fun J ds Φ hT => ?_
  try dsimp only [cxOf]
  obtain ⟨h, ps, rfl, h0, h1, rfl⟩ := hT
  show SW J K _ [.val (hsD h), .val (lD ps), .unk, .unk] _
  repeat walk_at "ew"
  refine ew_lcM ps .int (fun pl => .bool (decide (0 ≤ pl ∧ pl < (h.wishes.length : Int)))) (iw_tup (ew_var rfl ⟨_, rfl, rfl, by omega, fun pl hpl => gw_name (by simp) ?_, ?_⟩))
  · repeat walk_at "ew"
    refine it_D (fun c => ?_) (fun c => ?_)
    · repeat walk_at "ew"
      refine rd_ixT (ds := [.int (h.n : Nat), .list (h.rules.map rlD), .tuple (iD h.musts), .list (h.wishes.map wishD)]) (d := .list (h.wishes.map wishD)) rfl ?_
      repeat walk_at "ew"
      rw [List.length_map]
      show PyData.bool _ = PyData.bool _
      have : (pl < (h.wishes.length : Int)) ↔ (0 ≤ pl ∧ pl < (h.wishes.length : Int)) := ⟨fun z => ⟨c, z⟩, fun z => z.2⟩
      rw [decide_eq_decide.mpr this]
    · show PyData.bool _ = PyData.bool _
      rw [decide_eq_false (fun z : 0 ≤ pl ∧ pl < (h.wishes.length : Int) => c z.1)]
  have hm : ps.map (fun pl => PyData.bool (decide (0 ≤ pl ∧ pl < (h.wishes.length : Int)))) = (ps.map fun pl => decide (0 ≤ pl ∧ pl < (h.wishes.length : Int))).map .bool := by
    rw [List.map_map]
    rfl
  rw [hm]
  repeat walk_at "ew"
  refine rc_all ?_
  rw [all_bools]
  repeat walk_at "ew"
  have e : arePlaces h.wishes.length ps = ((ps.all fun p => decide (0 ≤ p ∧ p < (h.wishes.length : Int))) && (List.range (ps.length - 1)).all fun k => decide (ps.getD k 0 < ps.getD (k + 1) 0)) := rfl
  refine it_Nb (fun c => ?_) (fun c => ?_)
  · repeat walk_at "ew"
    refine ew_lcM (List.range (ps.length - 1)) (fun i => .int (1 + (i : Nat))) (fun k => .bool (decide (ps.getD k 0 < ps.getD (k + 1) 0))) (iw_range2 ?_)
    repeat walk_at "ew"
    have hl : (iD ps).length = ps.length := List.length_map _
    refine rc_lenT (ds := iD ps) ?_
    repeat walk_at "ew"
    refine ⟨1, _, rfl, by omega, by omega, by omega, by omega, ?_, by rw [List.length_range]; omega, fun k hk => gw_name (by simp) ?_, ?_⟩
    · unfold rangeD
      rw [hl]
      have : ((ps.length : Int) - 1).toNat = ps.length - 1 := by omega
      rw [this]
    · have hk' := List.mem_range.mp hk
      repeat walk_at "ew"
      have k1 : (1 : Int) + (k : Nat) - 1 = ((k : Nat) : Int) := by omega
      have k2 : (1 : Int) + (k : Nat) = ((k + 1 : Nat) : Int) := by omega
      rw [k1]
      refine rd_ixT (ds := iD ps) (ints_at (by omega)) ?_
      repeat walk_at "ew"
      rw [k2]
      refine rd_ixT (ds := iD ps) (ints_at (by omega)) ?_
      repeat walk_at "ew"
      exact rfl
    · have hm2 : (List.range (ps.length - 1)).map (fun k => PyData.bool (decide (ps.getD k 0 < ps.getD (k + 1) 0))) = ((List.range (ps.length - 1)).map fun k => decide (ps.getD k 0 < ps.getD (k + 1) 0)).map .bool := by
        rw [List.map_map]
        rfl
      rw [hm2]
      repeat walk_at "ew"
      refine rc_all ?_
      show PyData.bool _ = PyData.bool _
      rw [e, c, all_bools, Bool.true_and]
  · repeat walk_at "ew"
    show PyData.bool _ = PyData.bool _
    rw [e, c] <;> rfl

abbrev s_shown_from : Stmt := topS 44
theorem sc_shown_from : FnScope ["house", "tree", "partial", "sure", "name", "no", "yes", "place"] ["house", "tree", "partial"] (defScope s_shown_from) := ⟨rfl, rfl, rfl, by decide +kernel, rfl, by decide +kernel, by decide +kernel⟩
def TreOk : Tre → Prop
  | .must _ => True
  | .lost ps => ps.length ≤ 1000
  | .part _ a b => TreOk a ∧ TreOk b
def T_shown_from (n : Nat) : Tr := fun ds Φ => ∃ (h : Hs) (t : Tre) (p : Part), ds = [hsD h, treD t, partD p] ∧ HsOk h ∧ p.length = h.n ∧ hgt t < n ∧ TreOk t ∧ Φ = fun d => d = optShD (shownFrom h t p)
abbrev hsL (h : Hs) : List Dt := [.int (h.n : Nat), .list (h.rules.map rlD), .tuple (iD h.musts), .list (h.wishes.map wishD)]
theorem brok_iff (x : Sure) : (x.s = Str.ofString "broken") ↔ x = .broken := ⟨fun z => Sure.inj (y := .broken) z, fun z => by rw [z]; rfl⟩
theorem ok_shown_from {n : Nat} {aN : Addr} (F : Fun K "shown_from" "shown_from" s_shown_from f fd) (B : Blt mg) (c_NEVER : mg "NEVER" = some (.ref aN)) (nv : NevC () K aN)
    (f_rules_sure : Fn P w K mg base "rules_sure" 3 ["rules", "partial"] T_rules_sure) (f_are_places : Fn P w K mg base "are_places" 1 ["house", "places"] T_are_places) (f_wishes_losses : Fn P w K mg base "wishes_losses" 1 ["house", "places"] T_wishes_losses)
    (f_put_name : Fn P w K mg base "put_name" 1 ["partial", "name", "worth"] T_put_name) (f_lesser_shown : Fn P w K mg base "lesser_shown" 1 ["one", "other"] T_lesser_shown) (f_shown_from : Fn P w K mg base "shown_from" (4 + n) ["house", "tree", "partial"] (T_shown_from n)) :
    FnOk P w K mg base CX0 (4 + n + 1) f fd ["house", "tree", "partial"] (spD K (T_shown_from (n + 1))) := by
  refine F.ok sc_shown_from (fun vs H Q E h => spD_len (by rintro _ _ ⟨_, _, _, rfl, _⟩; rfl) h) (fun cdv A outer s H vs Q E hr h => ?_)
  refine ⟨_, (pss_cons (ps_set (i := 3) sc_shown_from.nd rfl (by first | exact Or.inl rfl | exact Or.inr rfl) (pe_fn f_rules_sure (hr.mono (by omega)) (pa_cons (pe_ix (ix_U (K := K) rfl) (pv 0) pe_int (fun _ _ => rfl)) (pa_cons (pv 2) pa_nil)))) (pss_cons (ps_if (pt_cmpR (op_eqU (K := K) rfl hr.units) (pe_ix (ix_U (K := K) rfl) (pv 1) pe_int (fun _ _ => rfl)) pe_str (nomark _)) (pss_cons (ps_if (PW.pt (pw_and (pt_cmpR (op_inU (K := K) rfl) (pe_ix (ix_U (K := K) rfl) (pv 1) pe_int (fun _ _ => rfl)) (pe_ix (ix_U (K := K) rfl) (pv 0) pe_int (fun _ _ => rfl)) rfl) (pw_and1 (pt_cmpR (op_eqU (K := K) rfl hr.units) (pe_ix (ix_U (K := K) rfl) (pv 3) (pe_ix (ix_U (K := K) rfl) (pv 1) pe_int (fun _ _ => rfl)) (fun _ _ => rfl)) pe_str (nomark _))))) (pss_one (ps_ret (pe_cref c_NEVER))) pss_nil) (pss_one (ps_ret pe_non))) pss_nil) (pss_cons (ps_if (pt_cmpR (op_eqU (K := K) rfl hr.units) (pe_ix (ix_U (K := K) rfl) (pv 1) pe_int (fun _ _ => rfl)) pe_str (nomark _)) (pss_cons (ps_if (PW.pt (pw_or (pt_not (pt_val (pe_fn f_are_places (hr.mono (by omega)) (pa_cons (pv 0) (pa_cons (pe_ix (ix_U (K := K) rfl) (pv 1) pe_int (fun _ _ => rfl)) pa_nil))))) (pw_or1 (pt_not (pt_val (pe_callB (cr_all rfl) (by rfl) B.all (by decide +kernel) (pa_cons (pe_lc (own := [("place", 7)]) (g := gName 7) rfl sc_shown_from.nd (pi_tup (pe_ix (ix_U (K := K) rfl) (pv 1) pe_int (fun _ _ => rfl))) (blkOk_by (own := [("place", 7)]) (N := ["house", "tree", "partial", "sure", "name", "no", "yes", "place"]) (sc := defScope s_shown_from) (by decide +kernel)) (fun _ _ _ _ _ => (pg_name (i := 7) sc_shown_from.nd rfl (Or.inl rfl))) (fun _ _ _ _ _ => pts_nil) (fun _ _ _ _ _ => (pe_cmpR (op_eqU (K := K) rfl hr.units) (pe_ix (ix_U (K := K) rfl) (pv 3) (pe_ix (ix_U (K := K) rfl) (pe_ix (ix_U (K := K) rfl) (pe_ix (ix_U (K := K) rfl) (pv 0) pe_int (fun _ _ => rfl)) (pv 7) (fun _ _ => rfl)) pe_int (fun _ _ => rfl)) (fun _ _ => rfl)) pe_str (nomark _)))) pa_nil))))))) (pss_one (ps_ret pe_non)) pss_nil) (pss_one (ps_ret (pe_tupZ (pa_cons pe_str (pa_cons (pe_fn f_wishes_losses (hr.mono (by omega)) (pa_cons (pv 0) (pa_cons (pe_ix (ix_U (K := K) rfl) (pv 1) pe_int (fun _ _ => rfl)) pa_nil))) pa_nil)))))) pss_nil) (pss_cons (ps_set (i := 4) sc_shown_from.nd rfl (by first | exact Or.inl rfl | exact Or.inr rfl) (pe_ix (ix_U (K := K) rfl) (pv 1) pe_int (fun _ _ => rfl))) (pss_cons (ps_if (PW.pt (pw_or (pt_not (pt_chain (op_leU (K := K) rfl hr.units) (op_leU (K := K) rfl hr.units) pe_int (pv 4) (pe_ix (ix_U (K := K) rfl) (pv 0) pe_int (fun _ _ => rfl)))) (pw_or1 (pt_cmpR op_notN (pe_ix (ix_U (K := K) rfl) (pv 2) (pe_op op_sub (pv 4) pe_int) (fun _ _ => rfl)) pe_non (nomark _))))) (pss_one (ps_ret pe_non)) pss_nil) (pss_cons (ps_set (i := 5) sc_shown_from.nd rfl (by first | exact Or.inl rfl | exact Or.inr rfl) (pe_fn f_shown_from (hr.mono (by omega)) (pa_cons (pv 0) (pa_cons (pe_ix (ix_U (K := K) rfl) (pv 1) pe_int (fun _ _ => rfl)) (pa_cons (pe_fn f_put_name (hr.mono (by omega)) (pa_cons (pv 2) (pa_cons (pv 4) (pa_cons pe_int pa_nil)))) pa_nil))))) (pss_cons (ps_set (i := 6) sc_shown_from.nd rfl (by first | exact Or.inl rfl | exact Or.inr rfl) (pe_fn f_shown_from (hr.mono (by omega)) (pa_cons (pv 0) (pa_cons (pe_ix (ix_U (K := K) rfl) (pv 1) pe_int (fun _ _ => rfl)) (pa_cons (pe_fn f_put_name (hr.mono (by omega)) (pa_cons (pv 2) (pa_cons (pv 4) (pa_cons pe_int pa_nil)))) pa_nil))))) (pss_cons (ps_if (PW.pt (pw_or (pt_cmpR op_isN (pv 5) pe_non (nomark _)) (pw_or1 (pt_cmpR op_isN (pv 6) pe_non (nomark _))))) (pss_one (ps_ret pe_non)) pss_nil) (pss_one (ps_ret (pe_fn f_lesser_shown (hr.mono (by omega)) (pa_cons (pv 5) (pa_cons (pv 6) pa_nil))))))))))))), ?_⟩
  refine body_of h fun J ds Φ hT => ?_
  try dsimp only [cxOf]
  obtain ⟨h, t, p, rfl, h0, h1, h2, h3, rfl⟩ := hT
  show SW J K _ [.val (hsD h), .val (treD t), .val (partD p), .unk, .unk, .unk, .unk, .unk] _
  have hn := h0.n
  have hsl : (rulesSure h.rules p).length = h.rules.length := rulesSure_len p h.rules
  repeat walk_at "ew"
  refine rd_ixT (ds := hsL h) (d := .list (h.rules.map rlD)) rfl ?_
  repeat walk_at "ew"
  refine ⟨_, ⟨h.rules, p, rfl, by rw [h1]; exact h0.rules, by omega, rfl⟩, fun d hd => ?_⟩
  subst hd
  cases t with
  | must kk =>
    repeat walk_at "ew"
    refine rd_ixT (ds := [.str "must", .int kk]) (d := .str "must") rfl ?_
    repeat walk_at "ew"
    rw [decide_eq_true (show Str.ofString "must" = Str.ofString "must" from rfl)]
    repeat walk_at "ew"
    refine rd_ixT (ds := [.str "must", .int kk]) (d := .int kk) rfl ?_
    repeat walk_at "ew"
    refine rd_ixT (ds := hsL h) (d := .tuple (iD h.musts)) rfl ?_
    refine rd_inIT (neg := false) (i := kk) (ns := h.musts) ?_
    repeat walk_at "ew"
    have e : shownFrom h (.must kk) p = if kk ∈ h.musts ∧ look (rulesSure h.rules p) kk = .broken then some .never else none := rfl
    refine it_D (fun c => ?_) (fun c => ?_)
    · repeat walk_at "ew"
      refine rd_ixT (ds := [.str "must", .int kk]) (d := .int kk) rfl ?_
      refine rd_ixL (look_at (h0.musts kk c).1 (by rw [hsl]; exact (h0.musts kk c).2)) ?_
      repeat walk_at "ew"
      rw [decide_eq_decide.mpr (brok_iff _)]
      refine it_D (fun c2 => ?_) (fun c2 => ?_)
      · repeat walk_at "ew"
        refine ew_const (nv.dd J) ?_
        show PyData.tuple _ = _
        rw [e, if_pos ⟨c, c2⟩] <;> rfl
      · repeat walk_at "ew"
        show PyData.none = _
        rw [e, if_neg (fun z => c2 z.2)] <;> rfl
    · repeat walk_at "ew"
      show PyData.none = _
      rw [e, if_neg (fun z => c z.1)] <;> rfl
  | lost ps =>
    have e : shownFrom h (.lost ps) p = if arePlaces h.wishes.length ps = true ∧ (ps.all fun pl => decide (look (rulesSure h.rules p) ((h.wishes[pl.toNat]?.map Wish.num).getD 0) = .broken)) = true then some (.least (wishesLosses h.wishes ps)) else none := rfl
    have hpl : ps.length ≤ 1000 := h3
    repeat walk_at "ew"
    refine rd_ixT (ds := [.str "lost", lD ps]) (d := .str "lost") rfl ?_
    repeat walk_at "ew"
    rw [decide_eq_false (show ¬ Str.ofString "lost" = Str.ofString "must" by decide +kernel)]
    repeat walk_at "ew"
    refine rd_ixT (ds := [.str "lost", lD ps]) (d := .str "lost") rfl ?_
    repeat walk_at "ew"
    rw [decide_eq_true (show Str.ofString "lost" = Str.ofString "lost" from rfl)]
    repeat walk_at "ew"
    refine rd_ixT (ds := [.str "lost", lD ps]) (d := lD ps) rfl ?_
    repeat walk_at "ew"
    refine ⟨_, ⟨h, ps, rfl, h0, hpl, rfl⟩, fun d hd => ?_⟩
    subst hd
    repeat walk_at "ew"
    refine it_Nb (fun c => ?_) (fun c => ?_)
    · have inr : ∀ pl ∈ ps, 0 ≤ pl ∧ pl < (h.wishes.length : Int) := fun pl hpl => by
        unfold arePlaces at c
        have := List.all_eq_true.mp (Bool.and_eq_true_iff.mp c).1 pl hpl
        exact of_decide_eq_true this
      repeat walk_at "ew"
      refine ew_lcM ps .int (fun pl => .bool (decide (look (rulesSure h.rules p) ((h.wishes[pl.toNat]?.map Wish.num).getD 0) = .broken))) (iw_tup ?_)
      repeat walk_at "ew"
      refine rd_ixT (ds := [.str "lost", lD ps]) (d := lD ps) rfl ⟨_, rfl, rfl, by omega, fun pl hpl => gw_name (by simp) ?_, ?_⟩
      · obtain ⟨wi, hwi, hwm, hat⟩ := wish_at (inr pl hpl).1 (inr pl hpl).2
        have wok := h0.wishes wi hwm
        repeat walk_at "ew"
        refine rd_ixT (ds := hsL h) (d := .list (h.wishes.map wishD)) rfl ?_
        repeat walk_at "ew"
        refine rd_ixL hat ?_
        repeat walk_at "ew"
        refine rd_ixT (ds := [.int wi.num, .int wi.rank, .int wi.wt]) (d := .int wi.num) rfl ?_
        refine rd_ixL (look_at wok.n0 (by rw [hsl]; exact wok.n1)) ?_
        repeat walk_at "ew"
        show PyData.bool _ = PyData.bool _
        rw [decide_eq_decide.mpr (brok_iff _), hwi] <;> rfl
      have hm : ps.map (fun pl => PyData.bool (decide (look (rulesSure h.rules p) ((h.wishes[pl.toNat]?.map Wish.num).getD 0) = .broken))) = (ps.map fun pl => decide (look (rulesSure h.rules p) ((h.wishes[pl.toNat]?.map Wish.num).getD 0) = .broken)).map .bool := by
        rw [List.map_map]
        rfl
      rw [hm]
      repeat walk_at "ew"
      refine rc_all ?_
      rw [all_bools]
      repeat walk_at "ew"
      refine it_Nb (fun c2 => ?_) (fun c2 => ?_)
      · repeat walk_at "ew"
        refine rd_ixT (ds := [.str "lost", lD ps]) (d := lD ps) rfl ?_
        repeat walk_at "ew"
        refine ⟨_, ⟨h, ps, rfl, h0, inr, by omega, rfl⟩, fun d hd => ?_⟩
        subst hd
        repeat walk_at "ew"
        refine ⟨(by show 2 ≤ 100000; decide), ?_⟩
        show PyData.tuple _ = _
        rw [e, if_pos ⟨c, c2⟩] <;> rfl
      · repeat walk_at "ew"
        show PyData.none = _
        rw [e, if_neg (fun z => by rw [c2] at z; exact Bool.false_ne_true z.2)] <;> rfl
    · repeat walk_at "ew"
      show PyData.none = _
      rw [e, if_neg (fun z => by rw [c] at z; exact Bool.false_ne_true z.1)] <;> rfl
  | part name a b =>
    have hga : hgt a < n := by
      have : hgt (.part name a b) = max (hgt a) (hgt b) + 1 := rfl
      omega
    have hgb : hgt b < n := by
      have : hgt (.part name a b) = max (hgt a) (hgt b) + 1 := rfl
      omega
    obtain ⟨h3a, h3b⟩ : TreOk a ∧ TreOk b := h3
    have e : shownFrom h (.part name a b) p = if 1 ≤ name ∧ name ≤ (h.n : Int) ∧ p.getD (name.toNat - 1) none = none then
      match shownFrom h a (putName p (name.toNat - 1) false), shownFrom h b (putName p (name.toNat - 1) true) with
      | some x, some y => some (lesser x y)
      | _, _ => none
      else none := rfl
    repeat walk_at "ew"
    refine rd_ixT (ds := [.str "part", .int name, treD a, treD b]) (d := .str "part") rfl ?_
    repeat walk_at "ew"
    rw [decide_eq_false (show ¬ Str.ofString "part" = Str.ofString "must" by decide +kernel)]
    repeat walk_at "ew"
    refine rd_ixT (ds := [.str "part", .int name, treD a, treD b]) (d := .str "part") rfl ?_
    repeat walk_at "ew"
    rw [decide_eq_false (show ¬ Str.ofString "part" = Str.ofString "lost" by decide +kernel)]
    repeat walk_at "ew"
    refine rd_ixT (ds := [.str "part", .int name, treD a, treD b]) (d := .int name) rfl ?_
    repeat walk_at "ew"
    have bad : ∀ {A : Env'} {X : DE}, X.rt PyData.none → SW J K (tRet (tC V.non)) A X := fun c => sw_ret (ew_non c)
    refine it_D (fun c1 => ?_) (fun c1 => ?_)
    · repeat walk_at "ew"
      refine rd_ixT (ds := hsL h) (d := .int (h.n : Nat)) rfl ?_
      repeat walk_at "ew"
      refine it_ND (fun c2 => ?_) (fun c2 => ?_)
      · have ei : name - 1 = ((name.toNat - 1 : Nat) : Int) := by omega
        have hat : atI (p.map pD) (name - 1) = some (pD (p.getD (name.toNat - 1) none)) := by
          rw [ei]
          exact atI_map (by omega) (by omega)
        repeat walk_at "ew"
        refine rd_ixT (ds := p.map pD) hat ?_
        repeat walk_at "ew"
        refine rd_notN ?_
        repeat walk_at "ew"
        cases ho : p.getD (name.toNat - 1) none with
        | some bb =>
          refine iteT ?_
          repeat walk_at "ew"
          show PyData.none = _
          rw [e, if_neg (fun z => by rw [ho] at z; cases z.2.2)] <;> rfl
        | none =>
          have en : name = ((name.toNat - 1 : Nat) : Int) + 1 := by omega
          refine iteF ?_
          repeat walk_at "ew"
          refine rd_ixT (ds := [.str "part", .int name, treD a, treD b]) (d := treD a) rfl ?_
          repeat walk_at "ew"
          refine ⟨_, ⟨p, name.toNat - 1, false, by rw [← en] <;> rfl, by omega, by omega, rfl⟩, fun d hd => ?_⟩
          subst hd
          repeat walk_at "ew"
          refine ⟨_, ⟨h, a, _, rfl, h0, by rw [putName_len]; exact h1, hga, h3a, rfl⟩, fun d hd => ?_⟩
          subst hd
          repeat walk_at "ew"
          refine rd_ixT (ds := [.str "part", .int name, treD a, treD b]) (d := treD b) rfl ?_
          repeat walk_at "ew"
          refine ⟨_, ⟨p, name.toNat - 1, true, by rw [← en] <;> rfl, by omega, by omega, rfl⟩, fun d hd => ?_⟩
          subst hd
          repeat walk_at "ew"
          refine ⟨_, ⟨h, b, _, rfl, h0, by rw [putName_len]; exact h1, hgb, h3b, rfl⟩, fun d hd => ?_⟩
          subst hd
          repeat walk_at "ew"
          have e2 := e.trans (if_pos ⟨c1, c2, ho⟩)
          cases hx : shownFrom h a (putName p (name.toNat - 1) false) with
          | none =>
            refine rd_isN_yes ?_
            repeat walk_at "ew"
            show PyData.none = _
            rw [e2, hx] <;> rfl
          | some x =>
            refine rd_isN_no (by cases x <;> exact fun z => nomatch z) ?_
            repeat walk_at "ew"
            cases hy : shownFrom h b (putName p (name.toNat - 1) true) with
            | none =>
              refine rd_isN_yes ?_
              repeat walk_at "ew"
              show PyData.none = _
              rw [e2, hx, hy] <;> rfl
            | some y =>
              refine rd_isN_no (by cases y <;> exact fun z => nomatch z) ?_
              repeat walk_at "ew"
              refine ⟨_, ⟨x, y, rfl, rfl⟩, fun d hd => ?_⟩
              subst hd
              show _ = _
              rw [e2, hx, hy] <;> rfl
      · repeat walk_at "ew"
        show PyData.none = _
        rw [e, if_neg (fun z => c2 z.2.1)] <;> rfl
    · repeat walk_at "ew"
      show PyData.none = _
      rw [e, if_neg (fun z => c1 z.1)] <;> rfl

abbrev s_tree_shows : Stmt := topS 45
theorem sc_tree_shows : FnScope ["house", "tree"] ["house", "tree"] (defScope s_tree_shows) := ⟨rfl, rfl, rfl, by decide +kernel, rfl, by decide +kernel, by decide +kernel⟩
def T_tree_shows (n : Nat) : Tr := fun ds Φ => ∃ (h : Hs) (t : Tre), ds = [hsD h, treD t] ∧ HsOk h ∧ hgt t < n ∧ TreOk t ∧ Φ = fun d => d = optShD (shownFrom h t (List.replicate h.n none))
theorem ok_tree_shows {n : Nat} (F : Fun K "tree_shows" "tree_shows" s_tree_shows f fd) (B : Blt mg) (f_shown_from : Fn P w K mg base "shown_from" (4 + n) ["house", "tree", "partial"] (T_shown_from n)) :
    FnOk P w K mg base CX0 (4 + n + 1) f fd ["house", "tree"] (spD K (T_tree_shows n)) := by
  refine F.ok sc_tree_shows (fun vs H Q E h => spD_len (by rintro _ _ ⟨_, _, rfl, _⟩; rfl) h) (fun cdv A outer s H vs Q E hr h => ?_)
  refine ⟨_, (pss_one (ps_ret (pe_fn f_shown_from (hr.mono (by omega)) (pa_cons (pv 0) (pa_cons (pv 1) (pa_cons (pe_op (op_mulU (K := K) rfl) (pe_tupZ (pa_cons pe_non pa_nil)) (pe_ix (ix_U (K := K) rfl) (pv 0) pe_int (fun _ _ => rfl))) pa_nil)))))), ?_⟩
  refine body_of h fun J ds Φ hT => ?_
  try dsimp only [cxOf]
  obtain ⟨h, t, rfl, h0, h1, h2, rfl⟩ := hT
  show SW J K _ [.val (hsD h), .val (treD t)] _
  have hn := h0.n
  repeat walk_at "ew"
  refine ⟨(by show 1 ≤ 100000; decide), ?_⟩
  repeat walk_at "ew"
  refine rd_ixT (ds := hsL h) (d := .int (h.n : Nat)) rfl ?_
  refine rd_repZ (by simp) (by omega) (by omega) (by decide) ?_
  have hz : ((h.n : Nat) : Int).toNat = h.n := by omega
  rw [hz, nones]
  repeat walk_at "ew"
  exact ⟨_, ⟨h, t, List.replicate h.n none, rfl, h0, List.length_replicate, h1, h2, rfl⟩, fun d hd => hd⟩
end
end WD

namespace WD
open PySem PySem.Spec PyProof.Rows L2 Evl
local macro_rules | `(tactic| walk_at "ew") => `(tactic| first
  | (with_reducible refine sw_seq ?_)
  | (with_reducible refine sw_next ?_)
  | (with_reducible refine sw_if ?_)
  | (with_reducible refine sw_setF (ef_lst (ed_nil (And.intro (Nat.zero_le _) ?_))))
  | (with_reducible refine sw_set ?_)
  | (with_reducible refine sw_ret ?_)
  | ((with_reducible refine' ew_var ?hv ?_); (case hv => rfl))
  | ((with_reducible refine' ev_own ?hv ?_); (case hv => rfl))
  | (with_reducible refine ev_of ?_)
  | (with_reducible refine ew_int ?_)
  | (with_reducible refine ew_str ?_)
  | (with_reducible refine ew_non ?_)
  | (with_reducible refine ew_bl ?_)
  | (with_reducible refine ew_op ?_)
  | (with_reducible refine ew_isi ?_)
  | (with_reducible refine ew_isRow ?_)
  | (with_reducible refine ew_cb ?_)
  | (with_reducible refine ea_cons ?_)
  | (with_reducible refine ea_nil ?_)
  | (with_reducible refine ed_cons ?_)
  | (with_reducible refine ed_nil ?_)
  | (with_reducible refine ew_tup ?_)
  | (with_reducible refine ew_lst ?_)
  | (with_reducible refine ew_call ?_)
  | (with_reducible refine ew_if ?_)
  | (with_reducible refine et_test ?_)
  | (with_reducible refine et_B ?_)
  | (with_reducible refine et_and ?_)
  | (with_reducible refine et_or ?_)
  | (with_reducible refine et_not ?_)
  | (with_reducible refine ew_chain ?_)
  | (with_reducible refine rd_add ?_)
  | (with_reducible refine rd_sub ?_)
  | (with_reducible refine rd_eq ?_)
  | (with_reducible refine rd_eqs ?_)
  | (with_reducible refine rd_le ?_)
  | (with_reducible refine rd_ge ?_)
  | (with_reducible refine rd_lt ?_)
  | (with_reducible refine rd_gt ?_)
  | (with_reducible refine rc_abs ?_)
  | (with_reducible refine rc_int ?_)
  | (with_reducible refine rc_lenL ?_)
  | (with_reducible refine rc_lenT ?_)
  | (with_reducible refine rc_max2 ?_)
  | (with_reducible refine rc_tuple ?_)
  | (with_reducible refine ew_un ?_)
  | (with_reducible refine ew_andV ?_)
  | (with_reducible refine ew_orV ?_)
  | (with_reducible refine ew_notV ?_)
  | (with_reducible refine rd_neI ?_)
  | (with_reducible refine ex_i ?_)
  | (with_reducible refine ex_b ?_)
  | (with_reducible refine it_T ?_)
  | (with_reducible refine it_F ?_)
  | (with_reducible refine it_NT ?_)
  | (with_reducible refine it_NF ?_))

theorem find_first {α : Type} {p : α → Bool} {xs pre post : List α} {x : α} (e : xs = pre ++ x :: post) (h : ∀ y ∈ pre, p y = false) (hx : p x = true) : xs.find? p = some x := by
  subst e
  rw [List.find?_append]
  have : pre.find? p = none := List.find?_eq_none.mpr fun y hy => by rw [h y hy]; exact Bool.false_ne_true
  rw [this]
  simp [hx]
abbrev brk (h : Hs) (p : Part) : Int → Bool := fun i => decide (look (rulesSure h.rules p) i = .broken)
theorem tf_must {h : Hs} {l : Option (List Int)} {p : Part} {k : Int} (hf : h.musts.find? (brk h p) = some k) : ∀ f, treeFrom h l f p = .must k
  | 0 => by unfold treeFrom; unfold brk at hf; rw [hf]
  | f + 1 => by unfold treeFrom; unfold brk at hf; rw [hf]
theorem tf_lost {h : Hs} {l : Option (List Int)} {p : Part} (hf : h.musts.find? (brk h p) = none) (hg : geO (wishesLosses h.wishes (brokenPlaces h p)) l = true) : ∀ f, treeFrom h l f p = .lost (brokenPlaces h p)
  | 0 => by unfold treeFrom; unfold brk at hf; rw [hf]
  | f + 1 => by unfold treeFrom; unfold brk at hf; rw [hf]; simp [hg]
theorem tf_part {h : Hs} {l : Option (List Int)} {p : Part} {f : Nat} (hf : h.musts.find? (brk h p) = none) (hg : geO (wishesLosses h.wishes (brokenPlaces h p)) l = false) :
    treeFrom h l (f + 1) p = .part ((p.idxOf none : Nat) + 1) (treeFrom h l f (putName p (p.idxOf none) false)) (treeFrom h l f (putName p (p.idxOf none) true)) := by
  rw [treeFrom]
  unfold brk at hf
  rw [hf]
  simp [hg]
theorem at0 {α : Type} {x : α} {xs : List α} : atI (x :: xs) 0 = some x := by
  rw [atI_pos (Int.le_refl 0) (by rw [List.length_cons]; omega)]
  rfl
def lsD : Option (List Int) → Dt
  | none => .none
  | some l => lD l
section
variable {P : Program} {w : World} {K : PySem.W.Frag} {mg : Str → Option Value} {base : Heap} {f : Addr} {fd : FuncData}
abbrev s_tree_from : Stmt := topS 46
theorem sc_tree_from : FnScope ["house", "partial", "least", "sure", "number", "places", "name", "no", "place", "wish"] ["house", "partial", "least"] (defScope s_tree_from) := ⟨rfl, rfl, rfl, by decide +kernel, rfl, by decide +kernel, by decide +kernel⟩
def T_tree_from (n : Nat) : Tr := fun ds Φ => ∃ (h : Hs) (p : Part) (l : Option (List Int)) (c : Nat), ds = [hsD h, partD p, lsD l] ∧ HsOk h ∧ p.length = h.n ∧ p.count none = c ∧ c < n ∧ TG h l ∧ Φ = fun d => d = treD (treeFrom h l c p)
theorem ok_tree_from {n : Nat} (F : Fun K "tree_from" "tree_from" s_tree_from f fd) (B : Blt mg)
    (f_rules_sure : Fn P w K mg base "rules_sure" 3 ["rules", "partial"] T_rules_sure) (f_wishes_losses : Fn P w K mg base "wishes_losses" 1 ["house", "places"] T_wishes_losses)
    (f_put_name : Fn P w K mg base "put_name" 1 ["partial", "name", "worth"] T_put_name) (f_tree_from : Fn P w K mg base "tree_from" (4 + n) ["house", "partial", "least"] (T_tree_from n)) :
    FnOk P w K mg base CX0 (4 + n + 1) f fd ["house", "partial", "least"] (spD K (T_tree_from (n + 1))) := by
  refine F.ok sc_tree_from (fun vs H Q E h => spD_len (by rintro _ _ ⟨_, _, _, _, rfl, _⟩; rfl) h) (fun cdv A outer s H vs Q E hr h => ?_)
  refine ⟨_, (pss_cons (ps_set (i := 3) sc_tree_from.nd rfl (by first | exact Or.inl rfl | exact Or.inr rfl) (pe_fn f_rules_sure (hr.mono (by omega)) (pa_cons (pe_ix (ix_U (K := K) rfl) (pv 0) pe_int (fun _ _ => rfl)) (pa_cons (pv 1) pa_nil)))) (pss_cons (ps_for PassesOwn.never rfl (pi_tup (pe_ix (ix_U (K := K) rfl) (pv 0) pe_int (fun _ _ => rfl))) (pg_name (i := 4) sc_tree_from.nd rfl (by first | exact Or.inl rfl | exact Or.inr rfl)) (pss_one (ps_if (pt_cmpR (op_eqU (K := K) rfl hr.units) (pe_ix (ix_U (K := K) rfl) (pv 3) (pv 4) (fun _ _ => rfl)) pe_str (nomark _)) (pss_one (ps_ret (pe_tupZ (pa_cons pe_str (pa_cons (pv 4) pa_nil))))) pss_nil))) (pss_cons (ps_set (i := 5) sc_tree_from.nd rfl (by first | exact Or.inl rfl | exact Or.inr rfl) (pe_callTy call_tupleZT (by rfl) B.tuple (by decide +kernel) (pa_cons (pe_lc (own := [("place", 8), ("wish", 9)]) (g := gTup K 2 (gCons (gName 8) (gCons (gName 9) (gNil)))) rfl sc_tree_from.nd (pi_enum (by rfl) B.enumerate (pa_cons (pe_ix (ix_U (K := K) rfl) (pv 0) pe_int (fun _ _ => rfl)) pa_nil)) (blkOk_by (own := [("place", 8), ("wish", 9)]) (N := ["house", "partial", "least", "sure", "number", "places", "name", "no", "place", "wish"]) (sc := defScope s_tree_from) (by decide +kernel)) (fun _ _ _ _ _ => (pg_tup rfl (pgs_cons (pg_name (i := 8) sc_tree_from.nd rfl (Or.inl rfl)) (pgs_cons (pg_name (i := 9) sc_tree_from.nd rfl (Or.inl rfl)) pgs_nil)))) (fun _ _ _ _ _ => pts_one (pt_cmpR (op_eqU (K := K) rfl hr.units) (pe_ix (ix_U (K := K) rfl) (pv 3) (pe_ix (ix_U (K := K) rfl) (pv 9) pe_int (fun _ _ => rfl)) (fun _ _ => rfl)) pe_str (nomark _))) (fun _ _ _ _ _ => (pv 8))) pa_nil))) (pss_cons (ps_if (PW.pt (pw_and (pt_cmpR op_notN (pv 2) pe_non (nomark _)) (pw_and1 (pt_cmpR (op_geU (K := K) rfl hr.units) (pe_fn f_wishes_losses (hr.mono (by omega)) (pa_cons (pv 0) (pa_cons (pv 5) pa_nil))) (pv 2) (nomark _))))) (pss_one (ps_ret (pe_tupZ (pa_cons pe_str (pa_cons (pv 5) pa_nil))))) pss_nil) (pss_cons (ps_set (i := 6) sc_tree_from.nd rfl (by first | exact Or.inl rfl | exact Or.inr rfl) (pe_op (op_addU (K := K) rfl) (pe_bmT PySem.F.slot_tuple_index PySem.F.type_tuple_index mt_idxN (pv 1) (pa_cons pe_non pa_nil)) pe_int)) (pss_cons (ps_set (i := 7) sc_tree_from.nd rfl (by first | exact Or.inl rfl | exact Or.inr rfl) (pe_fn f_tree_from (hr.mono (by omega)) (pa_cons (pv 0) (pa_cons (pe_fn f_put_name (hr.mono (by omega)) (pa_cons (pv 1) (pa_cons (pv 6) (pa_cons pe_int pa_nil)))) (pa_cons (pv 2) pa_nil))))) (pss_one (ps_ret (pe_tupZ (pa_cons pe_str (pa_cons (pv 6) (pa_cons (pv 7) (pa_cons (pe_fn f_tree_from (hr.mono (by omega)) (pa_cons (pv 0) (pa_cons (pe_fn f_put_name (hr.mono (by omega)) (pa_cons (pv 1) (pa_cons (pv 6) (pa_cons pe_int pa_nil)))) (pa_cons (pv 2) pa_nil)))) pa_nil))))))))))))), ?_⟩
  refine body_of h fun J ds Φ hT => ?_
  try dsimp only [cxOf]
  obtain ⟨h, p, l, c, rfl, h0, h1, h2, h3, tg, rfl⟩ := hT
  show SW J K _ [.val (hsD h), .val (partD p), .val (lsD l), .unk, .unk, .unk, .unk, .unk, .unk, .unk] _
  have hn := h0.n
  have hwl := h0.wlen
  have hsl : (rulesSure h.rules p).length = h.rules.length := rulesSure_len p h.rules
  repeat walk_at "ew"
  refine rd_ixT (ds := hsL h) (d := .list (h.rules.map rlD)) rfl ?_
  repeat walk_at "ew"
  refine ⟨_, ⟨h.rules, p, rfl, by rw [h1]; exact h0.rules, by omega, rfl⟩, fun d hd => ?_⟩
  subst hd
  refine sw_seq (sw_forQ (vs := [4]) h.musts .int (fun pre => ∀ y ∈ pre, brk h p y = false) (fun _ => [.val (hsD h), .val (partD p), .val (lsD l), .val (.list (sD (rulesSure h.rules p))), .unk, .unk, .unk, .unk, .unk, .unk]) (iw_tup ?_))
  repeat walk_at "ew"
  refine rd_ixT (ds := hsL h) (d := .tuple (iD h.musts)) rfl ⟨_, rfl, rfl, ⟨rfl, rfl, rfl, rfl, trivial⟩, (fun y hy => by simp at hy), fun pre x post hs hq => gw_name (by simp) ?_, fun hq => ?_⟩
  · have hx := h0.musts x (by rw [hs]; simp)
    repeat walk_at "ew"
    refine rd_ixL (look_at hx.1 (by rw [hsl]; exact hx.2)) ?_
    repeat walk_at "ew"
    rw [decide_eq_decide.mpr (brok_iff _)]
    refine it_D (fun cb => ?_) (fun cb => ?_)
    · repeat walk_at "ew"
      refine ⟨(by show 2 ≤ 100000; decide), ?_⟩
      show PyData.tuple _ = _
      rw [tf_must (find_first hs hq (decide_eq_true cb))] <;> rfl
    · repeat walk_at "ew"
      refine ⟨⟨rfl, rfl, rfl, rfl, trivial⟩, fun y hy => ?_⟩
      rcases List.mem_append.mp hy with hy | hy
      · exact hq y hy
      · simp at hy
        subst hy
        exact decide_eq_false cb
  have hf : h.musts.find? (brk h p) = none := List.find?_eq_none.mpr fun y hy => by rw [hq y hy]; exact Bool.false_ne_true
  repeat walk_at "ew"
  refine ew_lcF h.wishes.zipIdx (fun p => .tuple [.int ((p.2 : Nat) : Int), wishD p.1]) (fun q => brk h p q.1.num) (fun p => .int ((p.2 : Nat) : Int)) (iw_enum ?_)
  repeat walk_at "ew"
  refine rd_ixT (ds := hsL h) (d := .list (h.wishes.map wishD)) rfl ?_
  repeat walk_at "ew"
  refine ⟨_, rfl, enumD_map _ _, by rw [List.length_zipIdx]; omega, fun q hq => ?_, ?_⟩
  · have hpm : q.1 ∈ h.wishes := List.mem_of_getElem? (List.mem_zipIdx_iff_getElem?.mp hq)
    have wok := h0.wishes q.1 hpm
    refine gw_tup rfl (gws_cons (by simp) (gws_cons (by simp) (gws_nil ?_)))
    repeat walk_at "ew"
    refine rd_ixT (ds := [.int q.1.num, .int q.1.rank, .int q.1.wt]) (d := .int q.1.num) rfl ?_
    refine rd_ixL (look_at wok.n0 (by rw [hsl]; exact wok.n1)) ?_
    repeat walk_at "ew"
    refine ⟨by rw [decide_eq_decide.mpr (brok_iff _)], fun _ => ?_⟩
    exact ew_var rfl rfl
  have hpl : PyData.tuple ((h.wishes.zipIdx.filter fun q => brk h p q.1.num).map fun p => PyData.int ((p.2 : Nat) : Int)) = lD (brokenPlaces h p) := by
    unfold lD brokenPlaces lostBy iD
    rw [List.map_map]
    rfl
  repeat walk_at "ew"
  rw [hpl]
  have hbl : (brokenPlaces h p).length ≤ 12 := Nat.le_trans (lostBy_len _ _) hwl
  -- what follows where no row is great enough
  have rest : geO (wishesLosses h.wishes (brokenPlaces h p)) l = false → ∀ A' : Env', A' = [.val (hsD h), .val (partD p), .val (lsD l), .val (.list (sD (rulesSure h.rules p))), .unk, .val (lD (brokenPlaces h p)), .unk, .unk, .unk, .unk] → SW J K
      (tSeq (tAsg (tOp (rAddU K) (tBMT K (rIdxN K) (tVar 1) (tCons (tC .non) tNil)) (tC (.int 1))) (gName 6))
        (tSeq (tAsg (tCall (spD K (T_tree_from n)) [] E0 (tCons (tVar 0) (tCons (tCall (spD K T_put_name) [] E0 (tCons (tVar 1) (tCons (tVar 6) (tCons (tC (.int 0)) tNil)))) (tCons (tVar 2) tNil)))) (gName 7))
          (tRet (tTupZ (tCons (tC (.str "part")) (tCons (tVar 6) (tCons (tVar 7) (tCons (tCall (spD K (T_tree_from n)) [] E0 (tCons (tVar 0) (tCons (tCall (spD K T_put_name) [] E0 (tCons (tVar 1) (tCons (tVar 6) (tCons (tC (.int 1)) tNil)))) (tCons (tVar 2) tNil)))) tNil))))))))
      A' ⟨fun _ => PyData.none = treD (treeFrom h l c p), fun d => d = treD (treeFrom h l c p), fun _ => False, fun _ => False⟩ := fun hg A' hA => by
    subst hA
    have hc : 0 < p.count none := by
      cases hc : p.count none with
      | zero =>
        have := full_ge h0 tg h1 hc hf
        rw [hg] at this
        cases this
      | succ m => exact Nat.succ_pos m
    obtain ⟨i1, i2, i3⟩ := idx_none hc
    obtain ⟨m, hm⟩ : ∃ m, c = m + 1 := ⟨c - 1, by omega⟩
    have cnt : ∀ b, (putName p (p.idxOf none) b).count none = m := fun b => by
      have := count_put p (p.idxOf none) b i2
      omega
    have e := tf_part (h := h) (l := l) (p := p) (f := m) hf hg
    repeat walk_at "ew"
    refine ew_index (ev_of (ew_var rfl ⟨p.map pD, p.idxOf none, rfl, fun d hd => ?_, ?_, fun j hj => ?_, ?_⟩))
    · obtain ⟨o, _, rfl⟩ := List.mem_map.mp hd
      cases o with
      | none => exact .inl rfl
      | some b => exact .inr ⟨_, rfl⟩
    · rw [List.getElem?_map, i2] <;> rfl
    · have hjl : j < p.length := by omega
      have := i3 j hj
      rw [List.getElem?_eq_getElem hjl] at this
      rw [List.getElem?_map, List.getElem?_eq_getElem hjl]
      cases hz : p[j] with
      | none => rw [hz] at this; exact absurd rfl this
      | some b => exact fun z => by cases z
    · repeat walk_at "ew"
      refine ⟨_, ⟨p, p.idxOf none, false, rfl, i1, by omega, rfl⟩, fun d hd => ?_⟩
      subst hd
      repeat walk_at "ew"
      refine ⟨_, ⟨h, _, l, m, rfl, h0, by rw [putName_len]; exact h1, cnt _, by omega, tg, rfl⟩, fun d hd => ?_⟩
      subst hd
      repeat walk_at "ew"
      refine ⟨_, ⟨p, p.idxOf none, true, rfl, i1, by omega, rfl⟩, fun d hd => ?_⟩
      subst hd
      repeat walk_at "ew"
      refine ⟨_, ⟨h, _, l, m, rfl, h0, by rw [putName_len]; exact h1, cnt _, by omega, tg, rfl⟩, fun d hd => ?_⟩
      subst hd
      repeat walk_at "ew"
      refine ⟨(by show 4 ≤ 100000; decide), ?_⟩
      show PyData.tuple _ = _
      rw [hm, e] <;> rfl
  cases l with
  | none =>
    refine rd_notN ?_
    repeat walk_at "ew"
    refine iteF ?_
    refine iteF (sw_next ?_)
    exact rest rfl _ rfl
  | some l =>
    refine rd_notN ?_
    repeat walk_at "ew"
    refine iteT ?_
    repeat walk_at "ew"
    refine ⟨_, ⟨h, brokenPlaces h p, rfl, h0, fun pl hpl => ⟨(lostBy_mem hpl).1, (lostBy_mem hpl).2.1⟩, by omega, rfl⟩, fun d hd => ?_⟩
    subst hd
    repeat walk_at "ew"
    refine rd_geT (ns := wishesLosses h.wishes (brokenPlaces h p)) (ms := l) ?_
    repeat walk_at "ew"
    refine it_b (fun cg => ?_) (fun cg => ?_)
    · repeat walk_at "ew"
      refine ⟨(by show 2 ≤ 100000; decide), ?_⟩
      show PyData.tuple _ = _
      rw [tf_lost (l := some l) hf cg] <;> rfl
    · refine sw_next ?_
      exact rest cg _ rfl

abbrev s_loss_tree : Stmt := topS 47
theorem sc_loss_tree : FnScope ["house", "best", "least"] ["house"] (defScope s_loss_tree) := ⟨rfl, rfl, rfl, by decide +kernel, rfl, by decide +kernel, by decide +kernel⟩
theorem count_rep (n : Nat) : (List.replicate n (none : Option Bool)).count none = n := by simp
def T_loss_tree : Tr := fun ds Φ => ∃ (h : Hs), ds = [hsD h] ∧ HsOk h ∧ Φ = fun d => d = toldD (lossTree h)
theorem ok_loss_tree (F : Fun K "loss_tree" "loss_tree" s_loss_tree f fd) (B : Blt mg)
    (f_best_settings : Fn P w K mg base "best_settings" 7 ["house"] T_best_settings) (f_house_losses : Fn P w K mg base "house_losses" 6 ["house", "setting"] T_house_losses)
    (f_tree_from : Fn P w K mg base "tree_from" 13 ["house", "partial", "least"] (T_tree_from 9)) :
    FnOk P w K mg base CX0 14 f fd ["house"] (spD K T_loss_tree) := by
  refine F.ok sc_loss_tree (fun vs H Q E h => spD_len (by rintro _ _ ⟨_, rfl, _⟩; rfl) h) (fun cdv A outer s H vs Q E hr h => ?_)
  refine ⟨_, (pss_cons (ps_set (i := 1) sc_loss_tree.nd rfl (by first | exact Or.inl rfl | exact Or.inr rfl) (pe_fn f_best_settings (hr.mono (by omega)) (pa_cons (pv 0) pa_nil))) (pss_cons (ps_if (pt_cmpR (op_eqU (K := K) rfl hr.units) (pv 1) (pe_lst pa_nil) (nomark _)) (pss_one (ps_ret (pe_tupZ (pa_cons pe_str (pa_cons (pe_fn f_tree_from (hr.mono (by omega)) (pa_cons (pv 0) (pa_cons (pe_op (op_mulU (K := K) rfl) (pe_tupZ (pa_cons pe_non pa_nil)) (pe_ix (ix_U (K := K) rfl) (pv 0) pe_int (fun _ _ => rfl))) (pa_cons pe_non pa_nil)))) pa_nil))))) pss_nil) (pss_cons (ps_set (i := 2) sc_loss_tree.nd rfl (by first | exact Or.inl rfl | exact Or.inr rfl) (pe_fn f_house_losses (hr.mono (by omega)) (pa_cons (pv 0) (pa_cons (pe_ix (ix_U (K := K) rfl) (pv 1) pe_int (fun _ _ => rfl)) pa_nil)))) (pss_one (ps_ret (pe_tupZ (pa_cons pe_str (pa_cons (pv 2) (pa_cons (pe_ix (ix_U (K := K) rfl) (pv 1) pe_int (fun _ _ => rfl)) (pa_cons (pe_fn f_tree_from (hr.mono (by omega)) (pa_cons (pv 0) (pa_cons (pe_op (op_mulU (K := K) rfl) (pe_tupZ (pa_cons pe_non pa_nil)) (pe_ix (ix_U (K := K) rfl) (pv 0) pe_int (fun _ _ => rfl))) (pa_cons (pv 2) pa_nil)))) pa_nil)))))))))), ?_⟩
  refine body_of h fun J ds Φ hT => ?_
  try dsimp only [cxOf]
  obtain ⟨h, rfl, h0, rfl⟩ := hT
  show SW J K _ [.val (hsD h), .unk, .unk] _
  have hn := h0.n
  have hz : ((h.n : Nat) : Int).toNat = h.n := by omega
  repeat walk_at "ew"
  refine ⟨_, ⟨h, rfl, h0, rfl⟩, fun d hd => ?_⟩
  subst hd
  repeat walk_at "ew"
  refine ⟨by decide, rd_eqd (shaped_sets _) (shaped_sets []) ?_⟩
  rw [eqv_nil]
  repeat walk_at "ew"
  cases hb : bestSettings h with
  | nil =>
    have e : lossTree h = .never (treeFrom h none h.n (List.replicate h.n none)) := by unfold lossTree; rw [hb]
    refine iteT ?_
    repeat walk_at "ew"
    refine ⟨(by show 1 ≤ 100000; decide), ?_⟩
    repeat walk_at "ew"
    refine rd_ixT (ds := hsL h) (d := .int (h.n : Nat)) rfl ?_
    refine rd_repZ (by simp) (by omega) (by omega) (by decide) ?_
    rw [hz, nones]
    repeat walk_at "ew"
    refine ⟨_, ⟨h, List.replicate h.n none, none, h.n, rfl, h0, List.length_replicate, count_rep _, by omega, tg_never hb, rfl⟩, fun d hd => ?_⟩
    subst hd
    repeat walk_at "ew"
    refine ⟨(by show 2 ≤ 100000; decide), ?_⟩
    show PyData.tuple _ = _
    rw [e] <;> rfl
  | cons b bs =>
    have e : lossTree h = .least (losses h b) b (treeFrom h (some (losses h b)) h.n (List.replicate h.n none)) := by unfold lossTree; rw [hb]
    have hbl : b.length = h.n := okSettings_len (best_cons hb).1
    refine iteF ?_
    repeat walk_at "ew"
    refine rd_ixL (d := setD b) at0 ?_
    repeat walk_at "ew"
    refine ⟨_, ⟨h, b, rfl, h0, hbl, rfl⟩, fun d hd => ?_⟩
    subst hd
    repeat walk_at "ew"
    refine rd_ixL (d := setD b) at0 ?_
    repeat walk_at "ew"
    refine ⟨(by show 1 ≤ 100000; decide), ?_⟩
    repeat walk_at "ew"
    refine rd_ixT (ds := hsL h) (d := .int (h.n : Nat)) rfl ?_
    refine rd_repZ (by simp) (by omega) (by omega) (by decide) ?_
    rw [hz, nones]
    repeat walk_at "ew"
    refine ⟨_, ⟨h, List.replicate h.n none, some (losses h b), h.n, rfl, h0, List.length_replicate, count_rep _, by omega, tg_least hb, rfl⟩, fun d hd => ?_⟩
    subst hd
    repeat walk_at "ew"
    refine ⟨(by show 4 ≤ 100000; decide), ?_⟩
    show PyData.tuple _ = _
    rw [e] <;> rfl
end
end WD

/-! the plain law -/
namespace WD
open PySem PySem.Spec PyProof.Rows L2 Evl
/-! rows of losses, filled up with 0 -/
theorem ltI_app : ∀ (a b c : List Int), a.length = b.length → ltI (a ++ c) (b ++ c) = ltI a b
  | [], [], c, _ => by simp [ltI, ltI_irrefl]
  | x :: a, y :: b, c, h => by
    show (if x = y then ltI (a ++ c) (b ++ c) else decide (x < y)) = if x = y then ltI a b else decide (x < y)
    rw [ltI_app a b c (by simpa using h)]
  | [], _ :: _, _, h => by simp at h
  | _ :: _, [], _, h => by simp at h
theorem padI_len {n : Nat} {l : List Int} (h : l.length ≤ n) : (padI n l).length = n := by
  unfold padI
  rw [List.length_append, List.length_replicate]
  omega
theorem padI_more {n m : Nat} {l : List Int} (h : l.length ≤ n) (h2 : n ≤ m) : padI m l = padI n l ++ List.replicate (m - n) 0 := by
  unfold padI
  rw [List.append_assoc, List.replicate_append_replicate]
  congr 2
  omega
theorem padI_same {a b : List Int} (h : a.length = b.length) (n : Nat) (hn : a.length ≤ n) : ltI (padI n a) (padI n b) = ltI a b := by
  unfold padI
  rw [← h]
  exact ltI_app _ _ _ h
def Le4 (a b : List Int) : Prop := ltI (padI 4 b) (padI 4 a) = false
theorem Le4.trans {a b c : List Int} (h1 : Le4 a b) (h2 : Le4 b c) : Le4 a c := ltI_le_trans h1 h2
theorem le4_of {a b : List Int} (h : a.length = b.length) (ha : a.length ≤ 4) (l : ltI b a = false) : Le4 a b := by
  unfold Le4
  rw [padI_same h.symm 4 (by omega)]
  exact l
theorem atMost_le4 {a b : List Int} (ha : a.length ≤ 4) (hb : b.length ≤ 4) (h : Le4 a b) : atMost (.least a) (.least b) = true := by
  show leI (padI (max a.length b.length) a) (padI (max a.length b.length) b) = true
  have n1 : a.length ≤ max a.length b.length := Nat.le_max_left ..
  have n2 : b.length ≤ max a.length b.length := Nat.le_max_right ..
  have n3 : max a.length b.length ≤ 4 := Nat.max_le.mpr ⟨ha, hb⟩
  rw [leI_eq]
  unfold Le4 at h
  rw [padI_more n1 n3, padI_more n2 n3, ltI_app _ _ _ (by rw [padI_len n1, padI_len n2])] at h
  rw [h]
  rfl
/-- each entry at most -/
theorem ltI_pw : ∀ (a b : List Int), a.length = b.length → (∀ i, a.getD i 0 ≤ b.getD i 0) → ltI b a = false
  | [], [], _, _ => rfl
  | x :: a, y :: b, h, hp => by
    have h0 : x ≤ y := hp 0
    show (if y = x then ltI b a else decide (y < x)) = false
    rw [ltI_pw a b (by simpa using h) (fun i => by simpa using hp (i + 1))]
    by_cases c : y = x
    · rw [if_pos c]
    · rw [if_neg c, decide_eq_false (by omega)]
  | [], _ :: _, h, _ => by simp at h
  | _ :: _, [], h, _ => by simp at h

/-! the entries of the losses -/
def con (ws : List Wish) (r : Nat) (pl : Int) : Int := match ws[pl.toNat]? with
  | some w => if w.rank.toNat - 1 = r then w.wt else 0
  | none => 0
theorem addAll_get (ws : List Wish) (r : Nat) : ∀ (ps : List Int) (f : List Int), (∀ w ∈ ws, w.rank.toNat - 1 < f.length) → (ps.foldl (addAt ws) f).getD r 0 = f.getD r 0 + (ps.map (con ws r)).sum
  | [], f, _ => by simp
  | p :: ps, f, h => by
    rw [List.foldl_cons, addAll_get ws r ps _ (fun w hw => by rw [addAt_len]; exact h w hw), List.map_cons, List.sum_cons]
    have key : (addAt ws f p).getD r 0 = f.getD r 0 + con ws r p := by
      unfold addAt con
      cases hw : ws[p.toNat]? with
      | none => simp
      | some w =>
        have hl := h w (List.mem_of_getElem? hw)
        show (f.set (w.rank.toNat - 1) (f.getD (w.rank.toNat - 1) 0 + w.wt)).getD r 0 = f.getD r 0 + if w.rank.toNat - 1 = r then w.wt else 0
        by_cases c : w.rank.toNat - 1 = r
        · subst c
          rw [if_pos rfl, List.getD_eq_getElem?_getD, List.getElem?_set_self hl]
          rfl
        · rw [if_neg c, List.getD_eq_getElem?_getD, List.getElem?_set_ne c, ← List.getD_eq_getElem?_getD]
          omega
    omega
def vecP (ws : List Wish) (ps : List Int) : List Int := (List.range 4).map fun r => (ps.map (con ws r)).sum
theorem vecP_get (ws : List Wish) (ps : List Int) (r : Nat) (h : r < 4) : (vecP ws ps).getD r 0 = (ps.map (con ws r)).sum := by
  unfold vecP
  rw [List.getD_eq_getElem?_getD, List.getElem?_map, List.getElem?_range h]
  rfl
structure RkOk (ws : List Wish) : Prop where
  r : ∀ w ∈ ws, 1 ≤ w.rank ∧ w.rank ≤ 4
theorem maxRank_le {ws : List Wish} (h : RkOk ws) : maxRank ws ≤ 4 := by
  rcases maxRank_mem ws with e | ⟨w, hw, e⟩
  · omega
  · have := h.r w hw
    omega
theorem ext_getD {a b : List Int} (hl : a.length = b.length) (h : ∀ i, i < a.length → a.getD i 0 = b.getD i 0) : a = b := by
  refine List.ext_getElem hl fun i h1 h2 => ?_
  have := h i h1
  rw [List.getD_eq_getElem?_getD, List.getD_eq_getElem?_getD, List.getElem?_eq_getElem h1, List.getElem?_eq_getElem h2] at this
  exact this
theorem con_out {ws : List Wish} (h : RkOk ws) {r : Nat} (hr : maxRank ws ≤ r) (pl : Int) : con ws r pl = 0 := by
  unfold con
  cases hw : ws[pl.toNat]? with
  | none => rfl
  | some w =>
    have hm := List.mem_of_getElem? hw
    have h1 := maxRank_ge ws w hm
    have h2 := h.r w hm
    show (if w.rank.toNat - 1 = r then w.wt else 0) = 0
    rw [if_neg (by omega)]
theorem sum_zero {α : Type} (g : α → Int) : ∀ l : List α, (∀ x ∈ l, g x = 0) → (l.map g).sum = 0
  | [], _ => rfl
  | x :: l, h => by
    rw [List.map_cons, List.sum_cons, h x (by simp), sum_zero g l (fun y hy => h y (by simp [hy]))]
    rfl
theorem pad_losses {ws : List Wish} (h : RkOk ws) (ps : List Int) : padI 4 (wishesLosses ws ps) = vecP ws ps := by
  have hm := maxRank_le h
  have hl : (wishesLosses ws ps).length = maxRank ws := wishesLosses_len ws ps
  refine ext_getD (by rw [padI_len (by omega)]; simp [vecP]) fun r hr => ?_
  rw [padI_len (by omega)] at hr
  rw [vecP_get ws ps r hr]
  unfold padI
  by_cases c : r < maxRank ws
  · rw [List.getD_eq_getElem?_getD, List.getElem?_append_left (by omega), ← List.getD_eq_getElem?_getD]
    unfold wishesLosses
    rw [addAll_get ws r ps _ (fun w hw => ?_)]
    · rw [List.getD_eq_getElem?_getD, List.getElem?_replicate, if_pos c]
      simp
    · rw [List.length_replicate]
      have h1 := maxRank_ge ws w hw
      have h2 := h.r w hw
      omega
  · rw [List.getD_eq_getElem?_getD, List.getElem?_append_right (by omega), List.getElem?_replicate, if_pos (by omega)]
    rw [sum_zero _ ps (fun x _ => con_out h (by omega) x)]
    rfl
def gr (r : Nat) (w : Wish) : Int := if w.rank.toNat - 1 = r then w.wt else 0
theorem sum_lostBy (f : Int → Bool) (ws : List Wish) (r : Nat) : ((lostBy f ws).map (con ws r)).sum = ((ws.filter fun w => f w.num).map (gr r)).sum := by
  congr 1
  unfold lostBy
  rw [List.map_map]
  have e1 : (ws.zipIdx.filter fun p => f p.1.num).map (con ws r ∘ fun p => ((p.2 : Nat) : Int)) = (ws.zipIdx.filter fun p => f p.1.num).map fun p => gr r p.1 := by
    refine List.map_congr_left fun p hp => ?_
    have hp1 := (List.mem_filter.mp hp).1
    have hz : ws[p.2]? = some p.1 := List.mem_zipIdx_iff_getElem?.mp hp1
    show con ws r ((p.2 : Nat) : Int) = gr r p.1
    unfold con
    rw [Int.toNat_natCast, hz]
    rfl
  rw [e1]
  have e2 : ws.filter (fun w => f w.num) = ((ws.zipIdx.filter fun p => f p.1.num).map Prod.fst) := by
    have := List.filter_map (f := Prod.fst) (p := fun w : Wish => f w.num) (l := ws.zipIdx)
    rw [List.zipIdx_map_fst] at this
    exact this
  rw [e2, List.map_map]
  rfl
theorem sum_sub {α : Type} (g : α → Int) {l1 l2 : List α} (h : List.Sublist l1 l2) (h0 : ∀ x ∈ l2, 0 ≤ g x) : (l1.map g).sum ≤ (l2.map g).sum := by
  induction h with
  | slnil => exact Int.le_refl _
  | @cons l1 l2 a _ ih =>
    rw [List.map_cons, List.sum_cons]
    have := ih (fun x hx => h0 x (by simp [hx]))
    have := h0 a (by simp)
    omega
  | cons_cons a _ ih =>
    rw [List.map_cons, List.sum_cons, List.map_cons, List.sum_cons]
    have := ih (fun x hx => h0 x (by simp [hx]))
    omega
theorem pw_le4 {ws ws' : List Wish} (h : RkOk ws) (h' : RkOk ws') {ps ps' : List Int} (hr : ∀ r, (ps.map (con ws r)).sum ≤ (ps'.map (con ws' r)).sum) : Le4 (wishesLosses ws ps) (wishesLosses ws' ps') := by
  unfold Le4
  rw [pad_losses h, pad_losses h']
  refine ltI_pw _ _ (by simp [vecP]) fun i => ?_
  by_cases c : i < 4
  · rw [vecP_get _ _ _ c, vecP_get _ _ _ c]; exact hr i
  · rw [List.getD_eq_getElem?_getD, List.getD_eq_getElem?_getD, List.getElem?_eq_none (by simp [vecP]; omega), List.getElem?_eq_none (by simp [vecP]; omega)]
    exact Int.le_refl _
/-- fewer wishes, less lost -/
theorem fewer_le4 {ws ws' : List Wish} (h : RkOk ws) (h' : RkOk ws') (h0 : ∀ w ∈ ws', 0 ≤ w.wt) (hs : List.Sublist ws ws') (f : Int → Bool) : Le4 (wishesLosses ws (lostBy f ws)) (wishesLosses ws' (lostBy f ws')) := by
  refine pw_le4 h h' fun r => ?_
  rw [sum_lostBy, sum_lostBy]
  refine sum_sub _ (hs.filter _) fun x hx => ?_
  have := h0 x (List.mem_filter.mp hx).1
  unfold gr
  split
  · exact this
  · exact Int.le_refl _

/-! what is told of a house -/
theorem rk_of {h : Hs} (ok : HsOk h) : RkOk h.wishes := ⟨fun w hw => ⟨(ok.wishes w hw).r0, (ok.wishes w hw).r1⟩⟩
theorem losses_len (h : Hs) (s : List Bool) : (losses h s).length = maxRank h.wishes := wishesLosses_len _ _
theorem ok_nil {h : Hs} (e : okSettings h = []) : bestSettings h = [] := by
  show (okSettings h).filter _ = []
  rw [e]
  rfl
theorem told_le {h1 h2 : Hs} (ok1 : HsOk h1) (ok2 : HsOk h2) (H : ∀ s ∈ okSettings h2, s ∈ okSettings h1 ∧ Le4 (losses h1 s) (losses h2 s)) : atMost (lossTree h1).sh (lossTree h2).sh = true := by
  unfold lossTree
  cases e2 : bestSettings h2 with
  | nil =>
    show atMost _ .never = true
    cases (match bestSettings h1 with | [] => Told.never _ | s :: _ => Told.least _ _ _).sh <;> rfl
  | cons s2 ss2 =>
    obtain ⟨m2, l2⟩ := best_cons e2
    obtain ⟨m1, le⟩ := H s2 m2
    cases e1 : bestSettings h1 with
    | nil =>
      rw [best_nil e1] at m1
      simp at m1
    | cons s1 ss1 =>
      obtain ⟨n1, l1⟩ := best_cons e1
      have r1 := maxRank_le (rk_of ok1)
      have r2 := maxRank_le (rk_of ok2)
      refine atMost_le4 (by rw [losses_len]; exact r1) (by rw [losses_len]; exact r2) (Le4.trans (le4_of (by rw [losses_len, losses_len]) (by rw [losses_len]; exact r1) ?_) le)
      rw [l1]
      exact minL_le _ _ (List.mem_map_of_mem m1)
end WD

/-! the plain law: houses with more, trees in them -/
namespace WD
open PySem PySem.Spec PyProof.Rows L2 Evl
theorem law_le {n : Nat} {rows : List Rl} {obl obl' : List Int} {wan wan' : List Wish} (hp : PtsOk ⟨n, rows, obl, wan⟩) (hp' : PtsOk ⟨n, rows, obl', wan'⟩) (ho : ∀ k ∈ obl, k ∈ obl') (hw : List.Sublist wan wan') :
    atMost (lossTree (made ⟨n, rows, obl, wan⟩)).sh (lossTree (made ⟨n, rows, obl', wan'⟩)).sh = true := by
  have ok1 := made_ok hp
  have ok2 := made_ok hp'
  refine told_le ok1 ok2 fun s hs => ⟨?_, ?_⟩
  · obtain ⟨h1, h2⟩ := List.mem_filter.mp hs
    refine List.mem_filter.mpr ⟨h1, ?_⟩
    have h2' := List.all_eq_true.mp h2
    exact List.all_eq_true.mpr fun k hk => h2' k (sortI_mem.mpr (ho k (sortI_mem.mp hk)))
  · exact fewer_le4 (rk_of ok1) (rk_of ok2) (fun w hw => by have := (ok2.wishes w hw).w0; omega) hw _
/-! trees -/
theorem hgt_le (h : Hs) (l : Option (List Int)) : ∀ (c : Nat) (p : Part), hgt (treeFrom h l c p) ≤ c := fun c => by
  induction c with
  | zero =>
    intro p
    unfold treeFrom
    split <;> exact Nat.le_refl _
  | succ c ih =>
    intro p
    unfold treeFrom
    split
    · exact Nat.zero_le _
    · split
      · exact Nat.zero_le _
      · exact Nat.succ_le_succ (Nat.max_le.mpr ⟨ih _, ih _⟩)
theorem treOk {h : Hs} (ok : HsOk h) (l : Option (List Int)) : ∀ (c : Nat) (p : Part), TreOk (treeFrom h l c p) := fun c => by
  have hb : ∀ p, (brokenPlaces h p).length ≤ 1000 := fun p => by
    have := lostBy_len (fun i => decide (look (rulesSure h.rules p) i = .broken)) h.wishes
    have := ok.wlen
    unfold brokenPlaces
    omega
  induction c with
  | zero =>
    intro p
    unfold treeFrom
    split
    · exact trivial
    · exact hb p
  | succ c ih =>
    intro p
    unfold treeFrom
    split
    · exact trivial
    · split
      · exact hb p
      · exact ⟨ih _, ih _⟩
theorem lostBy_lt (f : Int → Bool) (ws : List Wish) : (lostBy f ws).Pairwise (· < ·) := by
  unfold lostBy
  rw [List.pairwise_map]
  refine List.Pairwise.filter _ ?_
  have h := List.pairwise_lt_range' (s := 0) (n := ws.length) (step := 1)
  have e : ws.zipIdx.map Prod.snd = List.range' 0 ws.length := by
    rw [List.zipIdx_map_snd]
  rw [← e, List.pairwise_map] at h
  exact h.imp fun hab => by omega
theorem places_ok (f : Int → Bool) (ws ex : List Wish) : arePlaces (ws ++ ex).length (lostBy f ws) = true := by
  unfold arePlaces
  rw [Bool.and_eq_true]
  constructor
  · refine List.all_eq_true.mpr fun pl hpl => decide_eq_true ?_
    obtain ⟨h0, h1, _⟩ := lostBy_mem hpl
    rw [List.length_append]
    omega
  · refine List.all_eq_true.mpr fun k hk => decide_eq_true ?_
    rw [List.mem_range] at hk
    have h := List.pairwise_iff_getElem.mp (lostBy_lt f ws) k (k + 1) (by omega) (by omega) (by omega)
    rw [List.getD_eq_getElem?_getD, List.getD_eq_getElem?_getD, List.getElem?_eq_getElem (by omega), List.getElem?_eq_getElem (by omega)]
    exact h
theorem con_app (ws ex : List Wish) (r : Nat) {pl : Int} (h0 : 0 ≤ pl) (h1 : pl < (ws.length : Int)) : con (ws ++ ex) r pl = con ws r pl := by
  unfold con
  rw [List.getElem?_append_left (by omega)]
def Good (least : Option (List Int)) (y : Shown) : Prop := ∀ m, y = .least m → m.length ≤ 4 ∧ ∃ l, least = some l ∧ Le4 l m
theorem good_lesser {least : Option (List Int)} {x y : Shown} (hx : Good least x) (hy : Good least y) : Good least (lesser x y) := by
  cases x with
  | never => exact hy
  | least a =>
    cases y with
    | never => exact hx
    | least b =>
      show Good least (if ltI b a = true then .least b else .least a)
      split
      · exact hy
      · exact hx
theorem tree_ok {h h' : Hs} (ok : HsOk h) (ok' : HsOk h') (en : h'.n = h.n) (er : h'.rules = h.rules) (em : ∀ k ∈ h.musts, k ∈ h'.musts) {ex : List Wish} (ew : h'.wishes = h.wishes ++ ex) {least : Option (List Int)} (tg : TG h least)
    (hl : ∀ l, least = some l → l.length = maxRank h.wishes) : ∀ (c : Nat) (p : Part), p.length = h.n → p.count none = c → ∃ y, shownFrom h' (treeFrom h least c p) p = some y ∧ Good least y := by
  have leafM : ∀ (p : Part) (k : Int), h.musts.find? (brk h p) = some k → ∃ y, shownFrom h' (.must k) p = some y ∧ Good least y := fun p k hf => by
    have h1 := em k (List.mem_of_find?_eq_some hf)
    have h2' : brk h p k = true := List.find?_some hf
    have h2 := of_decide_eq_true h2'
    refine ⟨.never, ?_, fun m e => nomatch e⟩
    show (if k ∈ h'.musts ∧ look (rulesSure h'.rules p) k = .broken then some Shown.never else none) = _
    rw [er, if_pos ⟨h1, h2⟩]
  have leafL : ∀ p : Part, geO (wishesLosses h.wishes (brokenPlaces h p)) least = true → ∃ y, shownFrom h' (.lost (brokenPlaces h p)) p = some y ∧ Good least y := fun p hg => by
    refine ⟨.least (wishesLosses h'.wishes (brokenPlaces h p)), ?_, fun m e => ?_⟩
    · show (if arePlaces h'.wishes.length (brokenPlaces h p) = true ∧ ((brokenPlaces h p).all fun pl => decide (look (rulesSure h'.rules p) ((h'.wishes[pl.toNat]?.map Wish.num).getD 0) = .broken)) = true then some (Shown.least (wishesLosses h'.wishes (brokenPlaces h p))) else none) = _
      have hall : ((brokenPlaces h p).all fun pl => decide (look (rulesSure h.rules p) (((h.wishes ++ ex)[pl.toNat]?.map Wish.num).getD 0) = .broken)) = true := by
        refine List.all_eq_true.mpr fun pl hpl => ?_
        obtain ⟨h0, h1, w, hw, hb⟩ := lostBy_mem hpl
        rw [List.getElem?_append_left (by omega), hw]
        exact hb
      rw [er, ew, if_pos ⟨places_ok _ _ _, hall⟩]
    · cases e
      refine ⟨by rw [wishesLosses_len]; exact maxRank_le (rk_of ok'), ?_⟩
      cases hle : least with
      | none => rw [hle] at hg; cases hg
      | some l =>
        refine ⟨l, rfl, ?_⟩
        rw [hle] at hg
        have hg' : geI (wishesLosses h.wishes (brokenPlaces h p)) l = true := hg
        rw [geI_eq] at hg'
        have hll := hl l hle
        have hr := maxRank_le (rk_of ok)
        refine Le4.trans (b := wishesLosses h.wishes (brokenPlaces h p)) (le4_of (by rw [hll, wishesLosses_len]) (by rw [hll]; exact hr) (by simpa using hg')) ?_
        refine pw_le4 (rk_of ok) (rk_of ok') fun r => Int.le_of_eq ?_
        congr 1
        refine List.map_congr_left fun pl hpl => ?_
        obtain ⟨h0, h1, _⟩ := lostBy_mem hpl
        rw [ew, con_app _ _ _ h0 h1]
  intro c
  induction c with
  | zero =>
    intro p hp hc
    cases hf : h.musts.find? (brk h p) with
    | some k => rw [tf_must hf]; exact leafM p k hf
    | none =>
      have hg := full_ge ok tg hp hc hf
      rw [tf_lost hf hg]
      exact leafL p hg
  | succ c ih =>
    intro p hp hc
    cases hf : h.musts.find? (brk h p) with
    | some k => rw [tf_must hf]; exact leafM p k hf
    | none =>
      cases hg : geO (wishesLosses h.wishes (brokenPlaces h p)) least with
      | true => rw [tf_lost hf hg]; exact leafL p hg
      | false =>
        rw [tf_part hf hg]
        obtain ⟨i1, i2, i3⟩ := idx_none (p := p) (by omega)
        generalize hi : p.idxOf none = i at i1 i2 i3 ⊢
        have cp : ∀ b, (putName p i b).count none = c := fun b => by
          have := count_put p i b i2
          omega
        obtain ⟨x, hx, gx⟩ := ih (putName p i false) (by rw [putName_len]; exact hp) (cp false)
        obtain ⟨y, hy, gy⟩ := ih (putName p i true) (by rw [putName_len]; exact hp) (cp true)
        refine ⟨lesser x y, ?_, good_lesser gx gy⟩
        have et : ((((i : Nat) : Int) + 1).toNat - 1) = i := by omega
        show (if 1 ≤ ((i : Nat) : Int) + 1 ∧ ((i : Nat) : Int) + 1 ≤ (h'.n : Int) ∧ p.getD ((((i : Nat) : Int) + 1).toNat - 1) none = none then
          match shownFrom h' (treeFrom h least c (putName p i false)) (putName p ((((i : Nat) : Int) + 1).toNat - 1) false), shownFrom h' (treeFrom h least c (putName p i true)) (putName p ((((i : Nat) : Int) + 1).toNat - 1) true) with
          | some x, some y => some (lesser x y)
          | _, _ => none else none) = some (lesser x y)
        rw [et, if_pos ⟨by omega, by rw [en]; omega, by rw [List.getD_eq_getElem?_getD, i2]; rfl⟩, hx, hy]
def Told.tree : Told → Tre
  | .never t => t
  | .least _ _ t => t
theorem told_tree {h h' : Hs} (ok : HsOk h) (ok' : HsOk h') (en : h'.n = h.n) (er : h'.rules = h.rules) (em : ∀ k ∈ h.musts, k ∈ h'.musts) {ex : List Wish} (ew : h'.wishes = h.wishes ++ ex) :
    ∃ y, shownFrom h' (lossTree h).tree (List.replicate h'.n none) = some y ∧ atMost (lossTree h).sh y = true ∧ ∀ m, y = .least m → m.length ≤ 4 := by
  unfold lossTree
  rw [en]
  cases e : bestSettings h with
  | nil =>
    obtain ⟨y, hy, g⟩ := tree_ok ok ok' en er em ew (tg_never e) (fun l hl => nomatch hl) h.n (List.replicate h.n none) (List.length_replicate ..) (count_rep _)
    refine ⟨y, hy, ?_, fun m hm => (g m hm).1⟩
    cases y with
    | never => rfl
    | least m =>
      obtain ⟨_, l, hl, _⟩ := g m rfl
      cases hl
  | cons s ss =>
    obtain ⟨y, hy, g⟩ := tree_ok ok ok' en er em ew (tg_least e) (fun l hl => by cases hl; exact losses_len h s) h.n (List.replicate h.n none) (List.length_replicate ..) (count_rep _)
    refine ⟨y, hy, ?_, fun m hm => (g m hm).1⟩
    cases y with
    | never => rfl
    | least m =>
      obtain ⟨h4, l, hl, hle⟩ := g m rfl
      cases hl
      exact atMost_le4 (by rw [losses_len]; exact maxRank_le (rk_of ok)) h4 hle
theorem tree_hgt {h : Hs} (ok : HsOk h) : hgt (lossTree h).tree < 9 ∧ TreOk (lossTree h).tree := by
  unfold lossTree
  have := ok.n
  cases e : bestSettings h with
  | nil =>
    refine ⟨Nat.lt_of_le_of_lt (hgt_le _ _ _ _) (by omega), treOk ok _ _ _⟩
  | cons s ss =>
    refine ⟨Nat.lt_of_le_of_lt (hgt_le _ _ _ _) (by omega), treOk ok _ _ _⟩
theorem sh_len {h : Hs} (ok : HsOk h) {m : List Int} (e : (lossTree h).sh = .least m) : m.length ≤ 4 := by
  unfold lossTree at e
  cases eb : bestSettings h with
  | nil => rw [eb] at e; cases e
  | cons s ss =>
    rw [eb] at e
    cases e
    rw [losses_len]
    exact maxRank_le (rk_of ok)
/-! all weights times t -/
def sc (t : Int) (w : Wish) : Wish := ⟨w.num, w.rank, w.wt * t⟩
theorem lostBy_sc (t : Int) (f : Int → Bool) (ws : List Wish) : lostBy f (ws.map (sc t)) = lostBy f ws := by
  unfold lostBy
  rw [List.zipIdx_map, List.filter_map, List.map_map]
  rfl
theorem maxRank_sc (t : Int) (ws : List Wish) : maxRank (ws.map (sc t)) = maxRank ws := by
  unfold maxRank
  rw [List.map_map]
  rfl
theorem addAt_sc (t : Int) (ws : List Wish) (f : List Int) (pl : Int) : addAt (ws.map (sc t)) (f.map (· * t)) pl = (addAt ws f pl).map (· * t) := by
  unfold addAt
  rw [List.getElem?_map]
  cases ws[pl.toNat]? with
  | none => rfl
  | some w =>
    show (f.map (· * t)).set (w.rank.toNat - 1) ((f.map (· * t)).getD (w.rank.toNat - 1) 0 + w.wt * t) = (f.set (w.rank.toNat - 1) (f.getD (w.rank.toNat - 1) 0 + w.wt)).map (· * t)
    rw [List.map_set]
    congr 1
    rw [Int.add_mul, List.getD_eq_getElem?_getD, List.getD_eq_getElem?_getD, List.getElem?_map]
    cases f[w.rank.toNat - 1]? with
    | none => simp
    | some x => rfl
theorem addAll_sc (t : Int) (ws : List Wish) : ∀ (ps f : List Int), ps.foldl (addAt (ws.map (sc t))) (f.map (· * t)) = (ps.foldl (addAt ws) f).map (· * t)
  | [], _ => rfl
  | p :: ps, f => by rw [List.foldl_cons, List.foldl_cons, addAt_sc, addAll_sc t ws ps]
theorem losses_sc (t : Int) (h : Hs) (s : List Bool) : losses { h with wishes := h.wishes.map (sc t) } s = (losses h s).map (· * t) := by
  show wishesLosses (h.wishes.map (sc t)) (lostBy (fun i => !lookB (rulesKept h.rules s) i) (h.wishes.map (sc t))) = (wishesLosses h.wishes (lostBy (fun i => !lookB (rulesKept h.rules s) i) h.wishes)).map (· * t)
  rw [lostBy_sc]
  unfold wishesLosses
  rw [maxRank_sc, ← addAll_sc, List.map_replicate]
  simp
theorem ltI_sc {t : Int} (ht : 0 < t) : ∀ a b : List Int, ltI (a.map (· * t)) (b.map (· * t)) = ltI a b
  | [], [] => rfl
  | [], _ :: _ => rfl
  | _ :: _, [] => rfl
  | x :: a, y :: b => by
    show (if x * t = y * t then ltI (a.map (· * t)) (b.map (· * t)) else decide (x * t < y * t)) = if x = y then ltI a b else decide (x < y)
    rw [ltI_sc ht a b]
    by_cases c : x = y
    · subst c; rw [if_pos rfl, if_pos rfl]
    · rw [if_neg c, if_neg (fun z => c (Int.eq_of_mul_eq_mul_right (by omega) z))]
      by_cases d : x < y
      · rw [decide_eq_true d, decide_eq_true (Int.mul_lt_mul_of_pos_right d ht)]
      · have : y * t ≤ x * t := Int.mul_le_mul_of_nonneg_right (by omega) (by omega)
        rw [decide_eq_false d, decide_eq_false (by omega)]
theorem minL_sc {t : Int} (ht : 0 < t) (ls : List (List Int)) : minL (ls.map (·.map (· * t))) = (minL ls).map (· * t) := by
  cases ls with
  | nil => rfl
  | cons x xs =>
    show (xs.map (·.map (· * t))).foldl (fun b y => if ltI y b = true then y else b) (x.map (· * t)) = (xs.foldl (fun b y => if ltI y b = true then y else b) x).map (· * t)
    induction xs generalizing x with
    | nil => rfl
    | cons y ys ih =>
      rw [List.map_cons, List.foldl_cons, List.foldl_cons, ltI_sc ht]
      by_cases c : ltI y x = true
      · rw [if_pos c, if_pos c]; exact ih y
      · rw [if_neg c, if_neg c]; exact ih x
theorem map_inj {t : Int} (ht : 0 < t) : ∀ a b : List Int, a.map (· * t) = b.map (· * t) → a = b
  | [], [], _ => rfl
  | [], _ :: _, h => by simp at h
  | _ :: _, [], h => by simp at h
  | x :: a, y :: b, h => by
    rw [List.map_cons, List.map_cons] at h
    obtain ⟨h1, h2⟩ := List.cons.inj h
    rw [Int.eq_of_mul_eq_mul_right (by omega) h1, map_inj ht a b h2]
theorem best_sc {t : Int} (ht : 0 < t) (h : Hs) : bestSettings { h with wishes := h.wishes.map (sc t) } = bestSettings h := by
  show (okSettings h).filter (fun s => decide (losses { h with wishes := h.wishes.map (sc t) } s = minL ((okSettings h).map (losses { h with wishes := h.wishes.map (sc t) })))) = (okSettings h).filter fun s => decide (losses h s = minL ((okSettings h).map (losses h)))
  have e : (okSettings h).map (losses { h with wishes := h.wishes.map (sc t) }) = ((okSettings h).map (losses h)).map (·.map (· * t)) := by
    rw [List.map_map]
    exact List.map_congr_left fun s _ => losses_sc t h s
  rw [e, minL_sc ht]
  refine filter_congr' fun s _ => ?_
  rw [losses_sc]
  by_cases c : losses h s = minL ((okSettings h).map (losses h))
  · rw [decide_eq_true c, decide_eq_true (by rw [c])]
  · rw [decide_eq_false c, decide_eq_false fun z => c (map_inj ht _ _ z)]
/-- what is told of the weights times t -/
theorem told_sc {t : Int} (ht : 0 < t) (h : Hs) :
    (∃ u v, lossTree h = .never u ∧ lossTree { h with wishes := h.wishes.map (sc t) } = .never v) ∨ ∃ l s u v, lossTree h = .least l s u ∧ lossTree { h with wishes := h.wishes.map (sc t) } = .least (l.map (· * t)) s v := by
  have e := best_sc ht h
  unfold lossTree
  rw [e]
  cases bestSettings h with
  | nil => exact .inl ⟨_, _, rfl, rfl⟩
  | cons s ss =>
    have aux : ∀ (l' l : List Int) (X : Tre), l' = l → ∃ v, Told.least l' s X = Told.least l s v := fun l' l X e => ⟨X, by rw [e]⟩
    obtain ⟨v, hv⟩ := aux _ _ (treeFrom { h with wishes := h.wishes.map (sc t) } (some (losses { h with wishes := h.wishes.map (sc t) } s)) h.n (List.replicate h.n none)) (losses_sc t h s)
    exact .inr ⟨_, s, _, v, rfl, hv⟩
end WD

namespace WD
open PySem PySem.Spec PyProof.Rows L2 Evl
local macro_rules | `(tactic| walk_at "ew") => `(tactic| first
  | (with_reducible refine sw_seq ?_)
  | (with_reducible refine sw_next ?_)
  | (with_reducible refine sw_if ?_)
  | (with_reducible refine sw_setF (ef_lst (ed_nil (And.intro (Nat.zero_le _) ?_))))
  | (with_reducible refine sw_set ?_)
  | (with_reducible refine sw_ret ?_)
  | ((with_reducible refine' ew_var ?hv ?_); (case hv => rfl))
  | ((with_reducible refine' ev_own ?hv ?_); (case hv => rfl))
  | (with_reducible refine ev_of ?_)
  | (with_reducible refine ew_int ?_)
  | (with_reducible refine ew_str ?_)
  | (with_reducible refine ew_non ?_)
  | (with_reducible refine ew_bl ?_)
  | (with_reducible refine ew_op ?_)
  | (with_reducible refine ew_isi ?_)
  | (with_reducible refine ew_isRow ?_)
  | (with_reducible refine ew_cb ?_)
  | (with_reducible refine ea_cons ?_)
  | (with_reducible refine ea_nil ?_)
  | (with_reducible refine ed_cons ?_)
  | (with_reducible refine ed_nil ?_)
  | (with_reducible refine ew_tup ?_)
  | (with_reducible refine ew_lst ?_)
  | (with_reducible refine ew_call ?_)
  | (with_reducible refine ew_if ?_)
  | (with_reducible refine et_test ?_)
  | (with_reducible refine et_B ?_)
  | (with_reducible refine et_and ?_)
  | (with_reducible refine et_or ?_)
  | (with_reducible refine et_not ?_)
  | (with_reducible refine ew_chain ?_)
  | (with_reducible refine rd_add ?_)
  | (with_reducible refine rd_sub ?_)
  | (with_reducible refine rd_eq ?_)
  | (with_reducible refine rd_eqs ?_)
  | (with_reducible refine rd_le ?_)
  | (with_reducible refine rd_ge ?_)
  | (with_reducible refine rd_lt ?_)
  | (with_reducible refine rd_gt ?_)
  | (with_reducible refine rc_abs ?_)
  | (with_reducible refine rc_int ?_)
  | (with_reducible refine rc_lenL ?_)
  | (with_reducible refine rc_lenT ?_)
  | (with_reducible refine rc_max2 ?_)
  | (with_reducible refine rc_tuple ?_)
  | (with_reducible refine ew_un ?_)
  | (with_reducible refine ew_andV ?_)
  | (with_reducible refine ew_orV ?_)
  | (with_reducible refine ew_notV ?_)
  | (with_reducible refine rd_neI ?_)
  | (with_reducible refine ex_i ?_)
  | (with_reducible refine ex_b ?_)
  | (with_reducible refine it_T ?_)
  | (with_reducible refine it_F ?_)
  | (with_reducible refine it_NT ?_)
  | (with_reducible refine it_NF ?_))

theorem kb_ii : kitB "int" "int" = some true := by decide +kernel
theorem kb_ib : kitB "int" "bool" = some false := by decide +kernel
theorem kb_ss : kitB "str" "str" = some true := by decide +kernel
theorem sorted_is {ns ns' : List Int} (h1 : ns'.Perm ns) (h2 : ns'.Pairwise (· ≤ ·)) : ns' = sortI ns := by
  have h3 : (sortI ns).Perm ns := List.mergeSort_perm ns _
  have h4 : (sortI ns).Pairwise (· ≤ ·) := by
    have := List.pairwise_mergeSort (le := fun a b : Int => decide (a ≤ b)) (fun a b c => by simp; omega) (fun a b => by simp; omega) ns
    exact this.imp fun h => by simpa using h
  exact List.Perm.eq_of_pairwise (fun a b _ _ h k => by omega) h2 h4 (h1.trans h3.symm)
theorem all_true {α : Type} (xs : List α) : ((xs.map fun _ => true).all id) = true := by rw [List.all_map]; exact List.all_eq_true.mpr fun _ _ => rfl
section
variable {P : Program} {w : World} {K : PySem.W.Frag} {mg : Str → Option Value} {base : Heap} {f : Addr} {fd : FuncData}
abbrev s_is_whole : Stmt := topS 9
theorem sc_is_whole : FnScope ["thing"] ["thing"] (defScope s_is_whole) := ⟨rfl, rfl, rfl, by decide +kernel, rfl, by decide +kernel, by decide +kernel⟩
def T_is_whole : Tr := fun ds Φ => ∃ i : Int, ds = [.int i] ∧ Φ = fun d => d = .bool true
theorem ok_is_whole (F : Fun K "is_whole" "is_whole" s_is_whole f fd) (B : Blt mg) : FnOk P w K mg base CX0 1 f fd ["thing"] (spD K T_is_whole) := by
  refine F.ok sc_is_whole (fun vs H Q E h => spD_len (by rintro _ _ ⟨_, rfl, _⟩; rfl) h) (fun cdv A outer s H vs Q E hr h => ?_)
  refine ⟨_, (pss_one (ps_ret (pe_and (pe_callB call_isi (by rfl) B.isinstance (by decide +kernel) (pa_cons (pv 0) (pa_cons (pe_bltn (v := .ty "int") (by rfl) B.int (by decide +kernel) rfl) pa_nil))) (pe_one (pe_not (pe_callB call_isi (by rfl) B.isinstance (by decide +kernel) (pa_cons (pv 0) (pa_cons (pe_bltn (v := .ty "bool") (by rfl) B.bool (by decide +kernel) rfl) pa_nil)))))))), ?_⟩
  refine body_of h fun J ds Φ hT => ?_
  try dsimp only [cxOf]
  obtain ⟨i, rfl, rfl⟩ := hT
  show SW J K _ [.val (.int i)] _
  repeat walk_at "ew"
  refine ⟨(fun z q => nomatch q), true, kb_ii, ?_⟩
  repeat walk_at "ew"
  refine ⟨(fun z q => nomatch q), false, kb_ib, ?_⟩
  repeat walk_at "ew"
  exact rfl
abbrev s_is_row : Stmt := topS 10
theorem sc_is_row : FnScope ["thing"] ["thing"] (defScope s_is_row) := ⟨rfl, rfl, rfl, by decide +kernel, rfl, by decide +kernel, by decide +kernel⟩
def T_is_row : Tr := fun ds Φ => ∃ xs : List Dt, ds = [.list xs] ∧ Φ = fun d => d = .bool true
theorem ok_is_row (F : Fun K "is_row" "is_row" s_is_row f fd) (B : Blt mg) : FnOk P w K mg base CX0 1 f fd ["thing"] (spD K T_is_row) := by
  refine F.ok sc_is_row (fun vs H Q E h => spD_len (by rintro _ _ ⟨_, rfl, _⟩; rfl) h) (fun cdv A outer s H vs Q E hr h => ?_)
  refine ⟨_, (pss_one (ps_ret (pe_callB call_isiT (by rfl) B.isinstance (by decide +kernel) (pa_cons (pv 0) (pa_cons (pe_tup (pa_cons (pe_bltn (v := .ty "list") (by rfl) B.list (by decide +kernel) rfl) (pa_cons (pe_bltn (v := .ty "tuple") (by rfl) B.tuple (by decide +kernel) rfl) pa_nil))) pa_nil))))), ?_⟩
  refine body_of h fun J ds Φ hT => ?_
  try dsimp only [cxOf]
  obtain ⟨i, rfl, rfl⟩ := hT
  show SW J K _ [.val (.list i)] _
  repeat walk_at "ew"
  exact ⟨⟨_, rfl⟩, rfl⟩
abbrev s_is_number_in : Stmt := topS 11
theorem sc_is_number_in : FnScope ["thing", "low", "high"] ["thing", "low", "high"] (defScope s_is_number_in) := ⟨rfl, rfl, rfl, by decide +kernel, rfl, by decide +kernel, by decide +kernel⟩
def T_is_number_in : Tr := fun ds Φ => ∃ a lo hi : Int, ds = [.int a, .int lo, .int hi] ∧ Φ = fun d => d = .bool (decide (lo ≤ a ∧ a ≤ hi))
theorem ok_is_number_in (F : Fun K "is_number_in" "is_number_in" s_is_number_in f fd) (B : Blt mg) (f_is_whole : Fn P w K mg base "is_whole" 1 ["thing"] T_is_whole) : FnOk P w K mg base CX0 2 f fd ["thing", "low", "high"] (spD K T_is_number_in) := by
  refine F.ok sc_is_number_in (fun vs H Q E h => spD_len (by rintro _ _ ⟨_, _, _, rfl, _⟩; rfl) h) (fun cdv A outer s H vs Q E hr h => ?_)
  refine ⟨_, (pss_one (ps_ret (pe_and (pe_fn f_is_whole (hr.mono (by omega)) (pa_cons (pv 0) pa_nil)) (pe_one (pe_chain (op_leU (K := K) rfl hr.units) (op_leU (K := K) rfl hr.units) (pv 1) (pv 0) (pv 2)))))), ?_⟩
  refine body_of h fun J ds Φ hT => ?_
  try dsimp only [cxOf]
  obtain ⟨a, lo, hi, rfl, rfl⟩ := hT
  show SW J K _ [.val (.int a), .val (.int lo), .val (.int hi)] _
  repeat walk_at "ew"
  refine ⟨_, ⟨a, rfl, rfl⟩, fun d hd => ?_⟩
  subst hd
  repeat walk_at "ew"
  refine it_D (fun c => ?_) (fun c => ?_)
  · repeat walk_at "ew"
    show PyData.bool _ = PyData.bool _
    rw [decide_eq_decide.mpr (show (a ≤ hi) ↔ (lo ≤ a ∧ a ≤ hi) from ⟨fun z => ⟨c, z⟩, fun z => z.2⟩)]
  · show PyData.bool _ = PyData.bool _
    rw [decide_eq_false (fun z : lo ≤ a ∧ a ≤ hi => c z.1)]
abbrev s_look_at_names : Stmt := topS 12
theorem sc_look_at_names : FnScope ["n"] ["n"] (defScope s_look_at_names) := ⟨rfl, rfl, rfl, by decide +kernel, rfl, by decide +kernel, by decide +kernel⟩
def T_look_at_names : Tr := fun ds Φ => ∃ n : Nat, ds = [.int (n : Nat)] ∧ n ≤ 8 ∧ Φ = fun d => d = .none
theorem ok_look_at_names (F : Fun K "look_at_names" "look_at_names" s_look_at_names f fd) (B : Blt mg) (c_MOST_NAMES : ∃ t, mg "MOST_NAMES" = some (.int 8 t)) (f_is_number_in : Fn P w K mg base "is_number_in" 2 ["thing", "low", "high"] T_is_number_in) : FnOk P w K mg base CX0 3 f fd ["n"] (spD K T_look_at_names) := by
  refine F.ok sc_look_at_names (fun vs H Q E h => spD_len (by rintro _ _ ⟨_, rfl, _⟩; rfl) h) (fun cdv A outer s H vs Q E hr h => ?_)
  refine ⟨_, (pss_one (ps_if (pt_not (pt_val (pe_fn f_is_number_in (hr.mono (by omega)) (pa_cons (pv 0) (pa_cons pe_int (pa_cons (pe_cint c_MOST_NAMES) pa_nil)))))) (pss_one ps_never) pss_nil)), ?_⟩
  refine body_of h fun J ds Φ hT => ?_
  try dsimp only [cxOf]
  obtain ⟨n, rfl, hn, rfl⟩ := hT
  show SW J K _ [.val (.int (n : Nat))] _
  repeat walk_at "ew"
  refine ⟨_, ⟨_, _, _, rfl, rfl⟩, fun d hd => ?_⟩
  subst hd
  repeat walk_at "ew"
  rw [decide_eq_true (show (0 : Int) ≤ (n : Nat) ∧ ((n : Nat) : Int) ≤ 8 by omega)]
  repeat walk_at "ew"
  exact rfl
abbrev s_made_words : Stmt := topS 13
theorem sc_made_words : FnScope ["n", "thing", "word"] ["n", "thing"] (defScope s_made_words) := ⟨rfl, rfl, rfl, by decide +kernel, rfl, by decide +kernel, by decide +kernel⟩
def T_made_words : Tr := fun ds Φ => ∃ (n : Nat) (c : Nat) (ws : List Int), ds = [.int (n : Nat), .list (iD ws)] ∧ RlOk n c (.or ws) ∧ Φ = fun d => d = .tuple (iD (sortI ws))
theorem ok_made_words (F : Fun K "made_words" "made_words" s_made_words f fd) (B : Blt mg) (f_is_row : Fn P w K mg base "is_row" 1 ["thing"] T_is_row) (f_is_number_in : Fn P w K mg base "is_number_in" 2 ["thing", "low", "high"] T_is_number_in) : FnOk P w K mg base CX0 3 f fd ["n", "thing"] (spD K T_made_words) := by
  refine F.ok sc_made_words (fun vs H Q E h => spD_len (by rintro _ _ ⟨_, _, _, rfl, _⟩; rfl) h) (fun cdv A outer s H vs Q E hr h => ?_)
  refine ⟨_, (pss_cons (ps_if (PW.pt (pw_or (pt_not (pt_val (pe_fn f_is_row (hr.mono (by omega)) (pa_cons (pv 1) pa_nil)))) (pw_or1 (pt_not (pt_val (pe_callB (cr_all rfl) (by rfl) B.all (by decide +kernel) (pa_cons (pe_lc (own := [("word", 2)]) (g := gName 2) rfl sc_made_words.nd (pi_list (pv 1)) (blkOk_by (own := [("word", 2)]) (N := ["n", "thing", "word"]) (sc := defScope s_made_words) (by decide +kernel)) (fun _ _ _ _ _ => (pg_name (i := 2) sc_made_words.nd rfl (Or.inl rfl))) (fun _ _ _ _ _ => pts_nil) (fun _ _ _ _ _ => (pe_and (pe_fn f_is_number_in (hr.mono (by omega)) (pa_cons (pv 2) (pa_cons (pe_un un_neg (pv 0)) (pa_cons (pv 0) pa_nil)))) (pe_one (pe_cmpR op_ne (pv 2) pe_int (nomark _)))))) pa_nil))))))) (pss_one (ps_ret pe_non)) pss_nil) (pss_cons (ps_if (pt_cmpR op_lt (RZ.pe_lenSetI rfl B.len rfl B.set (pe_lc (own := [("word", 2)]) (g := gName 2) rfl sc_made_words.nd (pi_list (pv 1)) (blkOk_by (own := [("word", 2)]) (N := ["n", "thing", "word"]) (sc := defScope s_made_words) (by decide +kernel)) (fun _ _ _ _ _ => (pg_name (i := 2) sc_made_words.nd rfl (Or.inl rfl))) (fun _ _ _ _ _ => pts_nil) (fun _ _ _ _ _ => (pe_callB call_abs (by rfl) B.abs (by decide +kernel) (pa_cons (pv 2) pa_nil))))) (pe_callB (call_lenU (K := K) rfl) (by rfl) B.len (by decide +kernel) (pa_cons (pv 1) pa_nil)) (nomark _)) (pss_one (ps_ret pe_non)) pss_nil) (pss_one (ps_ret (pe_callTy call_tupleZT (by rfl) B.tuple (by decide +kernel) (pa_cons (pe_callB cr_sorted (by rfl) B.sorted (by decide +kernel) (pa_cons (pv 1) pa_nil)) pa_nil)))))), ?_⟩
  refine body_of h fun J ds Φ hT => ?_
  try dsimp only [cxOf]
  obtain ⟨n, c, ws, rfl, ⟨k1, k2, k3⟩, rfl⟩ := hT
  show SW J K _ [.val (.int (n : Nat)), .val (.list (iD ws)), .unk] _
  repeat walk_at "ew"
  refine ⟨_, ⟨_, rfl, rfl⟩, fun d hd => ?_⟩
  subst hd
  repeat walk_at "ew"
  refine ew_lcM ws .int (fun _ => .bool true) (iw_list (ew_var rfl ⟨_, rfl, rfl, by omega, fun wd hw => gw_name (by simp) ?_, ?_⟩))
  · obtain ⟨j1, j2⟩ := k1 wd hw
    repeat walk_at "ew"
    refine ⟨_, ⟨_, _, _, rfl, rfl⟩, fun d hd => ?_⟩
    subst hd
    rw [decide_eq_true (show -((n : Nat) : Int) ≤ wd ∧ wd ≤ (n : Nat) by omega)]
    repeat walk_at "ew"
    rw [decide_eq_false j1]
    exact rfl
  have hm : ws.map (fun _ => PyData.bool true) = (ws.map fun _ => true).map .bool := by rw [List.map_map]; rfl
  rw [hm]
  repeat walk_at "ew"
  refine rc_all ?_
  rw [all_true]
  repeat walk_at "ew"
  refine ew_lenSet (ev_of (ew_lcM ws .int (fun x => .int (if x < 0 then -x else x)) (iw_list (ew_var rfl ⟨_, rfl, rfl, by omega, fun wd hw => gw_name (by simp) ?_, ?_⟩))))
  · repeat walk_at "ew"
    exact rfl
  have habs : ws.map (fun x : Int => if x < 0 then -x else x) = (ws.map Int.natAbs).map Int.ofNat := by
    rw [List.map_map]
    refine List.map_congr_left fun x _ => ?_
    show (if x < 0 then -x else x) = ((x.natAbs : Nat) : Int)
    split <;> omega
  refine ⟨ws.map fun x => if x < 0 then -x else x, by rw [List.map_map]; rfl, ?_, by rw [List.length_map]; omega, ?_⟩
  · rw [habs]
    rw [List.Nodup, List.pairwise_map]
    exact k2.imp fun h z => h (Int.ofNat.inj z)
  rw [List.length_map]
  repeat walk_at "ew"
  rw [show (iD ws).length = ws.length from List.length_map _, decide_eq_false (by omega)]
  repeat walk_at "ew"
  refine rc_sorted (ns := ws) (by omega) fun ns' h1 h2 => ?_
  rw [sorted_is h1 h2]
  repeat walk_at "ew"
  exact rfl
abbrev s_made_numbers : Stmt := topS 14
theorem sc_made_numbers : FnScope ["thing", "count", "number"] ["thing", "count"] (defScope s_made_numbers) := ⟨rfl, rfl, rfl, by decide +kernel, rfl, by decide +kernel, by decide +kernel⟩
def T_made_numbers : Tr := fun ds Φ => ∃ (c : Nat) (ns : List Int), ds = [.list (iD ns), .int (c : Nat)] ∧ (∀ k ∈ ns, 0 ≤ k ∧ k < (c : Int)) ∧ ns.Nodup ∧ ns.length ≤ 30 ∧ Φ = fun d => d = .tuple (iD (sortI ns))
theorem ok_made_numbers (F : Fun K "made_numbers" "made_numbers" s_made_numbers f fd) (B : Blt mg) (f_is_row : Fn P w K mg base "is_row" 1 ["thing"] T_is_row) (f_is_number_in : Fn P w K mg base "is_number_in" 2 ["thing", "low", "high"] T_is_number_in) : FnOk P w K mg base CX0 3 f fd ["thing", "count"] (spD K T_made_numbers) := by
  refine F.ok sc_made_numbers (fun vs H Q E h => spD_len (by rintro _ _ ⟨_, _, rfl, _⟩; rfl) h) (fun cdv A outer s H vs Q E hr h => ?_)
  refine ⟨_, (pss_cons (ps_if (PW.pt (pw_or (pt_not (pt_val (pe_fn f_is_row (hr.mono (by omega)) (pa_cons (pv 0) pa_nil)))) (pw_or1 (pt_not (pt_val (pe_callB (cr_all rfl) (by rfl) B.all (by decide +kernel) (pa_cons (pe_lc (own := [("number", 2)]) (g := gName 2) rfl sc_made_numbers.nd (pi_list (pv 0)) (blkOk_by (own := [("number", 2)]) (N := ["thing", "count", "number"]) (sc := defScope s_made_numbers) (by decide +kernel)) (fun _ _ _ _ _ => (pg_name (i := 2) sc_made_numbers.nd rfl (Or.inl rfl))) (fun _ _ _ _ _ => pts_nil) (fun _ _ _ _ _ => (pe_fn f_is_number_in (hr.mono (by omega)) (pa_cons (pv 2) (pa_cons pe_int (pa_cons (pe_op op_sub (pv 1) pe_int) pa_nil)))))) pa_nil))))))) (pss_one (ps_ret pe_non)) pss_nil) (pss_cons (ps_if (pt_cmpR op_lt (RZ.pe_lenSetI rfl B.len rfl B.set (pv 0)) (pe_callB (call_lenU (K := K) rfl) (by rfl) B.len (by decide +kernel) (pa_cons (pv 0) pa_nil)) (nomark _)) (pss_one (ps_ret pe_non)) pss_nil) (pss_one (ps_ret (pe_callTy call_tupleZT (by rfl) B.tuple (by decide +kernel) (pa_cons (pe_callB cr_sorted (by rfl) B.sorted (by decide +kernel) (pa_cons (pv 0) pa_nil)) pa_nil)))))), ?_⟩
  refine body_of h fun J ds Φ hT => ?_
  try dsimp only [cxOf]
  obtain ⟨c, ns, rfl, k1, k2, k3, rfl⟩ := hT
  show SW J K _ [.val (.list (iD ns)), .val (.int (c : Nat)), .unk] _
  repeat walk_at "ew"
  refine ⟨_, ⟨_, rfl, rfl⟩, fun d hd => ?_⟩
  subst hd
  repeat walk_at "ew"
  refine ew_lcM ns .int (fun _ => .bool true) (iw_list (ew_var rfl ⟨_, rfl, rfl, by omega, fun wd hw => gw_name (by simp) ?_, ?_⟩))
  · obtain ⟨j1, j2⟩ := k1 wd hw
    repeat walk_at "ew"
    refine ⟨_, ⟨_, _, _, rfl, rfl⟩, fun d hd => ?_⟩
    subst hd
    rw [decide_eq_true (show (0 : Int) ≤ wd ∧ wd ≤ (c : Nat) - 1 by omega)]
  have hm : ns.map (fun _ => PyData.bool true) = (ns.map fun _ => true).map .bool := by rw [List.map_map]; rfl
  rw [hm]
  repeat walk_at "ew"
  refine rc_all ?_
  rw [all_true]
  repeat walk_at "ew"
  refine ew_lenSet (ev_of (ew_var rfl ⟨ns, rfl, k2, by omega, ?_⟩))
  repeat walk_at "ew"
  rw [show (iD ns).length = ns.length from List.length_map _, decide_eq_false (by omega)]
  repeat walk_at "ew"
  refine rc_sorted (ns := ns) (by omega) fun ns' h1 h2 => ?_
  rw [sorted_is h1 h2]
  repeat walk_at "ew"
  exact rfl
end
end WD

namespace WD
open PySem PySem.Spec PyProof.Rows L2 Evl
local macro_rules | `(tactic| walk_at "ew") => `(tactic| first
  | (with_reducible refine sw_seq ?_)
  | (with_reducible refine sw_next ?_)
  | (with_reducible refine sw_if ?_)
  | (with_reducible refine sw_setF (ef_lst (ed_nil (And.intro (Nat.zero_le _) ?_))))
  | (with_reducible refine sw_set ?_)
  | (with_reducible refine sw_ret ?_)
  | ((with_reducible refine' ew_var ?hv ?_); (case hv => rfl))
  | ((with_reducible refine' ev_own ?hv ?_); (case hv => rfl))
  | (with_reducible refine ev_of ?_)
  | (with_reducible refine ew_int ?_)
  | (with_reducible refine ew_str ?_)
  | (with_reducible refine ew_non ?_)
  | (with_reducible refine ew_bl ?_)
  | (with_reducible refine ew_op ?_)
  | (with_reducible refine ew_isi ?_)
  | (with_reducible refine ew_isRow ?_)
  | (with_reducible refine ew_cb ?_)
  | (with_reducible refine ea_cons ?_)
  | (with_reducible refine ea_nil ?_)
  | (with_reducible refine ed_cons ?_)
  | (with_reducible refine ed_nil ?_)
  | (with_reducible refine ew_tup ?_)
  | (with_reducible refine ew_lst ?_)
  | (with_reducible refine ew_call ?_)
  | (with_reducible refine ew_if ?_)
  | (with_reducible refine et_test ?_)
  | (with_reducible refine et_B ?_)
  | (with_reducible refine et_and ?_)
  | (with_reducible refine et_or ?_)
  | (with_reducible refine et_not ?_)
  | (with_reducible refine ew_chain ?_)
  | (with_reducible refine rd_add ?_)
  | (with_reducible refine rd_sub ?_)
  | (with_reducible refine rd_eq ?_)
  | (with_reducible refine rd_eqs ?_)
  | (with_reducible refine rd_le ?_)
  | (with_reducible refine rd_ge ?_)
  | (with_reducible refine rd_lt ?_)
  | (with_reducible refine rd_gt ?_)
  | (with_reducible refine rc_abs ?_)
  | (with_reducible refine rc_int ?_)
  | (with_reducible refine rc_lenL ?_)
  | (with_reducible refine rc_lenT ?_)
  | (with_reducible refine rc_max2 ?_)
  | (with_reducible refine rc_tuple ?_)
  | (with_reducible refine ew_un ?_)
  | (with_reducible refine ew_andV ?_)
  | (with_reducible refine ew_orV ?_)
  | (with_reducible refine ew_notV ?_)
  | (with_reducible refine rd_neI ?_)
  | (with_reducible refine ex_i ?_)
  | (with_reducible refine ex_b ?_)
  | (with_reducible refine it_T ?_)
  | (with_reducible refine it_F ?_)
  | (with_reducible refine it_NT ?_)
  | (with_reducible refine it_NF ?_))

section
variable {P : Program} {w : World} {K : PySem.W.Frag} {mg : Str → Option Value} {base : Heap} {f : Addr} {fd : FuncData}
abbrev s_made_either : Stmt := topS 15
theorem sc_made_either : FnScope ["n", "thing", "words"] ["n", "thing"] (defScope s_made_either) := ⟨rfl, rfl, rfl, by decide +kernel, rfl, by decide +kernel, by decide +kernel⟩
def T_made_either : Tr := fun ds Φ => ∃ (n : Nat) (c : Nat) (ws : List Int), ds = [.int (n : Nat), rowD (.or ws)] ∧ RlOk n c (.or ws) ∧ Φ = fun d => d = rlD (.or (sortI ws))
theorem ok_made_either (F : Fun K "made_either" "made_either" s_made_either f fd) (B : Blt mg) (f_made_words : Fn P w K mg base "made_words" 3 ["n", "thing"] T_made_words) : FnOk P w K mg base CX0 4 f fd ["n", "thing"] (spD K T_made_either) := by
  refine F.ok sc_made_either (fun vs H Q E h => spD_len (by rintro _ _ ⟨_, _, _, rfl, _⟩; rfl) h) (fun cdv A outer s H vs Q E hr h => ?_)
  refine ⟨_, (pss_cons (ps_if (pt_cmpR op_ne (pe_callB (call_lenU (K := K) rfl) (by rfl) B.len (by decide +kernel) (pa_cons (pv 1) pa_nil)) pe_int (nomark _)) (pss_one (ps_ret pe_non)) pss_nil) (pss_cons (ps_set (i := 2) sc_made_either.nd rfl (by first | exact Or.inl rfl | exact Or.inr rfl) (pe_fn f_made_words (hr.mono (by omega)) (pa_cons (pv 0) (pa_cons (pe_ix (ix_U (K := K) rfl) (pv 1) pe_int (fun _ _ => rfl)) pa_nil)))) (pss_cons (ps_if (pt_cmpR op_isN (pv 2) pe_non (nomark _)) (pss_one (ps_ret pe_non)) pss_nil) (pss_one (ps_ret (pe_tupZ (pa_cons pe_str (pa_cons (pv 2) pa_nil)))))))), ?_⟩
  refine body_of h fun J ds Φ hT => ?_
  try dsimp only [cxOf]
  obtain ⟨n, c, ws, rfl, hok, rfl⟩ := hT
  show SW J K _ [.val (.int (n : Nat)), .val (.list [.str "or", .list (iD ws)]), .unk] _
  repeat walk_at "ew"
  rw [show (!decide ((([PyData.str "or", .list (iD ws)].length : Nat) : Int) = 2)) = false from rfl]
  repeat walk_at "ew"
  refine rd_ixL (d := .list (iD ws)) rfl ?_
  repeat walk_at "ew"
  refine ⟨_, ⟨n, c, ws, rfl, hok, rfl⟩, fun d hd => ?_⟩
  subst hd
  repeat walk_at "ew"
  refine rd_isN_no (fun z => nomatch z) ?_
  repeat walk_at "ew"
  exact ⟨(by show 2 ≤ 100000; decide), rfl⟩
abbrev s_made_count : Stmt := topS 16
theorem sc_made_count : FnScope ["thing", "count", "numbers"] ["thing", "count"] (defScope s_made_count) := ⟨rfl, rfl, rfl, by decide +kernel, rfl, by decide +kernel, by decide +kernel⟩
def T_made_count : Tr := fun ds Φ => ∃ (n : Nat) (c : Nat) (m : Int) (ns : List Int), ds = [rowD (.few m ns), .int (c : Nat)] ∧ RlOk n c (.few m ns) ∧ Φ = fun d => d = rlD (.few m (sortI ns))
theorem ok_made_count (F : Fun K "made_count" "made_count" s_made_count f fd) (B : Blt mg) (c_MOST_RULES : ∃ t, mg "MOST_RULES" = some (.int 24 t)) (f_is_number_in : Fn P w K mg base "is_number_in" 2 ["thing", "low", "high"] T_is_number_in)
    (f_made_numbers : Fn P w K mg base "made_numbers" 3 ["thing", "count"] T_made_numbers) : FnOk P w K mg base CX0 4 f fd ["thing", "count"] (spD K T_made_count) := by
  refine F.ok sc_made_count (fun vs H Q E h => spD_len (by rintro _ _ ⟨_, _, _, _, rfl, _⟩; rfl) h) (fun cdv A outer s H vs Q E hr h => ?_)
  refine ⟨_, (pss_cons (ps_if (PW.pt (pw_or (pt_cmpR op_ne (pe_callB (call_lenU (K := K) rfl) (by rfl) B.len (by decide +kernel) (pa_cons (pv 0) pa_nil)) pe_int (nomark _)) (pw_or1 (pt_not (pt_val (pe_fn f_is_number_in (hr.mono (by omega)) (pa_cons (pe_ix (ix_U (K := K) rfl) (pv 0) pe_int (fun _ _ => rfl)) (pa_cons pe_int (pa_cons (pe_cint c_MOST_RULES) pa_nil))))))))) (pss_one (ps_ret pe_non)) pss_nil) (pss_cons (ps_set (i := 2) sc_made_count.nd rfl (by first | exact Or.inl rfl | exact Or.inr rfl) (pe_fn f_made_numbers (hr.mono (by omega)) (pa_cons (pe_ix (ix_U (K := K) rfl) (pv 0) pe_int (fun _ _ => rfl)) (pa_cons (pv 1) pa_nil)))) (pss_cons (ps_if (pt_cmpR op_isN (pv 2) pe_non (nomark _)) (pss_one (ps_ret pe_non)) pss_nil) (pss_one (ps_ret (pe_tupZ (pa_cons pe_str (pa_cons (pe_ix (ix_U (K := K) rfl) (pv 0) pe_int (fun _ _ => rfl)) (pa_cons (pv 2) pa_nil))))))))), ?_⟩
  refine body_of h fun J ds Φ hT => ?_
  try dsimp only [cxOf]
  obtain ⟨n, c, m, ns, rfl, ⟨k1, k2, k3, k4, k5⟩, rfl⟩ := hT
  show SW J K _ [.val (.list [.str "few", .int m, .list (iD ns)]), .val (.int (c : Nat)), .unk] _
  repeat walk_at "ew"
  rw [show (!decide ((([PyData.str "few", .int m, .list (iD ns)].length : Nat) : Int) = 3)) = false from rfl]
  repeat walk_at "ew"
  refine rd_ixL (d := .int m) rfl ?_
  repeat walk_at "ew"
  refine ⟨_, ⟨_, _, _, rfl, rfl⟩, fun d hd => ?_⟩
  subst hd
  repeat walk_at "ew"
  rw [decide_eq_true (show (0 : Int) ≤ m ∧ m ≤ 24 by omega)]
  repeat walk_at "ew"
  refine rd_ixL (d := .list (iD ns)) rfl ?_
  repeat walk_at "ew"
  refine ⟨_, ⟨c, ns, rfl, k3, k4, k5, rfl⟩, fun d hd => ?_⟩
  subst hd
  repeat walk_at "ew"
  refine rd_isN_no (fun z => nomatch z) ?_
  repeat walk_at "ew"
  refine rd_ixL (d := .int m) rfl ?_
  repeat walk_at "ew"
  exact ⟨(by show 3 ≤ 100000; decide), rfl⟩
abbrev s_made_not : Stmt := topS 17
theorem sc_made_not : FnScope ["thing", "count"] ["thing", "count"] (defScope s_made_not) := ⟨rfl, rfl, rfl, by decide +kernel, rfl, by decide +kernel, by decide +kernel⟩
def T_made_not : Tr := fun ds Φ => ∃ (c : Nat) (k : Int), ds = [rowD (.no k), .int (c : Nat)] ∧ 0 ≤ k ∧ k < (c : Int) ∧ Φ = fun d => d = rlD (.no k)
theorem ok_made_not (F : Fun K "made_not" "made_not" s_made_not f fd) (B : Blt mg) (f_is_number_in : Fn P w K mg base "is_number_in" 2 ["thing", "low", "high"] T_is_number_in) : FnOk P w K mg base CX0 3 f fd ["thing", "count"] (spD K T_made_not) := by
  refine F.ok sc_made_not (fun vs H Q E h => spD_len (by rintro _ _ ⟨_, _, rfl, _⟩; rfl) h) (fun cdv A outer s H vs Q E hr h => ?_)
  refine ⟨_, (pss_cons (ps_if (PW.pt (pw_or (pt_cmpR op_ne (pe_callB (call_lenU (K := K) rfl) (by rfl) B.len (by decide +kernel) (pa_cons (pv 0) pa_nil)) pe_int (nomark _)) (pw_or1 (pt_not (pt_val (pe_fn f_is_number_in (hr.mono (by omega)) (pa_cons (pe_ix (ix_U (K := K) rfl) (pv 0) pe_int (fun _ _ => rfl)) (pa_cons pe_int (pa_cons (pe_op op_sub (pv 1) pe_int) pa_nil))))))))) (pss_one (ps_ret pe_non)) pss_nil) (pss_one (ps_ret (pe_tupZ (pa_cons pe_str (pa_cons (pe_ix (ix_U (K := K) rfl) (pv 0) pe_int (fun _ _ => rfl)) pa_nil)))))), ?_⟩
  refine body_of h fun J ds Φ hT => ?_
  try dsimp only [cxOf]
  obtain ⟨c, k, rfl, k1, k2, rfl⟩ := hT
  show SW J K _ [.val (.list [.str "not", .int k]), .val (.int (c : Nat))] _
  repeat walk_at "ew"
  rw [show (!decide ((([PyData.str "not", .int k].length : Nat) : Int) = 2)) = false from rfl]
  repeat walk_at "ew"
  refine rd_ixL (d := .int k) rfl ?_
  repeat walk_at "ew"
  refine ⟨_, ⟨_, _, _, rfl, rfl⟩, fun d hd => ?_⟩
  subst hd
  repeat walk_at "ew"
  rw [decide_eq_true (show (0 : Int) ≤ k ∧ k ≤ (c : Nat) - 1 by omega)]
  repeat walk_at "ew"
  refine rd_ixL (d := .int k) rfl ?_
  repeat walk_at "ew"
  exact ⟨(by show 2 ≤ 100000; decide), rfl⟩
abbrev s_made_rule : Stmt := topS 18
theorem sc_made_rule : FnScope ["n", "thing", "count"] ["n", "thing", "count"] (defScope s_made_rule) := ⟨rfl, rfl, rfl, by decide +kernel, rfl, by decide +kernel, by decide +kernel⟩
def T_made_rule : Tr := fun ds Φ => ∃ (n : Nat) (c : Nat) (r : Rl), ds = [.int (n : Nat), rowD r, .int (c : Nat)] ∧ c < 24 ∧ RlOk n c r ∧ Φ = fun d => d = rlD (madeRl r)
theorem ok_made_rule (F : Fun K "made_rule" "made_rule" s_made_rule f fd) (B : Blt mg) (c_MOST_RULES : ∃ t, mg "MOST_RULES" = some (.int 24 t)) (f_is_row : Fn P w K mg base "is_row" 1 ["thing"] T_is_row)
    (f_made_either : Fn P w K mg base "made_either" 4 ["n", "thing"] T_made_either) (f_made_count : Fn P w K mg base "made_count" 4 ["thing", "count"] T_made_count) (f_made_not : Fn P w K mg base "made_not" 3 ["thing", "count"] T_made_not) : FnOk P w K mg base CX0 5 f fd ["n", "thing", "count"] (spD K T_made_rule) := by
  refine F.ok sc_made_rule (fun vs H Q E h => spD_len (by rintro _ _ ⟨_, _, _, rfl, _⟩; rfl) h) (fun cdv A outer s H vs Q E hr h => ?_)
  refine ⟨_, (pss_cons (ps_if (PW.pt (pw_or (pt_not (pt_val (pe_fn f_is_row (hr.mono (by omega)) (pa_cons (pv 1) pa_nil)))) (pw_or (pt_cmpR (op_eqU (K := K) rfl hr.units) (pe_callB (call_lenU (K := K) rfl) (by rfl) B.len (by decide +kernel) (pa_cons (pv 1) pa_nil)) pe_int (nomark _)) (pw_or (pt_not (pt_val (pe_callB call_isi (by rfl) B.isinstance (by decide +kernel) (pa_cons (pe_ix (ix_U (K := K) rfl) (pv 1) pe_int (fun _ _ => rfl)) (pa_cons (pe_bltn (v := .ty "str") (by rfl) B.str (by decide +kernel) rfl) pa_nil))))) (pw_or1 (pt_cmpR (op_geU (K := K) rfl hr.units) (pv 2) (pe_cint c_MOST_RULES) (nomark _))))))) (pss_one (ps_ret pe_non)) pss_nil) (pss_cons (ps_if (pt_cmpR (op_eqU (K := K) rfl hr.units) (pe_ix (ix_U (K := K) rfl) (pv 1) pe_int (fun _ _ => rfl)) pe_str (nomark _)) (pss_one (ps_ret (pe_fn f_made_either (hr.mono (by omega)) (pa_cons (pv 0) (pa_cons (pv 1) pa_nil))))) pss_nil) (pss_cons (ps_if (pt_cmpR (op_eqU (K := K) rfl hr.units) (pe_ix (ix_U (K := K) rfl) (pv 1) pe_int (fun _ _ => rfl)) pe_str (nomark _)) (pss_one (ps_ret (pe_fn f_made_count (hr.mono (by omega)) (pa_cons (pv 1) (pa_cons (pv 2) pa_nil))))) pss_nil) (pss_cons (ps_if (pt_cmpR (op_eqU (K := K) rfl hr.units) (pe_ix (ix_U (K := K) rfl) (pv 1) pe_int (fun _ _ => rfl)) pe_str (nomark _)) (pss_one (ps_ret (pe_fn f_made_not (hr.mono (by omega)) (pa_cons (pv 1) (pa_cons (pv 2) pa_nil))))) pss_nil) (pss_one (ps_ret pe_non)))))), ?_⟩
  refine body_of h fun J ds Φ hT => ?_
  try dsimp only [cxOf]
  obtain ⟨n, c, r, rfl, hc, hok, rfl⟩ := hT
  have row : ∃ (x : Str) (xs : List Dt), rowD r = .list (.str x :: xs) ∧ xs.length ≤ 2 := by
    cases r with
    | or ws => exact ⟨_, _, rfl, by simp⟩
    | few m ns => exact ⟨_, _, rfl, by simp⟩
    | no k => exact ⟨_, _, rfl, by simp⟩
  obtain ⟨x, xs, hx, hxl⟩ := row
  have hat : atI (PyData.str x :: xs) 0 = some (.str x) := by
    rw [atI_pos (Int.le_refl 0) (by rw [List.length_cons]; omega)]
    rfl
  show SW J K _ [.val (.int (n : Nat)), .val (rowD r), .val (.int (c : Nat))] _
  rw [hx]
  repeat walk_at "ew"
  refine ⟨_, ⟨_, rfl, rfl⟩, fun d hd => ?_⟩
  subst hd
  repeat walk_at "ew"
  rw [decide_eq_false (show ¬ (((PyData.str x :: xs).length : Nat) : Int) = 0 by rw [List.length_cons]; omega)]
  repeat walk_at "ew"
  refine rd_ixL hat ⟨(fun z q => nomatch q), true, kb_ss, ?_⟩
  repeat walk_at "ew"
  rw [decide_eq_false (show ¬ (24 : Int) ≤ (c : Nat) by omega)]
  repeat walk_at "ew"
  refine rd_ixL hat ?_
  repeat walk_at "ew"
  cases r with
  | or ws =>
    cases hx
    rw [decide_eq_true (show (Str.ofString "or") = Str.ofString "or" from rfl)]
    repeat walk_at "ew"
    exact ⟨_, ⟨n, c, ws, rfl, hok, rfl⟩, fun d hd => hd⟩
  | few m ns =>
    cases hx
    rw [decide_eq_false (show ¬ (Str.ofString "few") = Str.ofString "or" by decide +kernel)]
    repeat walk_at "ew"
    refine rd_ixL hat ?_
    repeat walk_at "ew"
    rw [decide_eq_true (show (Str.ofString "few") = Str.ofString "few" from rfl)]
    repeat walk_at "ew"
    exact ⟨_, ⟨n, c, m, ns, rfl, hok, rfl⟩, fun d hd => hd⟩
  | no k =>
    cases hx
    rw [decide_eq_false (show ¬ (Str.ofString "not") = Str.ofString "or" by decide +kernel)]
    repeat walk_at "ew"
    refine rd_ixL hat ?_
    repeat walk_at "ew"
    rw [decide_eq_false (show ¬ (Str.ofString "not") = Str.ofString "few" by decide +kernel)]
    repeat walk_at "ew"
    refine rd_ixL hat ?_
    repeat walk_at "ew"
    rw [decide_eq_true (show (Str.ofString "not") = Str.ofString "not" from rfl)]
    repeat walk_at "ew"
    exact ⟨_, ⟨c, k, rfl, hok.1, hok.2, rfl⟩, fun d hd => hd⟩
theorem zip_map {α β : Type} (g : α → β) (xs : List α) : (xs.zipIdx.map fun p => g p.1) = xs.map g := by
  have : (xs.zipIdx.map fun p => g p.1) = (xs.zipIdx.map Prod.fst).map g := by rw [List.map_map]; rfl
  rw [this, List.zipIdx_map_fst]
theorem zip_at {α : Type} {xs : List α} {pre post : List (α × Nat)} {x : α × Nat} (h : xs.zipIdx = pre ++ x :: post) : x.2 = pre.length ∧ xs[pre.length]? = some x.1 := by
  have hx : xs.zipIdx[pre.length]? = some x := by rw [h]; simp
  rw [List.getElem?_zipIdx] at hx
  cases hz : xs[pre.length]? with
  | none => rw [hz] at hx; cases hx
  | some y =>
    rw [hz] at hx
    have := Option.some.inj hx
    subst this
    exact ⟨by simp, rfl⟩
abbrev s_made_rules : Stmt := topS 19
theorem sc_made_rules : FnScope ["n", "rows", "rules", "at", "thing", "rule"] ["n", "rows"] (defScope s_made_rules) := ⟨rfl, rfl, rfl, by decide +kernel, rfl, by decide +kernel, by decide +kernel⟩
def T_made_rules : Tr := fun ds Φ => ∃ (n : Nat) (rows : List Rl), ds = [.int (n : Nat), .list (rows.map rowD)] ∧ n ≤ 8 ∧ RlsOk n rows ∧ Φ = fun d => d = .list ((rows.map madeRl).map rlD)
theorem ok_made_rules (F : Fun K "made_rules" "made_rules" s_made_rules f fd) (B : Blt mg) (f_is_row : Fn P w K mg base "is_row" 1 ["thing"] T_is_row) (f_look_at_names : Fn P w K mg base "look_at_names" 3 ["n"] T_look_at_names)
    (f_made_rule : Fn P w K mg base "made_rule" 5 ["n", "thing", "count"] T_made_rule) : FnOk P w K mg base CX0 6 f fd ["n", "rows"] (spD K T_made_rules) := by
  refine F.ok sc_made_rules (fun vs H Q E h => spD_len (by rintro _ _ ⟨_, _, rfl, _⟩; rfl) h) (fun cdv A outer s H vs Q E hr h => ?_)
  refine ⟨_, (pss_cons (ps_expr (pe_fn f_look_at_names (hr.mono (by omega)) (pa_cons (pv 0) pa_nil))) (pss_cons (ps_if (pt_not (pt_val (pe_fn f_is_row (hr.mono (by omega)) (pa_cons (pv 1) pa_nil)))) (pss_one ps_never) pss_nil) (pss_cons (ps_set (i := 2) sc_made_rules.nd rfl (by first | exact Or.inl rfl | exact Or.inr rfl) (pe_lst pa_nil)) (pss_cons (ps_for PassesOwn.never rfl (pi_enum (by rfl) B.enumerate (pa_cons (pv 1) pa_nil)) (pg_tup rfl (pgs_cons (pg_name (i := 3) sc_made_rules.nd rfl (by first | exact Or.inl rfl | exact Or.inr rfl)) (pgs_cons (pg_name (i := 4) sc_made_rules.nd rfl (by first | exact Or.inl rfl | exact Or.inr rfl)) pgs_nil))) (pss_cons (ps_set (i := 5) sc_made_rules.nd rfl (by first | exact Or.inl rfl | exact Or.inr rfl) (pe_fn f_made_rule (hr.mono (by omega)) (pa_cons (pv 0) (pa_cons (pv 4) (pa_cons (pv 3) pa_nil))))) (pss_cons (ps_if (pt_cmpR op_isN (pv 5) pe_non (nomark _)) (pss_one ps_never) pss_nil) (pss_one (ps_expr (pe_bm PySem.F.plainAttrs_list PySem.F.slot_list_append PySem.F.type_list_append mt_append (pv 2) (pa_cons (pv 5) pa_nil))))))) (pss_one (ps_ret (pv 2))))))), ?_⟩
  refine body_of h fun J ds Φ hT => ?_
  try dsimp only [cxOf]
  obtain ⟨n, rows, rfl, hn, hok, rfl⟩ := hT
  show SW J K _ [.val (.int (n : Nat)), .val (.list (rows.map rowD)), .unk, .unk, .unk, .unk] _
  have hlen := hok.len
  refine sw_seq (sw_drop ?_)
  repeat walk_at "ew"
  refine ⟨_, ⟨n, rfl, hn, rfl⟩, fun _ _ => ?_⟩
  repeat walk_at "ew"
  refine ⟨_, ⟨_, rfl, rfl⟩, fun d hd => ?_⟩
  subst hd
  repeat walk_at "ew"
  refine sw_forF (vs := [3, 4]) rows.zipIdx (fun p => .tuple [.int ((p.2 : Nat) : Int), rowD p.1]) (fun pre => [.val (.int (n : Nat)), .val (.list (rows.map rowD)), .own (pre.map fun p => rlD (madeRl p.1)), .unk, .unk, .unk]) (iw_enum ?_)
  repeat walk_at "ew"
  refine ⟨_, rfl, enumD_map _ _, ⟨rfl, rfl, rfl, trivial⟩, fun pre x post hs => gw_tup rfl (gws_cons (by simp) (gws_cons (by simp) (gws_nil ?_))), ?_⟩
  · obtain ⟨z1, z2⟩ := zip_at hs
    have hpl : pre.length < rows.length := (List.getElem?_eq_some_iff.mp z2).1
    repeat walk_at "ew"
    refine ⟨_, ⟨n, x.2, x.1, rfl, by omega, by rw [z1]; exact hok.at_ _ _ z2, rfl⟩, fun d hd => ?_⟩
    subst hd
    repeat walk_at "ew"
    refine rd_isN_no (by cases x.1 <;> exact fun z => nomatch z) ?_
    repeat walk_at "ew"
    refine sw_append rfl rfl (by rw [List.length_map]; omega) ?_
    repeat walk_at "ew"
    refine ⟨rfl, rfl, ?_, trivial⟩
    rw [List.map_append]
    rfl
  · refine sw_retOwn rfl rfl ?_
    show PyData.list _ = _
    rw [zip_map (fun r => rlD (madeRl r)), List.map_map]
    rfl
abbrev s_made_musts : Stmt := topS 30
theorem sc_made_musts : FnScope ["thing", "count", "found", "at", "number"] ["thing", "count"] (defScope s_made_musts) := ⟨rfl, rfl, rfl, by decide +kernel, rfl, by decide +kernel, by decide +kernel⟩
def T_made_musts : Tr := fun ds Φ => ∃ (ks : List Int) (c : Nat), ds = [.list (iD ks), .int (c : Nat)] ∧ (∀ k ∈ ks, 0 ≤ k ∧ k < (c : Int)) ∧ ks.Nodup ∧ ks.length ≤ 60 ∧ Φ = fun d => d = .tuple (iD (sortI ks))
theorem ok_made_musts (F : Fun K "made_musts" "made_musts" s_made_musts f fd) (B : Blt mg) (f_is_row : Fn P w K mg base "is_row" 1 ["thing"] T_is_row) (f_is_number_in : Fn P w K mg base "is_number_in" 2 ["thing", "low", "high"] T_is_number_in) : FnOk P w K mg base CX0 3 f fd ["thing", "count"] (spD K T_made_musts) := by
  refine F.ok sc_made_musts (fun vs H Q E h => spD_len (by rintro _ _ ⟨_, _, rfl, _⟩; rfl) h) (fun cdv A outer s H vs Q E hr h => ?_)
  refine ⟨_, (pss_cons (ps_if (pt_not (pt_val (pe_fn f_is_row (hr.mono (by omega)) (pa_cons (pv 0) pa_nil)))) (pss_one ps_never) pss_nil) (pss_cons (ps_set (i := 2) sc_made_musts.nd rfl (by first | exact Or.inl rfl | exact Or.inr rfl) (pe_lst pa_nil)) (pss_cons (ps_for PassesOwn.never rfl (pi_enum (by rfl) B.enumerate (pa_cons (pv 0) pa_nil)) (pg_tup rfl (pgs_cons (pg_name (i := 3) sc_made_musts.nd rfl (by first | exact Or.inl rfl | exact Or.inr rfl)) (pgs_cons (pg_name (i := 4) sc_made_musts.nd rfl (by first | exact Or.inl rfl | exact Or.inr rfl)) pgs_nil))) (pss_cons (ps_if (PW.pt (pw_or (pt_not (pt_val (pe_fn f_is_number_in (hr.mono (by omega)) (pa_cons (pv 4) (pa_cons pe_int (pa_cons (pe_op op_sub (pv 1) pe_int) pa_nil)))))) (pw_or1 (pt_cmpR (op_inU (K := K) rfl) (pv 4) (pv 2) rfl)))) (pss_one ps_never) pss_nil) (pss_one (ps_expr (pe_bm PySem.F.plainAttrs_list PySem.F.slot_list_append PySem.F.type_list_append mt_append (pv 2) (pa_cons (pv 4) pa_nil)))))) (pss_one (ps_ret (pe_callTy call_tupleZT (by rfl) B.tuple (by decide +kernel) (pa_cons (pe_callB cr_sorted (by rfl) B.sorted (by decide +kernel) (pa_cons (pv 2) pa_nil)) pa_nil))))))), ?_⟩
  refine body_of h fun J ds Φ hT => ?_
  try dsimp only [cxOf]
  obtain ⟨ks, c, rfl, k1, k2, k3, rfl⟩ := hT
  show SW J K _ [.val (.list (iD ks)), .val (.int (c : Nat)), .unk, .unk, .unk] _
  repeat walk_at "ew"
  refine ⟨_, ⟨_, rfl, rfl⟩, fun d hd => ?_⟩
  subst hd
  repeat walk_at "ew"
  refine sw_forF (vs := [3, 4]) ks.zipIdx (fun p => .tuple [.int ((p.2 : Nat) : Int), .int p.1]) (fun pre => [.val (.list (iD ks)), .val (.int (c : Nat)), .own ((pre.map Prod.fst).map .int), .unk, .unk]) (iw_enum ?_)
  repeat walk_at "ew"
  refine ⟨_, rfl, enumD_map _ _, ⟨rfl, rfl, rfl, trivial⟩, fun pre x post hs => gw_tup rfl (gws_cons (by simp) (gws_cons (by simp) (gws_nil ?_))), ?_⟩
  · obtain ⟨z1, z2⟩ := zip_at hs
    have hpl : pre.length < ks.length := (List.getElem?_eq_some_iff.mp z2).1
    have hxm : x.1 ∈ ks := List.mem_of_getElem? z2
    obtain ⟨j1, j2⟩ := k1 x.1 hxm
    have hni : x.1 ∉ pre.map Prod.fst := by
      have e1 : ks = (pre ++ x :: post).map Prod.fst := by rw [← hs, List.zipIdx_map_fst]
      rw [e1, List.map_append, List.map_cons] at k2
      have := List.nodup_append.mp k2
      exact fun z => this.2.2 _ z _ (by simp) rfl
    repeat walk_at "ew"
    refine ⟨_, ⟨_, _, _, rfl, rfl⟩, fun d hd => ?_⟩
    subst hd
    rw [decide_eq_true (show (0 : Int) ≤ x.1 ∧ x.1 ≤ (c : Nat) - 1 by omega)]
    repeat walk_at "ew"
    refine rd_inI (neg := false) ?_
    repeat walk_at "ew"
    rw [decide_eq_false hni]
    repeat walk_at "ew"
    rw [if_neg (by decide)]
    repeat walk_at "ew"
    refine sw_append rfl rfl (by rw [List.length_map, List.length_map]; omega) ?_
    repeat walk_at "ew"
    refine ⟨rfl, rfl, ?_, trivial⟩
    rw [List.map_append, List.map_append]
    rfl
  · rw [List.zipIdx_map_fst]
    repeat walk_at "ew"
    refine rc_sorted (ns := ks) (by omega) fun ns' h1 h2 => ?_
    rw [sorted_is h1 h2]
    repeat walk_at "ew"
    exact rfl
abbrev s_is_wish : Stmt := topS 31
theorem sc_is_wish : FnScope ["thing", "count"] ["thing", "count"] (defScope s_is_wish) := ⟨rfl, rfl, rfl, by decide +kernel, rfl, by decide +kernel, by decide +kernel⟩
def T_is_wish : Tr := fun ds Φ => ∃ (c : Nat) (wi : Wish), ds = [wishRow wi, .int (c : Nat)] ∧ WishOk c wi ∧ wi.wt ≤ 10 ^ 30 ∧ Φ = fun d => d = .bool true
theorem ok_is_wish (F : Fun K "is_wish" "is_wish" s_is_wish f fd) (B : Blt mg) (c_MOST_RANK : ∃ t, mg "MOST_RANK" = some (.int 4 t)) (c_MOST_WEIGHT : ∃ t, mg "MOST_WEIGHT" = some (.int (10 ^ 30) t)) (f_is_row : Fn P w K mg base "is_row" 1 ["thing"] T_is_row)
    (f_is_number_in : Fn P w K mg base "is_number_in" 2 ["thing", "low", "high"] T_is_number_in) : FnOk P w K mg base CX0 3 f fd ["thing", "count"] (spD K T_is_wish) := by
  refine F.ok sc_is_wish (fun vs H Q E h => spD_len (by rintro _ _ ⟨_, _, rfl, _⟩; rfl) h) (fun cdv A outer s H vs Q E hr h => ?_)
  refine ⟨_, (pss_cons (ps_if (PW.pt (pw_or (pt_not (pt_val (pe_fn f_is_row (hr.mono (by omega)) (pa_cons (pv 0) pa_nil)))) (pw_or (pt_cmpR op_ne (pe_callB (call_lenU (K := K) rfl) (by rfl) B.len (by decide +kernel) (pa_cons (pv 0) pa_nil)) pe_int (nomark _)) (pw_or1 (pt_not (pt_val (pe_fn f_is_number_in (hr.mono (by omega)) (pa_cons (pe_ix (ix_U (K := K) rfl) (pv 0) pe_int (fun _ _ => rfl)) (pa_cons pe_int (pa_cons (pe_op op_sub (pv 1) pe_int) pa_nil)))))))))) (pss_one (ps_ret pe_bl)) pss_nil) (pss_one (ps_ret (pe_and (pe_fn f_is_number_in (hr.mono (by omega)) (pa_cons (pe_ix (ix_U (K := K) rfl) (pv 0) pe_int (fun _ _ => rfl)) (pa_cons pe_int (pa_cons (pe_cint c_MOST_RANK) pa_nil)))) (pe_one (pe_fn f_is_number_in (hr.mono (by omega)) (pa_cons (pe_ix (ix_U (K := K) rfl) (pv 0) pe_int (fun _ _ => rfl)) (pa_cons pe_int (pa_cons (pe_cint c_MOST_WEIGHT) pa_nil))))))))), ?_⟩
  refine body_of h fun J ds Φ hT => ?_
  try dsimp only [cxOf]
  obtain ⟨c, wi, rfl, wok, hw, rfl⟩ := hT
  have n0 := wok.n0
  have n1 := wok.n1
  have r0 := wok.r0
  have r1 := wok.r1
  have w0 := wok.w0
  show SW J K _ [.val (.list [.int wi.num, .int wi.rank, .int wi.wt]), .val (.int (c : Nat))] _
  repeat walk_at "ew"
  refine ⟨_, ⟨_, rfl, rfl⟩, fun d hd => ?_⟩
  subst hd
  repeat walk_at "ew"
  rw [show (!decide ((([PyData.int wi.num, .int wi.rank, .int wi.wt].length : Nat) : Int) = 3)) = false from rfl]
  repeat walk_at "ew"
  refine rd_ixL (d := .int wi.num) rfl ?_
  repeat walk_at "ew"
  refine ⟨_, ⟨_, _, _, rfl, rfl⟩, fun d hd => ?_⟩
  subst hd
  rw [decide_eq_true (show (0 : Int) ≤ wi.num ∧ wi.num ≤ (c : Nat) - 1 by omega)]
  repeat walk_at "ew"
  refine rd_ixL (d := .int wi.rank) rfl ?_
  repeat walk_at "ew"
  refine ⟨_, ⟨_, _, _, rfl, rfl⟩, fun d hd => ?_⟩
  subst hd
  rw [decide_eq_true (show (1 : Int) ≤ wi.rank ∧ wi.rank ≤ 4 by omega)]
  repeat walk_at "ew"
  refine rd_ixL (d := .int wi.wt) rfl ?_
  repeat walk_at "ew"
  refine ⟨_, ⟨_, _, _, rfl, rfl⟩, fun d hd => ?_⟩
  subst hd
  rw [decide_eq_true (show (1 : Int) ≤ wi.wt ∧ wi.wt ≤ 10 ^ 30 from ⟨w0, hw⟩)]
  repeat walk_at "ew"
abbrev s_made_wishes : Stmt := topS 32
theorem sc_made_wishes : FnScope ["thing", "count", "found", "at", "wish"] ["thing", "count"] (defScope s_made_wishes) := ⟨rfl, rfl, rfl, by decide +kernel, rfl, by decide +kernel, by decide +kernel⟩
def T_made_wishes : Tr := fun ds Φ => ∃ (ws : List Wish) (c : Nat), ds = [.list (ws.map wishRow), .int (c : Nat)] ∧ (∀ x ∈ ws, WishOk c x ∧ x.wt ≤ 10 ^ 30) ∧ ws.length ≤ 12 ∧ Φ = fun d => d = .list (ws.map wishD)
theorem ok_made_wishes (F : Fun K "made_wishes" "made_wishes" s_made_wishes f fd) (B : Blt mg) (c_MOST_WISHES : ∃ t, mg "MOST_WISHES" = some (.int 12 t)) (f_is_row : Fn P w K mg base "is_row" 1 ["thing"] T_is_row)
    (f_is_wish : Fn P w K mg base "is_wish" 3 ["thing", "count"] T_is_wish) : FnOk P w K mg base CX0 4 f fd ["thing", "count"] (spD K T_made_wishes) := by
  refine F.ok sc_made_wishes (fun vs H Q E h => spD_len (by rintro _ _ ⟨_, _, rfl, _⟩; rfl) h) (fun cdv A outer s H vs Q E hr h => ?_)
  refine ⟨_, (pss_cons (ps_if (pt_not (pt_val (pe_fn f_is_row (hr.mono (by omega)) (pa_cons (pv 0) pa_nil)))) (pss_one ps_never) pss_nil) (pss_cons (ps_set (i := 2) sc_made_wishes.nd rfl (by first | exact Or.inl rfl | exact Or.inr rfl) (pe_lst pa_nil)) (pss_cons (ps_for PassesOwn.never rfl (pi_enum (by rfl) B.enumerate (pa_cons (pv 0) pa_nil)) (pg_tup rfl (pgs_cons (pg_name (i := 3) sc_made_wishes.nd rfl (by first | exact Or.inl rfl | exact Or.inr rfl)) (pgs_cons (pg_name (i := 4) sc_made_wishes.nd rfl (by first | exact Or.inl rfl | exact Or.inr rfl)) pgs_nil))) (pss_cons (ps_if (PW.pt (pw_or (pt_cmpR (op_eqU (K := K) rfl hr.units) (pv 3) (pe_cint c_MOST_WISHES) (nomark _)) (pw_or1 (pt_not (pt_val (pe_fn f_is_wish (hr.mono (by omega)) (pa_cons (pv 4) (pa_cons (pv 1) pa_nil)))))))) (pss_one ps_never) pss_nil) (pss_one (ps_expr (pe_bm PySem.F.plainAttrs_list PySem.F.slot_list_append PySem.F.type_list_append mt_append (pv 2) (pa_cons (pe_callTy call_tupleZT (by rfl) B.tuple (by decide +kernel) (pa_cons (pv 4) pa_nil)) pa_nil)))))) (pss_one (ps_ret (pv 2)))))), ?_⟩
  refine body_of h fun J ds Φ hT => ?_
  try dsimp only [cxOf]
  obtain ⟨ws, c, rfl, k1, k2, rfl⟩ := hT
  show SW J K _ [.val (.list (ws.map wishRow)), .val (.int (c : Nat)), .unk, .unk, .unk] _
  repeat walk_at "ew"
  refine ⟨_, ⟨_, rfl, rfl⟩, fun d hd => ?_⟩
  subst hd
  repeat walk_at "ew"
  refine sw_forF (vs := [3, 4]) ws.zipIdx (fun p => .tuple [.int ((p.2 : Nat) : Int), wishRow p.1]) (fun pre => [.val (.list (ws.map wishRow)), .val (.int (c : Nat)), .own (pre.map fun p => wishD p.1), .unk, .unk]) (iw_enum ?_)
  repeat walk_at "ew"
  refine ⟨_, rfl, enumD_map _ _, ⟨rfl, rfl, rfl, trivial⟩, fun pre x post hs => gw_tup rfl (gws_cons (by simp) (gws_cons (by simp) (gws_nil ?_))), ?_⟩
  · obtain ⟨z1, z2⟩ := zip_at hs
    have hpl : pre.length < ws.length := (List.getElem?_eq_some_iff.mp z2).1
    have hxm : x.1 ∈ ws := List.mem_of_getElem? z2
    obtain ⟨j1, j2⟩ := k1 x.1 hxm
    repeat walk_at "ew"
    rw [decide_eq_false (show ¬ ((x.2 : Nat) : Int) = 12 by omega)]
    repeat walk_at "ew"
    refine ⟨_, ⟨c, x.1, rfl, j1, j2, rfl⟩, fun d hd => ?_⟩
    subst hd
    repeat walk_at "ew"
    refine sw_append rfl rfl (by rw [List.length_map]; omega) ?_
    repeat walk_at "ew"
    refine rc_tuple (ds := [.int x.1.num, .int x.1.rank, .int x.1.wt]) ?_
    refine ⟨rfl, rfl, ?_, trivial⟩
    rw [List.map_append]
    rfl
  · refine sw_retOwn rfl rfl ?_
    show PyData.list _ = _
    rw [zip_map (fun r => wishD r)]
abbrev s_made_house : Stmt := topS 33
theorem sc_made_house : FnScope ["n", "rows", "musts", "wishes", "rules", "numbers"] ["n", "rows", "musts", "wishes"] (defScope s_made_house) := ⟨rfl, rfl, rfl, by decide +kernel, rfl, by decide +kernel, by decide +kernel⟩
def T_made_house : Tr := fun ds Φ => ∃ (p : Pts), ds = [.int (p.n : Nat), .list (p.rows.map rowD), .list (iD p.obl), .list (p.wan.map wishRow)] ∧ PtsOk p ∧ Φ = fun d => d = hsD (made p)
theorem ok_made_house (F : Fun K "made_house" "made_house" s_made_house f fd) (B : Blt mg) (f_made_rules : Fn P w K mg base "made_rules" 6 ["n", "rows"] T_made_rules) (f_made_musts : Fn P w K mg base "made_musts" 3 ["thing", "count"] T_made_musts)
    (f_made_wishes : Fn P w K mg base "made_wishes" 4 ["thing", "count"] T_made_wishes) : FnOk P w K mg base CX0 7 f fd ["n", "rows", "musts", "wishes"] (spD K T_made_house) := by
  refine F.ok sc_made_house (fun vs H Q E h => spD_len (by rintro _ _ ⟨_, rfl, _⟩; rfl) h) (fun cdv A outer s H vs Q E hr h => ?_)
  refine ⟨_, (pss_cons (ps_set (i := 4) sc_made_house.nd rfl (by first | exact Or.inl rfl | exact Or.inr rfl) (pe_fn f_made_rules (hr.mono (by omega)) (pa_cons (pv 0) (pa_cons (pv 1) pa_nil)))) (pss_cons (ps_set (i := 5) sc_made_house.nd rfl (by first | exact Or.inl rfl | exact Or.inr rfl) (pe_fn f_made_musts (hr.mono (by omega)) (pa_cons (pv 2) (pa_cons (pe_callB (call_lenU (K := K) rfl) (by rfl) B.len (by decide +kernel) (pa_cons (pv 4) pa_nil)) pa_nil)))) (pss_one (ps_ret (pe_tupZ (pa_cons (pv 0) (pa_cons (pv 4) (pa_cons (pv 5) (pa_cons (pe_fn f_made_wishes (hr.mono (by omega)) (pa_cons (pv 3) (pa_cons (pe_callB (call_lenU (K := K) rfl) (by rfl) B.len (by decide +kernel) (pa_cons (pv 4) pa_nil)) pa_nil))) pa_nil))))))))), ?_⟩
  refine body_of h fun J ds Φ hT => ?_
  try dsimp only [cxOf]
  obtain ⟨p, rfl, ok, rfl⟩ := hT
  show SW J K _ [.val (.int (p.n : Nat)), .val (.list (p.rows.map rowD)), .val (.list (iD p.obl)), .val (.list (p.wan.map wishRow)), .unk, .unk] _
  have hl : ((p.rows.map madeRl).map rlD).length = p.rows.length := by rw [List.length_map, List.length_map]
  repeat walk_at "ew"
  refine ⟨_, ⟨p.n, p.rows, rfl, ok.n, ok.rows, rfl⟩, fun d hd => ?_⟩
  subst hd
  repeat walk_at "ew"
  rw [hl]
  refine ⟨_, ⟨p.obl, p.rows.length, rfl, ok.obl, ok.ond, ok.olen, rfl⟩, fun d hd => ?_⟩
  subst hd
  repeat walk_at "ew"
  rw [hl]
  refine ⟨_, ⟨p.wan, p.rows.length, rfl, ok.wan, ok.wlen, rfl⟩, fun d hd => ?_⟩
  subst hd
  repeat walk_at "ew"
  exact ⟨(by show 4 ≤ 100000; decide), rfl⟩
end
end WD

namespace WD
open PySem PySem.Spec PyProof.Rows L2 Evl
local macro_rules | `(tactic| walk_at "ew") => `(tactic| first
  | (with_reducible refine sw_seq ?_)
  | (with_reducible refine sw_next ?_)
  | (with_reducible refine sw_if ?_)
  | (with_reducible refine sw_setF (ef_lst (ed_nil (And.intro (Nat.zero_le _) ?_))))
  | (with_reducible refine sw_set ?_)
  | (with_reducible refine sw_ret ?_)
  | ((with_reducible refine' ew_var ?hv ?_); (case hv => rfl))
  | ((with_reducible refine' ev_own ?hv ?_); (case hv => rfl))
  | (with_reducible refine ev_of ?_)
  | (with_reducible refine ew_int ?_)
  | (with_reducible refine ew_str ?_)
  | (with_reducible refine ew_non ?_)
  | (with_reducible refine ew_bl ?_)
  | (with_reducible refine ew_op ?_)
  | (with_reducible refine ew_isi ?_)
  | (with_reducible refine ew_isRow ?_)
  | (with_reducible refine ew_cb ?_)
  | (with_reducible refine ea_cons ?_)
  | (with_reducible refine ea_nil ?_)
  | (with_reducible refine ed_cons ?_)
  | (with_reducible refine ed_nil ?_)
  | (with_reducible refine ew_tup ?_)
  | (with_reducible refine ew_lst ?_)
  | (with_reducible refine ew_call ?_)
  | (with_reducible refine ew_if ?_)
  | (with_reducible refine et_test ?_)
  | (with_reducible refine et_B ?_)
  | (with_reducible refine et_and ?_)
  | (with_reducible refine et_or ?_)
  | (with_reducible refine et_not ?_)
  | (with_reducible refine ew_chain ?_)
  | (with_reducible refine rd_add ?_)
  | (with_reducible refine rd_sub ?_)
  | (with_reducible refine rd_eq ?_)
  | (with_reducible refine rd_eqs ?_)
  | (with_reducible refine rd_le ?_)
  | (with_reducible refine rd_ge ?_)
  | (with_reducible refine rd_lt ?_)
  | (with_reducible refine rd_gt ?_)
  | (with_reducible refine rc_abs ?_)
  | (with_reducible refine rc_int ?_)
  | (with_reducible refine rc_lenL ?_)
  | (with_reducible refine rc_lenT ?_)
  | (with_reducible refine rc_max2 ?_)
  | (with_reducible refine rc_tuple ?_)
  | (with_reducible refine ew_un ?_)
  | (with_reducible refine ew_andV ?_)
  | (with_reducible refine ew_orV ?_)
  | (with_reducible refine ew_notV ?_)
  | (with_reducible refine rd_neI ?_)
  | (with_reducible refine ex_i ?_)
  | (with_reducible refine ex_b ?_)
  | (with_reducible refine it_T ?_)
  | (with_reducible refine it_F ?_)
  | (with_reducible refine it_NT ?_)
  | (with_reducible refine it_NF ?_))

section
variable {P : Program} {w : World} {K : PySem.W.Frag} {mg : Str → Option Value} {base : Heap} {f : Addr} {fd : FuncData}
theorem iD_snoc (ns : List Int) (x : Int) : iD ns ++ [.int x] = iD (ns ++ [x]) := by simp [iD]
theorem iD_app (ns ms : List Int) : iD ns ++ iD ms = iD (ns ++ ms) := by simp [iD]
theorem iD_len (ns : List Int) : (iD ns).length = ns.length := by simp [iD]
abbrev s__law_row_of : Stmt := topS 49
theorem sc__law_row_of : FnScope ["cell", "found", "left", "k", "one"] ["cell"] (defScope s__law_row_of) := ⟨rfl, rfl, rfl, by decide +kernel, rfl, by decide +kernel, by decide +kernel⟩
def T__law_row_of : Tr := fun ds Φ => ∃ c : Int, ds = [.int c] ∧ Φ = fun d => ∃ ns : List Int, ns.length ≤ 60 ∧ d = .list (iD ns)
theorem ok__law_row_of (F : Fun K "_law_row_of" "_law_row_of" s__law_row_of f fd) (B : Blt mg) : FnOk P w K mg base CX0 1 f fd ["cell"] (spD K T__law_row_of) := by
  refine F.ok sc__law_row_of (fun vs H Q E h => spD_len (by rintro _ _ ⟨_, rfl, _⟩; rfl) h) (fun cdv A outer s H vs Q E hr h => ?_)
  refine ⟨_, (pss_cons (ps_set (i := 1) sc__law_row_of.nd rfl (by first | exact Or.inl rfl | exact Or.inr rfl) (pe_lst pa_nil)) (pss_cons (ps_set (i := 2) sc__law_row_of.nd rfl (by first | exact Or.inl rfl | exact Or.inr rfl) (pe_callB call_abs (by rfl) B.abs (by decide +kernel) (pa_cons (pv 0) pa_nil))) (pss_cons (ps_if (pt_cmpR (op_geU (K := K) rfl hr.units) (pv 2) (pe_op op_pow pe_int pe_int) (nomark _)) (pss_cons (ps_for PassesOwn.never rfl (pi_range1 (by rfl) B.range (pa_cons pe_int pa_nil)) (pg_name (i := 3) sc__law_row_of.nd rfl (by first | exact Or.inl rfl | exact Or.inr rfl)) (pss_one (ps_if (pt_cmpR op_gt (pv 2) pe_int (nomark _)) (pss_cons (ps_expr (pe_bm PySem.F.plainAttrs_list PySem.F.slot_list_append PySem.F.type_list_append mt_append (pv 1) (pa_cons (pe_op op_modN (pv 2) (pe_op op_pow pe_int pe_int)) pa_nil))) (pss_one (ps_set (i := 2) sc__law_row_of.nd rfl (by first | exact Or.inl rfl | exact Or.inr rfl) (pe_op op_fdivN (pv 2) (pe_op op_pow pe_int pe_int))))) pss_nil))) (pss_one (ps_ret (pv 1)))) pss_nil) (pss_cons (ps_for PassesOwn.never rfl (pi_range1 (by rfl) B.range (pa_cons pe_int pa_nil)) (pg_name (i := 3) sc__law_row_of.nd rfl (by first | exact Or.inl rfl | exact Or.inr rfl)) (pss_cons (ps_set (i := 4) sc__law_row_of.nd rfl (by first | exact Or.inl rfl | exact Or.inr rfl) (pe_op op_modN (pe_op (op_addU (K := K) rfl) (pe_op (op_addU (K := K) rfl) (pe_op (op_mulU (K := K) rfl) (pv 0) pe_int) (pe_op (op_mulU (K := K) rfl) pe_int (pv 3))) pe_int) pe_int)) (pss_cons (ps_set (i := 4) sc__law_row_of.nd rfl (by first | exact Or.inl rfl | exact Or.inr rfl) (pe_op op_modN (pe_op (op_mulU (K := K) rfl) (pv 4) (pv 4)) pe_int)) (pss_one (ps_expr (pe_bm PySem.F.plainAttrs_list PySem.F.slot_list_append PySem.F.type_list_append mt_append (pv 1) (pa_cons (pe_op op_modN (pe_op op_fdivN (pe_op op_modN (pe_op (op_mulU (K := K) rfl) (pe_op (op_addU (K := K) rfl) (pv 4) (pe_op (op_mulU (K := K) rfl) pe_int (pe_op (op_addU (K := K) rfl) (pv 3) pe_int))) pe_int) pe_int) pe_int) (pe_op op_pow pe_int pe_int)) pa_nil))))))) (pss_one (ps_ret (pv 1))))))), ?_⟩
  refine body_of h fun J ds Φ hT => ?_
  try dsimp only [cxOf]
  obtain ⟨c, rfl, rfl⟩ := hT
  show SW J K _ [.val (.int c), .unk, .unk, .unk, .unk] _
  repeat walk_at "ew"
  refine rd_pow ⟨by decide, by decide, by decide⟩ ?_
  repeat walk_at "ew"
  refine it_D (fun hbig => ?_) (fun hsm => ?_)
  · repeat walk_at "ew"
    refine sw_for (vs := [3]) (iw_range1 ?_)
    repeat walk_at "ew"
    refine ⟨60, rfl, by decide, by decide, fun i A1 => ∃ ns l, ns.length ≤ i ∧ A1 = [.val (.int c), .own (iD ns), .val (.int l), .unk, .unk], ⟨_, ⟨[], _, Nat.le_refl _, rfl⟩, ⟨rfl, rfl, rfl, trivial⟩⟩, ?_, ?_⟩
    · rintro i d A1 hd ⟨ns, l, hl, rfl⟩
      have hi : i < 60 := by
        have := (List.getElem?_eq_some_iff.mp hd).1
        rw [rangeD_len] at this
        exact this
      refine gw_name (by simp) ?_
      repeat walk_at "ew"
      refine it_D (fun hp => ?_) (fun hn => ?_)
      · repeat walk_at "ew"
        refine sw_append rfl rfl (by rw [iD_len]; omega) ?_
        repeat walk_at "ew"
        refine rd_pow ⟨by decide, by decide, by decide⟩ (rd_mod (by decide) ?_)
        repeat walk_at "ew"
        refine rd_pow ⟨by decide, by decide, by decide⟩ (rd_fdiv ⟨by decide, by decide⟩ ?_)
        refine ⟨_, ⟨ns ++ [_], _, ?_, rfl⟩, ⟨rfl, congrArg Ent.own (iD_snoc ns _), rfl, trivial⟩⟩
        rw [List.length_append]
        exact Nat.succ_le_succ hl
      · repeat walk_at "ew"
        exact ⟨_, ⟨ns, l, by omega, rfl⟩, ⟨rfl, rfl, rfl, trivial⟩⟩
    · rintro A1 ⟨ns, l, hl, rfl⟩
      rw [rangeD_len] at hl
      exact sw_retOwn rfl rfl ⟨ns, hl, rfl⟩
  · repeat walk_at "ew"
    refine sw_for (vs := [3]) (iw_range1 ?_)
    repeat walk_at "ew"
    refine ⟨9, rfl, by decide, by decide, fun i A1 => ∃ ns, ns.length ≤ i ∧ A1 = [.val (.int c), .own (iD ns), .unk, .unk, .unk], ⟨_, ⟨[], Nat.le_refl _, rfl⟩, ⟨rfl, rfl, trivial⟩⟩, ?_, ?_⟩
    · rintro i d A1 hd ⟨ns, hl, rfl⟩
      have hi : i < 9 := by
        have := (List.getElem?_eq_some_iff.mp hd).1
        rw [rangeD_len] at this
        exact this
      have hd' : (rangeD 0 9)[i]? = some d := hd
      rw [rangeD_get hi] at hd'
      cases hd'
      refine gw_name (by simp) ?_
      repeat walk_at "ew"
      refine rd_mul (cmulR (by decide) (by decide)) ?_
      repeat walk_at "ew"
      refine rd_mul (cmulL (by decide) (by decide)) ?_
      repeat walk_at "ew"
      refine rd_mod (by decide) ?_
      generalize hx : (c * 48271 + 977 * (0 + (i : Nat)) + 1).fmod 2147483647 = x
      have x0 : 0 ≤ x := by rw [← hx]; exact Int.fmod_nonneg_of_pos _ (by decide)
      have x1 : x < 2147483647 := by rw [← hx]; exact Int.fmod_lt_of_pos _ (by decide)
      repeat walk_at "ew"
      refine rd_mul (cmulR (by omega) (by omega)) ?_
      repeat walk_at "ew"
      refine rd_mod (by decide) ?_
      repeat walk_at "ew"
      refine sw_append rfl rfl (by rw [iD_len]; omega) ?_
      repeat walk_at "ew"
      refine rd_mul (cmulL (by decide) (by decide)) ?_
      repeat walk_at "ew"
      refine rd_mul (cmulR (by decide) (by decide)) ?_
      repeat walk_at "ew"
      refine rd_mod (by decide) ?_
      repeat walk_at "ew"
      refine rd_fdiv ⟨by decide, by decide⟩ ?_
      repeat walk_at "ew"
      refine rd_pow ⟨by decide, by decide, by decide⟩ (rd_mod (by decide) ?_)
      refine ⟨_, ⟨ns ++ [_], ?_, rfl⟩, ⟨rfl, congrArg Ent.own (iD_snoc ns _), trivial⟩⟩
      rw [List.length_append]
      exact Nat.succ_le_succ hl
    · rintro A1 ⟨ns, hl, rfl⟩
      rw [rangeD_len] at hl
      exact sw_retOwn rfl rfl ⟨ns, Nat.le_trans hl (by decide), rfl⟩
end
end WD

namespace WD
open PySem PySem.Spec PyProof.Rows L2 Evl
local macro_rules | `(tactic| walk_at "ew") => `(tactic| first
  | (with_reducible refine sw_seq ?_)
  | (with_reducible refine sw_next ?_)
  | (with_reducible refine sw_if ?_)
  | (with_reducible refine sw_setF (ef_lst (ed_nil (And.intro (Nat.zero_le _) ?_))))
  | (with_reducible refine sw_set ?_)
  | (with_reducible refine sw_ret ?_)
  | ((with_reducible refine' ew_var ?hv ?_); (case hv => rfl))
  | ((with_reducible refine' ev_own ?hv ?_); (case hv => rfl))
  | (with_reducible refine ev_of ?_)
  | (with_reducible refine ew_int ?_)
  | (with_reducible refine ew_str ?_)
  | (with_reducible refine ew_non ?_)
  | (with_reducible refine ew_bl ?_)
  | (with_reducible refine ew_op ?_)
  | (with_reducible refine ew_isi ?_)
  | (with_reducible refine ew_isRow ?_)
  | (with_reducible refine ew_cb ?_)
  | (with_reducible refine ea_cons ?_)
  | (with_reducible refine ea_nil ?_)
  | (with_reducible refine ed_cons ?_)
  | (with_reducible refine ed_nil ?_)
  | (with_reducible refine ew_tup ?_)
  | (with_reducible refine ew_lst ?_)
  | (with_reducible refine ew_call ?_)
  | (with_reducible refine ew_if ?_)
  | (with_reducible refine et_test ?_)
  | (with_reducible refine et_B ?_)
  | (with_reducible refine et_and ?_)
  | (with_reducible refine et_or ?_)
  | (with_reducible refine et_not ?_)
  | (with_reducible refine ew_chain ?_)
  | (with_reducible refine rd_add ?_)
  | (with_reducible refine rd_sub ?_)
  | (with_reducible refine rd_eq ?_)
  | (with_reducible refine rd_eqs ?_)
  | (with_reducible refine rd_le ?_)
  | (with_reducible refine rd_ge ?_)
  | (with_reducible refine rd_lt ?_)
  | (with_reducible refine rd_gt ?_)
  | (with_reducible refine rc_abs ?_)
  | (with_reducible refine rc_int ?_)
  | (with_reducible refine rc_lenL ?_)
  | (with_reducible refine rc_lenT ?_)
  | (with_reducible refine rc_max2 ?_)
  | (with_reducible refine rc_tuple ?_)
  | (with_reducible refine ew_un ?_)
  | (with_reducible refine ew_andV ?_)
  | (with_reducible refine ew_orV ?_)
  | (with_reducible refine ew_notV ?_)
  | (with_reducible refine rd_neI ?_)
  | (with_reducible refine ex_i ?_)
  | (with_reducible refine ex_b ?_)
  | (with_reducible refine it_T ?_)
  | (with_reducible refine it_F ?_)
  | (with_reducible refine it_NT ?_)
  | (with_reducible refine it_NF ?_))

section
variable {P : Program} {w : World} {K : PySem.W.Frag} {mg : Str → Option Value} {base : Heap} {f : Addr} {fd : FuncData}
/-! the jar -/
abbrev jk (l : Addr) (k m : Int) : List (L2.Key × V) := [(Sum.inr "draws", .ref l), (Sum.inr "at", .int k), (Sum.inr "more", .int m)]
theorem jn1 : ¬ ("draws" : Str) = "at" := by decide +kernel
theorem jn2 : ¬ ("draws" : Str) = "more" := by decide +kernel
theorem jn3 : ¬ ("at" : Str) = "more" := by decide +kernel
theorem jn4 : ¬ ("more" : Str) = "at" := by decide +kernel
section
variable {σ : L2.St} {H : Hp} {a l : Addr} {k m i : Int} {Q : VK} {D : Ends} {tv : TE}
theorem j_at (hs : σ[0]? = some (some (.ref a))) (h : H a = some (.dK (jk l k m))) (q : Q (.int k) H) : tDGet (tVar 0) (tC (.str "at")) σ H Q :=
  ⟨.ref a, hs, a, .int k, rfl, .inl ⟨_, Sum.inr "at", .inl h, rfl, by simp [valV, List.find?_cons, jn1]⟩, q⟩
theorem j_draws (hs : σ[0]? = some (some (.ref a))) (h : H a = some (.dK (jk l k m))) (q : Q (.ref l) H) : tDGet (tVar 0) (tC (.str "draws")) σ H Q :=
  ⟨.ref a, hs, a, .ref l, rfl, .inl ⟨_, Sum.inr "draws", .inl h, rfl, by simp [valV, List.find?_cons]⟩, q⟩
theorem j_more (hs : σ[0]? = some (some (.ref a))) (h : H a = some (.dK (jk l k m))) (q : Q (.int m) H) : tDGet (tVar 0) (tC (.str "more")) σ H Q :=
  ⟨.ref a, hs, a, .int m, rfl, .inl ⟨_, Sum.inr "more", .inl h, rfl, by simp [valV, List.find?_cons, jn2, jn3]⟩, q⟩
theorem j_pat (hs : σ[0]? = some (some (.ref a))) (h : H a = some (.dK (jk l k m))) (q : D.nx σ (upd H a (.dK (jk l i m)))) :
    (tVar 0) σ H fun x H2 => (tC (.str "at")) σ H2 fun y H3 => ∃ a H4, x = .ref a ∧ DPut H3 a y (.int i) H4 ∧ D.nx σ H4 :=
  ⟨.ref a, hs, a, _, rfl, .inl ⟨_, Sum.inr "at", h, rfl, (by show 3 < sizeLine; decide), by simp [putK, jn1, jn4]⟩, q⟩
theorem j_pmore (hs : σ[0]? = some (some (.ref a))) (h : H a = some (.dK (jk l k m))) (q : D.nx σ (upd H a (.dK (jk l k i)))) :
    (tVar 0) σ H fun x H2 => (tC (.str "more")) σ H2 fun y H3 => ∃ a H4, x = .ref a ∧ DPut H3 a y (.int i) H4 ∧ D.nx σ H4 :=
  ⟨.ref a, hs, a, _, rfl, .inl ⟨_, Sum.inr "more", h, rfl, (by show 3 < sizeLine; decide), by simp [putK, jn2, jn3]⟩, q⟩
end
abbrev s__law_take : Stmt := topS 51
theorem sc__law_take : FnScope ["jar", "many"] ["jar", "many"] (defScope s__law_take) := ⟨rfl, rfl, rfl, by decide +kernel, rfl, by decide +kernel, by decide +kernel⟩
def T__law_take : Tr := fun ds Φ => ∃ m : Int, ds = [jarD, .int m] ∧ 1 ≤ m ∧ Φ = fun d => ∃ r : Int, 0 ≤ r ∧ r < m ∧ d = .int r
theorem ok__law_take (F : Fun K "_law_take" "_law_take" s__law_take f fd) (B : Blt mg) : FnOk P w K mg base CX0 1 f fd ["jar", "many"] (spD K T__law_take) := by
  refine F.ok sc__law_take (fun vs H Q E h => spD_len (by rintro _ _ ⟨_, rfl, _⟩; rfl) h) (fun cdv A outer s H vs Q E hr h => ?_)
  refine ⟨_, (pss_cons (ps_if (pt_cmpR op_lt (pe_dget (hu_of hr) (pv 0) pe_str (fun _ _ => rfl)) (pe_callB (call_lenU (K := K) rfl) (by rfl) B.len (by decide +kernel) (pa_cons (pe_dget (hu_of hr) (pv 0) pe_str (fun _ _ => rfl)) pa_nil)) (nomark _)) (pss_cons (ps_dput (hu_of hr) (pv 0) pe_str (pe_op (op_addU (K := K) rfl) (pe_dget (hu_of hr) (pv 0) pe_str (fun _ _ => rfl)) pe_int) rfl) (pss_one (ps_ret (pe_op op_modN (pe_op op_fdivN (pe_ix (ix_U (K := K) rfl) (pe_dget (hu_of hr) (pv 0) pe_str (fun _ _ => rfl)) (pe_op op_sub (pe_dget (hu_of hr) (pv 0) pe_str (fun _ _ => rfl)) pe_int) (fun _ _ => rfl)) pe_int) (pv 1))))) pss_nil) (pss_cons (ps_dput (hu_of hr) (pv 0) pe_str (pe_op op_modN (pe_op (op_addU (K := K) rfl) (pe_op op_pow (pe_dget (hu_of hr) (pv 0) pe_str (fun _ _ => rfl)) pe_int) pe_int) pe_int) rfl) (pss_one (ps_ret (pe_op op_modN (pe_op op_fdivN (pe_dget (hu_of hr) (pv 0) pe_str (fun _ _ => rfl)) pe_int) (pv 1)))))), ?_⟩
  obtain ⟨J, F, ds, Φ, j, e, hvs, ⟨m, rfl, hm, rfl⟩, q⟩ := h
  cases hvs with
  | cons h1 h2 =>
  cases h2 with
  | cons h2 h3 =>
  cases h3
  cases h2
  cases h1 with
  | @jar a hj =>
  subst hj
  obtain ⟨f0, l, ns, k, more, hH, hF, k0, m0, m1⟩ := j a rfl
  have hl : H l = some (.lst (ns.map V.int)) := e _ _ hF
  have ne : l ≠ a := fun z => by rw [z, f0] at hF; cases hF
  try dsimp only [cxOf]
  have fin : ∀ (k' more' r : Int), 0 ≤ k' → 0 ≤ more' → more' < 2147483629 → 0 ≤ r → r < m → Q (.int r) (upd H a (.dK (jk l k' more'))) := fun k' more' r a1 a2 a3 a4 a5 =>
    q (.int r) (.int r) F _ (Step.jarw e f0 hF a1 a2 a3) (.int r) ⟨r, a4, a5, rfl⟩
  refine j_at rfl hH (j_draws rfl hH ⟨l, _, rfl, .inl (SqL.of hl), _, _, rfl, rfl, ?_⟩)
  refine ⟨_, rfl, ?_⟩
  by_cases c : k < ((ns.map V.int).length : Int)
  · rw [decide_eq_true c]
    refine iteT ?_
    refine j_at rfl hH (.inl ⟨_, _, rfl, rfl, ?_⟩)
    refine j_pat rfl hH ?_
    have hH2 : (upd H a (.dK (jk l (k + 1) more))) a = some (.dK (jk l (k + 1) more)) := upd_same
    have hl2 : (upd H a (.dK (jk l (k + 1) more))) l = some (.lst (ns.map V.int)) := by rw [upd_ne ne]; exact hl
    refine j_draws rfl hH2 (j_at rfl hH2 ⟨_, _, rfl, rfl, ?_⟩)
    have ek : k + 1 - 1 = k := by omega
    have hkl : k.toNat < ns.length := by rw [List.length_map] at c; omega
    refine .inl ⟨l, _, k + 1 - 1, .int ns[k.toNat], rfl, rfl, SqL.of hl2, ?_, ?_⟩
    · rw [ek]
      unfold atI ixN
      rw [if_pos k0, if_pos c]
      show (ns.map V.int)[k.toNat]? = _
      rw [List.getElem?_map, List.getElem?_eq_getElem hkl] <;> rfl
    refine ⟨_, _, rfl, rfl, ⟨by decide, by decide⟩, ?_⟩
    refine ⟨_, rfl, _, _, rfl, rfl, by omega, ?_⟩
    exact fin _ _ _ (by omega) m0 m1 (Int.fmod_nonneg_of_pos _ (by omega)) (Int.fmod_lt_of_pos _ (by omega))
  · rw [decide_eq_false c]
    refine iteF ?_
    refine j_more rfl hH ⟨_, _, rfl, rfl, ⟨by decide, by decide, by omega⟩, .inl ⟨_, _, rfl, rfl, ⟨_, _, rfl, rfl, (by show (2147483629 : Int) ≠ 0; decide), ?_⟩⟩⟩
    refine j_pmore rfl hH ?_
    have hH2 : ∀ x, (upd H a (.dK (jk l k x))) a = some (.dK (jk l k x)) := fun x => upd_same
    refine j_more rfl (hH2 _) ⟨_, _, rfl, rfl, ⟨by decide, by decide⟩, ?_⟩
    refine ⟨_, rfl, _, _, rfl, rfl, by omega, ?_⟩
    exact fin _ _ _ k0 (Int.fmod_nonneg_of_pos _ (by decide)) (Int.fmod_lt_of_pos _ (by decide)) (Int.fmod_nonneg_of_pos _ (by omega)) (Int.fmod_lt_of_pos _ (by omega))
abbrev s__law_jar : Stmt := topS 50
theorem sc__law_jar : FnScope ["script", "draws", "cell"] ["script"] (defScope s__law_jar) := ⟨rfl, rfl, rfl, by decide +kernel, rfl, by decide +kernel, by decide +kernel⟩
def spJar (K : PySem.W.Frag) : Sp := fun vs H Q _ => ∃ (p : Addr) (ns : List Int), vs = [.ref p] ∧ SqL K H p (ns.map V.int) ∧ ∀ a F2 H2, H a = none → Ex H F2 → Ex F2 H2 → JarAt a F2 H2 → Q (.ref a) H2
theorem ok__law_jar (F : Fun K "_law_jar" "_law_jar" s__law_jar f fd) (B : Blt mg) (f__law_row_of : Fn P w K mg base "_law_row_of" 1 ["cell"] T__law_row_of) : FnOk P w K mg base CX0 2 f fd ["script"] (spJar K) := by
  refine F.ok sc__law_jar (fun vs H Q E h => by obtain ⟨p, ns, rfl, _⟩ := h; rfl) (fun cdv A outer s H vs Q E hr h => ?_)
  refine ⟨_, (pss_cons (ps_set (i := 1) sc__law_jar.nd rfl (by first | exact Or.inl rfl | exact Or.inr rfl) (pe_lst pa_nil)) (pss_cons (ps_for PassesOwn.never rfl (pi_list (pe_slice (sl_U (K := K) rfl) (pv 0) po_none (po_some pe_int))) (pg_name (i := 2) sc__law_jar.nd rfl (by first | exact Or.inl rfl | exact Or.inr rfl)) (pss_one (ps_expr (pe_bm PySem.F.plainAttrs_list PySem.F.slot_list_extend PySem.F.type_list_extend mt_extend (pv 1) (pa_cons (pe_fn f__law_row_of (hr.mono (by omega)) (pa_cons (pv 2) pa_nil)) pa_nil))))) (pss_one (ps_ret (pe_disp (pps_cons pe_str (pv 1) (pps_cons pe_str pe_int (pps_cons pe_str (pe_op op_modN (pe_op (op_addU (K := K) rfl) pe_int (pe_op (op_mulU (K := K) rfl) pe_int (pe_callB (cr_sum rfl) (by rfl) B.sum (by decide +kernel) (pa_cons (pv 1) pa_nil)))) pe_int) pps_nil))) (by rfl) (by rfl) (fun z => by cases z) (by decide)))))), ?_⟩
  obtain ⟨p, ns, rfl, hp, q⟩ := h
  try dsimp only [cxOf]
  have I : InS none K H H [.val (scrD ns), .unk, .unk] (L2.start ["script", "draws", "cell"] [.ref p]) H H :=
    ⟨Step.refl (Ex.refl H) (fun a e => nomatch e), startA_ok (N := ["script", "draws", "cell"]) (.cons (.scr hp) .nil)⟩
  refine raw_seq (X := fun A' => A' = [.val (scrD ns), .own [], .unk]) (sw_setF (ef_lst (ed_nil ⟨by decide, rfl⟩))) I ?_
  rintro _ σ1 F1 H1 rfl I1 e1
  refine raw_seq (X := fun A' => ∃ ms : List Int, A' = [.val (scrD ns), .own (iD ms), .unk]) ?_ I1 ?_
  · refine sw_for (vs := [2]) (iw_list ?_)
    refine ew_slScr (ev_of (ew_var rfl (eo_none (eo_some (ev_of (ew_int ⟨63, rfl, ns, rfl, ?_⟩))))))
    have hlen : (cutD ns none (some 63)).length ≤ 63 := by
      unfold cutD
      rw [List.length_take]
      have : HT.sIx ns.length ns.length (some 63) ≤ 63 := by
        exact Nat.le_trans (Nat.le_of_eq (HT.sIx_nat ns.length ns.length 63)) (Nat.min_le_left _ _)
      omega
    generalize cutD ns none (some 63) = cs at hlen ⊢
    refine ⟨_, rfl, fun i A1 => ∃ ms, ms.length ≤ 60 * i ∧ A1 = [.val (scrD ns), .own (iD ms), .unk], ⟨_, ⟨[], Nat.le_refl _, rfl⟩, ⟨rfl, rfl, trivial⟩⟩, ?_, ?_⟩
    · rintro i d A1 hd ⟨ms, hm, rfl⟩
      have hi : i < cs.length := by
        have := (List.getElem?_eq_some_iff.mp hd).1
        rw [List.length_map] at this
        exact this
      rw [List.getElem?_map, List.getElem?_eq_getElem hi] at hd
      cases hd
      refine gw_name (by simp) (sw_extend rfl rfl ?_)
      repeat walk_at "ew"
      refine ⟨_, ⟨_, rfl, rfl⟩, ?_⟩
      rintro d ⟨es, he, rfl⟩
      refine ⟨iD es, rfl, by rw [iD_len, iD_len]; omega, _, ⟨ms ++ es, by rw [List.length_append]; omega, rfl⟩, ⟨rfl, congrArg Ent.own (iD_app ms es), trivial⟩⟩
    · rintro A1 ⟨ms, _, rfl⟩
      exact ⟨ms, rfl⟩
  rintro _ σ2 F2 H2 ⟨ms, rfl⟩ I2 e2
  intro a ha
  obtain ⟨v, hv, l, xs, rfl, l1, l2, l3, l4, l5⟩ := I2.2.at_ 1 (.own (iD ms)) rfl
  have s1 := Step.newH (J := none) (o := .dK []) I2.1.fh (fun a e => nomatch e) ha
  refine ⟨.ref l, hv, ?_⟩
  have ew : EW none K (tOp (rI (fun _ j => j ≠ 0) fun i j => .int (i.fmod j)) (tOp (rAddU K) (tC (.int 7919)) (tOp (rMulU K) (tC (.int 40693)) (tCB (rSum K) (tCons (tVar 1) tNil)))) (tC (.int 2147483629))) [.val (scrD ns), .own (iD ms), .unk]
      (fun d => ∃ m : Int, d = .int m ∧ 0 ≤ m ∧ m < 2147483629) := by
    repeat walk_at "ew"
    refine rc_sum (ns := ms) ?_
    refine rd_mul (cmulL (by decide) (by decide)) ?_
    repeat walk_at "ew"
    refine rd_mod (by decide) ?_
    exact ⟨_, rfl, Int.fmod_nonneg_of_pos _ (by decide), Int.fmod_lt_of_pos _ (by decide)⟩
  refine ew H σ2 F2 _ (I2.step s1).inE _ fun v d F3 H3 s3 hv3 ⟨m, ed, m0, m1⟩ => ?_
  subst ed
  cases hv3
  have hJ : ∀ p : Addr, (none : Option Addr) ≠ some p := fun p z => nomatch z
  refine ⟨s3.h a _ (hJ a) upd_same, jk l 0 m, rfl, (by show 3 ≤ 15; decide), ?_⟩
  have em : mergeK [] (jk l 0 m) = jk l 0 m := by simp [mergeK, putK, jn1, jn2, jn3, jk]
  rw [em]
  have e4 := DdAll.ints l5
  subst e4
  have la : l ≠ a := fun z => by rw [z, ha] at l4; cases l4
  have f3 : F3 l = none := s3.own l l1 (by rw [upd_ne la, l4]; exact fun z => nomatch z)
  have h3 : H3 l = some (.lst (ms.map V.int)) := s3.h l _ (hJ l) (by rw [upd_ne la]; exact l4)
  have fa : F3 a = none := s3.own a (fresh_back I2.1.fh ha) (by rw [upd_same]; exact fun z => nomatch z)
  have ef : Ex F3 (upd F3 l (.lst (ms.map V.int))) := Ex.new f3
  refine q a (upd F3 l (.lst (ms.map V.int))) _ (I2.1.free ha) ((I2.1.f.trans s3.f).trans ef) (fun p o ho => ?_) ⟨by rw [upd_ne (fun z : a = l => la z.symm)]; exact fa, l, ms, 0, m, upd_same, upd_same, by decide, m0, m1⟩
  have pa : p ≠ a := fun z => by
    rw [z, upd_ne (fun z : a = l => la z.symm), fa] at ho
    cases ho
  rw [upd_ne pa]
  by_cases c : p = l
  · subst c; rw [upd_same] at ho; cases ho; exact h3
  · rw [upd_ne c] at ho; exact s3.fh p o ho
end
end WD

namespace WD
open PySem PySem.Spec PyProof.Rows L2 Evl
local macro_rules | `(tactic| walk_at "ew") => `(tactic| first
  | (with_reducible refine sw_seq ?_)
  | (with_reducible refine sw_next ?_)
  | (with_reducible refine sw_if ?_)
  | (with_reducible refine sw_setF (ef_lst (ed_nil (And.intro (Nat.zero_le _) ?_))))
  | (with_reducible refine sw_set ?_)
  | (with_reducible refine sw_ret ?_)
  | ((with_reducible refine' ew_var ?hv ?_); (case hv => rfl))
  | ((with_reducible refine' ev_own ?hv ?_); (case hv => rfl))
  | (with_reducible refine ev_of ?_)
  | (with_reducible refine ew_int ?_)
  | (with_reducible refine ew_str ?_)
  | (with_reducible refine ew_non ?_)
  | (with_reducible refine ew_bl ?_)
  | (with_reducible refine ew_op ?_)
  | (with_reducible refine ew_isi ?_)
  | (with_reducible refine ew_isRow ?_)
  | (with_reducible refine ew_cb ?_)
  | (with_reducible refine ea_cons ?_)
  | (with_reducible refine ea_nil ?_)
  | (with_reducible refine ed_cons ?_)
  | (with_reducible refine ed_nil ?_)
  | (with_reducible refine ew_tup ?_)
  | (with_reducible refine ew_lst ?_)
  | (with_reducible refine ew_call ?_)
  | (with_reducible refine ew_if ?_)
  | (with_reducible refine et_test ?_)
  | (with_reducible refine et_B ?_)
  | (with_reducible refine et_and ?_)
  | (with_reducible refine et_or ?_)
  | (with_reducible refine et_not ?_)
  | (with_reducible refine ew_chain ?_)
  | (with_reducible refine rd_add ?_)
  | (with_reducible refine rd_sub ?_)
  | (with_reducible refine rd_eq ?_)
  | (with_reducible refine rd_eqs ?_)
  | (with_reducible refine rd_le ?_)
  | (with_reducible refine rd_ge ?_)
  | (with_reducible refine rd_lt ?_)
  | (with_reducible refine rd_gt ?_)
  | (with_reducible refine rc_abs ?_)
  | (with_reducible refine rc_int ?_)
  | (with_reducible refine rc_lenL ?_)
  | (with_reducible refine rc_lenT ?_)
  | (with_reducible refine rc_max2 ?_)
  | (with_reducible refine rc_tuple ?_)
  | (with_reducible refine ew_un ?_)
  | (with_reducible refine ew_andV ?_)
  | (with_reducible refine ew_orV ?_)
  | (with_reducible refine ew_notV ?_)
  | (with_reducible refine rd_neI ?_)
  | (with_reducible refine ex_i ?_)
  | (with_reducible refine ex_b ?_)
  | (with_reducible refine it_T ?_)
  | (with_reducible refine it_F ?_)
  | (with_reducible refine it_NT ?_)
  | (with_reducible refine it_NF ?_))

section
variable {P : Program} {w : World} {K : PySem.W.Frag} {mg : Str → Option Value} {base : Heap} {f : Addr} {fd : FuncData}
theorem rd_ixA {J : Option Addr} {k : Dt → Prop} {ds : List Dt} {i : Int} (h0 : 0 ≤ i) (h1 : i < (ds.length : Int)) (c : ∀ d, d ∈ ds → k d) : RD J K (rIxU K) (.list ds) (.int i) k := by
  have hl : i.toNat < ds.length := by omega
  refine rd_ixL (d := ds[i.toNat]) ?_ (c _ (List.getElem_mem _))
  rw [atI_pos h0 h1, List.getElem?_eq_getElem hl]
theorem cutD_map {α β : Type} (g : α → β) (xs : List α) (lo hi : Option Int) : cutD (xs.map g) lo hi = (cutD xs lo hi).map g := by
  unfold cutD
  rw [List.length_map, List.map_take, List.map_drop]
theorem cutD_sub {α : Type} (xs : List α) (lo hi : Option Int) : List.Sublist (cutD xs lo hi) xs := (List.take_sublist _ _).trans (List.drop_sublist _ _)
abbrev s__law_words : Stmt := topS 52
theorem sc__law_words : FnScope ["jar", "size", "found", "k", "one"] ["jar", "size"] (defScope s__law_words) := ⟨rfl, rfl, rfl, by decide +kernel, rfl, by decide +kernel, by decide +kernel⟩
def T__law_words : Tr := fun ds Φ => ∃ n : Nat, ds = [jarD, .int (n : Nat)] ∧ n ≤ 8 ∧ Φ = fun d => ∃ ws, RlOk n 0 (.or ws) ∧ d = .list (iD ws)
theorem ok__law_words (F : Fun K "_law_words" "_law_words" s__law_words f fd) (B : Blt mg) (f__law_take : Fn P w K mg base "_law_take" 1 ["jar", "many"] T__law_take) : FnOk P w K mg base CX0 2 f fd ["jar", "size"] (spD K T__law_words) := by
  refine F.ok sc__law_words (fun vs H Q E h => spD_len (by rintro _ _ ⟨_, rfl, _⟩; rfl) h) (fun cdv A outer s H vs Q E hr h => ?_)
  refine ⟨_, (pss_cons (ps_set (i := 2) sc__law_words.nd rfl (by first | exact Or.inl rfl | exact Or.inr rfl) (pe_lst pa_nil)) (pss_cons (ps_for PassesOwn.never rfl (pi_range1 (by rfl) B.range (pa_cons (pe_ix (ix_U (K := K) rfl) (pe_lst (pa_cons pe_int (pa_cons pe_int (pa_cons pe_int (pa_cons pe_int (pa_cons pe_int (pa_cons pe_int (pa_cons pe_int (pa_cons pe_int pa_nil))))))))) (pe_fn f__law_take (hr.mono (by omega)) (pa_cons (pv 0) (pa_cons pe_int pa_nil))) (fun _ _ => rfl)) pa_nil)) (pg_name (i := 3) sc__law_words.nd rfl (by first | exact Or.inl rfl | exact Or.inr rfl)) (pss_cons (ps_set (i := 4) sc__law_words.nd rfl (by first | exact Or.inl rfl | exact Or.inr rfl) (pe_op (op_addU (K := K) rfl) pe_int (pe_fn f__law_take (hr.mono (by omega)) (pa_cons (pv 0) (pa_cons (pe_callB (call_max2 rfl) (by rfl) B.max (by decide +kernel) (pa_cons pe_int (pa_cons (pv 1) pa_nil))) pa_nil))))) (pss_one (ps_if (PW.pt (pw_and (pt_cmpR op_gt (pv 1) pe_int (nomark _)) (pw_and (pt_cmpR (op_ninU (K := K) rfl) (pv 4) (pv 2) rfl) (pw_and1 (pt_cmpR (op_ninU (K := K) rfl) (pe_un un_neg (pv 4)) (pv 2) rfl))))) (pss_one (ps_expr (pe_bm PySem.F.plainAttrs_list PySem.F.slot_list_append PySem.F.type_list_append mt_append (pv 2) (pa_cons (pe_ix (ix_U (K := K) rfl) (pe_lst (pa_cons (pv 4) (pa_cons (pe_un un_neg (pv 4)) pa_nil))) (pe_fn f__law_take (hr.mono (by omega)) (pa_cons (pv 0) (pa_cons pe_int pa_nil))) (fun _ _ => rfl)) pa_nil)))) pss_nil)))) (pss_one (ps_ret (pv 2))))), ?_⟩
  refine body_of h fun J ds Φ hT => ?_
  try dsimp only [cxOf]
  obtain ⟨n, rfl, hn, rfl⟩ := hT
  show SW J K _ [.val jarD, .val (.int (n : Nat)), .unk, .unk, .unk] _
  repeat walk_at "ew"
  refine sw_for (vs := [3]) (iw_range1 ?_)
  repeat walk_at "ew"
  refine ⟨by decide, ?_⟩
  repeat walk_at "ew"
  refine ⟨_, ⟨8, rfl, by decide, rfl⟩, ?_⟩
  rintro _ ⟨r, r0, r1, rfl⟩
  refine rd_ixA r0 (by simpa using r1) fun d hd => ?_
  have hd' : ∃ m : Int, d = .int m ∧ 0 ≤ m ∧ m ≤ 4 := by
    simp only [List.mem_cons, List.not_mem_nil, or_false] at hd
    rcases hd with rfl | rfl | rfl | rfl | rfl | rfl | rfl | rfl <;> exact ⟨_, rfl, by decide, by decide⟩
  obtain ⟨m, rfl, m0, m4⟩ := hd'
  repeat walk_at "ew"
  refine ⟨m, rfl, m0, by omega, fun i A1 => ∃ ws, RlOk n 0 (.or ws) ∧ ws.length ≤ i ∧ A1 = [.val jarD, .val (.int (n : Nat)), .own (iD ws), .unk, .unk], ⟨_, ⟨[], ⟨fun _ h => by simp at h, by simp, by simp⟩, Nat.le_refl _, rfl⟩, ⟨rfl, rfl, rfl, trivial⟩⟩, ?_, ?_⟩
  · rintro i d A1 hd ⟨ws, ⟨k1, k2, k3⟩, hl, rfl⟩
    have hi : i < m.toNat := by
      have := (List.getElem?_eq_some_iff.mp hd).1
      rw [rangeD_len] at this
      exact this
    refine gw_name (by simp) ?_
    repeat walk_at "ew"
    refine ⟨_, ⟨_, rfl, ?_, rfl⟩, ?_⟩
    · split <;> omega
    rintro _ ⟨r, r0, r1, rfl⟩
    repeat walk_at "ew"
    refine it_D (fun hp => ?_) (fun hn => ?_)
    · have r1' : r < (n : Int) := by
        by_cases c : (n : Int) > 1
        · rw [if_pos c] at r1; exact r1
        · rw [if_neg c] at r1; omega
      repeat walk_at "ew"
      refine rd_inI (neg := true) ?_
      repeat walk_at "ew"
      refine it_ND (fun hm => ?_) (fun hm => ?_)
      · repeat walk_at "ew"
        exact ⟨_, ⟨ws, ⟨k1, k2, k3⟩, by omega, rfl⟩, ⟨rfl, rfl, rfl, trivial⟩⟩
      repeat walk_at "ew"
      refine rd_inI (neg := true) ?_
      repeat walk_at "ew"
      refine it_ND (fun hm2 => ?_) (fun hm2 => ?_)
      · repeat walk_at "ew"
        exact ⟨_, ⟨ws, ⟨k1, k2, k3⟩, by omega, rfl⟩, ⟨rfl, rfl, rfl, trivial⟩⟩
      repeat walk_at "ew"
      refine sw_append rfl rfl (by rw [iD_len]; omega) ?_
      repeat walk_at "ew"
      refine ⟨(by show 2 ≤ 100000; decide), ?_⟩
      repeat walk_at "ew"
      refine ⟨_, ⟨2, rfl, by decide, rfl⟩, ?_⟩
      rintro _ ⟨u, u0, u1, rfl⟩
      refine rd_ixA u0 (by simpa using u1) fun d hd => ?_
      have hd' : ∃ x : Int, d = .int x ∧ (x = 1 + r ∨ x = -(1 + r)) := by
        simp only [List.mem_cons, List.not_mem_nil, or_false] at hd
        rcases hd with rfl | rfl
        · exact ⟨_, rfl, .inl rfl⟩
        · exact ⟨_, rfl, .inr rfl⟩
      obtain ⟨x, rfl, hx⟩ := hd'
      refine ⟨_, ⟨ws ++ [x], ⟨fun y hy => ?_, ?_, ?_⟩, ?_, rfl⟩, ⟨rfl, rfl, congrArg Ent.own (iD_snoc ws x), trivial⟩⟩
      · rcases List.mem_append.mp hy with h | h
        · exact k1 y h
        · simp at h
          subst h
          omega
      · rw [List.map_append]
        refine List.nodup_append.mpr ⟨k2, by simp, fun a ha b hb hab => ?_⟩
        simp at hb
        obtain ⟨y, hy, ey⟩ := List.mem_map.mp ha
        have : y = 1 + r ∨ y = -(1 + r) := by omega
        rcases this with e | e
        · exact hm (e ▸ hy)
        · exact hm2 (e ▸ hy)
      · rw [List.length_append]; simp; omega
      · rw [List.length_append]; simp; omega
    · repeat walk_at "ew"
      exact ⟨_, ⟨ws, ⟨k1, k2, k3⟩, by omega, rfl⟩, ⟨rfl, rfl, rfl, trivial⟩⟩
  · rintro A1 ⟨ws, hok, _, rfl⟩
    exact sw_retOwn rfl rfl ⟨ws, hok, rfl⟩
abbrev s__law_picked : Stmt := topS 53
theorem sc__law_picked : FnScope ["jar", "many", "found", "k", "one"] ["jar", "many"] (defScope s__law_picked) := ⟨rfl, rfl, rfl, by decide +kernel, rfl, by decide +kernel, by decide +kernel⟩
def T__law_picked : Tr := fun ds Φ => ∃ m : Int, ds = [jarD, .int m] ∧ 1 ≤ m ∧ Φ = fun d => ∃ ns : List Int, (∀ k ∈ ns, 0 ≤ k ∧ k < m) ∧ ns.Nodup ∧ ns.length ≤ 4 ∧ d = .list (iD ns)
theorem ok__law_picked (F : Fun K "_law_picked" "_law_picked" s__law_picked f fd) (B : Blt mg) (f__law_take : Fn P w K mg base "_law_take" 1 ["jar", "many"] T__law_take) : FnOk P w K mg base CX0 2 f fd ["jar", "many"] (spD K T__law_picked) := by
  refine F.ok sc__law_picked (fun vs H Q E h => spD_len (by rintro _ _ ⟨_, rfl, _⟩; rfl) h) (fun cdv A outer s H vs Q E hr h => ?_)
  refine ⟨_, (pss_cons (ps_set (i := 2) sc__law_picked.nd rfl (by first | exact Or.inl rfl | exact Or.inr rfl) (pe_lst pa_nil)) (pss_cons (ps_for PassesOwn.never rfl (pi_range1 (by rfl) B.range (pa_cons (pe_op (op_addU (K := K) rfl) pe_int (pe_fn f__law_take (hr.mono (by omega)) (pa_cons (pv 0) (pa_cons pe_int pa_nil)))) pa_nil)) (pg_name (i := 3) sc__law_picked.nd rfl (by first | exact Or.inl rfl | exact Or.inr rfl)) (pss_cons (ps_set (i := 4) sc__law_picked.nd rfl (by first | exact Or.inl rfl | exact Or.inr rfl) (pe_fn f__law_take (hr.mono (by omega)) (pa_cons (pv 0) (pa_cons (pv 1) pa_nil)))) (pss_one (ps_if (pt_cmpR (op_ninU (K := K) rfl) (pv 4) (pv 2) rfl) (pss_one (ps_expr (pe_bm PySem.F.plainAttrs_list PySem.F.slot_list_append PySem.F.type_list_append mt_append (pv 2) (pa_cons (pv 4) pa_nil)))) pss_nil)))) (pss_one (ps_ret (pv 2))))), ?_⟩
  refine body_of h fun J ds Φ hT => ?_
  try dsimp only [cxOf]
  obtain ⟨m, rfl, hm, rfl⟩ := hT
  show SW J K _ [.val jarD, .val (.int m), .unk, .unk, .unk] _
  repeat walk_at "ew"
  refine sw_for (vs := [3]) (iw_range1 ?_)
  repeat walk_at "ew"
  refine ⟨_, ⟨4, rfl, by decide, rfl⟩, ?_⟩
  rintro _ ⟨r, r0, r1, rfl⟩
  repeat walk_at "ew"
  refine ⟨_, rfl, by omega, by omega, fun i A1 => ∃ ns : List Int, (∀ k ∈ ns, 0 ≤ k ∧ k < m) ∧ ns.Nodup ∧ ns.length ≤ i ∧ A1 = [.val jarD, .val (.int m), .own (iD ns), .unk, .unk], ⟨_, ⟨[], fun _ h => by simp at h, by simp, Nat.le_refl _, rfl⟩, ⟨rfl, rfl, rfl, trivial⟩⟩, ?_, ?_⟩
  · rintro i d A1 hd ⟨ns, k1, k2, hl, rfl⟩
    have hi : i < (1 + r).toNat := by
      have := (List.getElem?_eq_some_iff.mp hd).1
      rw [rangeD_len] at this
      exact this
    refine gw_name (by simp) ?_
    repeat walk_at "ew"
    refine ⟨_, ⟨_, rfl, hm, rfl⟩, ?_⟩
    rintro _ ⟨x, x0, x1, rfl⟩
    repeat walk_at "ew"
    refine rd_inI (neg := true) ?_
    repeat walk_at "ew"
    refine it_ND (fun hm => ?_) (fun hm => ?_)
    · repeat walk_at "ew"
      exact ⟨_, ⟨ns, k1, k2, by omega, rfl⟩, ⟨rfl, rfl, rfl, trivial⟩⟩
    repeat walk_at "ew"
    refine sw_append rfl rfl (by rw [iD_len]; omega) ?_
    repeat walk_at "ew"
    refine ⟨_, ⟨ns ++ [x], fun y hy => ?_, ?_, ?_, rfl⟩, ⟨rfl, rfl, congrArg Ent.own (iD_snoc ns x), trivial⟩⟩
    · rcases List.mem_append.mp hy with h | h
      · exact k1 y h
      · simp at h
        subst h
        exact ⟨x0, x1⟩
    · refine List.nodup_append.mpr ⟨k2, by simp, fun a ha b hb hab => ?_⟩
      simp at hb
      subst hb
      subst hab
      exact hm ha
    · rw [List.length_append]; simp; omega
  · rintro A1 ⟨ns, k1, k2, hl, rfl⟩
    rw [rangeD_len] at hl
    exact sw_retOwn rfl rfl ⟨ns, k1, k2, by omega, rfl⟩
abbrev s__law_rule : Stmt := topS 54
theorem sc__law_rule : FnScope ["jar", "size", "ahead", "kind", "few"] ["jar", "size", "ahead"] (defScope s__law_rule) := ⟨rfl, rfl, rfl, by decide +kernel, rfl, by decide +kernel, by decide +kernel⟩
def T__law_rule : Tr := fun ds Φ => ∃ n c : Nat, ds = [jarD, .int (n : Nat), .int (c : Nat)] ∧ n ≤ 8 ∧ Φ = fun d => ∃ r, RlOk n c r ∧ d = rowD r
theorem ok__law_rule (F : Fun K "_law_rule" "_law_rule" s__law_rule f fd) (B : Blt mg) (f__law_take : Fn P w K mg base "_law_take" 1 ["jar", "many"] T__law_take) (f__law_words : Fn P w K mg base "_law_words" 2 ["jar", "size"] T__law_words)
    (f__law_picked : Fn P w K mg base "_law_picked" 2 ["jar", "many"] T__law_picked) : FnOk P w K mg base CX0 3 f fd ["jar", "size", "ahead"] (spD K T__law_rule) := by
  refine F.ok sc__law_rule (fun vs H Q E h => spD_len (by rintro _ _ ⟨_, _, rfl, _⟩; rfl) h) (fun cdv A outer s H vs Q E hr h => ?_)
  refine ⟨_, (pss_cons (ps_set (i := 3) sc__law_rule.nd rfl (by first | exact Or.inl rfl | exact Or.inr rfl) (pe_fn f__law_take (hr.mono (by omega)) (pa_cons (pv 0) (pa_cons pe_int pa_nil)))) (pss_cons (ps_if (PW.pt (pw_or (pt_cmpR op_lt (pv 3) pe_int (nomark _)) (pw_or1 (pt_cmpR (op_eqU (K := K) rfl hr.units) (pv 2) pe_int (nomark _))))) (pss_one (ps_ret (pe_lst (pa_cons pe_str (pa_cons (pe_fn f__law_words (hr.mono (by omega)) (pa_cons (pv 0) (pa_cons (pv 1) pa_nil))) pa_nil))))) pss_nil) (pss_cons (ps_if (pt_cmpR (op_eqU (K := K) rfl hr.units) (pv 3) pe_int (nomark _)) (pss_one (ps_ret (pe_lst (pa_cons pe_str (pa_cons (pe_fn f__law_take (hr.mono (by omega)) (pa_cons (pv 0) (pa_cons (pv 2) pa_nil))) pa_nil))))) pss_nil) (pss_cons (ps_set (i := 4) sc__law_rule.nd rfl (by first | exact Or.inl rfl | exact Or.inr rfl) (pe_fn f__law_picked (hr.mono (by omega)) (pa_cons (pv 0) (pa_cons (pv 2) pa_nil)))) (pss_one (ps_ret (pe_lst (pa_cons pe_str (pa_cons (pe_ix (ix_U (K := K) rfl) (pe_lst (pa_cons pe_int (pa_cons pe_int (pa_cons pe_int (pa_cons (pe_callB (call_lenU (K := K) rfl) (by rfl) B.len (by decide +kernel) (pa_cons (pv 4) pa_nil)) (pa_cons pe_int pa_nil)))))) (pe_fn f__law_take (hr.mono (by omega)) (pa_cons (pv 0) (pa_cons pe_int pa_nil))) (fun _ _ => rfl)) (pa_cons (pe_slice (sl_U (K := K) rfl) (pv 4) (po_some (pe_op op_fdivN (pe_fn f__law_take (hr.mono (by omega)) (pa_cons (pv 0) (pa_cons pe_int pa_nil))) pe_int)) po_none) pa_nil)))))))))), ?_⟩
  refine body_of h fun J ds Φ hT => ?_
  try dsimp only [cxOf]
  obtain ⟨n, c, rfl, hn, rfl⟩ := hT
  show SW J K _ [.val jarD, .val (.int (n : Nat)), .val (.int (c : Nat)), .unk, .unk] _
  repeat walk_at "ew"
  refine ⟨_, ⟨8, rfl, by decide, rfl⟩, ?_⟩
  rintro _ ⟨kind, q0, q1, rfl⟩
  have orr : SW J K (tRet (tLst (tCons (tC (.str "or")) (tCons (tCall (spD K T__law_words) [] E0 (tCons (tVar 0) (tCons (tVar 1) tNil))) tNil)))) [.val jarD, .val (.int (n : Nat)), .val (.int (c : Nat)), .val (.int kind), .unk] ⟨fun _ => False, fun d => ∃ r, RlOk n c r ∧ d = rowD r, fun _ => False, fun _ => False⟩ := by
    repeat walk_at "ew"
    refine ⟨_, ⟨n, rfl, hn, rfl⟩, ?_⟩
    rintro _ ⟨ws, hok, rfl⟩
    repeat walk_at "ew"
    exact ⟨(by show 2 ≤ 100000; decide), .or ws, hok, rfl⟩
  have orr' : ∀ Y : DE, (∀ d, (∃ r, RlOk n c r ∧ d = rowD r) → Y.rt d) → SW J K (tRet (tLst (tCons (tC (.str "or")) (tCons (tCall (spD K T__law_words) [] E0 (tCons (tVar 0) (tCons (tVar 1) tNil))) tNil)))) [.val jarD, .val (.int (n : Nat)), .val (.int (c : Nat)), .val (.int kind), .unk] Y :=
    fun Y hY => sw_mono orr (fun _ h => h.elim) hY (fun _ h => h.elim) fun _ h => h.elim
  repeat walk_at "ew"
  refine it_D (fun hk => ?_) (fun hk => ?_)
  · exact it_T (orr' _ fun d h => h)
  repeat walk_at "ew"
  refine it_D (fun hc => ?_) (fun hc => ?_)
  · exact orr' _ fun d h => h
  repeat walk_at "ew"
  refine it_D (fun hk5 => ?_) (fun hk5 => ?_)
  · repeat walk_at "ew"
    refine ⟨_, ⟨_, rfl, by omega, rfl⟩, ?_⟩
    rintro _ ⟨x, x0, x1, rfl⟩
    repeat walk_at "ew"
    exact ⟨(by show 2 ≤ 100000; decide), .no x, ⟨x0, x1⟩, rfl⟩
  repeat walk_at "ew"
  refine ⟨_, ⟨_, rfl, by omega, rfl⟩, ?_⟩
  rintro _ ⟨ns, k1, k2, k3, rfl⟩
  repeat walk_at "ew"
  refine ⟨(by show 5 ≤ 100000; decide), ?_⟩
  repeat walk_at "ew"
  refine ⟨_, ⟨5, rfl, by decide, rfl⟩, ?_⟩
  rintro _ ⟨r, r0, r1, rfl⟩
  refine rd_ixA r0 (by simpa using r1) fun d hd => ?_
  have hd' : ∃ m : Int, d = .int m ∧ 0 ≤ m ∧ m ≤ 24 := by
    simp only [List.mem_cons, List.not_mem_nil, or_false] at hd
    rcases hd with rfl | rfl | rfl | rfl | rfl
    · exact ⟨_, rfl, by decide, by decide⟩
    · exact ⟨_, rfl, by decide, by decide⟩
    · exact ⟨_, rfl, by decide, by decide⟩
    · exact ⟨_, rfl, by omega, by rw [iD_len]; omega⟩
    · exact ⟨_, rfl, by decide, by decide⟩
  obtain ⟨m, rfl, m0, m1⟩ := hd'
  repeat walk_at "ew"
  refine ew_sl ?_
  repeat walk_at "ew"
  refine eo_some ?_
  repeat walk_at "ew"
  refine ⟨_, ⟨8, rfl, by decide, rfl⟩, ?_⟩
  rintro _ ⟨u, u0, u1, rfl⟩
  repeat walk_at "ew"
  refine rd_fdiv ⟨by decide, by decide⟩ ?_
  repeat walk_at "ew"
  refine eo_none ⟨_, .inl ⟨rfl, ?_⟩⟩
  repeat walk_at "ew"
  have hs := cutD_sub ns (some (u.fdiv 7)) none
  refine ⟨(by show 3 ≤ 100000; decide), .few m (cutD ns (some (u.fdiv 7)) none), ⟨m0, m1, fun k hk => k1 k (hs.subset hk), k2.sublist hs, Nat.le_trans hs.length_le (by omega)⟩, ?_⟩
  show PyData.list [_, _, .list (cutD (ns.map .int) _ _)] = _
  rw [cutD_map]
  rfl
abbrev s__law_weight : Stmt := topS 55
theorem sc__law_weight : FnScope ["jar", "powers"] ["jar", "powers"] (defScope s__law_weight) := ⟨rfl, rfl, rfl, by decide +kernel, rfl, by decide +kernel, by decide +kernel⟩
def T__law_weight : Tr := fun ds Φ => ∃ ps : List Int, ds = [jarD, .list (iD ps)] ∧ ps.length = 3 ∧ (∀ p ∈ ps, 1 ≤ p ∧ p ≤ 10 ^ 29) ∧ Φ = fun d => ∃ x : Int, 1 ≤ x ∧ x ≤ 10 ^ 30 ∧ d = .int x
theorem ok__law_weight (F : Fun K "_law_weight" "_law_weight" s__law_weight f fd) (B : Blt mg) (f__law_take : Fn P w K mg base "_law_take" 1 ["jar", "many"] T__law_take) : FnOk P w K mg base CX0 2 f fd ["jar", "powers"] (spD K T__law_weight) := by
  refine F.ok sc__law_weight (fun vs H Q E h => spD_len (by rintro _ _ ⟨_, rfl, _⟩; rfl) h) (fun cdv A outer s H vs Q E hr h => ?_)
  refine ⟨_, (pss_one (ps_ret (pe_op (op_mulU (K := K) rfl) (pe_op (op_addU (K := K) rfl) pe_int (pe_fn f__law_take (hr.mono (by omega)) (pa_cons (pv 0) (pa_cons pe_int pa_nil)))) (pe_ix (ix_U (K := K) rfl) (pv 1) (pe_fn f__law_take (hr.mono (by omega)) (pa_cons (pv 0) (pa_cons pe_int pa_nil))) (fun _ _ => rfl))))), ?_⟩
  refine body_of h fun J ds Φ hT => ?_
  try dsimp only [cxOf]
  obtain ⟨ps, rfl, hl, hp, rfl⟩ := hT
  show SW J K _ [.val jarD, .val (.list (iD ps))] _
  repeat walk_at "ew"
  refine ⟨_, ⟨9, rfl, by decide, rfl⟩, ?_⟩
  rintro _ ⟨r, r0, r1, rfl⟩
  repeat walk_at "ew"
  refine ⟨_, ⟨3, rfl, by decide, rfl⟩, ?_⟩
  rintro _ ⟨u, u0, u1, rfl⟩
  refine rd_ixA u0 (by rw [iD_len, hl]; exact u1) fun d hd => ?_
  obtain ⟨p, hpm, rfl⟩ := List.mem_map.mp hd
  obtain ⟨p0, p1⟩ := hp p hpm
  refine rd_mul (cmulL (by omega) (by omega)) ⟨_, ?_, ?_, rfl⟩
  · have : (1 : Int) * 1 ≤ (1 + r) * p := Int.mul_le_mul (by omega) p0 (by decide) (by omega)
    omega
  · have : (1 + r) * p ≤ 9 * 10 ^ 29 := Int.mul_le_mul (by omega) p1 (by omega) (by omega)
    omega
end
end WD

namespace WD
open PySem PySem.Spec PyProof.Rows L2 Evl
local macro_rules | `(tactic| walk_at "ew") => `(tactic| first
  | (with_reducible refine sw_seq ?_)
  | (with_reducible refine sw_next ?_)
  | (with_reducible refine sw_if ?_)
  | (with_reducible refine sw_setF (ef_lst (ed_nil (And.intro (Nat.zero_le _) ?_))))
  | (with_reducible refine sw_set ?_)
  | (with_reducible refine sw_ret ?_)
  | ((with_reducible refine' ew_var ?hv ?_); (case hv => rfl))
  | ((with_reducible refine' ev_own ?hv ?_); (case hv => rfl))
  | (with_reducible refine ev_of ?_)
  | (with_reducible refine ew_int ?_)
  | (with_reducible refine ew_str ?_)
  | (with_reducible refine ew_non ?_)
  | (with_reducible refine ew_bl ?_)
  | (with_reducible refine ew_op ?_)
  | (with_reducible refine ew_isi ?_)
  | (with_reducible refine ew_isRow ?_)
  | (with_reducible refine ew_cb ?_)
  | (with_reducible refine ea_cons ?_)
  | (with_reducible refine ea_nil ?_)
  | (with_reducible refine ed_cons ?_)
  | (with_reducible refine ed_nil ?_)
  | (with_reducible refine ew_tup ?_)
  | (with_reducible refine ew_lst ?_)
  | (with_reducible refine ew_call ?_)
  | (with_reducible refine ew_if ?_)
  | (with_reducible refine et_test ?_)
  | (with_reducible refine et_B ?_)
  | (with_reducible refine et_and ?_)
  | (with_reducible refine et_or ?_)
  | (with_reducible refine et_not ?_)
  | (with_reducible refine ew_chain ?_)
  | (with_reducible refine rd_add ?_)
  | (with_reducible refine rd_sub ?_)
  | (with_reducible refine rd_eq ?_)
  | (with_reducible refine rd_eqs ?_)
  | (with_reducible refine rd_le ?_)
  | (with_reducible refine rd_ge ?_)
  | (with_reducible refine rd_lt ?_)
  | (with_reducible refine rd_gt ?_)
  | (with_reducible refine rc_abs ?_)
  | (with_reducible refine rc_int ?_)
  | (with_reducible refine rc_lenL ?_)
  | (with_reducible refine rc_lenT ?_)
  | (with_reducible refine rc_max2 ?_)
  | (with_reducible refine rc_tuple ?_)
  | (with_reducible refine ew_un ?_)
  | (with_reducible refine ew_andV ?_)
  | (with_reducible refine ew_orV ?_)
  | (with_reducible refine ew_notV ?_)
  | (with_reducible refine rd_neI ?_)
  | (with_reducible refine ex_i ?_)
  | (with_reducible refine ex_b ?_)
  | (with_reducible refine it_T ?_)
  | (with_reducible refine it_F ?_)
  | (with_reducible refine it_NT ?_)
  | (with_reducible refine it_NF ?_))

section
variable {P : Program} {w : World} {K : PySem.W.Frag} {mg : Str → Option Value} {base : Heap} {f : Addr} {fd : FuncData}
abbrev s__law_parts : Stmt := topS 56
theorem sc__law_parts : FnScope ["jar", "size", "rows", "k", "obliged", "powers", "wanted"] ["jar"] (defScope s__law_parts) := ⟨rfl, rfl, rfl, by decide +kernel, rfl, by decide +kernel, by decide +kernel⟩
def T__law_parts : Tr := fun ds Φ => ds = [jarD] ∧ Φ = fun d => ∃ p, PtsOk p ∧ 1 ≤ p.rows.length ∧ p.obl.length ≤ 24 ∧ d = ptsD p
theorem RlsOk.snoc {n : Nat} {rs : List Rl} {r : Rl} (h : RlsOk n rs) (hr : RlOk n rs.length r) (hl : rs.length < 24) : RlsOk n (rs ++ [r]) := by
  refine ⟨by rw [List.length_append]; simp; omega, fun i q hq => ?_⟩
  by_cases c : i < rs.length
  · rw [List.getElem?_append_left c] at hq
    exact h.at_ i q hq
  · by_cases e : i = rs.length
    · subst e
      rw [List.getElem?_append_right (Nat.le_refl _)] at hq
      simp at hq
      subst hq
      exact hr
    · rw [List.getElem?_eq_none (by rw [List.length_append]; simp; omega)] at hq
      cases hq
theorem ok__law_parts (F : Fun K "_law_parts" "_law_parts" s__law_parts f fd) (B : Blt mg) (f__law_take : Fn P w K mg base "_law_take" 1 ["jar", "many"] T__law_take) (f__law_rule : Fn P w K mg base "_law_rule" 3 ["jar", "size", "ahead"] T__law_rule)
    (f__law_weight : Fn P w K mg base "_law_weight" 2 ["jar", "powers"] T__law_weight) : FnOk P w K mg base CX0 4 f fd ["jar"] (spD K T__law_parts) := by
  refine F.ok sc__law_parts (fun vs H Q E h => spD_len (by rintro _ _ ⟨rfl, _⟩; rfl) h) (fun cdv A outer s H vs Q E hr h => ?_)
  refine ⟨_, (pss_cons (ps_set (i := 1) sc__law_parts.nd rfl (by first | exact Or.inl rfl | exact Or.inr rfl) (pe_ix (ix_U (K := K) rfl) (pe_lst (pa_cons pe_int (pa_cons pe_int (pa_cons pe_int (pa_cons pe_int (pa_cons pe_int (pa_cons pe_int (pa_cons pe_int (pa_cons pe_int pa_nil))))))))) (pe_fn f__law_take (hr.mono (by omega)) (pa_cons (pv 0) (pa_cons pe_int pa_nil))) (fun _ _ => rfl))) (pss_cons (ps_set (i := 2) sc__law_parts.nd rfl (by first | exact Or.inl rfl | exact Or.inr rfl) (pe_lst pa_nil)) (pss_cons (ps_for PassesOwn.never rfl (pi_range1 (by rfl) B.range (pa_cons (pe_ix (ix_U (K := K) rfl) (pe_lst (pa_cons pe_int (pa_cons pe_int (pa_cons pe_int (pa_cons pe_int (pa_cons pe_int (pa_cons pe_int (pa_cons pe_int (pa_cons pe_int pa_nil))))))))) (pe_fn f__law_take (hr.mono (by omega)) (pa_cons (pv 0) (pa_cons pe_int pa_nil))) (fun _ _ => rfl)) pa_nil)) (pg_name (i := 3) sc__law_parts.nd rfl (by first | exact Or.inl rfl | exact Or.inr rfl)) (pss_one (ps_expr (pe_bm PySem.F.plainAttrs_list PySem.F.slot_list_append PySem.F.type_list_append mt_append (pv 2) (pa_cons (pe_fn f__law_rule (hr.mono (by omega)) (pa_cons (pv 0) (pa_cons (pv 1) (pa_cons (pv 3) pa_nil)))) pa_nil))))) (pss_cons (ps_setLc (i := 4) (own := [("k", 3)]) (g := gName 3) rfl sc__law_parts.nd rfl rfl (sw_true rfl rfl rfl (by decide +kernel)) (pi_range1 (by rfl) B.range (pa_cons (pe_callB (call_lenU (K := K) rfl) (by rfl) B.len (by decide +kernel) (pa_cons (pv 2) pa_nil)) pa_nil)) (blkOk_by (own := [("k", 3)]) (N := ["jar", "size", "rows", "k", "obliged", "powers", "wanted"]) (sc := defScope s__law_parts) (by decide +kernel)) (fun _ _ _ _ _ => (pg_name (i := 3) sc__law_parts.nd rfl (Or.inl rfl))) (fun _ _ _ _ _ => pts_one (pt_cmpR (op_eqU (K := K) rfl hr.units) (pe_fn f__law_take (hr.mono (by omega)) (pa_cons (pv 0) (pa_cons pe_int pa_nil))) pe_int (nomark _))) (fun _ _ _ _ _ => (pv 3))) (pss_cons (ps_set (i := 5) sc__law_parts.nd rfl (by first | exact Or.inl rfl | exact Or.inr rfl) (pe_ix (ix_U (K := K) rfl) (pe_lst (pa_cons (pe_lst (pa_cons pe_int (pa_cons pe_int (pa_cons pe_int pa_nil)))) (pa_cons (pe_lst (pa_cons pe_int (pa_cons pe_int (pa_cons pe_int pa_nil)))) (pa_cons (pe_lst (pa_cons pe_int (pa_cons pe_int (pa_cons pe_int pa_nil)))) (pa_cons (pe_lst (pa_cons pe_int (pa_cons (pe_op op_pow pe_int pe_int) (pa_cons (pe_op op_pow pe_int pe_int) pa_nil)))) (pa_cons (pe_lst (pa_cons pe_int (pa_cons (pe_op op_pow pe_int pe_int) (pa_cons (pe_op op_pow pe_int pe_int) pa_nil)))) pa_nil)))))) (pe_fn f__law_take (hr.mono (by omega)) (pa_cons (pv 0) (pa_cons pe_int pa_nil))) (fun _ _ => rfl))) (pss_cons (ps_set (i := 6) sc__law_parts.nd rfl (by first | exact Or.inl rfl | exact Or.inr rfl) (pe_lst pa_nil)) (pss_cons (ps_for PassesOwn.never rfl (pi_range1 (by rfl) B.range (pa_cons (pe_ix (ix_U (K := K) rfl) (pe_lst (pa_cons pe_int (pa_cons pe_int (pa_cons pe_int (pa_cons pe_int (pa_cons pe_int (pa_cons pe_int (pa_cons pe_int (pa_cons pe_int pa_nil))))))))) (pe_fn f__law_take (hr.mono (by omega)) (pa_cons (pv 0) (pa_cons pe_int pa_nil))) (fun _ _ => rfl)) pa_nil)) (pg_name (i := 3) sc__law_parts.nd rfl (by first | exact Or.inl rfl | exact Or.inr rfl)) (pss_one (ps_expr (pe_bm PySem.F.plainAttrs_list PySem.F.slot_list_append PySem.F.type_list_append mt_append (pv 6) (pa_cons (pe_lst (pa_cons (pe_fn f__law_take (hr.mono (by omega)) (pa_cons (pv 0) (pa_cons (pe_callB (call_lenU (K := K) rfl) (by rfl) B.len (by decide +kernel) (pa_cons (pv 2) pa_nil)) pa_nil))) (pa_cons (pe_ix (ix_U (K := K) rfl) (pe_lst (pa_cons pe_int (pa_cons pe_int (pa_cons pe_int (pa_cons pe_int (pa_cons pe_int pa_nil)))))) (pe_fn f__law_take (hr.mono (by omega)) (pa_cons (pv 0) (pa_cons pe_int pa_nil))) (fun _ _ => rfl)) (pa_cons (pe_fn f__law_weight (hr.mono (by omega)) (pa_cons (pv 0) (pa_cons (pv 5) pa_nil))) pa_nil)))) pa_nil))))) (pss_one (ps_ret (pe_tupZ (pa_cons (pv 1) (pa_cons (pv 2) (pa_cons (pv 4) (pa_cons (pv 6) pa_nil)))))))))))))), ?_⟩
  refine body_of h fun J ds Φ hT => ?_
  try dsimp only [cxOf]
  obtain ⟨rfl, rfl⟩ := hT
  show SW J K _ [.val jarD, .unk, .unk, .unk, .unk, .unk, .unk] _
  repeat walk_at "ew"
  refine ⟨(by show 8 ≤ 100000; decide), ?_⟩
  repeat walk_at "ew"
  refine ⟨_, ⟨8, rfl, by decide, rfl⟩, ?_⟩
  rintro _ ⟨r, r0, r1, rfl⟩
  refine rd_ixA r0 (by simpa using r1) fun d hd => ?_
  have hd' : ∃ n : Nat, d = .int (n : Nat) ∧ n ≤ 8 := by
    simp only [List.mem_cons, List.not_mem_nil, or_false] at hd
    rcases hd with rfl | rfl | rfl | rfl | rfl | rfl | rfl | rfl
    · exact ⟨3, rfl, by decide⟩
    · exact ⟨2, rfl, by decide⟩
    · exact ⟨4, rfl, by decide⟩
    · exact ⟨5, rfl, by decide⟩
    · exact ⟨6, rfl, by decide⟩
    · exact ⟨0, rfl, by decide⟩
    · exact ⟨1, rfl, by decide⟩
    · exact ⟨8, rfl, by decide⟩
  obtain ⟨n, rfl, hn⟩ := hd'
  clear hd r0 r1
  repeat walk_at "ew"
  refine sw_for (vs := [3]) (iw_range1 ?_)
  repeat walk_at "ew"
  refine ⟨(by show 8 ≤ 100000; decide), ?_⟩
  repeat walk_at "ew"
  refine ⟨_, ⟨8, rfl, by decide, rfl⟩, ?_⟩
  rintro _ ⟨r, r0, r1, rfl⟩
  refine rd_ixA r0 (by simpa using r1) fun d hd => ?_
  have hd' : ∃ m : Int, d = .int m ∧ 3 ≤ m ∧ m ≤ 24 := by
    simp only [List.mem_cons, List.not_mem_nil, or_false] at hd
    rcases hd with rfl | rfl | rfl | rfl | rfl | rfl | rfl | rfl <;> exact ⟨_, rfl, by decide, by decide⟩
  obtain ⟨m, rfl, m0, m1⟩ := hd'
  clear hd r0 r1
  repeat walk_at "ew"
  refine ⟨m, rfl, by omega, by omega, fun i A1 => ∃ rs : List Rl, rs.length = i ∧ RlsOk n rs ∧ A1 = [.val jarD, .val (.int (n : Nat)), .own (rs.map rowD), .unk, .unk, .unk, .unk], ⟨_, ⟨[], rfl, ⟨by simp, fun i r h => by simp at h⟩, rfl⟩, ⟨rfl, rfl, rfl, trivial⟩⟩, ?_, ?_⟩
  · rintro i d A1 hd ⟨rs, hl, hok, rfl⟩
    have hi : i < m.toNat := by
      have := (List.getElem?_eq_some_iff.mp hd).1
      rw [rangeD_len] at this
      exact this
    rw [rangeD_get hi] at hd
    cases hd
    have ei : (0 : Int) + (i : Nat) = ((i : Nat) : Int) := by omega
    rw [ei]
    refine gw_name (by simp) ?_
    repeat walk_at "ew"
    refine sw_append rfl rfl (by rw [List.length_map]; omega) ?_
    repeat walk_at "ew"
    refine ⟨_, ⟨n, i, rfl, hn, rfl⟩, ?_⟩
    rintro _ ⟨q, hq, rfl⟩
    refine ⟨_, ⟨rs ++ [q], by rw [List.length_append, hl]; rfl, hok.snoc (by rw [hl]; exact hq) (by omega), rfl⟩, ⟨rfl, rfl, ?_, trivial⟩⟩
    rw [List.map_append]
    rfl
  rintro A1 ⟨rs, hl, hok, rfl⟩
  rw [rangeD_len] at hl
  have hl3 : 3 ≤ rs.length := by omega
  have hl24 : rs.length ≤ 24 := by omega
  clear hl m0 m1
  refine sw_freeze (i := 2) rfl rfl ?_
  show SW J K _ [.val jarD, .val (.int (n : Nat)), .val (.list (rs.map rowD)), .unk, .unk, .unk, .unk] _
  repeat walk_at "ew"
  refine ew_lc (iw_range1 ?_)
  repeat walk_at "ew"
  have hlr : (rs.map rowD).length = rs.length := List.length_map ..
  rw [hlr]
  refine ⟨_, rfl, by omega, by omega, by rw [rangeD_len]; omega, fun i acc => ∃ ns : List Int, (∀ k ∈ ns, 0 ≤ k ∧ k < (i : Nat)) ∧ ns.Nodup ∧ ns.length ≤ i ∧ acc = iD ns, ⟨[], fun _ h => by simp at h, by simp, Nat.le_refl _, rfl⟩, ?_, ?_⟩
  · rintro i d acc hd ⟨ns, k1, k2, k3, rfl⟩
    have hi : i < ((rs.length : Nat) : Int).toNat := by
      have := (List.getElem?_eq_some_iff.mp hd).1
      rw [rangeD_len] at this
      exact this
    rw [rangeD_get hi] at hd
    cases hd
    refine gw_name (by simp) ?_
    repeat walk_at "ew"
    refine ⟨_, ⟨6, rfl, by decide, rfl⟩, ?_⟩
    rintro _ ⟨r, r0, r1, rfl⟩
    repeat walk_at "ew"
    refine it_D (fun h => ?_) (fun h => ?_)
    · repeat walk_at "ew"
      refine ⟨ns ++ [_], fun k hk => ?_, ?_, ?_, iD_snoc ns _⟩
      · rcases List.mem_append.mp hk with h | h
        · have := k1 k h; omega
        · simp at h; omega
      · refine List.nodup_append.mpr ⟨k2, by simp, fun a ha b hb hab => ?_⟩
        have := k1 a ha
        simp at hb
        omega
      · rw [List.length_append]; simp; omega
    · exact ⟨ns, fun k hk => by have := k1 k hk; omega, k2, by omega, rfl⟩
  rw [rangeD_len]
  rintro acc ⟨ob, k1, k2, k3, rfl⟩
  have et : ((rs.length : Nat) : Int).toNat = rs.length := by omega
  rw [et] at k1 k3
  repeat walk_at "ew"
  refine ⟨(by show 3 ≤ 100000; decide), ?_⟩
  repeat walk_at "ew"
  refine ⟨(by show 3 ≤ 100000; decide), ?_⟩
  repeat walk_at "ew"
  refine ⟨(by show 3 ≤ 100000; decide), ?_⟩
  repeat walk_at "ew"
  refine rd_pow ⟨by decide, by decide, by decide⟩ ?_
  repeat walk_at "ew"
  refine rd_pow ⟨by decide, by decide, by decide⟩ ?_
  repeat walk_at "ew"
  refine ⟨(by show 3 ≤ 100000; decide), ?_⟩
  repeat walk_at "ew"
  refine rd_pow ⟨by decide, by decide, by decide⟩ ?_
  repeat walk_at "ew"
  refine rd_pow ⟨by decide, by decide, by decide⟩ ?_
  repeat walk_at "ew"
  refine ⟨(by show 3 ≤ 100000; decide), ?_⟩
  repeat walk_at "ew"
  refine ⟨(by show 5 ≤ 100000; decide), ?_⟩
  repeat walk_at "ew"
  refine ⟨_, ⟨5, rfl, by decide, rfl⟩, ?_⟩
  rintro _ ⟨r, r0, r1, rfl⟩
  refine rd_ixA r0 (by simpa using r1) fun d hd => ?_
  have hd' : ∃ ps : List Int, d = .list (iD ps) ∧ ps.length = 3 ∧ ∀ p ∈ ps, 1 ≤ p ∧ p ≤ 10 ^ 29 := by
    simp only [List.mem_cons, List.not_mem_nil, or_false] at hd
    rcases hd with rfl | rfl | rfl | rfl | rfl
    · exact ⟨[1, 1, 1], rfl, rfl, by decide⟩
    · exact ⟨[1, 1, 1], rfl, rfl, by decide⟩
    · exact ⟨[1, 1, 10], rfl, rfl, by decide⟩
    · exact ⟨[1, 10 ^ 3, 10 ^ 6], rfl, rfl, by decide⟩
    · exact ⟨[1, 10 ^ 14, 10 ^ 29], rfl, rfl, by decide⟩
  obtain ⟨ps, rfl, p3, p1⟩ := hd'
  clear hd r0 r1
  repeat walk_at "ew"
  refine sw_for (vs := [3]) (iw_range1 ?_)
  repeat walk_at "ew"
  refine ⟨(by show 8 ≤ 100000; decide), ?_⟩
  repeat walk_at "ew"
  refine ⟨_, ⟨8, rfl, by decide, rfl⟩, ?_⟩
  rintro _ ⟨r, r0, r1, rfl⟩
  refine rd_ixA r0 (by simpa using r1) fun d hd => ?_
  have hd' : ∃ m : Int, d = .int m ∧ 0 ≤ m ∧ m ≤ 12 := by
    simp only [List.mem_cons, List.not_mem_nil, or_false] at hd
    rcases hd with rfl | rfl | rfl | rfl | rfl | rfl | rfl | rfl <;> exact ⟨_, rfl, by decide, by decide⟩
  obtain ⟨m, rfl, m0, m1⟩ := hd'
  clear hd r0 r1
  repeat walk_at "ew"
  refine ⟨m, rfl, by omega, by omega, fun i A1 => ∃ ws : List Wish, ws.length = i ∧ (∀ x ∈ ws, WishOk rs.length x ∧ x.wt ≤ 10 ^ 30) ∧ A1 = [.val jarD, .val (.int (n : Nat)), .val (.list (rs.map rowD)), .unk, .val (.list (iD ob)), .val (.list (iD ps)), .own (ws.map wishRow)], ⟨_, ⟨[], rfl, fun x h => by simp at h, rfl⟩, ⟨rfl, rfl, rfl, rfl, rfl, rfl, trivial⟩⟩, ?_, ?_⟩
  · rintro i d A1 hd ⟨ws, hl, hok2, rfl⟩
    have hi : i < m.toNat := by
      have := (List.getElem?_eq_some_iff.mp hd).1
      rw [rangeD_len] at this
      exact this
    refine gw_name (by simp) ?_
    repeat walk_at "ew"
    refine sw_append rfl rfl (by rw [List.length_map]; omega) ?_
    repeat walk_at "ew"
    rw [hlr]
    refine ⟨_, ⟨_, rfl, by omega, rfl⟩, ?_⟩
    rintro _ ⟨x, x0, x1, rfl⟩
    repeat walk_at "ew"
    refine ⟨(by show 5 ≤ 100000; decide), ?_⟩
    repeat walk_at "ew"
    refine ⟨_, ⟨5, rfl, by decide, rfl⟩, ?_⟩
    rintro _ ⟨r, r0, r1, rfl⟩
    refine rd_ixA r0 (by simpa using r1) fun d hd => ?_
    have hd' : ∃ m : Int, d = .int m ∧ 1 ≤ m ∧ m ≤ 4 := by
      simp only [List.mem_cons, List.not_mem_nil, or_false] at hd
      rcases hd with rfl | rfl | rfl | rfl | rfl <;> exact ⟨_, rfl, by decide, by decide⟩
    obtain ⟨k, rfl, q0, q1⟩ := hd'
    repeat walk_at "ew"
    refine ⟨_, ⟨ps, rfl, p3, p1, rfl⟩, ?_⟩
    rintro _ ⟨z, z0, z1, rfl⟩
    repeat walk_at "ew"
    refine ⟨(by show 3 ≤ 100000; decide), _, ⟨ws ++ [⟨x, k, z⟩], by rw [List.length_append, hl]; rfl, fun y hy => ?_, rfl⟩, ⟨rfl, rfl, rfl, rfl, rfl, ?_, trivial⟩⟩
    · rcases List.mem_append.mp hy with h | h
      · exact hok2 y h
      · simp at h
        subst h
        exact ⟨⟨x0, x1, q0, q1, z0⟩, z1⟩
    · rw [List.map_append]
      rfl
  rintro A1 ⟨ws, hlw, hok2, rfl⟩
  rw [rangeD_len] at hlw
  refine sw_freeze (i := 6) rfl rfl ?_
  repeat walk_at "ew"
  refine ⟨(by show 4 ≤ 100000; decide), ⟨n, rs, ob, ws⟩, ⟨hn, hok, fun k hk => ?_, k2, by show ob.length ≤ 60; omega, hok2, by show ws.length ≤ 12; omega⟩, by show 1 ≤ rs.length; omega, by show ob.length ≤ 24; omega, rfl⟩
  have := k1 k hk
  exact this
abbrev s__law_told : Stmt := topS 59
theorem sc__law_told : FnScope ["parts"] ["parts"] (defScope s__law_told) := ⟨rfl, rfl, rfl, by decide +kernel, rfl, by decide +kernel, by decide +kernel⟩
def T__law_told : Tr := fun ds Φ => ∃ p, ds = [ptsD p] ∧ PtsOk p ∧ Φ = fun d => d = toldD (lossTree (made p))
theorem ok__law_told (F : Fun K "_law_told" "_law_told" s__law_told f fd) (B : Blt mg) (f_loss_tree : Fn P w K mg base "loss_tree" 14 ["house"] T_loss_tree) (f_made_house : Fn P w K mg base "made_house" 7 ["n", "rows", "musts", "wishes"] T_made_house) :
    FnOk P w K mg base CX0 15 f fd ["parts"] (spD K T__law_told) := by
  refine F.ok sc__law_told (fun vs H Q E h => spD_len (by rintro _ _ ⟨_, rfl, _⟩; rfl) h) (fun cdv A outer s H vs Q E hr h => ?_)
  refine ⟨_, (pss_one (ps_ret (pe_fn f_loss_tree (hr.mono (by omega)) (pa_cons (pe_fn f_made_house (hr.mono (by omega)) (pa_cons (pe_ix (ix_U (K := K) rfl) (pv 0) pe_int (fun _ _ => rfl)) (pa_cons (pe_ix (ix_U (K := K) rfl) (pv 0) pe_int (fun _ _ => rfl)) (pa_cons (pe_ix (ix_U (K := K) rfl) (pv 0) pe_int (fun _ _ => rfl)) (pa_cons (pe_ix (ix_U (K := K) rfl) (pv 0) pe_int (fun _ _ => rfl)) pa_nil))))) pa_nil)))), ?_⟩
  refine body_of h fun J ds Φ hT => ?_
  try dsimp only [cxOf]
  obtain ⟨p, rfl, hok, rfl⟩ := hT
  show SW J K _ [.val (ptsD p)] _
  repeat walk_at "ew"
  refine rd_ixT (d := .int (p.n : Nat)) rfl ?_
  repeat walk_at "ew"
  refine rd_ixT (d := .list (p.rows.map rowD)) rfl ?_
  repeat walk_at "ew"
  refine rd_ixT (d := .list (iD p.obl)) rfl ?_
  repeat walk_at "ew"
  refine rd_ixT (d := .list (p.wan.map wishRow)) rfl ?_
  repeat walk_at "ew"
  refine ⟨_, ⟨p, rfl, hok, rfl⟩, ?_⟩
  rintro _ rfl
  repeat walk_at "ew"
  exact ⟨_, ⟨made p, rfl, made_ok hok, rfl⟩, fun d h => h⟩
abbrev s__law_at_most : Stmt := topS 60
theorem sc__law_at_most : FnScope ["less", "more", "size"] ["less", "more"] (defScope s__law_at_most) := ⟨rfl, rfl, rfl, by decide +kernel, rfl, by decide +kernel, by decide +kernel⟩
def T__law_at_most : Tr := fun ds Φ => ∃ x y a b, ds = [x, y] ∧ AtD x a ∧ AtD y b ∧ Φ = fun d => d = .bool (atMost a b)
theorem pad_is (n : Int) (N : Nat) (l : List Int) (e : n = (N : Nat)) (h : l.length ≤ N) : iD l ++ (List.replicate (n - (l.length : Nat)).toNat [PyData.int 0]).flatten = iD (padI N l) := by
  subst e
  unfold padI
  rw [← iD_app]
  congr 1
  have : (((N : Nat) : Int) - (l.length : Nat)).toNat = N - l.length := by omega
  rw [this]
  generalize N - l.length = k
  induction k with
  | zero => rfl
  | succ k ih => rw [List.replicate_succ, List.flatten_cons, ih, List.replicate_succ]; rfl
theorem ok__law_at_most (F : Fun K "_law_at_most" "_law_at_most" s__law_at_most f fd) (B : Blt mg) : FnOk P w K mg base CX0 1 f fd ["less", "more"] (spD K T__law_at_most) := by
  refine F.ok sc__law_at_most (fun vs H Q E h => spD_len (by rintro _ _ ⟨_, _, _, _, rfl, _⟩; rfl) h) (fun cdv A outer s H vs Q E hr h => ?_)
  refine ⟨_, (pss_cons (ps_if (pt_cmpR (op_eqU (K := K) rfl hr.units) (pe_ix (ix_U (K := K) rfl) (pv 1) pe_int (fun _ _ => rfl)) pe_str (nomark _)) (pss_one (ps_ret pe_bl)) pss_nil) (pss_cons (ps_if (pt_cmpR (op_eqU (K := K) rfl hr.units) (pe_ix (ix_U (K := K) rfl) (pv 0) pe_int (fun _ _ => rfl)) pe_str (nomark _)) (pss_one (ps_ret pe_bl)) pss_nil) (pss_cons (ps_set (i := 2) sc__law_at_most.nd rfl (by first | exact Or.inl rfl | exact Or.inr rfl) (pe_callB (call_max2 rfl) (by rfl) B.max (by decide +kernel) (pa_cons (pe_callB (call_lenU (K := K) rfl) (by rfl) B.len (by decide +kernel) (pa_cons (pe_ix (ix_U (K := K) rfl) (pv 0) pe_int (fun _ _ => rfl)) pa_nil)) (pa_cons (pe_callB (call_lenU (K := K) rfl) (by rfl) B.len (by decide +kernel) (pa_cons (pe_ix (ix_U (K := K) rfl) (pv 1) pe_int (fun _ _ => rfl)) pa_nil)) pa_nil)))) (pss_one (ps_ret (pe_cmpR (op_leU (K := K) rfl hr.units) (pe_op (op_addU (K := K) rfl) (pe_ix (ix_U (K := K) rfl) (pv 0) pe_int (fun _ _ => rfl)) (pe_op (op_mulU (K := K) rfl) (pe_tupZ (pa_cons pe_int pa_nil)) (pe_op op_sub (pv 2) (pe_callB (call_lenU (K := K) rfl) (by rfl) B.len (by decide +kernel) (pa_cons (pe_ix (ix_U (K := K) rfl) (pv 0) pe_int (fun _ _ => rfl)) pa_nil))))) (pe_op (op_addU (K := K) rfl) (pe_ix (ix_U (K := K) rfl) (pv 1) pe_int (fun _ _ => rfl)) (pe_op (op_mulU (K := K) rfl) (pe_tupZ (pa_cons pe_int pa_nil)) (pe_op op_sub (pv 2) (pe_callB (call_lenU (K := K) rfl) (by rfl) B.len (by decide +kernel) (pa_cons (pe_ix (ix_U (K := K) rfl) (pv 1) pe_int (fun _ _ => rfl)) pa_nil))))) (nomark _))))))), ?_⟩
  refine body_of h fun J ds Φ hT => ?_
  try dsimp only [cxOf]
  obtain ⟨x, y, a, b, rfl, hx, hy, rfl⟩ := hT
  show SW J K _ [.val x, .val y, .unk] _
  cases b with
  | never =>
    obtain ⟨ys, rfl, yl⟩ := hy
    repeat walk_at "ew"
    refine rd_ixT (d := .str "never") at0 ?_
    repeat walk_at "ew"
    rw [decide_eq_true (show (Str.ofString "never") = Str.ofString "never" from rfl)]
    repeat walk_at "ew"
    cases a <;> rfl
  | least bl =>
    obtain ⟨ys, rfl, bl1, yl⟩ := hy
    repeat walk_at "ew"
    refine rd_ixT (d := .str "least") at0 ?_
    repeat walk_at "ew"
    rw [decide_eq_false (show ¬ (Str.ofString "least") = Str.ofString "never" by decide +kernel)]
    repeat walk_at "ew"
    cases a with
    | never =>
      obtain ⟨xs, rfl, xl⟩ := hx
      repeat walk_at "ew"
      refine rd_ixT (d := .str "never") at0 ?_
      repeat walk_at "ew"
      rw [decide_eq_true (show (Str.ofString "never") = Str.ofString "never" from rfl)]
      repeat walk_at "ew"
      rfl
    | least al =>
      obtain ⟨xs, rfl, al1, xl⟩ := hx
      repeat walk_at "ew"
      refine rd_ixT (d := .str "least") at0 ?_
      repeat walk_at "ew"
      rw [decide_eq_false (show ¬ (Str.ofString "least") = Str.ofString "never" by decide +kernel)]
      have at1 : ∀ (u v : Dt) (zs : List Dt), atI (u :: v :: zs) 1 = some v := fun u v zs => by
        unfold atI ixN
        rw [if_pos (by decide), if_pos (by simp only [List.length_cons]; omega)]
        rfl
      repeat walk_at "ew"
      refine rd_ixT (at1 _ _ _) ?_
      repeat walk_at "ew"
      refine rc_lenT (ds := iD al) ?_
      repeat walk_at "ew"
      refine rd_ixT (at1 _ _ _) ?_
      repeat walk_at "ew"
      refine rc_lenT (ds := iD bl) ?_
      repeat walk_at "ew"
      rw [iD_len, iD_len]
      have hs : (if ((bl.length : Nat) : Int) > ((al.length : Nat) : Int) then ((bl.length : Nat) : Int) else ((al.length : Nat) : Int)) = ((max al.length bl.length : Nat) : Int) := by
        split <;> omega
      rw [hs]
      have n1 : al.length ≤ max al.length bl.length := Nat.le_max_left ..
      have n2 : bl.length ≤ max al.length bl.length := Nat.le_max_right ..
      have n3 : max al.length bl.length ≤ 1000 := Nat.max_le.mpr ⟨al1, bl1⟩
      generalize hm : max al.length bl.length = N at n1 n2 n3 ⊢
      repeat walk_at "ew"
      refine rd_ixT (at1 _ _ _) ?_
      repeat walk_at "ew"
      refine ⟨(by show 1 ≤ 100000; decide), ?_⟩
      repeat walk_at "ew"
      refine rd_ixT (at1 _ _ _) ?_
      repeat walk_at "ew"
      refine rc_lenT (ds := iD al) ?_
      repeat walk_at "ew"
      rw [iD_len] --al
      refine rd_repZ (by simp) (by omega) (by omega) (by simp) ?_
      refine rd_catZ ?_ ?_
      · rw [iD_len]
        have e := congrArg List.length (pad_is ((N : Nat) : Int) N al rfl n1)
        rw [List.length_append, iD_len, iD_len] at e
        unfold padI at e
        rw [List.length_append, List.length_replicate] at e
        omega
      rw [pad_is _ N al rfl n1]
      repeat walk_at "ew"
      refine rd_ixT (at1 _ _ _) ?_
      repeat walk_at "ew"
      refine ⟨(by show 1 ≤ 100000; decide), ?_⟩
      repeat walk_at "ew"
      refine rd_ixT (at1 _ _ _) ?_
      repeat walk_at "ew"
      refine rc_lenT (ds := iD bl) ?_
      repeat walk_at "ew"
      rw [iD_len] --bl
      refine rd_repZ (by simp) (by omega) (by omega) (by simp) ?_
      refine rd_catZ ?_ ?_
      · rw [iD_len]
        have e := congrArg List.length (pad_is ((N : Nat) : Int) N bl rfl n2)
        rw [List.length_append, iD_len, iD_len] at e
        unfold padI at e
        rw [List.length_append, List.length_replicate] at e
        omega
      rw [pad_is _ N bl rfl n2]
      refine rd_leT ?_
      show PyData.bool _ = PyData.bool (leI (padI (max al.length bl.length) al) (padI (max al.length bl.length) bl))
      rw [hm]
end
end WD

namespace WD
open PySem PySem.Spec PyProof.Rows L2 Evl
local macro_rules | `(tactic| walk_at "ew") => `(tactic| first
  | (with_reducible refine sw_seq ?_)
  | (with_reducible refine sw_next ?_)
  | (with_reducible refine sw_if ?_)
  | (with_reducible refine sw_setF (ef_lst (ed_nil (And.intro (Nat.zero_le _) ?_))))
  | (with_reducible refine sw_set ?_)
  | (with_reducible refine sw_ret ?_)
  | ((with_reducible refine' ew_var ?hv ?_); (case hv => rfl))
  | ((with_reducible refine' ev_own ?hv ?_); (case hv => rfl))
  | (with_reducible refine ev_of ?_)
  | (with_reducible refine ew_int ?_)
  | (with_reducible refine ew_str ?_)
  | (with_reducible refine ew_non ?_)
  | (with_reducible refine ew_bl ?_)
  | (with_reducible refine ew_op ?_)
  | (with_reducible refine ew_isi ?_)
  | (with_reducible refine ew_isRow ?_)
  | (with_reducible refine ew_cb ?_)
  | (with_reducible refine ea_cons ?_)
  | (with_reducible refine ea_nil ?_)
  | (with_reducible refine ed_cons ?_)
  | (with_reducible refine ed_nil ?_)
  | (with_reducible refine ew_tup ?_)
  | (with_reducible refine ew_lst ?_)
  | (with_reducible refine ew_call ?_)
  | (with_reducible refine ew_if ?_)
  | (with_reducible refine et_test ?_)
  | (with_reducible refine et_B ?_)
  | (with_reducible refine et_and ?_)
  | (with_reducible refine et_or ?_)
  | (with_reducible refine et_not ?_)
  | (with_reducible refine ew_chain ?_)
  | (with_reducible refine rd_add ?_)
  | (with_reducible refine rd_sub ?_)
  | (with_reducible refine rd_eq ?_)
  | (with_reducible refine rd_eqs ?_)
  | (with_reducible refine rd_le ?_)
  | (with_reducible refine rd_ge ?_)
  | (with_reducible refine rd_lt ?_)
  | (with_reducible refine rd_gt ?_)
  | (with_reducible refine rc_abs ?_)
  | (with_reducible refine rc_int ?_)
  | (with_reducible refine rc_lenL ?_)
  | (with_reducible refine rc_lenT ?_)
  | (with_reducible refine rc_max2 ?_)
  | (with_reducible refine rc_tuple ?_)
  | (with_reducible refine ew_un ?_)
  | (with_reducible refine ew_andV ?_)
  | (with_reducible refine ew_orV ?_)
  | (with_reducible refine ew_notV ?_)
  | (with_reducible refine rd_neI ?_)
  | (with_reducible refine ex_i ?_)
  | (with_reducible refine ex_b ?_)
  | (with_reducible refine it_T ?_)
  | (with_reducible refine it_F ?_)
  | (with_reducible refine it_NT ?_)
  | (with_reducible refine it_NF ?_))

section
variable {P : Program} {w : World} {K : PySem.W.Frag} {mg : Str → Option Value} {base : Heap} {f : Addr} {fd : FuncData}
/-! what is told, as a tuple -/
theorem told_at {T : Told} (hT : ∀ m, T.sh = .least m → m.length ≤ 4) : ∃ ds, toldD T = .tuple ds ∧ ds.length ≤ 4 ∧ atI ds (-1) = some (treD T.tree) ∧ AtD (.tuple (cutD (ds ++ [.tuple []]) none (some 2))) T.sh ∧ AtD (.tuple ds) T.sh := by
  cases T with
  | never t => exact ⟨_, rfl, by simp, rfl, ⟨[treD t], rfl, by simp⟩, ⟨[treD t], rfl, by simp⟩⟩
  | least l s t =>
    have h := hT l rfl
    exact ⟨_, rfl, by simp, rfl, ⟨[], rfl, by omega, by simp⟩, ⟨[setD s, treD t], rfl, by omega, by simp⟩⟩
theorem sh_at {y : Shown} (h : ∀ m, y = .least m → m.length ≤ 4) : AtD (shD y) y := by
  cases y with
  | never => exact ⟨[], rfl, by simp⟩
  | least l =>
    have := h l rfl
    exact ⟨[], rfl, by omega, by simp⟩
theorem cut_to {α : Type} (xs : List α) {r : Int} (h0 : 0 ≤ r) (h1 : r ≤ xs.length) : cutD xs none (some r) = xs.take r.toNat := by
  obtain ⟨n, rfl⟩ : ∃ n : Nat, r = (n : Int) := ⟨r.toNat, by omega⟩
  unfold cutD
  rw [HT.sIx_nat]
  show (xs.drop 0).take (min n xs.length - 0) = _
  rw [List.drop_zero, Int.toNat_natCast, Nat.min_eq_left (by omega), Nat.sub_zero]
theorem cut_from {α : Type} (xs : List α) {r : Int} (h0 : 0 ≤ r) (h1 : r ≤ xs.length) : cutD xs (some r) none = xs.drop r.toNat := by
  obtain ⟨n, rfl⟩ : ∃ n : Nat, r = (n : Int) := ⟨r.toNat, by omega⟩
  unfold cutD
  rw [HT.sIx_nat]
  show (xs.drop (min n xs.length)).take (xs.length - min n xs.length) = _
  rw [Int.toNat_natCast, Nat.min_eq_left (by omega)]
  exact List.take_of_length_le (by rw [List.length_drop]; omega)
theorem out_sub {α : Type} (xs : List α) (i : Nat) : List.Sublist (xs.take i ++ xs.drop (i + 1)) xs := by
  have h : List.Sublist (xs.take i ++ xs.drop (i + 1)) (xs.take i ++ xs.drop i) := (List.Sublist.refl _).append (List.drop_sublist_drop_left xs (Nat.le_succ i))
  rw [List.take_append_drop] at h
  exact h
abbrev s__law_fewer : Stmt := topS 61
theorem sc__law_fewer : FnScope ["jar", "parts", "told_here", "size", "rows", "obliged", "wanted", "at"] ["jar", "parts", "told_here"] (defScope s__law_fewer) := ⟨rfl, rfl, rfl, by decide +kernel, rfl, by decide +kernel, by decide +kernel⟩
def T__law_fewer : Tr := fun ds Φ => ∃ p, ds = [jarD, ptsD p, toldD (lossTree (made p))] ∧ PtsOk p ∧ Φ = fun d => d = .bool true
theorem ok__law_fewer (F : Fun K "_law_fewer" "_law_fewer" s__law_fewer f fd) (B : Blt mg) (f__law_take : Fn P w K mg base "_law_take" 1 ["jar", "many"] T__law_take) (f__law_told : Fn P w K mg base "_law_told" 15 ["parts"] T__law_told)
    (f__law_at_most : Fn P w K mg base "_law_at_most" 1 ["less", "more"] T__law_at_most) : FnOk P w K mg base CX0 16 f fd ["jar", "parts", "told_here"] (spD K T__law_fewer) := by
  refine F.ok sc__law_fewer (fun vs H Q E h => spD_len (by rintro _ _ ⟨_, rfl, _⟩; rfl) h) (fun cdv A outer s H vs Q E hr h => ?_)
  refine ⟨_, (pss_cons (ps_asg (pv 1) (pg_tup rfl (pgs_cons (pg_name (i := 3) sc__law_fewer.nd rfl (by first | exact Or.inl rfl | exact Or.inr rfl)) (pgs_cons (pg_name (i := 4) sc__law_fewer.nd rfl (by first | exact Or.inl rfl | exact Or.inr rfl)) (pgs_cons (pg_name (i := 5) sc__law_fewer.nd rfl (by first | exact Or.inl rfl | exact Or.inr rfl)) (pgs_cons (pg_name (i := 6) sc__law_fewer.nd rfl (by first | exact Or.inl rfl | exact Or.inr rfl)) pgs_nil)))))) (pss_cons (ps_if (pt_cmpR op_gt (pe_callB (call_lenU (K := K) rfl) (by rfl) B.len (by decide +kernel) (pa_cons (pv 6) pa_nil)) pe_int (nomark _)) (pss_cons (ps_set (i := 7) sc__law_fewer.nd rfl (by first | exact Or.inl rfl | exact Or.inr rfl) (pe_fn f__law_take (hr.mono (by omega)) (pa_cons (pv 0) (pa_cons (pe_callB (call_lenU (K := K) rfl) (by rfl) B.len (by decide +kernel) (pa_cons (pv 6) pa_nil)) pa_nil)))) (pss_one (ps_if (pt_not (pt_val (pe_fn f__law_at_most (hr.mono (by omega)) (pa_cons (pe_fn f__law_told (hr.mono (by omega)) (pa_cons (pe_tupZ (pa_cons (pv 3) (pa_cons (pv 4) (pa_cons (pv 5) (pa_cons (pe_op (op_addU (K := K) rfl) (pe_slice (sl_U (K := K) rfl) (pv 6) po_none (po_some (pv 7))) (pe_slice (sl_U (K := K) rfl) (pv 6) (po_some (pe_op (op_addU (K := K) rfl) (pv 7) pe_int)) po_none)) pa_nil))))) pa_nil)) (pa_cons (pv 2) pa_nil))))) (pss_one (ps_ret pe_bl)) pss_nil))) pss_nil) (pss_cons (ps_if (pt_cmpR op_gt (pe_callB (call_lenU (K := K) rfl) (by rfl) B.len (by decide +kernel) (pa_cons (pv 5) pa_nil)) pe_int (nomark _)) (pss_cons (ps_set (i := 7) sc__law_fewer.nd rfl (by first | exact Or.inl rfl | exact Or.inr rfl) (pe_fn f__law_take (hr.mono (by omega)) (pa_cons (pv 0) (pa_cons (pe_callB (call_lenU (K := K) rfl) (by rfl) B.len (by decide +kernel) (pa_cons (pv 5) pa_nil)) pa_nil)))) (pss_one (ps_ret (pe_fn f__law_at_most (hr.mono (by omega)) (pa_cons (pe_fn f__law_told (hr.mono (by omega)) (pa_cons (pe_tupZ (pa_cons (pv 3) (pa_cons (pv 4) (pa_cons (pe_op (op_addU (K := K) rfl) (pe_slice (sl_U (K := K) rfl) (pv 5) po_none (po_some (pv 7))) (pe_slice (sl_U (K := K) rfl) (pv 5) (po_some (pe_op (op_addU (K := K) rfl) (pv 7) pe_int)) po_none)) (pa_cons (pv 6) pa_nil))))) pa_nil)) (pa_cons (pv 2) pa_nil)))))) pss_nil) (pss_one (ps_ret pe_bl))))), ?_⟩
  refine body_of h fun J ds Φ hT => ?_
  try dsimp only [cxOf]
  obtain ⟨⟨n, rows, obl, wan⟩, rfl, hok, rfl⟩ := hT
  have hsh := fun m (e : (lossTree (made ⟨n, rows, obl, wan⟩)).sh = .least m) => sh_len (made_ok hok) e
  obtain ⟨td, htd, _, _, _, hat⟩ := told_at hsh
  rw [htd]
  show SW J K _ [.val jarD, .val (.tuple [.int (n : Nat), .list (rows.map rowD), .list (iD obl), .list (wan.map wishRow)]), .val (.tuple td), .unk, .unk, .unk, .unk, .unk] _
  refine sw_seq (sw_asg (ew_var rfl ⟨[3, 4, 5, 6], gw_tup rfl (gws_cons (by simp) (gws_cons (by simp) (gws_cons (by simp) (gws_cons (by simp) (gws_nil ?_)))))⟩))
  have lw : (wan.map wishRow).length = wan.length := List.length_map ..
  have part2 : ∀ (e : Ent) (Y : DE), (∀ d, d = .bool true → Y.rt d) → SW J K (tSeq (tIfS (tTest (tOp (rI0 fun i j => .bl (decide (j < i))) (tCB (fun xs H Q => ∃ p ys, xs = [.ref p] ∧ (SqL K H p ys ∨ SqT K H p ys) ∧ Q (.int ys.length) H) (tCons (tVar 5) tNil)) (tC (.int 0))))
      (tSeq (tAsg (tCall (spD K T__law_take) [] E0 (tCons (tVar 0) (tCons (tCB (fun xs H Q => ∃ p ys, xs = [.ref p] ∧ (SqL K H p ys ∨ SqT K H p ys) ∧ Q (.int ys.length) H) (tCons (tVar 5) tNil)) tNil))) (gName 7))
        (tRet (tCall (spD K T__law_at_most) [] E0 (tCons (tCall (spD K T__law_told) [] E0 (tCons (tTupZ (tCons (tVar 3) (tCons (tVar 4) (tCons (tOp (rAddU K) (tSl (rSlU K) (tVar 5) tNoPart (tPart (tVar 7))) (tSl (rSlU K) (tVar 5) (tPart (tOp (rAddU K) (tVar 7) (tC (.int 1)))) tNoPart)) (tCons (tVar 6) tNil))))) tNil)) (tCons (tVar 2) tNil))))) tNext) (tRet (tC (.bl true))))
      [.val jarD, .val (.tuple [.int (n : Nat), .list (rows.map rowD), .list (iD obl), .list (wan.map wishRow)]), .val (.tuple td), .val (.int (n : Nat)), .val (.list (rows.map rowD)), .val (.list (iD obl)), .val (.list (wan.map wishRow)), e] Y := fun e Y hY => by
    repeat walk_at "ew"
    rw [iD_len]
    refine it_D (fun hp => ?_) (fun hn => ?_)
    · repeat walk_at "ew"
      rw [iD_len]
      refine ⟨_, ⟨_, rfl, by omega, rfl⟩, ?_⟩
      rintro _ ⟨r, r0, r1, rfl⟩
      repeat walk_at "ew"
      refine ew_sl ?_
      repeat walk_at "ew"
      refine eo_none (eo_some ?_)
      repeat walk_at "ew"
      refine ⟨_, .inl ⟨rfl, ?_⟩⟩
      refine ev_of (ew_sl ?_)
      repeat walk_at "ew"
      refine eo_some ?_
      repeat walk_at "ew"
      refine eo_none ⟨_, .inl ⟨rfl, ?_⟩⟩
      have ec : cutD (iD obl) none (some r) ++ cutD (iD obl) (some (r + 1)) none = iD (obl.take r.toNat ++ obl.drop (r.toNat + 1)) := by
        have e2 : (r + 1).toNat = r.toNat + 1 := by omega
        rw [cut_to _ r0 (by rw [iD_len]; omega), cut_from _ (by omega) (by rw [iD_len]; omega), e2]
        unfold iD
        rw [List.map_append, List.map_take, List.map_drop]
      have hs := out_sub obl r.toNat
      refine rd_catL ?_ ?_
      · rw [← List.length_append, ec, iD_len]
        have := hs.length_le
        have := hok.olen
        have : obl.length ≤ 60 := this
        omega
      rw [ec]
      repeat walk_at "ew"
      have hok2 : PtsOk ⟨n, rows, obl.take r.toNat ++ obl.drop (r.toNat + 1), wan⟩ := ⟨hok.n, hok.rows, fun k hk => hok.obl k (hs.subset hk), hok.ond.sublist hs, Nat.le_trans hs.length_le hok.olen, hok.wan, hok.wlen⟩
      refine ⟨(by show 4 ≤ 100000; decide), ?_⟩
      repeat walk_at "ew"
      refine ⟨_, ⟨_, rfl, hok2, rfl⟩, ?_⟩
      rintro _ rfl
      repeat walk_at "ew"
      have hsh2 := fun m (e : (lossTree (made ⟨n, rows, obl.take r.toNat ++ obl.drop (r.toNat + 1), wan⟩)).sh = .least m) => sh_len (made_ok hok2) e
      obtain ⟨td2, htd2, _, _, _, hat2⟩ := told_at hsh2
      refine ⟨_, ⟨_, _, _, _, rfl, htd2 ▸ hat2, hat, rfl⟩, ?_⟩
      rintro _ rfl
      refine hY _ ?_
      rw [law_le hok2 hok (fun k hk => hs.subset hk) (List.Sublist.refl _)]
    · repeat walk_at "ew"
      exact hY _ rfl
  repeat walk_at "ew"
  rw [lw]
  refine it_D (fun hp => ?_) (fun hn => ?_)
  · repeat walk_at "ew"
    rw [lw]
    refine ⟨_, ⟨_, rfl, by omega, rfl⟩, ?_⟩
    rintro _ ⟨r, r0, r1, rfl⟩
    repeat walk_at "ew"
    refine ew_sl ?_
    repeat walk_at "ew"
    refine eo_none (eo_some ?_)
    repeat walk_at "ew"
    refine ⟨_, .inl ⟨rfl, ?_⟩⟩
    refine ev_of (ew_sl ?_)
    repeat walk_at "ew"
    refine eo_some ?_
    repeat walk_at "ew"
    refine eo_none ⟨_, .inl ⟨rfl, ?_⟩⟩
    have ec : cutD (wan.map wishRow) none (some r) ++ cutD (wan.map wishRow) (some (r + 1)) none = (wan.take r.toNat ++ wan.drop (r.toNat + 1)).map wishRow := by
      have e2 : (r + 1).toNat = r.toNat + 1 := by omega
      rw [cut_to _ r0 (by rw [lw]; omega), cut_from _ (by omega) (by rw [lw]; omega), e2, List.map_append, List.map_take, List.map_drop]
    have hs := out_sub wan r.toNat
    refine rd_catL ?_ ?_
    · rw [← List.length_append, ec, List.length_map]
      have := hs.length_le
      have : wan.length ≤ 12 := hok.wlen
      omega
    rw [ec]
    repeat walk_at "ew"
    have hok2 : PtsOk ⟨n, rows, obl, wan.take r.toNat ++ wan.drop (r.toNat + 1)⟩ := ⟨hok.n, hok.rows, hok.obl, hok.ond, hok.olen, fun x hx => hok.wan x (hs.subset hx), Nat.le_trans hs.length_le hok.wlen⟩
    refine ⟨(by show 4 ≤ 100000; decide), ?_⟩
    repeat walk_at "ew"
    refine ⟨_, ⟨_, rfl, hok2, rfl⟩, ?_⟩
    rintro _ rfl
    repeat walk_at "ew"
    have hsh2 := fun m (e : (lossTree (made ⟨n, rows, obl, wan.take r.toNat ++ wan.drop (r.toNat + 1)⟩)).sh = .least m) => sh_len (made_ok hok2) e
    obtain ⟨td2, htd2, _, _, _, hat2⟩ := told_at hsh2
    refine ⟨_, ⟨_, _, _, _, rfl, htd2 ▸ hat2, hat, rfl⟩, ?_⟩
    rintro _ rfl
    rw [law_le hok2 hok (fun k hk => hk) hs]
    exact ex_b (it_NT (sw_next (part2 _ _ fun d h => h)))
  · exact sw_next (part2 _ _ fun d h => h)
end
end WD

namespace WD
open PySem PySem.Spec PyProof.Rows L2 Evl
local macro_rules | `(tactic| walk_at "ew") => `(tactic| first
  | (with_reducible refine sw_seq ?_)
  | (with_reducible refine sw_next ?_)
  | (with_reducible refine sw_if ?_)
  | (with_reducible refine sw_setF (ef_lst (ed_nil (And.intro (Nat.zero_le _) ?_))))
  | (with_reducible refine sw_set ?_)
  | (with_reducible refine sw_ret ?_)
  | ((with_reducible refine' ew_var ?hv ?_); (case hv => rfl))
  | ((with_reducible refine' ev_own ?hv ?_); (case hv => rfl))
  | (with_reducible refine ev_of ?_)
  | (with_reducible refine ew_int ?_)
  | (with_reducible refine ew_str ?_)
  | (with_reducible refine ew_non ?_)
  | (with_reducible refine ew_bl ?_)
  | (with_reducible refine ew_op ?_)
  | (with_reducible refine ew_isi ?_)
  | (with_reducible refine ew_isRow ?_)
  | (with_reducible refine ew_cb ?_)
  | (with_reducible refine ea_cons ?_)
  | (with_reducible refine ea_nil ?_)
  | (with_reducible refine ed_cons ?_)
  | (with_reducible refine ed_nil ?_)
  | (with_reducible refine ew_tup ?_)
  | (with_reducible refine ew_lst ?_)
  | (with_reducible refine ew_call ?_)
  | (with_reducible refine ew_if ?_)
  | (with_reducible refine et_test ?_)
  | (with_reducible refine et_B ?_)
  | (with_reducible refine et_and ?_)
  | (with_reducible refine et_or ?_)
  | (with_reducible refine et_not ?_)
  | (with_reducible refine ew_chain ?_)
  | (with_reducible refine rd_add ?_)
  | (with_reducible refine rd_sub ?_)
  | (with_reducible refine rd_eq ?_)
  | (with_reducible refine rd_eqs ?_)
  | (with_reducible refine rd_le ?_)
  | (with_reducible refine rd_ge ?_)
  | (with_reducible refine rd_lt ?_)
  | (with_reducible refine rd_gt ?_)
  | (with_reducible refine rc_abs ?_)
  | (with_reducible refine rc_int ?_)
  | (with_reducible refine rc_lenL ?_)
  | (with_reducible refine rc_lenT ?_)
  | (with_reducible refine rc_max2 ?_)
  | (with_reducible refine rc_tuple ?_)
  | (with_reducible refine ew_un ?_)
  | (with_reducible refine ew_andV ?_)
  | (with_reducible refine ew_orV ?_)
  | (with_reducible refine ew_notV ?_)
  | (with_reducible refine rd_neI ?_)
  | (with_reducible refine ex_i ?_)
  | (with_reducible refine ex_b ?_)
  | (with_reducible refine it_T ?_)
  | (with_reducible refine it_F ?_)
  | (with_reducible refine it_NT ?_)
  | (with_reducible refine it_NF ?_))

section
variable {P : Program} {w : World} {K : PySem.W.Frag} {mg : Str → Option Value} {base : Heap} {f : Addr} {fd : FuncData}
abbrev s__law_more : Stmt := topS 62
theorem sc__law_more : FnScope ["jar", "parts", "told_here", "size", "rows", "obliged", "wanted", "at", "many", "other", "shown"] ["jar", "parts", "told_here"] (defScope s__law_more) := ⟨rfl, rfl, rfl, by decide +kernel, rfl, by decide +kernel, by decide +kernel⟩
def T__law_more : Tr := fun ds Φ => ∃ p, ds = [jarD, ptsD p, toldD (lossTree (made p))] ∧ PtsOk p ∧ 1 ≤ p.rows.length ∧ p.obl.length ≤ 24 ∧ Φ = fun d => d = .bool true
def Big (n : Nat) (rows : List Rl) (obl : List Int) (wan : List Wish) (q : Pts) : Prop := ∃ obl' ex, q = ⟨n, rows, obl', wan ++ ex⟩ ∧ PtsOk ⟨n, rows, obl', wan ++ ex⟩ ∧ ∀ k ∈ obl, k ∈ obl'
theorem ok__law_more (F : Fun K "_law_more" "_law_more" s__law_more f fd) (B : Blt mg) (f__law_take : Fn P w K mg base "_law_take" 1 ["jar", "many"] T__law_take) (f__law_told : Fn P w K mg base "_law_told" 15 ["parts"] T__law_told)
    (f__law_at_most : Fn P w K mg base "_law_at_most" 1 ["less", "more"] T__law_at_most) (f_tree_shows : Fn P w K mg base "tree_shows" 14 ["house", "tree"] (T_tree_shows 9)) (f_made_house : Fn P w K mg base "made_house" 7 ["n", "rows", "musts", "wishes"] T_made_house) :
    FnOk P w K mg base CX0 16 f fd ["jar", "parts", "told_here"] (spD K T__law_more) := by
  refine F.ok sc__law_more (fun vs H Q E h => spD_len (by rintro _ _ ⟨_, rfl, _⟩; rfl) h) (fun cdv A outer s H vs Q E hr h => ?_)
  refine ⟨_, (pss_cons (ps_asg (pv 1) (pg_tup rfl (pgs_cons (pg_name (i := 3) sc__law_more.nd rfl (by first | exact Or.inl rfl | exact Or.inr rfl)) (pgs_cons (pg_name (i := 4) sc__law_more.nd rfl (by first | exact Or.inl rfl | exact Or.inr rfl)) (pgs_cons (pg_name (i := 5) sc__law_more.nd rfl (by first | exact Or.inl rfl | exact Or.inr rfl)) (pgs_cons (pg_name (i := 6) sc__law_more.nd rfl (by first | exact Or.inl rfl | exact Or.inr rfl)) pgs_nil)))))) (pss_cons (ps_set (i := 7) sc__law_more.nd rfl (by first | exact Or.inl rfl | exact Or.inr rfl) (pe_fn f__law_take (hr.mono (by omega)) (pa_cons (pv 0) (pa_cons (pe_callB (call_lenU (K := K) rfl) (by rfl) B.len (by decide +kernel) (pa_cons (pv 4) pa_nil)) pa_nil)))) (pss_cons (ps_set (i := 8) sc__law_more.nd rfl (by first | exact Or.inl rfl | exact Or.inr rfl) (pe_lst (pa_cons (pv 1) (pa_cons (pv 1) pa_nil)))) (pss_cons (ps_if (pt_cmpR (op_ninU (K := K) rfl) (pv 7) (pv 5) rfl) (pss_one (ps_asg (pe_tupZ (pa_cons (pv 3) (pa_cons (pv 4) (pa_cons (pe_op (op_addU (K := K) rfl) (pv 5) (pe_lst (pa_cons (pv 7) pa_nil))) (pa_cons (pv 6) pa_nil))))) (pg_sub (pv 8) pe_int set_list))) pss_nil) (pss_cons (ps_if (pt_cmpR op_lt (pe_callB (call_lenU (K := K) rfl) (by rfl) B.len (by decide +kernel) (pa_cons (pv 6) pa_nil)) pe_int (nomark _)) (pss_one (ps_asg (pe_tupZ (pa_cons (pv 3) (pa_cons (pv 4) (pa_cons (pv 5) (pa_cons (pe_op (op_addU (K := K) rfl) (pv 6) (pe_lst (pa_cons (pe_lst (pa_cons (pv 7) (pa_cons (pe_op (op_addU (K := K) rfl) pe_int (pe_fn f__law_take (hr.mono (by omega)) (pa_cons (pv 0) (pa_cons pe_int pa_nil)))) (pa_cons (pe_op (op_addU (K := K) rfl) pe_int (pe_fn f__law_take (hr.mono (by omega)) (pa_cons (pv 0) (pa_cons pe_int pa_nil)))) pa_nil)))) pa_nil))) pa_nil))))) (pg_sub (pv 8) pe_int set_list))) pss_nil) (pss_cons (ps_for PassesOwn.never rfl (pi_list (pv 8)) (pg_name (i := 9) sc__law_more.nd rfl (by first | exact Or.inl rfl | exact Or.inr rfl)) (pss_cons (ps_if (pt_not (pt_val (pe_fn f__law_at_most (hr.mono (by omega)) (pa_cons (pv 2) (pa_cons (pe_fn f__law_told (hr.mono (by omega)) (pa_cons (pv 9) pa_nil)) pa_nil))))) (pss_one (ps_ret pe_bl)) pss_nil) (pss_cons (ps_set (i := 10) sc__law_more.nd rfl (by first | exact Or.inl rfl | exact Or.inr rfl) (pe_fn f_tree_shows (hr.mono (by omega)) (pa_cons (pe_fn f_made_house (hr.mono (by omega)) (pa_cons (pe_ix (ix_U (K := K) rfl) (pv 9) pe_int (fun _ _ => rfl)) (pa_cons (pe_ix (ix_U (K := K) rfl) (pv 9) pe_int (fun _ _ => rfl)) (pa_cons (pe_ix (ix_U (K := K) rfl) (pv 9) pe_int (fun _ _ => rfl)) (pa_cons (pe_ix (ix_U (K := K) rfl) (pv 9) pe_int (fun _ _ => rfl)) pa_nil))))) (pa_cons (pe_ix (ix_U (K := K) rfl) (pv 2) (pe_un un_neg pe_int) (fun _ _ => rfl)) pa_nil)))) (pss_one (ps_if (PW.pt (pw_or (pt_cmpR op_isN (pv 10) pe_non (nomark _)) (pw_or1 (pt_not (pt_val (pe_fn f__law_at_most (hr.mono (by omega)) (pa_cons (pe_slice (sl_U (K := K) rfl) (pe_op (op_addU (K := K) rfl) (pv 2) (pe_tupZ (pa_cons (pe_tupZ pa_nil) pa_nil))) po_none (po_some pe_int)) (pa_cons (pv 10) pa_nil)))))))) (pss_one (ps_ret pe_bl)) pss_nil))))) (pss_one (ps_ret pe_bl)))))))), ?_⟩
  refine body_of h fun J ds Φ hT => ?_
  try dsimp only [cxOf]
  obtain ⟨⟨n, rows, obl, wan⟩, rfl, hok, hrl, hob, rfl⟩ := hT
  have hrl' : 1 ≤ rows.length := hrl
  have hob' : obl.length ≤ 24 := hob
  have hwl : wan.length ≤ 12 := hok.wlen
  have hsh := fun m (e : (lossTree (made ⟨n, rows, obl, wan⟩)).sh = .least m) => sh_len (made_ok hok) e
  obtain ⟨td, htd, htl, htn, htc, hat⟩ := told_at hsh
  rw [htd]
  obtain ⟨pd, hpd⟩ : ∃ pd, pd = ptsD ⟨n, rows, obl, wan⟩ := ⟨_, rfl⟩
  show SW J K _ [.val jarD, .val (.tuple [.int (n : Nat), .list (rows.map rowD), .list (iD obl), .list (wan.map wishRow)]), .val (.tuple td), .unk, .unk, .unk, .unk, .unk, .unk, .unk, .unk] _
  refine sw_seq (sw_asg (ew_var rfl ⟨[3, 4, 5, 6], gw_tup rfl (gws_cons (by simp) (gws_cons (by simp) (gws_cons (by simp) (gws_cons (by simp) (gws_nil ?_)))))⟩))
  have lr : (rows.map rowD).length = rows.length := List.length_map ..
  have lw : (wan.map wishRow).length = wan.length := List.length_map ..
  have eP : PyData.tuple [.int (n : Nat), .list (rows.map rowD), .list (iD obl), .list (wan.map wishRow)] = pd := hpd.symm
  show SW J K _ [.val jarD, .val (.tuple [.int (n : Nat), .list (rows.map rowD), .list (iD obl), .list (wan.map wishRow)]), .val (.tuple td), .val (.int (n : Nat)), .val (.list (rows.map rowD)), .val (.list (iD obl)), .val (.list (wan.map wishRow)), .unk, .unk, .unk, .unk] _
  rw [eP]
  repeat walk_at "ew"
  rw [lr]
  refine ⟨_, ⟨_, rfl, by omega, rfl⟩, ?_⟩
  rintro _ ⟨a, a0, a1, rfl⟩
  refine sw_seq (sw_setF (ef_lst ?_))
  repeat walk_at "ew"
  refine ⟨(by show 2 ≤ 100000; decide), ?_⟩
  have big0 : Big n rows obl wan ⟨n, rows, obl, wan⟩ := ⟨obl, [], by rw [List.append_nil], by rw [List.append_nil]; exact hok, fun k h => h⟩
  refine sw_seq (sw_mono (X := ⟨fun A' => ∃ q0, Big n rows obl wan q0 ∧ A' = [.val jarD, .val pd, .val (.tuple td), .val (.int (n : Nat)), .val (.list (rows.map rowD)), .val (.list (iD obl)), .val (.list (wan.map wishRow)), .val (.int a), .own [ptsD q0, pd], .unk, .unk], fun _ => False, fun _ => False, fun _ => False⟩) ?_ ?_ (fun _ h => h.elim) (fun _ h => h.elim) (fun _ h => h.elim))
  · repeat walk_at "ew"
    refine rd_inI (neg := true) (ns := obl) ?_
    repeat walk_at "ew"
    refine it_ND (fun hm => ?_) (fun hm => ?_)
    · exact sw_next ⟨_, big0, by rw [hpd]; rfl⟩
    · refine sw_setItem rfl rfl ?_
      repeat walk_at "ew"
      refine ⟨(by show 1 ≤ 100000; decide), rd_catL (by rw [iD_len]; simp; omega) ?_⟩
      rw [iD_snoc]
      repeat walk_at "ew"
      refine ⟨(by show 4 ≤ 100000; decide), ?_⟩
      repeat walk_at "ew"
      refine ⟨0, rfl, by simp, ⟨n, rows, obl ++ [a], wan⟩, ⟨obl ++ [a], [], by rw [List.append_nil], ?_, fun k h => by simp [h]⟩, rfl⟩
      rw [List.append_nil]
      refine ⟨hok.n, hok.rows, fun k hk => ?_, ?_, ?_, hok.wan, hok.wlen⟩
      · rcases List.mem_append.mp hk with h | h
        · exact hok.obl k h
        · simp at h
          subst h
          exact ⟨a0, a1⟩
      · refine List.nodup_append.mpr ⟨hok.ond, by simp, fun x hx y hy hxy => ?_⟩
        simp at hy
        subst hy
        subst hxy
        exact hm hx
      · show (obl ++ [a]).length ≤ 60
        rw [List.length_append]
        simp
        omega
  rintro A' ⟨q0, hb0, rfl⟩
  refine sw_seq (sw_mono (X := ⟨fun A' => ∃ q1, Big n rows obl wan q1 ∧ A' = [.val jarD, .val pd, .val (.tuple td), .val (.int (n : Nat)), .val (.list (rows.map rowD)), .val (.list (iD obl)), .val (.list (wan.map wishRow)), .val (.int a), .own [ptsD q0, ptsD q1], .unk, .unk], fun _ => False, fun _ => False, fun _ => False⟩) ?_ ?_ (fun _ h => h.elim) (fun _ h => h.elim) (fun _ h => h.elim))
  · repeat walk_at "ew"
    rw [lw]
    refine it_D (fun hm => ?_) (fun hm => ?_)
    · refine sw_setItem rfl rfl ?_
      repeat walk_at "ew"
      refine ⟨_, ⟨4, rfl, by decide, rfl⟩, ?_⟩
      rintro _ ⟨x, x0, x1, rfl⟩
      repeat walk_at "ew"
      refine ⟨_, ⟨99, rfl, by decide, rfl⟩, ?_⟩
      rintro _ ⟨y, y0, y1, rfl⟩
      repeat walk_at "ew"
      refine ⟨(by show 3 ≤ 100000; decide), ?_⟩
      repeat walk_at "ew"
      refine ⟨(by show 1 ≤ 100000; decide), rd_catL (by rw [lw]; simp; omega) ?_⟩
      have ew1 : wan.map wishRow ++ [.list [.int a, .int (1 + x), .int (1 + y)]] = (wan ++ [(⟨a, 1 + x, 1 + y⟩ : Wish)]).map wishRow := by rw [List.map_append]; rfl
      rw [ew1]
      repeat walk_at "ew"
      refine ⟨(by show 4 ≤ 100000; decide), ?_⟩
      repeat walk_at "ew"
      refine ⟨1, rfl, by simp, ⟨n, rows, obl, wan ++ [⟨a, 1 + x, 1 + y⟩]⟩, ⟨obl, [⟨a, 1 + x, 1 + y⟩], rfl, ?_, fun k h => h⟩, rfl⟩
      refine ⟨hok.n, hok.rows, hok.obl, hok.ond, hok.olen, fun z hz => ?_, ?_⟩
      · rcases List.mem_append.mp hz with h | h
        · exact hok.wan z h
        · simp at h
          subst h
          exact ⟨⟨a0, a1, by show 1 ≤ 1 + x; omega, by show 1 + x ≤ 4; omega, by show 1 ≤ 1 + y; omega⟩, by show 1 + y ≤ 10 ^ 30; omega⟩
      · show (wan ++ [_]).length ≤ 12
        rw [List.length_append]
        simp
        omega
    · exact sw_next ⟨_, big0, by rw [hpd]⟩
  rintro A' ⟨q1, hb1, rfl⟩
  refine sw_freeze (i := 8) rfl rfl ?_
  refine sw_seq (sw_forF (vs := [9]) [q0, q1] ptsD (fun _ => [.val jarD, .val pd, .val (.tuple td), .val (.int (n : Nat)), .val (.list (rows.map rowD)), .val (.list (iD obl)), .val (.list (wan.map wishRow)), .val (.int a), .val (.list [ptsD q0, ptsD q1]), .unk, .unk]) (iw_list (ew_var rfl ⟨_, rfl, rfl, Wk.refl _, fun pre x post hs => gw_name (by simp) ?_, ?_⟩)))
  · have hbx : Big n rows obl wan x := by
      have hx : x ∈ [q0, q1] := by rw [hs]; simp
      simp at hx
      rcases hx with rfl | rfl
      · exact hb0
      · exact hb1
    obtain ⟨obl', ex, rfl, hokx, hsub⟩ := hbx
    have hshx := fun m (e : (lossTree (made ⟨n, rows, obl', wan ++ ex⟩)).sh = .least m) => sh_len (made_ok hokx) e
    obtain ⟨tx, htx, _, _, _, hatx⟩ := told_at hshx
    repeat walk_at "ew"
    refine ⟨_, ⟨_, rfl, hokx, rfl⟩, ?_⟩
    rintro _ rfl
    repeat walk_at "ew"
    refine ⟨_, ⟨_, _, _, _, rfl, hat, htx ▸ hatx, rfl⟩, ?_⟩
    rintro _ rfl
    rw [law_le hok hokx hsub (List.sublist_append_left _ _)]
    refine ex_b (it_NT (sw_next ?_))
    repeat walk_at "ew"
    refine rd_ixT (d := .int (n : Nat)) rfl ?_
    repeat walk_at "ew"
    refine rd_ixT (d := .list (rows.map rowD)) rfl ?_
    repeat walk_at "ew"
    refine rd_ixT (d := .list (iD obl')) rfl ?_
    repeat walk_at "ew"
    refine rd_ixT (d := .list ((wan ++ ex).map wishRow)) rfl ?_
    repeat walk_at "ew"
    refine ⟨_, ⟨⟨n, rows, obl', wan ++ ex⟩, rfl, hokx, rfl⟩, ?_⟩
    rintro _ rfl
    repeat walk_at "ew"
    refine rd_ixT (ds := td) htn ?_
    repeat walk_at "ew"
    obtain ⟨g1, g2⟩ := tree_hgt (made_ok hok)
    refine ⟨_, ⟨_, _, rfl, made_ok hokx, g1, g2, rfl⟩, ?_⟩
    rintro _ rfl
    obtain ⟨y, hy, hya, hyl⟩ := told_tree (h := made ⟨n, rows, obl, wan⟩) (h' := made ⟨n, rows, obl', wan ++ ex⟩) (made_ok hok) (made_ok hokx) rfl rfl (fun k hk => sortI_mem.mpr (hsub k (sortI_mem.mp hk))) (ex := ex) rfl
    rw [hy]
    repeat walk_at "ew"
    refine rd_isN_no (by cases y <;> exact fun z => nomatch z) ?_
    repeat walk_at "ew"
    refine ew_sl ?_
    repeat walk_at "ew"
    refine ⟨(by show 0 ≤ 100000; decide), ?_⟩
    repeat walk_at "ew"
    refine ⟨(by show 1 ≤ 100000; decide), rd_catZ (by simp; omega) ?_⟩
    refine eo_none (eo_some ?_)
    repeat walk_at "ew"
    refine ⟨_, .inr ⟨rfl, ?_⟩⟩
    repeat walk_at "ew"
    refine ⟨_, ⟨_, _, _, _, rfl, htc, sh_at hyl, rfl⟩, ?_⟩
    rintro _ rfl
    rw [hya]
    refine ex_b (it_NT (sw_next ?_))
    exact ⟨rfl, rfl, rfl, rfl, rfl, rfl, rfl, rfl, rfl, trivial⟩
  · repeat walk_at "ew"
    exact rfl
end
end WD

namespace WD
open PySem PySem.Spec PyProof.Rows L2 Evl
local macro_rules | `(tactic| walk_at "ew") => `(tactic| first
  | (with_reducible refine sw_seq ?_)
  | (with_reducible refine sw_next ?_)
  | (with_reducible refine sw_if ?_)
  | (with_reducible refine sw_setF (ef_lst (ed_nil (And.intro (Nat.zero_le _) ?_))))
  | (with_reducible refine sw_set ?_)
  | (with_reducible refine sw_ret ?_)
  | ((with_reducible refine' ew_var ?hv ?_); (case hv => rfl))
  | ((with_reducible refine' ev_own ?hv ?_); (case hv => rfl))
  | (with_reducible refine ev_of ?_)
  | (with_reducible refine ew_int ?_)
  | (with_reducible refine ew_str ?_)
  | (with_reducible refine ew_non ?_)
  | (with_reducible refine ew_bl ?_)
  | (with_reducible refine ew_op ?_)
  | (with_reducible refine ew_isi ?_)
  | (with_reducible refine ew_isRow ?_)
  | (with_reducible refine ew_cb ?_)
  | (with_reducible refine ea_cons ?_)
  | (with_reducible refine ea_nil ?_)
  | (with_reducible refine ed_cons ?_)
  | (with_reducible refine ed_nil ?_)
  | (with_reducible refine ew_tup ?_)
  | (with_reducible refine ew_lst ?_)
  | (with_reducible refine ew_call ?_)
  | (with_reducible refine ew_if ?_)
  | (with_reducible refine et_test ?_)
  | (with_reducible refine et_B ?_)
  | (with_reducible refine et_and ?_)
  | (with_reducible refine et_or ?_)
  | (with_reducible refine et_not ?_)
  | (with_reducible refine ew_chain ?_)
  | (with_reducible refine rd_add ?_)
  | (with_reducible refine rd_sub ?_)
  | (with_reducible refine rd_eq ?_)
  | (with_reducible refine rd_eqs ?_)
  | (with_reducible refine rd_le ?_)
  | (with_reducible refine rd_ge ?_)
  | (with_reducible refine rd_lt ?_)
  | (with_reducible refine rd_gt ?_)
  | (with_reducible refine rc_abs ?_)
  | (with_reducible refine rc_int ?_)
  | (with_reducible refine rc_lenL ?_)
  | (with_reducible refine rc_lenT ?_)
  | (with_reducible refine rc_max2 ?_)
  | (with_reducible refine rc_tuple ?_)
  | (with_reducible refine ew_un ?_)
  | (with_reducible refine ew_andV ?_)
  | (with_reducible refine ew_orV ?_)
  | (with_reducible refine ew_notV ?_)
  | (with_reducible refine rd_neI ?_)
  | (with_reducible refine ex_i ?_)
  | (with_reducible refine ex_b ?_)
  | (with_reducible refine it_T ?_)
  | (with_reducible refine it_F ?_)
  | (with_reducible refine it_NT ?_)
  | (with_reducible refine it_NF ?_))

section
variable {P : Program} {w : World} {K : PySem.W.Frag} {mg : Str → Option Value} {base : Heap} {f : Addr} {fd : FuncData}
theorem sw_run {J : Option Addr} {t : TS} {A : Env'} {F H : Hp} {σ : L2.St} (h : SW J K t A ⟨fun _ => False, fun d => d = .bool true, fun _ => False, fun _ => False⟩) (I : InS J K F H A σ F H) {D : Ends} (q : ∀ H', D.rt (.bl true) H') : t D σ H :=
  h F H σ F H I D (fun _ _ _ _ c => c.elim) (fun d v F' H' c s hv => by subst c; cases hv; exact q H') (fun _ _ _ _ c => c.elim) fun _ _ _ _ c => c.elim
theorem unk_ok {J : Option Addr} {H0 F H : Hp} {n : Nat} {σ : L2.St} (h : σ.length = n) : EnvOk J K H0 (List.replicate n .unk) σ F H := by
  refine ⟨by rw [List.length_replicate]; exact h, fun i e he => ?_⟩
  have hi : i < n := by
    have := (List.getElem?_eq_some_iff.mp he).1
    rw [List.length_replicate] at this
    exact this
  rw [List.getElem?_replicate, if_pos hi] at he
  cases he
  exact ⟨σ[i], List.getElem?_eq_getElem (by omega), trivial⟩
def spLaw (K : PySem.W.Frag) : Sp := fun vs H Q _ => ∃ (a : Addr) (ns : List Int), vs = [.ref a] ∧ SqL K H a (ns.map V.int) ∧ ns.length ≤ 63 ∧ ∀ H', Q (.bl true) H'
abbrev s_law : Stmt := topS 63
theorem sc_law : FnScope ["script", "jar", "parts", "found", "times", "greater", "one", "loss"] ["script"] (defScope s_law) := ⟨rfl, rfl, rfl, by decide +kernel, rfl, by decide +kernel, by decide +kernel⟩
theorem ok_law {fj : Addr} {fdj : FuncData} (F : Fun K "law" "law" s_law f fd) (B : Blt mg) (GJ : FnOk P w K mg base CX0 2 fj fdj ["script"] (spJar K)) (bJ : Binds K fdj ["script"] []) (kJ : PySem.W.keepIn K (.ref fj) = true) (mJ : mg "_law_jar" = some (.ref fj))
    (f__law_take : Fn P w K mg base "_law_take" 1 ["jar", "many"] T__law_take) (f__law_parts : Fn P w K mg base "_law_parts" 4 ["jar"] T__law_parts) (f__law_told : Fn P w K mg base "_law_told" 15 ["parts"] T__law_told)
    (f__law_fewer : Fn P w K mg base "_law_fewer" 16 ["jar", "parts", "told_here"] T__law_fewer) (f__law_more : Fn P w K mg base "_law_more" 16 ["jar", "parts", "told_here"] T__law_more) :
    FnOk P w K mg base CX0 17 f fd ["script"] (spLaw K) := by
  refine F.ok sc_law (fun vs H Q E h => by obtain ⟨a, ns, rfl, _⟩ := h; rfl) (fun cdv A outer s H vs Q E hr h => ?_)
  refine ⟨_, (pss_cons (ps_set (i := 1) sc_law.nd rfl (by first | exact Or.inl rfl | exact Or.inr rfl) (pe_call GJ (hr.mono (by omega)) rfl mJ kJ bJ .nil pass0 (pa_cons (pv 0) pa_nil))) (pss_cons (ps_set (i := 2) sc_law.nd rfl (by first | exact Or.inl rfl | exact Or.inr rfl) (pe_fn f__law_parts (hr.mono (by omega)) (pa_cons (pv 1) pa_nil))) (pss_cons (ps_set (i := 3) sc_law.nd rfl (by first | exact Or.inl rfl | exact Or.inr rfl) (pe_fn f__law_told (hr.mono (by omega)) (pa_cons (pv 2) pa_nil))) (pss_cons (ps_if (PW.pt (pw_or (pt_not (pt_val (pe_fn f__law_fewer (hr.mono (by omega)) (pa_cons (pv 1) (pa_cons (pv 2) (pa_cons (pv 3) pa_nil)))))) (pw_or1 (pt_not (pt_val (pe_fn f__law_more (hr.mono (by omega)) (pa_cons (pv 1) (pa_cons (pv 2) (pa_cons (pv 3) pa_nil))))))))) (pss_one (ps_ret pe_bl)) pss_nil) (pss_cons (ps_set (i := 4) sc_law.nd rfl (by first | exact Or.inl rfl | exact Or.inr rfl) (pe_ix (ix_U (K := K) rfl) (pe_lst (pa_cons pe_int (pa_cons pe_int (pa_cons (pe_op op_pow pe_int pe_int) pa_nil)))) (pe_fn f__law_take (hr.mono (by omega)) (pa_cons (pv 1) (pa_cons pe_int pa_nil))) (fun _ _ => rfl))) (pss_cons (ps_if (pt_cmpR op_gt (pe_op (op_mulU (K := K) rfl) (pe_callB (cr_max rfl) (by rfl) B.max (by decide +kernel) (pa_cons (pe_op (op_addU (K := K) rfl) (pe_lst (pa_cons pe_int pa_nil)) (pe_lc (own := [("one", 6)]) (g := gName 6) rfl sc_law.nd (pi_list (pe_ix (ix_U (K := K) rfl) (pv 2) pe_int (fun _ _ => rfl))) (blkOk_by (own := [("one", 6)]) (N := ["script", "jar", "parts", "found", "times", "greater", "one", "loss"]) (sc := defScope s_law) (by decide +kernel)) (fun _ _ _ _ _ => (pg_name (i := 6) sc_law.nd rfl (Or.inl rfl))) (fun _ _ _ _ _ => pts_nil) (fun _ _ _ _ _ => (pe_ix (ix_U (K := K) rfl) (pv 6) pe_int (fun _ _ => rfl))))) pa_nil)) (pv 4)) (pe_op op_pow pe_int pe_int) (nomark _)) (pss_one (ps_ret pe_bl)) pss_nil) (pss_cons (ps_set (i := 5) sc_law.nd rfl (by first | exact Or.inl rfl | exact Or.inr rfl) (pe_fn f__law_told (hr.mono (by omega)) (pa_cons (pe_tupZ (pa_cons (pe_ix (ix_U (K := K) rfl) (pv 2) pe_int (fun _ _ => rfl)) (pa_cons (pe_ix (ix_U (K := K) rfl) (pv 2) pe_int (fun _ _ => rfl)) (pa_cons (pe_ix (ix_U (K := K) rfl) (pv 2) pe_int (fun _ _ => rfl)) (pa_cons (pe_lc (own := [("one", 6)]) (g := gName 6) rfl sc_law.nd (pi_list (pe_ix (ix_U (K := K) rfl) (pv 2) pe_int (fun _ _ => rfl))) (blkOk_by (own := [("one", 6)]) (N := ["script", "jar", "parts", "found", "times", "greater", "one", "loss"]) (sc := defScope s_law) (by decide +kernel)) (fun _ _ _ _ _ => (pg_name (i := 6) sc_law.nd rfl (Or.inl rfl))) (fun _ _ _ _ _ => pts_nil) (fun _ _ _ _ _ => (pe_lst (pa_cons (pe_ix (ix_U (K := K) rfl) (pv 6) pe_int (fun _ _ => rfl)) (pa_cons (pe_ix (ix_U (K := K) rfl) (pv 6) pe_int (fun _ _ => rfl)) (pa_cons (pe_op (op_mulU (K := K) rfl) (pe_ix (ix_U (K := K) rfl) (pv 6) pe_int (fun _ _ => rfl)) (pv 4)) pa_nil)))))) pa_nil))))) pa_nil))) (pss_cons (ps_if (pt_cmpR (op_eqU (K := K) rfl hr.units) (pe_ix (ix_U (K := K) rfl) (pv 3) pe_int (fun _ _ => rfl)) pe_str (nomark _)) (pss_one (ps_ret (pe_cmpR (op_eqU (K := K) rfl hr.units) (pe_ix (ix_U (K := K) rfl) (pv 5) pe_int (fun _ _ => rfl)) pe_str (nomark _)))) pss_nil) (pss_one (ps_ret (pe_cmpR (op_eqU (K := K) rfl hr.units) (pe_slice (sl_U (K := K) rfl) (pv 5) po_none (po_some pe_int)) (pe_tupZ (pa_cons pe_str (pa_cons (pe_callTy call_tupleZT (by rfl) B.tuple (by decide +kernel) (pa_cons (pe_lc (own := [("loss", 7)]) (g := gName 7) rfl sc_law.nd (pi_tup (pe_ix (ix_U (K := K) rfl) (pv 3) pe_int (fun _ _ => rfl))) (blkOk_by (own := [("loss", 7)]) (N := ["script", "jar", "parts", "found", "times", "greater", "one", "loss"]) (sc := defScope s_law) (by decide +kernel)) (fun _ _ _ _ _ => (pg_name (i := 7) sc_law.nd rfl (Or.inl rfl))) (fun _ _ _ _ _ => pts_nil) (fun _ _ _ _ _ => (pe_op (op_mulU (K := K) rfl) (pv 7) (pv 4)))) pa_nil)) (pa_cons (pe_ix (ix_U (K := K) rfl) (pv 3) pe_int (fun _ _ => rfl)) pa_nil)))) (nomark _)))))))))))), ?_⟩
  obtain ⟨p, ns, rfl, hS, h63, q⟩ := h
  try dsimp only [cxOf]
  refine ⟨.ref p, rfl, p, ns, rfl, hS, fun a F2 H2 ha e1 e2 hj => ?_⟩
  show tSeq _ _ _ (List.set (L2.start ["script", "jar", "parts", "found", "times", "greater", "one", "loss"] [V.ref p]) 1 (some (.ref a))) H2
  have I : InS (some a) K F2 H2 [.unk, .val jarD, .unk, .unk, .unk, .unk, .unk, .unk] (List.set (L2.start ["script", "jar", "parts", "found", "times", "greater", "one", "loss"] [V.ref p]) 1 (some (.ref a))) F2 H2 :=
    ⟨Step.refl e2 (fun b hb => by cases hb; exact hj), EnvOk.set (i := 1) (e := .val jarD) (unk_ok (n := 8) rfl) ⟨.ref a, rfl, .jar rfl⟩⟩
  refine sw_run ?_ I (fun H' => q H')
  generalize (some a : Option Addr) = J
  refine sw_seq (sw_next ?_)
  repeat walk_at "ew"
  refine ⟨_, ⟨rfl, rfl⟩, ?_⟩
  rintro _ ⟨⟨n, rows, obl, wan⟩, hok, hr1, hob, rfl⟩
  repeat walk_at "ew"
  refine ⟨_, ⟨_, rfl, hok, rfl⟩, ?_⟩
  rintro _ rfl
  repeat walk_at "ew"
  refine ⟨_, ⟨_, rfl, hok, rfl⟩, ?_⟩
  rintro _ rfl
  repeat walk_at "ew"
  refine ⟨_, ⟨_, rfl, hok, hr1, hob, rfl⟩, ?_⟩
  rintro _ rfl
  repeat walk_at "ew"
  refine rd_pow ⟨by decide, by decide, by decide⟩ ?_
  repeat walk_at "ew"
  refine ⟨(by show 3 ≤ 100000; decide), ?_⟩
  repeat walk_at "ew"
  refine ⟨_, ⟨3, rfl, by decide, rfl⟩, ?_⟩
  rintro _ ⟨r, r0, r1, rfl⟩
  refine rd_ixA r0 (by simpa using r1) fun d hd => ?_
  have hd' : ∃ t : Int, d = .int t ∧ 1 ≤ t ∧ t ≤ 10 ^ 4 := by
    simp only [List.mem_cons, List.not_mem_nil, or_false] at hd
    rcases hd with rfl | rfl | rfl <;> exact ⟨_, rfl, by decide, by decide⟩
  obtain ⟨t, rfl, t1, t4⟩ := hd'
  clear hd r0 r1
  have hwl : wan.length ≤ 12 := hok.wlen
  repeat walk_at "ew"
  refine ⟨(by show 1 ≤ 100000; decide), ?_⟩
  refine ev_of (ew_lcM wan wishRow (fun x => .int x.wt) (iw_list ?_))
  repeat walk_at "ew"
  refine rd_ixT (d := .list (wan.map wishRow)) rfl ⟨_, rfl, rfl, by omega, fun x hx => gw_name (by simp) ?_, ?_⟩
  · repeat walk_at "ew"
    exact rd_ixL (d := .int x.wt) rfl rfl
  refine rd_catL (by rw [List.length_map]; simp; omega) ?_
  have em : [PyData.int 1] ++ wan.map (fun x => PyData.int x.wt) = (1 :: wan.map Wish.wt).map .int := by simp
  rw [em]
  repeat walk_at "ew"
  refine rc_max (by simp) fun m hm hmax => ?_
  repeat walk_at "ew"
  refine rd_mul (cmulR (by omega) (by omega)) ?_
  repeat walk_at "ew"
  refine rd_pow ⟨by decide, by decide, by decide⟩ ?_
  repeat walk_at "ew"
  refine it_D (fun hbig => ?_) (fun hsm => ?_)
  · repeat walk_at "ew"
    exact rfl
  have hmt : m * t ≤ 10 ^ 30 := by
    have : ¬ (10 : Int) ^ 30 < m * t := hsm
    omega
  have hok2 : PtsOk ⟨n, rows, obl, wan.map (sc t)⟩ := by
    refine ⟨hok.n, hok.rows, hok.obl, hok.ond, hok.olen, fun x hx => ?_, by show (wan.map (sc t)).length ≤ 12; rw [List.length_map]; exact hwl⟩
    obtain ⟨y, hy, rfl⟩ := List.mem_map.mp hx
    obtain ⟨⟨k1, k2, k3, k4, k5⟩, k6⟩ := hok.wan y hy
    have hle : y.wt ≤ m := hmax _ (by simp; exact .inr ⟨y, hy, rfl⟩)
    refine ⟨⟨k1, k2, k3, k4, ?_⟩, ?_⟩
    · show 1 ≤ y.wt * t
      have : (1 : Int) * 1 ≤ y.wt * t := Int.mul_le_mul k5 t1 (by decide) (by omega)
      omega
    · show y.wt * t ≤ 10 ^ 30
      have : y.wt * t ≤ m * t := Int.mul_le_mul_of_nonneg_right hle (by omega)
      omega
  repeat walk_at "ew"
  refine rd_ixT (d := .int (n : Nat)) rfl ?_
  repeat walk_at "ew"
  refine rd_ixT (d := .list (rows.map rowD)) rfl ?_
  repeat walk_at "ew"
  refine rd_ixT (d := .list (iD obl)) rfl ?_
  repeat walk_at "ew"
  refine ew_lcM wan wishRow (fun x => wishRow (sc t x)) (iw_list ?_)
  repeat walk_at "ew"
  refine rd_ixT (d := .list (wan.map wishRow)) rfl ⟨_, rfl, rfl, by omega, fun x hx => gw_name (by simp) ?_, ?_⟩
  · repeat walk_at "ew"
    refine rd_ixL (d := .int x.num) rfl ?_
    repeat walk_at "ew"
    refine rd_ixL (d := .int x.rank) rfl ?_
    repeat walk_at "ew"
    refine rd_ixL (d := .int x.wt) rfl ?_
    repeat walk_at "ew"
    refine rd_mul (cmulR (by omega) (by omega)) ?_
    repeat walk_at "ew"
    exact ⟨(by show 3 ≤ 100000; decide), rfl⟩
  repeat walk_at "ew"
  refine ⟨(by show 4 ≤ 100000; decide), ?_⟩
  repeat walk_at "ew"
  refine ⟨_, ⟨⟨n, rows, obl, wan.map (sc t)⟩, ?_, hok2, rfl⟩, ?_⟩
  · show [PyData.tuple [_, _, _, .list (wan.map fun x => wishRow (sc t x))]] = [PyData.tuple [_, _, _, .list ((wan.map (sc t)).map wishRow)]]
    rw [List.map_map]
    rfl
  rintro _ rfl
  have es : made ⟨n, rows, obl, wan.map (sc t)⟩ = { made ⟨n, rows, obl, wan⟩ with wishes := (made ⟨n, rows, obl, wan⟩).wishes.map (sc t) } := rfl
  rw [es]
  rcases told_sc (t := t) (by omega) (made ⟨n, rows, obl, wan⟩) with ⟨u, v, hu, hv⟩ | ⟨l, s, u, v, hu, hv⟩
  · rw [hu, hv]
    repeat walk_at "ew"
    refine rd_ixT (ds := [.str "never", treD u]) (d := .str "never") at0 ?_
    repeat walk_at "ew"
    rw [decide_eq_true (show (Str.ofString "never") = Str.ofString "never" from rfl)]
    repeat walk_at "ew"
    refine rd_ixT (ds := [.str "never", treD v]) (d := .str "never") at0 ?_
    repeat walk_at "ew"
    rw [decide_eq_true (show (Str.ofString "never") = Str.ofString "never" from rfl)]
  · rw [hu, hv]
    have hl4 : l.length ≤ 4 := sh_len (made_ok hok) (by rw [hu]; rfl)
    repeat walk_at "ew"
    refine rd_ixT (ds := [.str "least", lD l, setD s, treD u]) (d := .str "least") at0 ?_
    repeat walk_at "ew"
    rw [decide_eq_false (show ¬ (Str.ofString "least") = Str.ofString "never" by decide +kernel)]
    repeat walk_at "ew"
    refine ew_sl ?_
    repeat walk_at "ew"
    refine eo_none (eo_some ?_)
    repeat walk_at "ew"
    refine ⟨[.str "least", lD (l.map (· * t)), setD s, treD v], .inr ⟨rfl, ?_⟩⟩
    repeat walk_at "ew"
    refine ew_lcM l .int (fun x => .int (x * t)) (iw_tup ?_)
    repeat walk_at "ew"
    refine rd_ixT (ds := [.str "least", lD l, setD s, treD u]) (d := lD l) rfl ⟨_, rfl, rfl, by omega, fun x hx => gw_name (by simp) ?_, ?_⟩
    · repeat walk_at "ew"
      exact rd_mul (cmulR (by omega) (by omega)) rfl
    have el : (l.map fun x => PyData.int (x * t)) = iD (l.map (· * t)) := by unfold iD; rw [List.map_map]; rfl
    rw [el]
    repeat walk_at "ew"
    refine rd_ixT (ds := [.str "least", lD l, setD s, treD u]) (d := setD s) rfl ?_
    repeat walk_at "ew"
    refine ⟨(by show 3 ≤ 100000; decide), ?_⟩
    have sh : SeqAt.shaped (.tuple [.str "least", lD (l.map (· * t)), setD s]) = true := by
      unfold SeqAt.shaped
      rw [PyData.canLay0, PyData.depth]
      simp only [PyData.canLayAll0, PyData.canLay0, PyData.depthAll, PyData.depth, canLay_lD, canLay_setD, depth_lD, depth_setD]
      decide +kernel
    refine rd_eqd sh sh ?_
    show PyData.bool (PyData.eqv (.tuple [.str "least", lD (l.map (· * t)), setD s]) (.tuple [.str "least", lD (l.map (· * t)), setD s])) = _
    rw [SeqAt.eqv_refl _ (SeqAt.canLay_of_shaped sh)]
end
end WD

/-! the top's facts together -/
namespace WD
open PySem PySem.Spec PyProof.Rows L2 Evl
/-- the def stands in the written part -/
structure DefAt (K : PySem.W.Frag) (x : Str) (st : Stmt) : Prop where
  ex : ∃ (f : Addr) (od an : Option Addr) (sl : Array (Option Value)) (oc kV dc pm cd ct : Value), PySem.W.nsIn K mainGlobals x = some (some (.ref f)) ∧
    K.lookup f = some ⟨oc, od, .func (PySem.W.fnOf x x (defArgs st) (defBody st) (defScope st) .none kV dc pm an cd ct), sl⟩ ∧ PySem.W.codeIn K cd x = true ∧ PySem.W.keepIn K (.ref f) = true
theorem def_at {K : PySem.W.Frag} {x : Str} {st : Stmt} {f : Addr} {od an : Option Addr} {sl : Array (Option Value)} {oc kV dc pm cd ct : Value} (a : PySem.W.nsIn K mainGlobals x = some (some (.ref f)))
    (l : K.lookup f = some ⟨oc, od, .func (PySem.W.fnOf x x (defArgs st) (defBody st) (defScope st) .none kV dc pm an cd ct), sl⟩) (c : PySem.W.codeIn K cd x = true) (k : PySem.W.keepIn K (.ref f) = true) : DefAt K x st :=
  ⟨f, od, an, sl, oc, kV, dc, pm, cd, ct, a, l, c, k⟩
theorem DefAt.get {K : PySem.W.Frag} {x : Str} {st : Stmt} {h : Heap} {mg : Str → Option Value} (D : DefAt K x st) (X : K.In h) (G : h.Ns mainGlobals mg) : ∃ f fd, Fun K x x st f fd ∧ PySem.W.keepIn K (.ref f) = true ∧ mg x = some (.ref f) := by
  obtain ⟨f, od, an, sl, oc, kV, dc, pm, cd, ct, a, l, c, k⟩ := D.ex
  exact ⟨f, _, fun_mk (st := st) l c k, k, PySem.W.mg_of X G a⟩
theorem never_c {K : PySem.W.Frag} {aN : Addr} {n : Nat} {sl : Array (Option Value)} {t : Tok} (l : K.lookup aN = some ⟨.type "tuple", none, .seq #[.str "never" t] n, sl⟩) : NevC () K aN :=
  ⟨fun J F => .tup (xs := [.str "never"]) (.inr ⟨_, _, n, ⟨rfl, rfl⟩, l, rfl, (by show 1 ≤ sizeLine; decide), .cons ⟨t, rfl⟩ .nil⟩) (.cons (.str _) .nil)⟩
section
variable {P : Program} {w : World} {K : PySem.W.Frag} {mg : Str → Option Value} {base : Heap}
theorem all_shown_from {f : Addr} {fd : FuncData} {aN : Addr} (F : Fun K "shown_from" "shown_from" s_shown_from f fd) (B : Blt mg) (c_NEVER : mg "NEVER" = some (.ref aN)) (nv : NevC () K aN)
    (f_rules_sure : Fn P w K mg base "rules_sure" 3 ["rules", "partial"] T_rules_sure) (f_are_places : Fn P w K mg base "are_places" 1 ["house", "places"] T_are_places) (f_wishes_losses : Fn P w K mg base "wishes_losses" 1 ["house", "places"] T_wishes_losses)
    (f_put_name : Fn P w K mg base "put_name" 1 ["partial", "name", "worth"] T_put_name) (f_lesser_shown : Fn P w K mg base "lesser_shown" 1 ["one", "other"] T_lesser_shown)  (kp : PySem.W.keepIn K (.ref f) = true) (m : mg "shown_from" = some (.ref f)) : ∀ n : Nat, Fn P w K mg base "shown_from" (4 + n) ["house", "tree", "partial"] (T_shown_from n) := fun n => by
  have b : Binds K fd ["house", "tree", "partial"] [] := F.binds (ps := ["house", "tree", "partial"]) fun _ _ _ _ _ _ us hl => match us, hl with | [_, _, _], _ => rfl
  induction n with
  | zero => exact none_ok ⟨f, fd, b, kp, m⟩ (fun ds Φ ⟨_, _, _, _, _, _, h, _⟩ => absurd h (Nat.not_lt_zero _))
  | succ n ih => exact ⟨f, fd, ok_shown_from F B c_NEVER nv f_rules_sure f_are_places f_wishes_losses f_put_name f_lesser_shown ih, b, kp, m⟩
theorem all_tree_from {f : Addr} {fd : FuncData} (F : Fun K "tree_from" "tree_from" s_tree_from f fd) (B : Blt mg)
    (f_rules_sure : Fn P w K mg base "rules_sure" 3 ["rules", "partial"] T_rules_sure) (f_wishes_losses : Fn P w K mg base "wishes_losses" 1 ["house", "places"] T_wishes_losses)
    (f_put_name : Fn P w K mg base "put_name" 1 ["partial", "name", "worth"] T_put_name)  (kp : PySem.W.keepIn K (.ref f) = true) (m : mg "tree_from" = some (.ref f)) : ∀ n : Nat, Fn P w K mg base "tree_from" (4 + n) ["house", "partial", "least"] (T_tree_from n) := fun n => by
  have b : Binds K fd ["house", "partial", "least"] [] := F.binds (ps := ["house", "partial", "least"]) fun _ _ _ _ _ _ us hl => match us, hl with | [_, _, _], _ => rfl
  induction n with
  | zero => exact none_ok ⟨f, fd, b, kp, m⟩ (fun ds Φ ⟨_, _, _, _, _, _, _, _, h, _⟩ => absurd h (Nat.not_lt_zero _))
  | succ n ih => exact ⟨f, fd, ok_tree_from F B f_rules_sure f_wishes_losses f_put_name ih, b, kp, m⟩
end
theorem all_mk {l : PySem.W.OpenLaw} {w : World} {K : PySem.W.Frag} {h : Heap} {mg : Str → Option Value} {fa : Addr} (X : K.In h) (G : h.Ns mainGlobals mg) (hfa : mg "law" = some (.ref fa)) (c_MOST_WEIGHT : ∃ t, mg "MOST_WEIGHT" = some (.int (10 ^ 30) t))
    (d_word_sure : DefAt K "word_sure" s_word_sure)
    (d_either_sure : DefAt K "either_sure" s_either_sure)
    (d_count_sure : DefAt K "count_sure" s_count_sure)
    (d_rules_sure : DefAt K "rules_sure" s_rules_sure)
    (d_rules_kept : DefAt K "rules_kept" s_rules_kept)
    (d_all_fillings : DefAt K "all_fillings" s_all_fillings)
    (d_wishes_losses : DefAt K "wishes_losses" s_wishes_losses)
    (d_lost_wishes : DefAt K "lost_wishes" s_lost_wishes)
    (d_house_losses : DefAt K "house_losses" s_house_losses)
    (d_keeps_musts : DefAt K "keeps_musts" s_keeps_musts)
    (d_best_settings : DefAt K "best_settings" s_best_settings)
    (d_put_name : DefAt K "put_name" s_put_name)
    (d_lesser_shown : DefAt K "lesser_shown" s_lesser_shown)
    (d_are_places : DefAt K "are_places" s_are_places)
    (d_shown_from : DefAt K "shown_from" s_shown_from)
    (d_tree_shows : DefAt K "tree_shows" s_tree_shows)
    (d_tree_from : DefAt K "tree_from" s_tree_from)
    (d_loss_tree : DefAt K "loss_tree" s_loss_tree)
    (d_is_whole : DefAt K "is_whole" s_is_whole)
    (d_is_row : DefAt K "is_row" s_is_row)
    (d_is_number_in : DefAt K "is_number_in" s_is_number_in)
    (d_look_at_names : DefAt K "look_at_names" s_look_at_names)
    (d_made_words : DefAt K "made_words" s_made_words)
    (d_made_numbers : DefAt K "made_numbers" s_made_numbers)
    (d_made_either : DefAt K "made_either" s_made_either)
    (d_made_count : DefAt K "made_count" s_made_count)
    (d_made_not : DefAt K "made_not" s_made_not)
    (d_made_rule : DefAt K "made_rule" s_made_rule)
    (d_made_rules : DefAt K "made_rules" s_made_rules)
    (d_made_musts : DefAt K "made_musts" s_made_musts)
    (d_is_wish : DefAt K "is_wish" s_is_wish)
    (d_made_wishes : DefAt K "made_wishes" s_made_wishes)
    (d_made_house : DefAt K "made_house" s_made_house)
    (d__law_row_of : DefAt K "_law_row_of" s__law_row_of)
    (d__law_take : DefAt K "_law_take" s__law_take)
    (d__law_jar : DefAt K "_law_jar" s__law_jar)
    (d__law_words : DefAt K "_law_words" s__law_words)
    (d__law_picked : DefAt K "_law_picked" s__law_picked)
    (d__law_rule : DefAt K "_law_rule" s__law_rule)
    (d__law_weight : DefAt K "_law_weight" s__law_weight)
    (d__law_parts : DefAt K "_law_parts" s__law_parts)
    (d__law_told : DefAt K "_law_told" s__law_told)
    (d__law_at_most : DefAt K "_law_at_most" s__law_at_most)
    (d__law_fewer : DefAt K "_law_fewer" s__law_fewer)
    (d__law_more : DefAt K "_law_more" s__law_more)
    {f0 : Addr} {od0 an0 : Option Addr} {sl0 : Array (Option Value)} {oc0 kV0 dc0 pm0 cd0 ct0 : Value} (a0 : PySem.W.nsIn K mainGlobals "law" = some (some (.ref f0))) (l0 : K.lookup f0 = some ⟨oc0, od0, .func (PySem.W.fnOf "law" "law" (defArgs s_law) (defBody s_law) (defScope s_law) .none kV0 dc0 pm0 an0 cd0 ct0), sl0⟩) (c0 : PySem.W.codeIn K cd0 "law" = true) (k0 : PySem.W.keepIn K (.ref f0) = true)
    {t_MOST_NAMES : Tok} (v_MOST_NAMES : PySem.W.nsIn K mainGlobals "MOST_NAMES" = some (some (.int 8 t_MOST_NAMES)))
    {t_MOST_RULES : Tok} (v_MOST_RULES : PySem.W.nsIn K mainGlobals "MOST_RULES" = some (some (.int 24 t_MOST_RULES)))
    {t_MOST_WISHES : Tok} (v_MOST_WISHES : PySem.W.nsIn K mainGlobals "MOST_WISHES" = some (some (.int 12 t_MOST_WISHES)))
    {t_MOST_RANK : Tok} (v_MOST_RANK : PySem.W.nsIn K mainGlobals "MOST_RANK" = some (some (.int 4 t_MOST_RANK)))
    {aN nN : Nat} {slN : Array (Option Value)} {tN : Tok} (v_NEVER : PySem.W.nsIn K mainGlobals "NEVER" = some (some (.ref aN))) (l_NEVER : K.lookup aN = some ⟨.type "tuple", none, .seq #[.str "never" tN] nN, slN⟩)
    (z_abs : PySem.W.nsIn K mainGlobals "abs" = some none)
    (z_len : PySem.W.nsIn K mainGlobals "len" = some none)
    (z_isinstance : PySem.W.nsIn K mainGlobals "isinstance" = some none)
    (z_all : PySem.W.nsIn K mainGlobals "all" = some none)
    (z_sorted : PySem.W.nsIn K mainGlobals "sorted" = some none)
    (z_tuple : PySem.W.nsIn K mainGlobals "tuple" = some none)
    (z_max : PySem.W.nsIn K mainGlobals "max" = some none)
    (z_min : PySem.W.nsIn K mainGlobals "min" = some none)
    (z_sum : PySem.W.nsIn K mainGlobals "sum" = some none)
    (z_int : PySem.W.nsIn K mainGlobals "int" = some none)
    (z_range : PySem.W.nsIn K mainGlobals "range" = some none)
    (z_enumerate : PySem.W.nsIn K mainGlobals "enumerate" = some none)
    (z_set : PySem.W.nsIn K mainGlobals "set" = some none)
    (z_list : PySem.W.nsIn K mainGlobals "list" = some none)
    (z_bool : PySem.W.nsIn K mainGlobals "bool" = some none)
    (z_str : PySem.W.nsIn K mainGlobals "str" = some none)
    : ∃ fd : FuncData, (∀ (s : Shared) (v : Value), BindsTo s fd ⟨[v], []⟩ [("script", v)]) ∧ ∀ base : Heap, K.In base → base.Ns mainGlobals mg → FnOk l.prog w K mg base CX0 17 fa fd ["script"] (spLaw K) := by
  have e := hfa.symm.trans (PySem.W.mg_of X G a0)
  cases e
  have B : Blt mg := ⟨PySem.W.mg_none_of X G z_abs, PySem.W.mg_none_of X G z_len, PySem.W.mg_none_of X G z_isinstance, PySem.W.mg_none_of X G z_all, PySem.W.mg_none_of X G z_sorted, PySem.W.mg_none_of X G z_tuple, PySem.W.mg_none_of X G z_max, PySem.W.mg_none_of X G z_min, PySem.W.mg_none_of X G z_sum, PySem.W.mg_none_of X G z_int, PySem.W.mg_none_of X G z_range, PySem.W.mg_none_of X G z_enumerate, PySem.W.mg_none_of X G z_set, PySem.W.mg_none_of X G z_list, PySem.W.mg_none_of X G z_bool, PySem.W.mg_none_of X G z_str⟩
  have c_MOST_NAMES := PySem.W.mg_of X G v_MOST_NAMES
  have c_MOST_NAMES : ∃ t, mg "MOST_NAMES" = some (.int 8 t) := ⟨_, c_MOST_NAMES⟩
  have c_MOST_RULES := PySem.W.mg_of X G v_MOST_RULES
  have c_MOST_RULES : ∃ t, mg "MOST_RULES" = some (.int 24 t) := ⟨_, c_MOST_RULES⟩
  have c_MOST_WISHES := PySem.W.mg_of X G v_MOST_WISHES
  have c_MOST_WISHES : ∃ t, mg "MOST_WISHES" = some (.int 12 t) := ⟨_, c_MOST_WISHES⟩
  have c_MOST_RANK := PySem.W.mg_of X G v_MOST_RANK
  have c_MOST_RANK : ∃ t, mg "MOST_RANK" = some (.int 4 t) := ⟨_, c_MOST_RANK⟩
  have c_NEVER := PySem.W.mg_of X G v_NEVER
  have nv := never_c l_NEVER
  obtain ⟨f_word_sure', fd_word_sure, F_word_sure, k_word_sure, m_word_sure⟩ := d_word_sure.get X G
  obtain ⟨f_either_sure', fd_either_sure, F_either_sure, k_either_sure, m_either_sure⟩ := d_either_sure.get X G
  obtain ⟨f_count_sure', fd_count_sure, F_count_sure, k_count_sure, m_count_sure⟩ := d_count_sure.get X G
  obtain ⟨f_rules_sure', fd_rules_sure, F_rules_sure, k_rules_sure, m_rules_sure⟩ := d_rules_sure.get X G
  obtain ⟨f_rules_kept', fd_rules_kept, F_rules_kept, k_rules_kept, m_rules_kept⟩ := d_rules_kept.get X G
  obtain ⟨f_all_fillings', fd_all_fillings, F_all_fillings, k_all_fillings, m_all_fillings⟩ := d_all_fillings.get X G
  obtain ⟨f_wishes_losses', fd_wishes_losses, F_wishes_losses, k_wishes_losses, m_wishes_losses⟩ := d_wishes_losses.get X G
  obtain ⟨f_lost_wishes', fd_lost_wishes, F_lost_wishes, k_lost_wishes, m_lost_wishes⟩ := d_lost_wishes.get X G
  obtain ⟨f_house_losses', fd_house_losses, F_house_losses, k_house_losses, m_house_losses⟩ := d_house_losses.get X G
  obtain ⟨f_keeps_musts', fd_keeps_musts, F_keeps_musts, k_keeps_musts, m_keeps_musts⟩ := d_keeps_musts.get X G
  obtain ⟨f_best_settings', fd_best_settings, F_best_settings, k_best_settings, m_best_settings⟩ := d_best_settings.get X G
  obtain ⟨f_put_name', fd_put_name, F_put_name, k_put_name, m_put_name⟩ := d_put_name.get X G
  obtain ⟨f_lesser_shown', fd_lesser_shown, F_lesser_shown, k_lesser_shown, m_lesser_shown⟩ := d_lesser_shown.get X G
  obtain ⟨f_are_places', fd_are_places, F_are_places, k_are_places, m_are_places⟩ := d_are_places.get X G
  obtain ⟨f_shown_from', fd_shown_from, F_shown_from, k_shown_from, m_shown_from⟩ := d_shown_from.get X G
  obtain ⟨f_tree_shows', fd_tree_shows, F_tree_shows, k_tree_shows, m_tree_shows⟩ := d_tree_shows.get X G
  obtain ⟨f_tree_from', fd_tree_from, F_tree_from, k_tree_from, m_tree_from⟩ := d_tree_from.get X G
  obtain ⟨f_loss_tree', fd_loss_tree, F_loss_tree, k_loss_tree, m_loss_tree⟩ := d_loss_tree.get X G
  obtain ⟨f_is_whole', fd_is_whole, F_is_whole, k_is_whole, m_is_whole⟩ := d_is_whole.get X G
  obtain ⟨f_is_row', fd_is_row, F_is_row, k_is_row, m_is_row⟩ := d_is_row.get X G
  obtain ⟨f_is_number_in', fd_is_number_in, F_is_number_in, k_is_number_in, m_is_number_in⟩ := d_is_number_in.get X G
  obtain ⟨f_look_at_names', fd_look_at_names, F_look_at_names, k_look_at_names, m_look_at_names⟩ := d_look_at_names.get X G
  obtain ⟨f_made_words', fd_made_words, F_made_words, k_made_words, m_made_words⟩ := d_made_words.get X G
  obtain ⟨f_made_numbers', fd_made_numbers, F_made_numbers, k_made_numbers, m_made_numbers⟩ := d_made_numbers.get X G
  obtain ⟨f_made_either', fd_made_either, F_made_either, k_made_either, m_made_either⟩ := d_made_either.get X G
  obtain ⟨f_made_count', fd_made_count, F_made_count, k_made_count, m_made_count⟩ := d_made_count.get X G
  obtain ⟨f_made_not', fd_made_not, F_made_not, k_made_not, m_made_not⟩ := d_made_not.get X G
  obtain ⟨f_made_rule', fd_made_rule, F_made_rule, k_made_rule, m_made_rule⟩ := d_made_rule.get X G
  obtain ⟨f_made_rules', fd_made_rules, F_made_rules, k_made_rules, m_made_rules⟩ := d_made_rules.get X G
  obtain ⟨f_made_musts', fd_made_musts, F_made_musts, k_made_musts, m_made_musts⟩ := d_made_musts.get X G
  obtain ⟨f_is_wish', fd_is_wish, F_is_wish, k_is_wish, m_is_wish⟩ := d_is_wish.get X G
  obtain ⟨f_made_wishes', fd_made_wishes, F_made_wishes, k_made_wishes, m_made_wishes⟩ := d_made_wishes.get X G
  obtain ⟨f_made_house', fd_made_house, F_made_house, k_made_house, m_made_house⟩ := d_made_house.get X G
  obtain ⟨f__law_row_of', fd__law_row_of, F__law_row_of, k__law_row_of, m__law_row_of⟩ := d__law_row_of.get X G
  obtain ⟨f__law_take', fd__law_take, F__law_take, k__law_take, m__law_take⟩ := d__law_take.get X G
  obtain ⟨f__law_jar', fd__law_jar, F__law_jar, k__law_jar, m__law_jar⟩ := d__law_jar.get X G
  obtain ⟨f__law_words', fd__law_words, F__law_words, k__law_words, m__law_words⟩ := d__law_words.get X G
  obtain ⟨f__law_picked', fd__law_picked, F__law_picked, k__law_picked, m__law_picked⟩ := d__law_picked.get X G
  obtain ⟨f__law_rule', fd__law_rule, F__law_rule, k__law_rule, m__law_rule⟩ := d__law_rule.get X G
  obtain ⟨f__law_weight', fd__law_weight, F__law_weight, k__law_weight, m__law_weight⟩ := d__law_weight.get X G
  obtain ⟨f__law_parts', fd__law_parts, F__law_parts, k__law_parts, m__law_parts⟩ := d__law_parts.get X G
  obtain ⟨f__law_told', fd__law_told, F__law_told, k__law_told, m__law_told⟩ := d__law_told.get X G
  obtain ⟨f__law_at_most', fd__law_at_most, F__law_at_most, k__law_at_most, m__law_at_most⟩ := d__law_at_most.get X G
  obtain ⟨f__law_fewer', fd__law_fewer, F__law_fewer, k__law_fewer, m__law_fewer⟩ := d__law_fewer.get X G
  obtain ⟨f__law_more', fd__law_more, F__law_more, k__law_more, m__law_more⟩ := d__law_more.get X G
  refine ⟨PySem.W.fnOf "law" "law" (defArgs s_law) (defBody s_law) (defScope s_law) .none kV0 dc0 pm0 an0 cd0 ct0, fun s v => .of_eq rfl, fun base _ _ => ?_⟩
  have f_word_sure : Fn l.prog w K mg base "word_sure" 1 ["word", "partial"] T_word_sure := ⟨_, _, ok_word_sure F_word_sure B, (F_word_sure.binds (ps := ["word", "partial"]) fun _ _ _ _ _ _ us hl => match us, hl with | [_, _], _ => rfl), k_word_sure, m_word_sure⟩
  have f_either_sure : Fn l.prog w K mg base "either_sure" 2 ["words", "partial"] T_either_sure := ⟨_, _, ok_either_sure F_either_sure B f_word_sure, (F_either_sure.binds (ps := ["words", "partial"]) fun _ _ _ _ _ _ us hl => match us, hl with | [_, _], _ => rfl), k_either_sure, m_either_sure⟩
  have f_count_sure : Fn l.prog w K mg base "count_sure" 1 ["most", "found"] T_count_sure := ⟨_, _, ok_count_sure F_count_sure B, (F_count_sure.binds (ps := ["most", "found"]) fun _ _ _ _ _ _ us hl => match us, hl with | [_, _], _ => rfl), k_count_sure, m_count_sure⟩
  have f_rules_sure : Fn l.prog w K mg base "rules_sure" 3 ["rules", "partial"] T_rules_sure := ⟨_, _, ok_rules_sure F_rules_sure B f_either_sure f_count_sure, (F_rules_sure.binds (ps := ["rules", "partial"]) fun _ _ _ _ _ _ us hl => match us, hl with | [_, _], _ => rfl), k_rules_sure, m_rules_sure⟩
  have f_rules_kept : Fn l.prog w K mg base "rules_kept" 4 ["rules", "setting"] T_rules_kept := ⟨_, _, ok_rules_kept F_rules_kept B f_rules_sure, (F_rules_kept.binds (ps := ["rules", "setting"]) fun _ _ _ _ _ _ us hl => match us, hl with | [_, _], _ => rfl), k_rules_kept, m_rules_kept⟩
  have f_all_fillings : Fn l.prog w K mg base "all_fillings" 1 ["partial"] T_all_fillings := ⟨_, _, ok_all_fillings F_all_fillings B, (F_all_fillings.binds (ps := ["partial"]) fun _ _ _ _ _ _ us hl => match us, hl with | [_], _ => rfl), k_all_fillings, m_all_fillings⟩
  have f_wishes_losses : Fn l.prog w K mg base "wishes_losses" 1 ["house", "places"] T_wishes_losses := ⟨_, _, ok_wishes_losses F_wishes_losses B, (F_wishes_losses.binds (ps := ["house", "places"]) fun _ _ _ _ _ _ us hl => match us, hl with | [_, _], _ => rfl), k_wishes_losses, m_wishes_losses⟩
  have f_lost_wishes : Fn l.prog w K mg base "lost_wishes" 5 ["house", "setting"] T_lost_wishes := ⟨_, _, ok_lost_wishes F_lost_wishes B f_rules_kept, (F_lost_wishes.binds (ps := ["house", "setting"]) fun _ _ _ _ _ _ us hl => match us, hl with | [_, _], _ => rfl), k_lost_wishes, m_lost_wishes⟩
  have f_house_losses : Fn l.prog w K mg base "house_losses" 6 ["house", "setting"] T_house_losses := ⟨_, _, ok_house_losses F_house_losses B f_lost_wishes f_wishes_losses, (F_house_losses.binds (ps := ["house", "setting"]) fun _ _ _ _ _ _ us hl => match us, hl with | [_, _], _ => rfl), k_house_losses, m_house_losses⟩
  have f_keeps_musts : Fn l.prog w K mg base "keeps_musts" 5 ["house", "setting"] T_keeps_musts := ⟨_, _, ok_keeps_musts F_keeps_musts B f_rules_kept, (F_keeps_musts.binds (ps := ["house", "setting"]) fun _ _ _ _ _ _ us hl => match us, hl with | [_, _], _ => rfl), k_keeps_musts, m_keeps_musts⟩
  have f_best_settings : Fn l.prog w K mg base "best_settings" 7 ["house"] T_best_settings := ⟨_, _, ok_best_settings F_best_settings B f_all_fillings f_keeps_musts f_house_losses, (F_best_settings.binds (ps := ["house"]) fun _ _ _ _ _ _ us hl => match us, hl with | [_], _ => rfl), k_best_settings, m_best_settings⟩
  have f_put_name : Fn l.prog w K mg base "put_name" 1 ["partial", "name", "worth"] T_put_name := ⟨_, _, ok_put_name F_put_name B, (F_put_name.binds (ps := ["partial", "name", "worth"]) fun _ _ _ _ _ _ us hl => match us, hl with | [_, _, _], _ => rfl), k_put_name, m_put_name⟩
  have f_lesser_shown : Fn l.prog w K mg base "lesser_shown" 1 ["one", "other"] T_lesser_shown := ⟨_, _, ok_lesser_shown F_lesser_shown B c_NEVER nv, (F_lesser_shown.binds (ps := ["one", "other"]) fun _ _ _ _ _ _ us hl => match us, hl with | [_, _], _ => rfl), k_lesser_shown, m_lesser_shown⟩
  have f_are_places : Fn l.prog w K mg base "are_places" 1 ["house", "places"] T_are_places := ⟨_, _, ok_are_places F_are_places B, (F_are_places.binds (ps := ["house", "places"]) fun _ _ _ _ _ _ us hl => match us, hl with | [_, _], _ => rfl), k_are_places, m_are_places⟩
  have f_shown_from_ := all_shown_from (P := l.prog) (w := w) (base := base) F_shown_from B c_NEVER nv f_rules_sure f_are_places f_wishes_losses f_put_name f_lesser_shown k_shown_from m_shown_from 9
  have f_shown_from : Fn l.prog w K mg base "shown_from" 13 ["house", "tree", "partial"] (T_shown_from 9) := f_shown_from_
  have f_tree_shows : Fn l.prog w K mg base "tree_shows" 14 ["house", "tree"] (T_tree_shows 9) := ⟨_, _, ok_tree_shows (n := 9) F_tree_shows B f_shown_from, (F_tree_shows.binds (ps := ["house", "tree"]) fun _ _ _ _ _ _ us hl => match us, hl with | [_, _], _ => rfl), k_tree_shows, m_tree_shows⟩
  have f_tree_from_ := all_tree_from (P := l.prog) (w := w) (base := base) F_tree_from B f_rules_sure f_wishes_losses f_put_name k_tree_from m_tree_from 9
  have f_tree_from : Fn l.prog w K mg base "tree_from" 13 ["house", "partial", "least"] (T_tree_from 9) := f_tree_from_
  have f_loss_tree : Fn l.prog w K mg base "loss_tree" 14 ["house"] T_loss_tree := ⟨_, _, ok_loss_tree F_loss_tree B f_best_settings f_house_losses f_tree_from, (F_loss_tree.binds (ps := ["house"]) fun _ _ _ _ _ _ us hl => match us, hl with | [_], _ => rfl), k_loss_tree, m_loss_tree⟩
  have f_is_whole : Fn l.prog w K mg base "is_whole" 1 ["thing"] T_is_whole := ⟨_, _, ok_is_whole F_is_whole B, (F_is_whole.binds (ps := ["thing"]) fun _ _ _ _ _ _ us hl => match us, hl with | [_], _ => rfl), k_is_whole, m_is_whole⟩
  have f_is_row : Fn l.prog w K mg base "is_row" 1 ["thing"] T_is_row := ⟨_, _, ok_is_row F_is_row B, (F_is_row.binds (ps := ["thing"]) fun _ _ _ _ _ _ us hl => match us, hl with | [_], _ => rfl), k_is_row, m_is_row⟩
  have f_is_number_in : Fn l.prog w K mg base "is_number_in" 2 ["thing", "low", "high"] T_is_number_in := ⟨_, _, ok_is_number_in F_is_number_in B f_is_whole, (F_is_number_in.binds (ps := ["thing", "low", "high"]) fun _ _ _ _ _ _ us hl => match us, hl with | [_, _, _], _ => rfl), k_is_number_in, m_is_number_in⟩
  have f_look_at_names : Fn l.prog w K mg base "look_at_names" 3 ["n"] T_look_at_names := ⟨_, _, ok_look_at_names F_look_at_names B c_MOST_NAMES f_is_number_in, (F_look_at_names.binds (ps := ["n"]) fun _ _ _ _ _ _ us hl => match us, hl with | [_], _ => rfl), k_look_at_names, m_look_at_names⟩
  have f_made_words : Fn l.prog w K mg base "made_words" 3 ["n", "thing"] T_made_words := ⟨_, _, ok_made_words F_made_words B f_is_row f_is_number_in, (F_made_words.binds (ps := ["n", "thing"]) fun _ _ _ _ _ _ us hl => match us, hl with | [_, _], _ => rfl), k_made_words, m_made_words⟩
  have f_made_numbers : Fn l.prog w K mg base "made_numbers" 3 ["thing", "count"] T_made_numbers := ⟨_, _, ok_made_numbers F_made_numbers B f_is_row f_is_number_in, (F_made_numbers.binds (ps := ["thing", "count"]) fun _ _ _ _ _ _ us hl => match us, hl with | [_, _], _ => rfl), k_made_numbers, m_made_numbers⟩
  have f_made_either : Fn l.prog w K mg base "made_either" 4 ["n", "thing"] T_made_either := ⟨_, _, ok_made_either F_made_either B f_made_words, (F_made_either.binds (ps := ["n", "thing"]) fun _ _ _ _ _ _ us hl => match us, hl with | [_, _], _ => rfl), k_made_either, m_made_either⟩
  have f_made_count : Fn l.prog w K mg base "made_count" 4 ["thing", "count"] T_made_count := ⟨_, _, ok_made_count F_made_count B c_MOST_RULES f_is_number_in f_made_numbers, (F_made_count.binds (ps := ["thing", "count"]) fun _ _ _ _ _ _ us hl => match us, hl with | [_, _], _ => rfl), k_made_count, m_made_count⟩
  have f_made_not : Fn l.prog w K mg base "made_not" 3 ["thing", "count"] T_made_not := ⟨_, _, ok_made_not F_made_not B f_is_number_in, (F_made_not.binds (ps := ["thing", "count"]) fun _ _ _ _ _ _ us hl => match us, hl with | [_, _], _ => rfl), k_made_not, m_made_not⟩
  have f_made_rule : Fn l.prog w K mg base "made_rule" 5 ["n", "thing", "count"] T_made_rule := ⟨_, _, ok_made_rule F_made_rule B c_MOST_RULES f_is_row f_made_either f_made_count f_made_not, (F_made_rule.binds (ps := ["n", "thing", "count"]) fun _ _ _ _ _ _ us hl => match us, hl with | [_, _, _], _ => rfl), k_made_rule, m_made_rule⟩
  have f_made_rules : Fn l.prog w K mg base "made_rules" 6 ["n", "rows"] T_made_rules := ⟨_, _, ok_made_rules F_made_rules B f_is_row f_look_at_names f_made_rule, (F_made_rules.binds (ps := ["n", "rows"]) fun _ _ _ _ _ _ us hl => match us, hl with | [_, _], _ => rfl), k_made_rules, m_made_rules⟩
  have f_made_musts : Fn l.prog w K mg base "made_musts" 3 ["thing", "count"] T_made_musts := ⟨_, _, ok_made_musts F_made_musts B f_is_row f_is_number_in, (F_made_musts.binds (ps := ["thing", "count"]) fun _ _ _ _ _ _ us hl => match us, hl with | [_, _], _ => rfl), k_made_musts, m_made_musts⟩
  have f_is_wish : Fn l.prog w K mg base "is_wish" 3 ["thing", "count"] T_is_wish := ⟨_, _, ok_is_wish F_is_wish B c_MOST_RANK c_MOST_WEIGHT f_is_row f_is_number_in, (F_is_wish.binds (ps := ["thing", "count"]) fun _ _ _ _ _ _ us hl => match us, hl with | [_, _], _ => rfl), k_is_wish, m_is_wish⟩
  have f_made_wishes : Fn l.prog w K mg base "made_wishes" 4 ["thing", "count"] T_made_wishes := ⟨_, _, ok_made_wishes F_made_wishes B c_MOST_WISHES f_is_row f_is_wish, (F_made_wishes.binds (ps := ["thing", "count"]) fun _ _ _ _ _ _ us hl => match us, hl with | [_, _], _ => rfl), k_made_wishes, m_made_wishes⟩
  have f_made_house : Fn l.prog w K mg base "made_house" 7 ["n", "rows", "musts", "wishes"] T_made_house := ⟨_, _, ok_made_house F_made_house B f_made_rules f_made_musts f_made_wishes, (F_made_house.binds (ps := ["n", "rows", "musts", "wishes"]) fun _ _ _ _ _ _ us hl => match us, hl with | [_, _, _, _], _ => rfl), k_made_house, m_made_house⟩
  have f__law_row_of : Fn l.prog w K mg base "_law_row_of" 1 ["cell"] T__law_row_of := ⟨_, _, ok__law_row_of F__law_row_of B, (F__law_row_of.binds (ps := ["cell"]) fun _ _ _ _ _ _ us hl => match us, hl with | [_], _ => rfl), k__law_row_of, m__law_row_of⟩
  have f__law_take : Fn l.prog w K mg base "_law_take" 1 ["jar", "many"] T__law_take := ⟨_, _, ok__law_take F__law_take B, (F__law_take.binds (ps := ["jar", "many"]) fun _ _ _ _ _ _ us hl => match us, hl with | [_, _], _ => rfl), k__law_take, m__law_take⟩
  have GJ : FnOk l.prog w K mg base CX0 2 f__law_jar' fd__law_jar ["script"] (spJar K) := ok__law_jar F__law_jar B f__law_row_of
  have bJ : Binds K fd__law_jar ["script"] [] := F__law_jar.binds (ps := ["script"]) fun _ _ _ _ _ _ us hl => match us, hl with | [_], _ => rfl
  have f__law_words : Fn l.prog w K mg base "_law_words" 2 ["jar", "size"] T__law_words := ⟨_, _, ok__law_words F__law_words B f__law_take, (F__law_words.binds (ps := ["jar", "size"]) fun _ _ _ _ _ _ us hl => match us, hl with | [_, _], _ => rfl), k__law_words, m__law_words⟩
  have f__law_picked : Fn l.prog w K mg base "_law_picked" 2 ["jar", "many"] T__law_picked := ⟨_, _, ok__law_picked F__law_picked B f__law_take, (F__law_picked.binds (ps := ["jar", "many"]) fun _ _ _ _ _ _ us hl => match us, hl with | [_, _], _ => rfl), k__law_picked, m__law_picked⟩
  have f__law_rule : Fn l.prog w K mg base "_law_rule" 3 ["jar", "size", "ahead"] T__law_rule := ⟨_, _, ok__law_rule F__law_rule B f__law_take f__law_words f__law_picked, (F__law_rule.binds (ps := ["jar", "size", "ahead"]) fun _ _ _ _ _ _ us hl => match us, hl with | [_, _, _], _ => rfl), k__law_rule, m__law_rule⟩
  have f__law_weight : Fn l.prog w K mg base "_law_weight" 2 ["jar", "powers"] T__law_weight := ⟨_, _, ok__law_weight F__law_weight B f__law_take, (F__law_weight.binds (ps := ["jar", "powers"]) fun _ _ _ _ _ _ us hl => match us, hl with | [_, _], _ => rfl), k__law_weight, m__law_weight⟩
  have f__law_parts : Fn l.prog w K mg base "_law_parts" 4 ["jar"] T__law_parts := ⟨_, _, ok__law_parts F__law_parts B f__law_take f__law_rule f__law_weight, (F__law_parts.binds (ps := ["jar"]) fun _ _ _ _ _ _ us hl => match us, hl with | [_], _ => rfl), k__law_parts, m__law_parts⟩
  have f__law_told : Fn l.prog w K mg base "_law_told" 15 ["parts"] T__law_told := ⟨_, _, ok__law_told F__law_told B f_loss_tree f_made_house, (F__law_told.binds (ps := ["parts"]) fun _ _ _ _ _ _ us hl => match us, hl with | [_], _ => rfl), k__law_told, m__law_told⟩
  have f__law_at_most : Fn l.prog w K mg base "_law_at_most" 1 ["less", "more"] T__law_at_most := ⟨_, _, ok__law_at_most F__law_at_most B, (F__law_at_most.binds (ps := ["less", "more"]) fun _ _ _ _ _ _ us hl => match us, hl with | [_, _], _ => rfl), k__law_at_most, m__law_at_most⟩
  have f__law_fewer : Fn l.prog w K mg base "_law_fewer" 16 ["jar", "parts", "told_here"] T__law_fewer := ⟨_, _, ok__law_fewer F__law_fewer B f__law_take f__law_told f__law_at_most, (F__law_fewer.binds (ps := ["jar", "parts", "told_here"]) fun _ _ _ _ _ _ us hl => match us, hl with | [_, _, _], _ => rfl), k__law_fewer, m__law_fewer⟩
  have f__law_more : Fn l.prog w K mg base "_law_more" 16 ["jar", "parts", "told_here"] T__law_more := ⟨_, _, ok__law_more F__law_more B f__law_take f__law_told f__law_at_most f_tree_shows f_made_house, (F__law_more.binds (ps := ["jar", "parts", "told_here"]) fun _ _ _ _ _ _ us hl => match us, hl with | [_, _, _], _ => rfl), k__law_more, m__law_more⟩
  exact ok_law (fun_mk (st := s_law) l0 c0 k0) B GJ bJ k__law_jar m__law_jar f__law_take f__law_parts f__law_told f__law_fewer f__law_more
theorem walk {l : PySem.W.OpenLaw} {q : Program} {loose : List Str} {XP : (Str → Option Value) → Heap → Prop} {YP : World → Heap → Prop} {d : DefRec} {K : Params → PySem.W.Frag} (hn : l.most = some 63) (hdf : d.params.defaults = [])
    (hY : ∀ (w : World) (h : Heap), YP w h → (K w.params).In h)
    (F : ∀ (w : World) (mg : Str → Option Value) (fa : Addr) (h : Heap), XP mg h → (K w.params).In h → h.Ns mainGlobals mg → mg d.name = some (.ref fa) →
      ∃ fd : FuncData, (∀ (s : Shared) (u : Value), BindsTo s fd ⟨[u], []⟩ [("script", u)]) ∧ ∀ base : Heap, (K w.params).In base → base.Ns mainGlobals mg → FnOk l.prog w (K w.params) mg base CX0 17 fa fd ["script"] (spLaw (K w.params))) :
    PySem.W.WalkO q loose XP YP l.row.toRowW d [] (fun f vs => PySem.call f vs) := by
  refine Att.attach_call hn hdf fun w s₀ s₁ mg mb fa o pm cd doc a vs ns G Y ho hd hcd hmg hobj hints hlen hg => ?_
  have KX := hY w _ Y
  obtain ⟨fd, hb, hF⟩ := F w mg fa _ G.X KX G.T.g hmg
  exact law_call KX G.T.g G.T.b G.T.builtins G.T.nolimit hg hobj hints (Nat.le_trans hlen (by decide)) ⟨rfl, by decide, by decide⟩ hF hb (fun H hO hS => ⟨a, ns, rfl, hS, hlen, fun _ => rfl⟩) fun _ _ _ z => z
open PySem.W in
theorem weight_of {p : Program} {mg : Str → Option Value} {h : Heap} (V : XL p [("MOST_WEIGHT", WData.int (10 ^ 30))] mg h) : ∃ t, mg "MOST_WEIGHT" = some (.int (10 ^ 30) t) := by
  obtain ⟨v, a, b⟩ := V.2.val ("MOST_WEIGHT", WData.int (10 ^ 30)) (by simp)
  cases b with
  | int i t => exact ⟨t, a⟩
end WD

open PySem PySem.W PyProof.Rows in
set_option Elab.async false in
set_option maxRecDepth 100000 in
set_option maxHeartbeats 0 in
theorem PySem.Challenge.cw_wishdues_k29_whole_least_losses_move_holds : PySem.Challenge.rw_wishdues_k29_whole_least_losses_move.Holds := by
  w_on; o_law; k_head; (case hw => w_witness2)
  k_fill
  refine WD.walk (l := PySem.Challenge.rw_wishdues_k29_whole_least_losses_move) rfl rfl (fun w h Y => PySem.W.kIn_of Y) ?F
  case F =>
    intro w mg fa h V KX G hmg
    refine' WD.all_mk KX G hmg (WD.weight_of V) (WD.def_at ?a_word_sure ?l_word_sure ?c_word_sure ?k_word_sure) (WD.def_at ?a_either_sure ?l_either_sure ?c_either_sure ?k_either_sure) (WD.def_at ?a_count_sure ?l_count_sure ?c_count_sure ?k_count_sure) (WD.def_at ?a_rules_sure ?l_rules_sure ?c_rules_sure ?k_rules_sure) (WD.def_at ?a_rules_kept ?l_rules_kept ?c_rules_kept ?k_rules_kept) (WD.def_at ?a_all_fillings ?l_all_fillings ?c_all_fillings ?k_all_fillings) (WD.def_at ?a_wishes_losses ?l_wishes_losses ?c_wishes_losses ?k_wishes_losses) (WD.def_at ?a_lost_wishes ?l_lost_wishes ?c_lost_wishes ?k_lost_wishes) (WD.def_at ?a_house_losses ?l_house_losses ?c_house_losses ?k_house_losses) (WD.def_at ?a_keeps_musts ?l_keeps_musts ?c_keeps_musts ?k_keeps_musts) (WD.def_at ?a_best_settings ?l_best_settings ?c_best_settings ?k_best_settings) (WD.def_at ?a_put_name ?l_put_name ?c_put_name ?k_put_name) (WD.def_at ?a_lesser_shown ?l_lesser_shown ?c_lesser_shown ?k_lesser_shown) (WD.def_at ?a_are_places ?l_are_places ?c_are_places ?k_are_places) (WD.def_at ?a_shown_from ?l_shown_from ?c_shown_from ?k_shown_from) (WD.def_at ?a_tree_shows ?l_tree_shows ?c_tree_shows ?k_tree_shows) (WD.def_at ?a_tree_from ?l_tree_from ?c_tree_from ?k_tree_from) (WD.def_at ?a_loss_tree ?l_loss_tree ?c_loss_tree ?k_loss_tree) (WD.def_at ?a_is_whole ?l_is_whole ?c_is_whole ?k_is_whole) (WD.def_at ?a_is_row ?l_is_row ?c_is_row ?k_is_row) (WD.def_at ?a_is_number_in ?l_is_number_in ?c_is_number_in ?k_is_number_in) (WD.def_at ?a_look_at_names ?l_look_at_names ?c_look_at_names ?k_look_at_names) (WD.def_at ?a_made_words ?l_made_words ?c_made_words ?k_made_words) (WD.def_at ?a_made_numbers ?l_made_numbers ?c_made_numbers ?k_made_numbers) (WD.def_at ?a_made_either ?l_made_either ?c_made_either ?k_made_either) (WD.def_at ?a_made_count ?l_made_count ?c_made_count ?k_made_count) (WD.def_at ?a_made_not ?l_made_not ?c_made_not ?k_made_not) (WD.def_at ?a_made_rule ?l_made_rule ?c_made_rule ?k_made_rule) (WD.def_at ?a_made_rules ?l_made_rules ?c_made_rules ?k_made_rules) (WD.def_at ?a_made_musts ?l_made_musts ?c_made_musts ?k_made_musts) (WD.def_at ?a_is_wish ?l_is_wish ?c_is_wish ?k_is_wish) (WD.def_at ?a_made_wishes ?l_made_wishes ?c_made_wishes ?k_made_wishes) (WD.def_at ?a_made_house ?l_made_house ?c_made_house ?k_made_house) (WD.def_at ?a__law_row_of ?l__law_row_of ?c__law_row_of ?k__law_row_of) (WD.def_at ?a__law_take ?l__law_take ?c__law_take ?k__law_take) (WD.def_at ?a__law_jar ?l__law_jar ?c__law_jar ?k__law_jar) (WD.def_at ?a__law_words ?l__law_words ?c__law_words ?k__law_words) (WD.def_at ?a__law_picked ?l__law_picked ?c__law_picked ?k__law_picked) (WD.def_at ?a__law_rule ?l__law_rule ?c__law_rule ?k__law_rule) (WD.def_at ?a__law_weight ?l__law_weight ?c__law_weight ?k__law_weight) (WD.def_at ?a__law_parts ?l__law_parts ?c__law_parts ?k__law_parts) (WD.def_at ?a__law_told ?l__law_told ?c__law_told ?k__law_told) (WD.def_at ?a__law_at_most ?l__law_at_most ?c__law_at_most ?k__law_at_most) (WD.def_at ?a__law_fewer ?l__law_fewer ?c__law_fewer ?k__law_fewer) (WD.def_at ?a__law_more ?l__law_more ?c__law_more ?k__law_more) ?a0 ?l0 ?c0 ?k0 ?v_MOST_NAMES ?v_MOST_RULES ?v_MOST_WISHES ?v_MOST_RANK ?v_NEVER ?l_NEVER ?z_abs ?z_len ?z_isinstance ?z_all ?z_sorted ?z_tuple ?z_max ?z_min ?z_sum ?z_int ?z_range ?z_enumerate ?z_set ?z_list ?z_bool ?z_str
    (case a_word_sure => k_is)
    (case l_word_sure => k_is)
    (case c_word_sure => k_is)
    (case k_word_sure => k_is)
    (case a_either_sure => k_is)
    (case l_either_sure => k_is)
    (case c_either_sure => k_is)
    (case k_either_sure => k_is)
    (case a_count_sure => k_is)
    (case l_count_sure => k_is)
    (case c_count_sure => k_is)
    (case k_count_sure => k_is)
    (case a_rules_sure => k_is)
    (case l_rules_sure => k_is)
    (case c_rules_sure => k_is)
    (case k_rules_sure => k_is)
    (case a_rules_kept => k_is)
    (case l_rules_kept => k_is)
    (case c_rules_kept => k_is)
    (case k_rules_kept => k_is)
    (case a_all_fillings => k_is)
    (case l_all_fillings => k_is)
    (case c_all_fillings => k_is)
    (case k_all_fillings => k_is)
    (case a_wishes_losses => k_is)
    (case l_wishes_losses => k_is)
    (case c_wishes_losses => k_is)
    (case k_wishes_losses => k_is)
    (case a_lost_wishes => k_is)
    (case l_lost_wishes => k_is)
    (case c_lost_wishes => k_is)
    (case k_lost_wishes => k_is)
    (case a_house_losses => k_is)
    (case l_house_losses => k_is)
    (case c_house_losses => k_is)
    (case k_house_losses => k_is)
    (case a_keeps_musts => k_is)
    (case l_keeps_musts => k_is)
    (case c_keeps_musts => k_is)
    (case k_keeps_musts => k_is)
    (case a_best_settings => k_is)
    (case l_best_settings => k_is)
    (case c_best_settings => k_is)
    (case k_best_settings => k_is)
    (case a_put_name => k_is)
    (case l_put_name => k_is)
    (case c_put_name => k_is)
    (case k_put_name => k_is)
    (case a_lesser_shown => k_is)
    (case l_lesser_shown => k_is)
    (case c_lesser_shown => k_is)
    (case k_lesser_shown => k_is)
    (case a_are_places => k_is)
    (case l_are_places => k_is)
    (case c_are_places => k_is)
    (case k_are_places => k_is)
    (case a_shown_from => k_is)
    (case l_shown_from => k_is)
    (case c_shown_from => k_is)
    (case k_shown_from => k_is)
    (case a_tree_shows => k_is)
    (case l_tree_shows => k_is)
    (case c_tree_shows => k_is)
    (case k_tree_shows => k_is)
    (case a_tree_from => k_is)
    (case l_tree_from => k_is)
    (case c_tree_from => k_is)
    (case k_tree_from => k_is)
    (case a_loss_tree => k_is)
    (case l_loss_tree => k_is)
    (case c_loss_tree => k_is)
    (case k_loss_tree => k_is)
    (case a_is_whole => k_is)
    (case l_is_whole => k_is)
    (case c_is_whole => k_is)
    (case k_is_whole => k_is)
    (case a_is_row => k_is)
    (case l_is_row => k_is)
    (case c_is_row => k_is)
    (case k_is_row => k_is)
    (case a_is_number_in => k_is)
    (case l_is_number_in => k_is)
    (case c_is_number_in => k_is)
    (case k_is_number_in => k_is)
    (case a_look_at_names => k_is)
    (case l_look_at_names => k_is)
    (case c_look_at_names => k_is)
    (case k_look_at_names => k_is)
    (case a_made_words => k_is)
    (case l_made_words => k_is)
    (case c_made_words => k_is)
    (case k_made_words => k_is)
    (case a_made_numbers => k_is)
    (case l_made_numbers => k_is)
    (case c_made_numbers => k_is)
    (case k_made_numbers => k_is)
    (case a_made_either => k_is)
    (case l_made_either => k_is)
    (case c_made_either => k_is)
    (case k_made_either => k_is)
    (case a_made_count => k_is)
    (case l_made_count => k_is)
    (case c_made_count => k_is)
    (case k_made_count => k_is)
    (case a_made_not => k_is)
    (case l_made_not => k_is)
    (case c_made_not => k_is)
    (case k_made_not => k_is)
    (case a_made_rule => k_is)
    (case l_made_rule => k_is)
    (case c_made_rule => k_is)
    (case k_made_rule => k_is)
    (case a_made_rules => k_is)
    (case l_made_rules => k_is)
    (case c_made_rules => k_is)
    (case k_made_rules => k_is)
    (case a_made_musts => k_is)
    (case l_made_musts => k_is)
    (case c_made_musts => k_is)
    (case k_made_musts => k_is)
    (case a_is_wish => k_is)
    (case l_is_wish => k_is)
    (case c_is_wish => k_is)
    (case k_is_wish => k_is)
    (case a_made_wishes => k_is)
    (case l_made_wishes => k_is)
    (case c_made_wishes => k_is)
    (case k_made_wishes => k_is)
    (case a_made_house => k_is)
    (case l_made_house => k_is)
    (case c_made_house => k_is)
    (case k_made_house => k_is)
    (case a__law_row_of => k_is)
    (case l__law_row_of => k_is)
    (case c__law_row_of => k_is)
    (case k__law_row_of => k_is)
    (case a__law_take => k_is)
    (case l__law_take => k_is)
    (case c__law_take => k_is)
    (case k__law_take => k_is)
    (case a__law_jar => k_is)
    (case l__law_jar => k_is)
    (case c__law_jar => k_is)
    (case k__law_jar => k_is)
    (case a__law_words => k_is)
    (case l__law_words => k_is)
    (case c__law_words => k_is)
    (case k__law_words => k_is)
    (case a__law_picked => k_is)
    (case l__law_picked => k_is)
    (case c__law_picked => k_is)
    (case k__law_picked => k_is)
    (case a__law_rule => k_is)
    (case l__law_rule => k_is)
    (case c__law_rule => k_is)
    (case k__law_rule => k_is)
    (case a__law_weight => k_is)
    (case l__law_weight => k_is)
    (case c__law_weight => k_is)
    (case k__law_weight => k_is)
    (case a__law_parts => k_is)
    (case l__law_parts => k_is)
    (case c__law_parts => k_is)
    (case k__law_parts => k_is)
    (case a__law_told => k_is)
    (case l__law_told => k_is)
    (case c__law_told => k_is)
    (case k__law_told => k_is)
    (case a__law_at_most => k_is)
    (case l__law_at_most => k_is)
    (case c__law_at_most => k_is)
    (case k__law_at_most => k_is)
    (case a__law_fewer => k_is)
    (case l__law_fewer => k_is)
    (case c__law_fewer => k_is)
    (case k__law_fewer => k_is)
    (case a__law_more => k_is)
    (case l__law_more => k_is)
    (case c__law_more => k_is)
    (case k__law_more => k_is)
    (case a0 => k_is)
    (case l0 => k_is)
    (case c0 => k_is)
    (case k0 => k_is)
    (case v_MOST_NAMES => k_is)
    (case v_MOST_RULES => k_is)
    (case v_MOST_WISHES => k_is)
    (case v_MOST_RANK => k_is)
    (case v_NEVER => k_is)
    (case l_NEVER => k_is)
    (case z_abs => k_is)
    (case z_len => k_is)
    (case z_isinstance => k_is)
    (case z_all => k_is)
    (case z_sorted => k_is)
    (case z_tuple => k_is)
    (case z_max => k_is)
    (case z_min => k_is)
    (case z_sum => k_is)
    (case z_int => k_is)
    (case z_range => k_is)
    (case z_enumerate => k_is)
    (case z_set => k_is)
    (case z_list => k_is)
    (case z_bool => k_is)
    (case z_str => k_is)
#print axioms PySem.Challenge.cw_wishdues_k29_whole_least_losses_move_holds
